import PyProof.Rows.All
import Wide.All
import OpenK.AllK
import Wide.FinOn
import KE.SortData
import HandS.ForMost
import HandS.Zip
import KE.GoesEnum
import HandS.TupAny
import HandS.Conv
import HandS.Exc
import HandS.ExcOwn
import HandS.Lambda
import HandS.Wide
import HandS.IsInst
import HandS.Style
import HandS.Deep
import HandS.TupMul
import PyProof.NeKinds
import HandS.Small
import HandS.TryOnly
import HandS.Iter
import HandS.List
import HandS.Comp
import HandS.DictComp
import HandS.Property
import HandS.ClsMeth
import HandS.MakeKw
import HandS.MakeKwOnly
import HandS.More
import HandS.HotCalls
import HandS.SuiteRaise
import HandS.ExcField
import HandS.New
import HandS.Defaults
import HandS.Text
import HandS.Dict
import PyProof.StrLawsTight
import PyProof.Rows.StrItems
import PyProof.Rows.StrSplitAre
import KE.KStrOpen
import HandS.Star
import HandS.FStr
import HandS.RaiseMore
import OpenK.KOps
import KE.KCallOwn
import PyProof.ReprRoads
import PyProof.Truth
import PyProof.Conv_bool
import PyProof.CallFns
import KE.KRevSl
import KE.SortCalls
import HandS.Strs
import HandS.SetFor
import KE.KIndexOf
import PyProof.WalkInts
import KE.KDictZip
import KE.KTops
import HandS.ExcInit
import HandS.ExcValue
import HandS.SetKeys
import KE.KExcSuper
import KE.KExcLine
import HandS.TryMany
import PyProof.Rows.TupIter
import PyProof.EqKinds
import PyProof.InstNe
import KE.KExcIs
import KE.SortKeyHeap
import HandS.SortKw
import KE.DataMinKey
import KE.KFmtOwn
import HandS.EndTab
import HandS.HeadNt
import HandS.Head0
import HandS.Head1
import HandS.Head2
import HandS.HeadEnd
import HandS.EndBits
import HandS.Words
import KE.DataCmp
import HandS.TupSets
import HandS.SetBool
import PyProof.CollectStr
import PyProof.ListRange
import PyProof.TupleOfStr
import KE.GoesMore
import KE.GoesZip
import PyProof.Rows.Walk
import PySem.Challenge.RW_markedrings_k01_limits_and_errors
section
set_option linter.all false
namespace DI
open PySem

inductive D where
  | non | bl (b : Bool) | int (i : Int) | str (s : Str)
  | tup (l : List D) | lst (l : List D)
  /-- a tuple that is a dict's key, or a pair to be unpacked -/
  | key (l : List D)
  | dct (t : Bool) (ks vs : List D)
  /-- a list that is read, never written: the script -/
  | rol (l : List D)
  /-- a frozen instance, an exception: class, names, values -/
  | ins (c : Nat) (ns : List Nat) (vs : List D) | exc (c : Nat) (ns : List Nat) (vs : List D)
  | cls (c : Nat) | fn (n : Nat) | clo (k : Nat) (l : List (Option D)) | obj (n : Nat)
  /-- an exception held as a value -/
  | xv (c : Nat) (ns : List Nat) (vs : List D)
  deriving Inhabited

/-- what stands in the store: it may change -/
inductive Ob where
  | lst (l : List D) | dct (t : Bool) (ks vs : List D) | ins (c : Nat) (ns : List Nat) (vs : List D)
  deriving Inhabited
abbrev Mem := List Ob
abbrev Env := List (Option D)

inductive R (α : Type) where
  | ok (a : α) (μ : Mem) | ex (x : D) (μ : Mem) | no
def R.bind {α β : Type} : R α → (α → Mem → R β) → R β
  | .ok a μ, f => f a μ
  | .ex x μ, _ => .ex x μ
  | .no, _ => .no
@[simp] theorem R.bind_ok {α β : Type} (a : α) (μ : Mem) (f : α → Mem → R β) : R.bind (.ok a μ) f = f a μ := rfl
@[simp] theorem R.bind_ex {α β : Type} (x : D) (μ : Mem) (f : α → Mem → R β) : R.bind (.ex x μ) f = .ex x μ := rfl
@[simp] theorem R.bind_no {α β : Type} (f : α → Mem → R β) : R.bind .no f = .no := rfl
/-- no error leaves a comprehension -/
def nox {α : Type} : R α → R α
  | .ex _ _ => .no
  | r => r
@[simp] theorem nox_ok {α : Type} (a : α) (μ : Mem) : nox (.ok a μ) = .ok a μ := rfl
/-- an answer of a step without effect -/
def R.of {α : Type} (μ : Mem) : Option α → R α
  | some a => .ok a μ
  | none => .no
@[simp] theorem R.of_some {α : Type} (μ : Mem) (a : α) : R.of μ (some a) = .ok a μ := rfl
@[simp] theorem R.of_none {α : Type} (μ : Mem) : (R.of μ (none : Option α)) = .no := rfl
inductive SR where
  | nx (ρ : Env) (μ : Mem) | rt (d : D) (μ : Mem) | ex (x : D) (ρ : Env) (μ : Mem) | no

inductive Bop where | add | sub | mul | mod | fdv | pow | shl
  deriving DecidableEq
inductive Cop where | eq | ne | lt | le | gt | ge | in_ | ni | is_ | isn
  deriving DecidableEq
inductive Bi where | len | int | str | repr | reprD | abs | sum | all | any | tuple | bool | divmod | set | list | min2 | max2 | min1 | max1 | sorted | setR | tupleK | tupleS
  deriving DecidableEq
inductive Bm where | join | split | index | count | append | extend | insert | pop | get | items | upper | replace | indexT | countT | getS
  deriving DecidableEq
inductive Ty where | py (n : Nat) | own (c : Nat)
  deriving DecidableEq

mutual
inductive E where
  | v (i : Nat) | k (d : D) | g (n : Nat)
  | tup (es : Es) | key (es : Es) | lst (es : Es) | star (e : E) | dct (t : Bool) (l : Kv) | dpu (a k v : E)
  | bin (o : Bop) (a b : E) | neg (a : E) | cmp (o : Cop) (a b : E) | cmp2 (o p : Cop) (a b c : E)
  | and (es : Es) | or (es : Es) | not (a : E) | ite (c a b : E)
  | cal (f : Nat) (es : Es) | clk (f : Nat) (es : Es) (ps : List Nat) (kv : Es)
  | new (c : Nat) (es : Es) | nwk (c : Nat) (es : Es) (ps : List Nat) (kv : Es)
  | exc (c : Nat) (ns : List Nat) (es : Es) | exk (c : Nat) (ns ps : List Nat) (es : Es)
  | mth (o : E) (m : Nat) (es : Es) | mtk (o : E) (m : Nat) (es : Es) (ps : List Nat) (kv : Es)
  | att (o : E) (f : Nat) | xat (i f : Nat) | app (i : Nat) (es : Es)
  | bi (b : Bi) (es : Es) | bm (m : Bm) (o : E) (es : Es) | isi (e : E) (ts : List Ty)
  | idx (a i : E) | sli (a : E) (lo hi : O)
  /-- a[::-1], a[:0:-1] -/
  | rev (a : E) (z : Bool)
  | lc (own : List Nat) (t : T) (it : It) (c e : E) | lc2 (own : List Nat) (t : T) (it : It) (c : E) (t2 : T) (it2 : It) (c2 e : E)
  | dc (own : List Nat) (t : T) (it : It) (c k v : E)
  | fst (es : Es) | fmt (e : E) | lam (n : Nat) | lay (e : E)
  | srt (e : E) | srk (e : E) (k : Nat) | srf (e : E) (f : Nat) | mnk (e : E) (k : Nat)
  | lof (it : It) | dof (e : E) | dofU (e : E)
  /-- a def called with the exception of a slot; isinstance of it (one of the classes cs) -/
  | cax (f i : Nat) | xis (i : Nat) (cs : List Nat) (t : Ty)
  /-- a slot that holds a def (one of the defs fs), called -/
  | apf (i : Nat) (fs : List Nat) (es : Es) (ps : List Nat) (kv : Es)
  /-- o[i] by an own __getitem__ -/
  | gti (o i : E)
  /-- an exception as a value: made by position, by name; its attribute; isinstance of it (one of the classes cs) -/
  | xvn (c : Nat) (ns : List Nat) (es : Es) | xvk (c : Nat) (ns ps : List Nat) (es : Es) | xva (e : E) (f : Nat) | xvi (e : E) (cs : List Nat) (t : Ty)
/-- what is walked -/
inductive It where
  | e (e : E) | rng (es : Es) | enu (e : E) | zip (a b : E)
  /-- zip of two texts; a dict's keys -/
  | zipS (a b : E) | dk (e : E)
inductive Es where
  | n | c (e : E) (r : Es)
inductive Kv where
  | n | c (k v : E) (r : Kv)
inductive O where
  | n | s (e : E)
inductive T where
  | v (i : Nat) | ix (o i : E) | at (o : E) (f : Nat) | tup (ts : Ts)
inductive Ts where
  | n | c (t : T) (r : Ts)
end
mutual
inductive S where
  | asg (t : T) (e : E) | par (ts : Ts) (es : Es) | ex (e : E) | ret (e : E) | pass
  | ite (c : E) (a b : Ss) | for (t : T) (it : It) (b : Ss) | whl (c : E) (b : Ss)
  | rai (e : E) | try (b : Ss) (hs : Hs) | wth (e : E) (t : T) (b : Ss)
  /-- o[i] = e by an own __setitem__, which may raise -/
  | sti (o i e : E)
inductive Ss where
  | n | c (s : S) (r : Ss)
inductive Hs where
  | n | c (ts : List Ty) (x : Option Nat) (b : Ss) (r : Hs)
end

mutual
def T.vars : T → List Nat
  | .v i => [i]
  | .ix _ _ => []
  | .at _ _ => []
  | .tup ts => ts.vars
def Ts.vars : Ts → List Nat
  | .n => []
  | .c t r => t.vars ++ r.vars
end
structure Fn where
  np : Nat
  nn : Nat
  dflt : List D
  keep : Bool
  body : Ss
structure Lam where
  ps : List Nat
  body : E
/-- a class of the program's own: its base classes (own ones; itself among them), built-in bases by number, __init__, methods, properties, whether instances change -/
structure Cls where
  sup : List Nat
  py : List Nat
  init : Option Nat
  meths : List (Nat × Nat)
  props : List (Nat × Nat)
  spec : List (Nat × Nat)
  flds : List Nat
  live : Bool
  /-- an exception's fields -/
  xfl : List Nat := []
structure Prog where
  fns : Nat → Option Fn
  lams : Nat → Option Lam
  cls : Nat → Option Cls
  gl : Nat → Option D
  /-- exceptions are caught (else a try that meets one has no answer) -/
  exs : Bool := false
  /-- live instances without an own __eq__ are compared (by identity) -/
  ids : Bool := false

mutual
/-- pure data of depth at most n -/
def sm : Nat → D → Bool
  | _, .non => true | _, .bl _ => true | _, .int _ => true | _, .str _ => true
  | n + 1, .tup l => sms n l
  | n + 1, .key l => sms n l
  | n + 1, .lst l => sms n l
  | _, _ => false
def sms : Nat → List D → Bool
  | _, [] => true
  | n, d :: l => sm n d && sms n l
end
def b2i (b : Bool) : Int := if b then 1 else 0
mutual
/-- == of pure data -/
def deq : D → D → Bool
  | .non, .non => true
  | .bl a, .bl b => a == b
  | .bl a, .int j => b2i a == j
  | .int i, .bl b => i == b2i b
  | .int i, .int j => i == j
  | .str x, .str y => x == y
  | .tup l, .tup m => deqs l m
  | .key l, .key m => deqs l m
  | .tup l, .key m => deqs l m
  | .key l, .tup m => deqs l m
  | .lst l, .lst m => deqs l m
  | _, _ => false
def deqs : List D → List D → Bool
  | [], [] => true
  | a :: l, b :: m => deq a b && deqs l m
  | _, _ => false
end
mutual
def toPy : D → PyData
  | .non => .none | .bl b => .bool b | .int i => .int i | .str s => .str s
  | .tup l => .tuple (toPys l) | .key l => .tuple (toPys l) | .lst l => .list (toPys l)
  | _ => .none
def toPys : List D → List PyData
  | [] => []
  | d :: l => toPy d :: toPys l
end
/-- what sorted takes: pure data, any two comparable, tuples with something in them or none at all -/
def srtOk (l : List D) : Bool := sms 20 l && ((l.all fun a => l.all fun b => PySem.W.alike (toPy a) (toPy b)) &&
  ((l.all fun d => match toPy d with | .tuple (_ :: _) => true | _ => false) || (l.all fun d => match toPy d with | .none => false | .tuple _ => false | _ => true)))
/-- tuples alone, any two comparable, some of them empty -/
def srtE (l : List D) : Bool := sms 20 l && ((l.all fun a => l.all fun b => PySem.W.alike (toPy a) (toPy b)) && (l.all fun d => match toPy d with | .tuple _ => true | _ => false))
def srtV : D → Option D
  | .lst l => if srtOk l then some (.lst (l.mergeSort (PySem.W.dataLe false toPy))) else if srtE l then some (.lst (l.mergeSort (PySem.W.dataLe false toPy))) else none
  | .tup l => if srtOk l then some (.lst (l.mergeSort (PySem.W.dataLe false toPy))) else if srtE l then some (.lst (l.mergeSort (PySem.W.dataLe false toPy))) else none
  | .key l => if srtOk l then some (.lst (l.mergeSort (PySem.W.dataLe false toPy))) else none
  | _ => none
/-- the items by their keys -/
def srkV (ks l : List D) : Option (List D) := if srtOk ks then some (((ks.zip l).mergeSort (PySem.W.dataLe false fun p : D × D => toPy p.1)).map Prod.snd) else none
/-- the first one with a least key -/
def minK (m : D × D) : List (D × D) → D × D
  | [] => m
  | p :: r => minK (if PySem.W.dataLt (toPy p.1) (toPy m.1) then p else m) r
def mnkV (ks l : List D) : Option D := match ks.zip l with
  | [] => none
  | p :: r => if srtOk ks then some (minK p r).2 else none
/-- the different ones, as they are met -/
def dedS (xs : List Str) : List Str := xs.foldl (fun l x => if l.contains x then l else l ++ [x]) []
mutual
def lim : D → Nat
  | .obj n => n + 1
  | .tup l => lims l | .key l => lims l | .lst l => lims l | .rol l => lims l
  | .dct _ ks vs => max (lims ks) (lims vs)
  | .ins _ _ vs => lims vs | .exc _ _ vs => lims vs | .xv _ _ vs => lims vs
  | .clo _ l => limo l
  | _ => 0
def lims : List D → Nat
  | [] => 0
  | d :: l => max (lim d) (lims l)
def limo : List (Option D) → Nat
  | [] => 0
  | none :: l => limo l
  | some d :: l => max (lim d) (limo l)
end
def limOb : Ob → Nat
  | .lst l => lims l
  | .dct _ ks vs => max (lims ks) (lims vs)
  | .ins _ _ vs => lims vs

def tru : D → Option Bool
  | .bl b => some b
  | _ => none
/-- a list in the store is read as a list -/
def rd (μ : Mem) : D → D
  | .obj n => match μ[n]? with
    | some (.lst l) => .lst l
    | some (.dct t ks vs) => .dct t ks vs
    | some (.ins c ns vs) => .ins c ns vs
    | none => .obj n
  | d => d
def sizeLn : Nat := 16777216

/-- a dict's look-up: keys are texts, ints, tuples of texts -/
def keyOk (t : Bool) : D → Bool
  | .str _ => !t
  | .int _ => !t
  | .key l => t && l.all fun d => match d with | .str _ => true | .int _ => true | _ => false
  | _ => false
/-- a tuple's look-up -/
def keyTR (t : Bool) : D → Bool
  | .tup l => t && l.all fun d => match d with | .str _ => true | .int _ => true | _ => false
  | _ => false
def dget (k : D) : List D → List D → Option D
  | a :: ks, v :: vs => if deq a k then some v else dget k ks vs
  | _, _ => none
def dputV (k v : D) : List D → List D → List D
  | a :: ks, w :: vs => (if deq a k then v else w) :: dputV k v ks vs
  | _, _ => []
def dput (k v : D) (ks vs : List D) : List D × List D :=
  if (ks.any fun a => deq a k) = true then (ks, dputV k v ks vs) else (ks ++ [k], vs ++ [v])
def fget (f : Nat) : List Nat → List D → Option D
  | n :: ns, v :: vs => if n = f then some v else fget f ns vs
  | _, _ => none
def fput (f : Nat) (v : D) : List Nat → List D → List Nat × List D
  | n :: ns, w :: vs => if n = f then (n :: ns, v :: vs) else (n :: (fput f v ns vs).1, w :: (fput f v ns vs).2)
  | _, _ => ([f], [v])

/-- a place in a sequence, from the end where negative -/
def atPl (n : Nat) (i : Int) : Option Nat :=
  if 0 ≤ i then (if i < n then some i.toNat else none)
  else (if 0 ≤ i + n then some (i + n).toNat else none)
/-- a slice's end, cut to 0 .. n -/
def clip (n : Nat) (i : Int) : Nat := if 0 ≤ i then min i.toNat n else (i + n).toNat
def cut {α : Type} (l : List α) (lo hi : Option Int) : List α :=
  let a := match lo with | some i => clip l.length i | none => 0
  let b := match hi with | some i => clip l.length i | none => l.length
  (l.take b).drop a
/-- l[::-1], l[:0:-1] -/
def cutR {α : Type} (l : List α) (z : Bool) : List α := if z then l.tail.reverse else l.reverse

def strsD : List D → Option (List Str)
  | [] => some []
  | .str s :: l => (strsD l).map (s :: ·)
  | _ => none
def intsD : List D → Option (List Int)
  | [] => some []
  | .int i :: l => (intsD l).map (i :: ·)
  | _ => none
def blsD : List D → Option (List Bool)
  | [] => some []
  | .bl i :: l => (blsD l).map (i :: ·)
  | _ => none
def sL (s : Str) : List Nat := s.cps.toList
def sM (l : List Nat) : Str := ⟨l.toArray⟩
def joinL (sep : List Nat) : List (List Nat) → List Nat
  | [] => []
  | [x] => x
  | x :: y :: r => x ++ sep ++ joinL sep (y :: r)
/-- split by one sign -/
def splitC (c : Nat) : List Nat → List (List Nat)
  | [] => [[]]
  | x :: l => if x = c then [] :: splitC c l else match splitC c l with
    | w :: r => (x :: w) :: r
    | [] => [[x]]
/-- the order of intsD, texts, and of tuples and lists of these -/
def ltN : List Nat → List Nat → Bool
  | [], [] => false
  | [], _ :: _ => true
  | _ :: _, [] => false
  | a :: l, b :: m => if a = b then ltN l m else decide (a < b)
mutual
def dlt : D → D → Option Bool
  | .int i, .int j => some (decide (i < j))
  | .str x, .str y => some (ltN (sL x) (sL y))
  | .tup l, .tup m => dlts l m
  | .lst l, .lst m => dlts l m
  | _, _ => none
def dlts : List D → List D → Option Bool
  | [], [] => some false
  | [], _ :: _ => some true
  | _ :: _, [] => some false
  | a :: l, b :: m => if deq a b then dlts l m else dlt a b
end
/-- stable insertion from the right: equal ones keep their turns -/
def srtL (lt : D → D → Option Bool) : List D → Option (List D)
  | [] => some []
  | d :: l => (srtL lt l).bind fun r => insR lt d r
where
  insR (lt : D → D → Option Bool) (d : D) : List D → Option (List D)
  | [] => some [d]
  | a :: l => match lt a d with
    | some false => some (d :: a :: l)
    | some true => (insR lt d l).map (a :: ·)
    | none => none
structure Cal where
  fn : Nat → List D → Mem → R D
  lam : Nat → List (Option D) → List D → Mem → R D

def setE (ρ : Env) (i : Nat) (d : D) : Env := ρ.set i (some d)
def wipeE (ρ : Env) : List Nat → Env
  | [] => ρ
  | i :: l => (wipeE ρ l).set i none
def getE (ρ : Env) (i : Nat) : Option D := ρ[i]?.bind id
/-- an exception, a lambda: they stand in slots alone -/
def isSp : D → Bool
  | .exc _ _ _ => true
  | .clo _ _ => true
  | _ => false
/-- a name read -/
def readV (ρ : Env) (i : Nat) : Option D := (getE ρ i).bind fun d => if isSp d = true then none else some d

/-- an attribute of the exception that is handled -/
def getX (P : Prog) (ρ : Env) (i : Nat) (f : Nat → List Nat → List D → Option D) (g : Nat) : Option D := match getE ρ i with
  | some (.exc c ns vs) => (P.cls c).bind fun k => if k.xfl.contains g = true then f g ns vs else none
  | _ => none
section
variable (P : Prog) (C : Cal)
def clsOf : D → Option Nat
  | .ins c _ _ => some c
  | _ => none
/-- the class of an instance, frozen or in the store -/
def clsAt (μ : Mem) (d : D) : Option Nat := clsOf (rd μ d)
def specOf (c n : Nat) : Option Nat := (P.cls c).bind fun k => k.spec.lookup n
/-- special methods by number: 0 __eq__, 1 __len__, 2 __str__, 3 __repr__, 4 __bool__, 5 __contains__, 6 __getitem__, 7 __setitem__, 8 __enter__, 9 __exit__, 16 __getitem__ (asked by .gti alone), 17 __setitem__ (asked by .sti alone) -/
def special (μ : Mem) (d : D) (n : Nat) : Option Nat := (clsAt μ d).bind fun c => specOf P c n

def addV : D → D → Option D
  | .int i, .int j => some (.int (i + j))
  | .str x, .str y => if (sL x).length + (sL y).length ≤ sizeLn then some (.str (sM (sL x ++ sL y))) else none
  | .tup l, .tup m => if l.length + m.length ≤ sizeLn then some (.tup (l ++ m)) else none
  | .lst l, .lst m => if l.length + m.length ≤ sizeLn then some (.lst (l ++ m)) else none
  | _, _ => none
def mulV : D → D → Option D
  | .int i, .int j => if i.natAbs.log2 + j.natAbs.log2 < 4000000 then some (.int (i * j)) else none
  | .lst l, .int j => if l.length * j.toNat ≤ sizeLn ∧ -(2 ^ 60) < j ∧ j < 2 ^ 60 then some (.lst (List.replicate j.toNat l).flatten) else none
  | .tup l, .int j => if l ≠ [] ∧ l.length ≤ 1000 ∧ 2 ≤ j ∧ j ≤ 1000 then some (.tup (List.replicate j.toNat l).flatten) else none
  | _, _ => none
def intV (f : Int → Int → Option Int) : D → D → Option D
  | .int i, .int j => (f i j).map .int
  | _, _ => none
def binV (μ : Mem) (o : Bop) (a b : D) : Option D :=
  match o with
  | .add => addV (rd μ a) (rd μ b)
  | .sub => intV (fun i j => some (i - j)) (rd μ a) (rd μ b)
  | .mul => mulV (rd μ a) (rd μ b)
  | .mod => intV (fun i j => if 0 < j then some (i % j) else none) (rd μ a) (rd μ b)
  | .fdv => intV (fun i j => if 0 < j ∧ j < 1073741824 then some (i / j) else none) (rd μ a) (rd μ b)
  | .pow => intV (fun i j => if 0 ≤ j ∧ j ≤ 1000 ∧ i.natAbs < 2 ^ 64 then some (i ^ j.toNat) else none) (rd μ a) (rd μ b)
  | .shl => intV (fun i j => if 0 ≤ j ∧ j ≤ 1000 ∧ i.natAbs < 2 ^ 64 then some (i * 2 ^ j.toNat) else none) (rd μ a) (rd μ b)
/-- the number of a value's built-in type -/
def tyNo : D → Option Nat
  | .str _ => some 0 | .int _ => some 1 | .bl _ => some 2 | .tup _ => some 3 | .key _ => some 3 | .lst _ => some 4 | .rol _ => some 4 | .dct _ _ _ => some 5 | .non => some 15
  | _ => none
/-- arguments by place, then by keyword, then defaults -/
def bindK (np : Nat) (dflt args : List D) (ps : List Nat) (kv : List D) : Option (List D) :=
  (List.range np).mapM fun i => match args[i]? with
    | some d => some d
    | none => match (ps.zip kv).lookup i with
      | some d => some d
      | none => if np ≤ i + dflt.length then dflt[i + dflt.length - np]? else none
def calF (f : Nat) (args : List D) (ps : List Nat) (kv : List D) (μ : Mem) : R D :=
  match P.fns f with
  | some F => match bindK F.np F.dflt args ps kv with
    | some ds => C.fn f ds μ
    | none => .no
  | none => .no
/-- o[i] = d -/
def setV (μ : Mem) (o i d : D) : R Unit := match o with
  | .obj n => match μ[n]? with
    | some (.lst l) => match i with
      | .int k => match atPl l.length k with
        | some j => .ok () (μ.set n (.lst (l.set j d)))
        | none => .no
      | _ => .no
    | some (.dct t ks vs) => if keyOk t i && decide (ks.length < sizeLn) then .ok () (μ.set n (.dct t (dput i d ks vs).1 (dput i d ks vs).2)) else .no
    | some (.ins c _ _) => match specOf P c 7 with
      | some f => (calF P C f [o, i, d] [] [] μ).bind fun _ μ => .ok () μ
      | none => .no
    | none => .no
  | _ => .no
/-- a list in the store with lists in it is not compared; pure data only -/
def SMD : Nat := 40
/-- any tuple and the empty one -/
def nilT : D → D → Bool
  | .tup _, .tup [] => true
  | _, _ => false
def isNilT : D → Bool
  | .tup [] => true
  | _ => false
/-- whether an own __eq__ is asked with this one: of the same class, of one that is no class below it, or of a built-in one; a built-in one at the left declines, and the right's own __eq__ is asked -/
def eqTo : D → D → Bool
  | .ins c _ _, .ins c' _ _ => c == c' || (match P.cls c' with
    | some k => k.init.isSome && !k.sup.contains c
    | none => false)
  | .ins _ _ _, d => (tyNo d).isSome
  | _, _ => false
/-- a live instance without an own __eq__ -/
def liveNo (μ : Mem) : D → Bool
  | .obj i => match μ[i]? with
    | some (.ins c _ _) => match P.cls c with
      | some k => P.ids && (k.live && (k.spec.lookup 0).isNone)
      | none => false
    | _ => false
  | _ => false
/-- live instances without an own __eq__: the same one or not; never a tuple -/
def idV (μ : Mem) (a b : D) : Option Bool :=
  match a, b with
  | .obj i, .obj j => match μ[i]?, μ[j]? with
    | some (.ins c _ _), some (.ins c' _ _) => match P.cls c with
      | some k => if P.ids && (k.live && ((k.spec.lookup 0).isNone && c == c')) then some (i == j) else none
      | none => none
    | _, _ => none
  | .obj i, .tup _ => if liveNo P μ (.obj i) then some false else none
  | _, _ => none
def eqV (μ : Mem) (a b : D) : R Bool :=
  if sm SMD (rd μ a) && sm SMD (rd μ b) then .ok (deq (rd μ a) (rd μ b)) μ
  else if nilT (rd μ a) (rd μ b) then .ok (isNilT (rd μ a)) μ
  else match special P μ a 0 with
    | some f => if eqTo P (rd μ a) (rd μ b) then (calF P C f [a, b] [] [] μ).bind fun d μ => R.of μ (tru d) else .no
    | none => match special P μ b 0 with
      | some f => if (tyNo (rd μ a)).isSome || liveNo P μ a then (calF P C f [b, a] [] [] μ).bind fun d μ => R.of μ (tru d) else .no
      | none => R.of μ (idV P μ a b)
def inV (μ : Mem) (a b : D) : R Bool :=
  match rd μ b with
  | .tup l => if sm SMD (rd μ a) && sms SMD l then .ok (l.any fun x => deq x (rd μ a)) μ else .no
  | .lst l => if sm SMD (rd μ a) && sms SMD l then .ok (l.any fun x => deq x (rd μ a)) μ else .no
  | .str y => match a with
    | .str x => if (sL x).length = 1 then .ok ((sL x).all fun c => (sL y).contains c) μ else .no
    | _ => .no
  | .dct t ks vs => if keyOk t a then .ok (dget a ks vs).isSome μ else .no
  | .ins c _ _ => match specOf P c 5 with
    | some f => (calF P C f [b, a] [] [] μ).bind fun d μ => R.of μ (tru d)
    | none => .no
  | _ => .no
def isV (a b : D) : Option Bool :=
  match b with
  | .non => some (match a with | .non => true | _ => false)
  | .bl v => some (match a with | .bl w => v == w | _ => false)
  | _ => none
def notR : R Bool → R Bool
  | .ok b μ => .ok (!b) μ
  | r => r
def cmpV (μ : Mem) (o : Cop) (a b : D) : R Bool :=
  match o with
  | .eq => eqV P C μ a b
  | .ne => notR (eqV P C μ a b)
  | .lt => match a, b with | .int i, .int j => .ok (decide (i < j)) μ | _, _ => .no
  | .le => match a, b with | .int i, .int j => .ok (decide (i ≤ j)) μ | _, _ => .no
  | .gt => match a, b with | .int i, .int j => .ok (decide (j < i)) μ | _, _ => .no
  | .ge => match a, b with | .int i, .int j => .ok (decide (j ≤ i)) μ | _, _ => .no
  | .in_ => inV P C μ a b
  | .ni => notR (inV P C μ a b)
  | .is_ => R.of μ (isV a b)
  | .isn => R.of μ ((isV a b).map not)
def isTy (μ : Mem) (d : D) : Ty → Option Bool
  | .py n => if n ≤ 5 then (match rd μ d with
    | .ins c _ _ => (P.cls c).bind fun k => if k.init.isSome then some false else none
    | d => (tyNo d).map fun t => t == n || (t == 2 && n == 1)) else (match d with
    | .exc c _ _ => (P.cls c).map fun k => k.py.contains n
    | _ => none)
  | .own c => match rd μ d with
    | .ins e _ _ => (P.cls e).bind fun k => if k.init.isSome then some (k.sup.contains c) else none
    | .exc e _ _ => (P.cls e).map fun k => k.sup.contains c
    | d => (tyNo d).map fun _ => false
def isTys (μ : Mem) (d : D) : List Ty → Option Bool
  | [] => some false
  | t :: r => match isTy P μ d t with
    | some true => some true
    | some false => isTys μ d r
    | none => none

def lenV (μ : Mem) (a : D) : R D := match rd μ a with
  | .str x => .ok (.int (sL x).length) μ
  | .tup l => .ok (.int l.length) μ
  | .lst l => .ok (.int l.length) μ
  | .rol l => .ok (.int l.length) μ
  | .dct false ks _ => .ok (.int ks.length) μ
  | .ins c _ _ => match specOf P c 1 with
    | some f => (calF P C f [a] [] [] μ).bind fun d μ => match d with
      | .int n => if 0 ≤ n ∧ n < 1000000 then .ok (.int n) μ else .no
      | _ => .no
    | none => .no
  | _ => .no
def int1V : D → Option D
  | .int i => some (.int i)
  | .bl i => some (.int (b2i i))
  | _ => none
/-- the text of an int -/
def intS (i : Int) : Str := Str.ofString (toString i)
def okS (s : Str) : Bool := (sL s).all (fun c => decide (c < 0x110000)) && decide ((sL s).length ≤ sizeLn)
/-- {x} in an f-string: a text or an int -/
def fmtV : D → Option D
  | .int i => if i.natAbs.log2 < 1920 ∧ okS (intS i) = true then some (.str (intS i)) else none
  | .str x => some (.str x)
  | _ => none
def boolV (μ : Mem) (a : D) : R D := match rd μ a with
  | .bl i => .ok (.bl i) μ
  | .ins c _ _ => match specOf P c 4 with
    | some f => (calF P C f [a] [] [] μ).bind fun d μ => match d with
      | .bl i => .ok (.bl i) μ
      | _ => .no
    | none => match specOf P c 1 with
      | some f => (calF P C f [a] [] [] μ).bind fun d μ => match d with
        | .int n => if 0 ≤ n ∧ n < 1000000 then .ok (.bl (n != 0)) μ else .no
        | _ => .no
      | none => .no
  | _ => .no
def strV (μ : Mem) (a : D) : R D := match rd μ a with
  | .int i => if i.natAbs.log2 < 1920 ∧ okS (intS i) = true then .ok (.str (intS i)) μ else .no
  | .str x => .ok (.str x) μ
  | .ins c _ _ => match specOf P c 2 with
    | some f => (calF P C f [a] [] [] μ).bind fun d μ => match d with
      | .str x => .ok (.str x) μ
      | _ => .no
    | none => .no
  | _ => .no
def reprV (reprS : D → Option Str) (μ : Mem) (a : D) : R D := match rd μ a with
  | .ins c _ _ => match specOf P c 3 with
    | some f => (calF P C f [a] [] [] μ).bind fun d μ => match d with
      | .str x => .ok (.str x) μ
      | _ => .no
    | none => .no
  | d => R.of μ ((reprS d).map .str)
/-- repr of what is no own instance -/
def reprDV (reprS : D → Option Str) : D → Option D
  | .ins _ _ _ => none
  | d => (reprS d).map .str
def sumV : D → Option D
  | .lst l => (intsD l).map fun l => .int l.sum
  | _ => none
def allV : D → Option D
  | .lst l => (blsD l).map fun l => .bl (l.all id)
  | _ => none
def anyV : D → Option D
  | .lst l => (blsD l).map fun l => .bl (l.any id)
  | _ => none
def tupV : D → Option D
  | .lst l => some (.tup l)
  | .tup l => some (.tup l)
  | _ => none
/-- tuple(x), a key -/
def tupKV : D → Option D
  | .lst l => some (.key l)
  | _ => none
/-- tuple(x) of a text -/
def tupSV : D → Option D
  | .str x => some (.tup ((sL x).map fun c => .str (sM [c])))
  | _ => none
/-- len(set(x)) of texts -/
def lsetV : D → Option D
  | .tup l => (strsD l).bind fun xs => if xs.length < 4000 then some (.int (dedS xs).length) else none
  | .lst l => (strsD l).bind fun xs => if xs.length < 4000 then some (.int (dedS xs).length) else none
  | _ => none
/-- len(set(x)) of tuples of texts and numbers, or of truths -/
def itK : D → Option (Int ⊕ Str)
  | .str s => some (.inr s)
  | .int i => some (.inl i)
  | _ => none
def rowK : D → Option (List (Int ⊕ Str))
  | .tup l => l.mapM itK
  | _ => none
def rowB : D → Option (List Bool)
  | .tup l => blsD l
  | _ => none
def dedL {α : Type} [DecidableEq α] (l : List α) : List α := l.foldl (fun m x => if x ∈ m then m else m ++ [x]) []
def lsetR (l : List D) : Option D := if l.length ≤ 306 then (match l.mapM rowK with
  | some rs => some (.int (dedL rs).length)
  | none => (l.mapM rowB).map fun rs => .int (dedL rs).length) else none
def lsetRV : D → Option D
  | .tup l => lsetR l
  | .lst l => lsetR l
  | _ => none
/-- list(x) of a list, a tuple -/
def listV (d : D) : Option D := match d with
  | .lst l => some (.lst l)
  | .tup l => some (.lst l)
  | .rol l => some (.lst l)
  | _ => none
/-- the least of some numbers -/
def minIs (l : List D) : Option D := (intsD l).bind fun ns => match ns with
  | [] => none
  | n :: r => some (.int (r.foldl min n))
def min1V : D → Option D
  | .lst l => minIs l
  | .tup l => minIs l
  | _ => none
def bi1V (reprS : D → Option Str) (μ : Mem) (b : Bi) (a : D) : R D :=
  match b with
  | .len => lenV P C μ a
  | .int => R.of μ (int1V a)
  | .abs => R.of μ (match a with | .int i => some (.int i.natAbs) | _ => none)
  | .bool => boolV P C μ a
  | .str => strV P C μ a
  | .repr => reprV P C reprS μ a
  | .reprD => R.of μ (reprDV reprS (rd μ a))
  | .sum => R.of μ (sumV (rd μ a))
  | .all => R.of μ (allV (rd μ a))
  | .any => R.of μ (anyV (rd μ a))
  | .tuple => R.of μ (tupV (rd μ a))
  | .list => R.of μ (listV (rd μ a))
  | .min1 => R.of μ (min1V (rd μ a))
  | .set => R.of μ (lsetV (rd μ a))
  | .setR => R.of μ (lsetRV (rd μ a))
  | .tupleK => R.of μ (tupKV (rd μ a))
  | .tupleS => R.of μ (tupSV (rd μ a))
  | .sorted => R.of μ (srtV (rd μ a))
  | _ => .no
def bi2V (b : Bi) (a c : D) : Option D :=
  match a, c with
  | .int i, .int j => match b with
    | .divmod => if 0 < j ∧ j < 1073741824 then some (.key [.int (i / j), .int (i % j)]) else none
    | .min2 => some (.int (if j < i then j else i))
    | .max2 => some (.int (if i < j then j else i))
    | _ => none
  | _, _ => none
def biV (reprS : D → Option Str) (μ : Mem) (b : Bi) (ds : List D) : R D :=
  match ds with
  | [a] => bi1V P C reprS μ b a
  | [a, c] => R.of μ (bi2V b a c)
  | _ => .no

/-- a built-in's method: what it gives and the store behind it -/
def appV (μ : Mem) (n : Nat) (d : D) : R D := match μ[n]? with
  | some (.lst l) => if l.length < sizeLn then .ok .non (μ.set n (.lst (l ++ [d]))) else .no
  | _ => .no
def extV (μ : Mem) (n : Nat) (d : D) : R D := match μ[n]? with
  | some (.lst l) => match rd μ d with
    | .lst r => if l.length + r.length ≤ sizeLn then .ok .non (μ.set n (.lst (l ++ r))) else .no
    | _ => .no
  | _ => .no
def insV (μ : Mem) (n : Nat) (i : Int) (d : D) : R D := match μ[n]? with
  | some (.lst l) => if l.length < sizeLn ∧ 0 ≤ i ∧ i ≤ l.length then .ok .non (μ.set n (.lst (l.take i.toNat ++ d :: l.drop i.toNat))) else .no
  | _ => .no
def pop0V (μ : Mem) (n : Nat) : R D := match μ[n]? with
  | some (.lst l) => match l.getLast? with
    | some d => .ok d (μ.set n (.lst l.dropLast))
    | none => .no
  | _ => .no
def popV (μ : Mem) (n : Nat) (i : Int) : R D := match μ[n]? with
  | some (.lst l) => match atPl l.length i with
    | some k => match l[k]? with
      | some d => .ok d (μ.set n (.lst (l.eraseIdx k)))
      | none => .no
    | none => .no
  | _ => .no
def joinV (s : Str) (d : D) : Option D :=
  match d with
  | .lst l => (strsD l).bind fun xs => if (xs.map fun x => (sL x).length).sum + xs.length * (sL s).length ≤ sizeLn then some (.str (sM (joinL (sL s) (xs.map sL)))) else none
  | .tup l => (strsD l).bind fun xs => if (xs.map fun x => (sL x).length).sum + xs.length * (sL s).length ≤ sizeLn then some (.str (sM (joinL (sL s) (xs.map sL)))) else none
  | _ => none
def splitV (s t : Str) : Option D := match sL t with
  | [c] => if (sL s).length + 2 ≤ sizeLn then some (.lst ((splitC c (sL s)).map fun x => .str (sM x))) else none
  | _ => none
def indexV (a d : D) : Option D := match a with
  | .lst l => if sm SMD d && sms SMD l then (l.findIdx? fun x => deq x d).map fun (k : Nat) => .int k else none
  | _ => none
/-- the place of a text in a tuple of texts -/
def indexTV (a d : D) : Option D := match a, d with
  | .tup l, .str z => (strsD l).bind fun ys => (ys.findIdx? fun x => x == z).map fun (k : Nat) => .int k
  | .tup l, .int z => (intsD l).bind fun ys => (ys.findIdx? fun x => x == z).map fun (k : Nat) => .int k
  | _, _ => none
def countV (a d : D) : Option D := match a with
  | .lst l => if sm SMD d && sms SMD l then some (.int (l.filter fun x => deq x d).length) else none
  | _ => none
def countTV (a d : D) : Option D := match a with
  | .tup l => if sm SMD d && (sms SMD l && !l.isEmpty) then some (.int (l.filter fun x => deq x d).length) else none
  | _ => none
def getV (a d z : D) : Option D := match a with
  | .dct t ks vs => if keyOk t d then some ((dget d ks vs).getD z) else none
  | _ => none
def itemsV (a : D) : Option D := match a with
  | .dct _ ks vs => some (.lst ((ks.zip vs).map fun p => .tup [p.1, p.2]))
  | _ => none
/-- the receiver's kind -/
def bmTy (m : Bm) (d : D) : Bool := match d with
  | .str _ => match m with | .join => true | .split => true | .upper => true | _ => false
  | .tup l => match m with | .indexT => !l.isEmpty | .countT => !l.isEmpty | _ => false
  | .lst _ => match m with | .append => true | .extend => true | .insert => true | .pop => true | .index => true | .count => true | _ => false
  | .dct _ _ _ => match m with | .get => true | .getS => true | .items => true | _ => false
  | _ => false
/-- a short text of plain signs in capital letters -/
def upperV (s : Str) : Option D := if ((sL s).all fun c => decide (c < 128)) && decide ((sL s).length ≤ 100) then some (.str (sM ((sL s).map fun c => if 97 ≤ c ∧ c ≤ 122 then c - 32 else c))) else none
def bmV (μ : Mem) (m : Bm) (o : D) (ds : List D) : R D :=
  match m with
  | .upper => match o, ds with | .str s, [] => R.of μ (upperV s) | _, _ => .no
  | .append => match o, ds with | .obj n, [d] => appV μ n d | _, _ => .no
  | .extend => match o, ds with | .obj n, [d] => extV μ n d | _, _ => .no
  | .insert => match o, ds with | .obj n, [.int i, d] => insV μ n i d | _, _ => .no
  | .pop => match o, ds with | .obj n, [] => pop0V μ n | .obj n, [.int i] => popV μ n i | _, _ => .no
  | .join => match o, ds with | .str s, [d] => R.of μ (joinV s (rd μ d)) | _, _ => .no
  | .split => match o, ds with | .str s, [.str t] => R.of μ (splitV s t) | _, _ => .no
  | .index => match ds with | [d] => R.of μ (indexV (rd μ o) d) | _ => .no
  | .indexT => match ds with | [d] => R.of μ (indexTV (rd μ o) d) | _ => .no
  | .count => match ds with | [d] => R.of μ (countV (rd μ o) d) | _ => .no
  | .countT => match ds with | [d] => R.of μ (countTV (rd μ o) d) | _ => .no
  | .get => match ds with | [d] => R.of μ (getV (rd μ o) d .non) | [d, z] => R.of μ (getV (rd μ o) d z) | _ => .no
  | .getS => match ds with | [.str s] => R.of μ (getV (rd μ o) (.str s) .non) | _ => .no
  | .items => match ds with | [] => R.of μ (itemsV (rd μ o)) | _ => .no
  | _ => .no
def idxV (μ : Mem) (a i : D) : R D :=
  match rd μ a, i with
  | .tup l, .int k => R.of μ ((atPl l.length k).bind fun j => l[j]?)
  | .key l, .int k => R.of μ ((atPl l.length k).bind fun j => l[j]?)
  | .lst l, .int k => R.of μ ((atPl l.length k).bind fun j => l[j]?)
  | .rol l, .int k => R.of μ ((atPl l.length k).bind fun j => l[j]?)
  | .str x, .int k => R.of μ ((atPl (sL x).length k).bind fun j => (sL x)[j]?.map fun c => .str (sM [c]))
  | .dct t ks vs, k => if keyOk t k then R.of μ (dget k ks vs) else if keyTR t k then R.of μ (dget k ks vs) else .no
  | .ins c _ _, k => match specOf P c 6 with
    | some f => calF P C f [a, k] [] [] μ
    | none => .no
  | _, _ => .no
def sliD (a : D) (l h : Option Int) : Option D := match a with
  | .tup x => some (.tup (cut x l h))
  | .lst x => some (.lst (cut x l h))
  | .rol x => some (.lst (cut x l h))
  | .str x => some (.str (sM (cut (sL x) l h)))
  | _ => none
def revV (μ : Mem) (a : D) (z : Bool) : Option D :=
  match rd μ a with
  | .tup x => some (.tup (cutR x z))
  | .lst x => some (.lst (cutR x z))
  | _ => none
/-- what a loop goes over: the items, and the store's list that they are of -/
def itV (μ : Mem) (d : D) : Option (Option (Nat × Ob) × List D) :=
  match d with
  | .tup l => some (none, l)
  | .lst l => some (none, l)
  | .rol l => some (none, l)
  | .str x => some (none, (sL x).map fun c => .str (sM [c]))
  | .obj n => match μ[n]? with
    | some (.lst l) => some (some (n, .lst l), l)
    | _ => none
  | _ => none
theorem big_iff (n : Int) : (!Nat.ble 1000000 (-n).toNat) = true ↔ -1000000 < n := by
  rw [Bool.not_eq_true', ← Bool.not_eq_true, Nat.ble_eq]
  omega
/-- an instance that does not run -/
instance (priority := 2000) decBig (n : Int) : Decidable (-1000000 < n) := decidable_of_iff _ (big_iff n)
theorem small_iff (n : Int) : Nat.ble (n.toNat) 999999 = true ↔ n < 1000000 := by
  rw [Nat.ble_eq]
  omega
instance (priority := 2000) decSmall (n : Int) : Decidable (n < 1000000) := decidable_of_iff _ (small_iff n)
def rngV : List D → Option (List D)
  | [.int n] => if -1000000 < n ∧ n < 1000000 then some ((List.range n.toNat).map fun (k : Nat) => .int k) else none
  | [.int a, .int b] => if -1000000 < a ∧ a < 1000000 ∧ -1000000 < b ∧ b < 1000000 then some ((List.range (b - a).toNat).map fun (k : Nat) => .int (a + k)) else none
  | [.int a, .int b, .int s] => if s = -1 ∧ -1000000 < a ∧ a < 1000000 ∧ -1000000 < b ∧ b < 1000000 then some ((List.range (a - b).toNat).map fun (k : Nat) => .int (a - k)) else none
  | _ => none
def enuL (k : Nat) : List D → List D
  | [] => []
  | d :: l => .key [.int k, d] :: enuL (k + 1) l
def zipL : List D → List D → List D
  | a :: l, b :: m => .key [a, b] :: zipL l m
  | _, _ => []
def zipV (a b : D) : Option (Option (Nat × Ob) × List D) := match a, b with
  | .lst l, .lst m => some (none, zipL l m)
  | .tup l, .tup m => some (none, zipL l m)
  | _, _ => none
/-- zip of two texts -/
def zipSV (a b : D) : Option (Option (Nat × Ob) × List D) := match a, b with
  | .str x, .str y => some (none, zipL ((sL x).map fun c => .str (sM [c])) ((sL y).map fun c => .str (sM [c])))
  | _, _ => none
/-- a dict's keys -/
def dkV (μ : Mem) (d : D) : Option (Option (Nat × Ob) × List D) := match d with
  | .dct false ks _ => some (none, ks)
  | .obj n => match μ[n]? with
    | some (.dct false ks vs) => some (some (n, .dct false ks vs), ks)
    | _ => none
  | _ => none
mutual
def obEq : Ob → Ob → Bool
  | .lst l, .lst m => seqs l m
  | .dct t a b, .dct u c d => t == u && seqs a c && seqs b d
  | .ins c n v, .ins d m w => c == d && n == m && seqs v w
  | _, _ => false
/-- the very same value -/
def seqD : D → D → Bool
  | .non, .non => true | .bl a, .bl b => a == b | .int a, .int b => a == b | .str a, .str b => a == b
  | .tup l, .tup m => seqs l m | .key l, .key m => seqs l m | .lst l, .lst m => seqs l m | .rol l, .rol m => seqs l m | .dct t a b, .dct u c d => t == u && seqs a c && seqs b d
  | .ins c n v, .ins d m w => c == d && n == m && seqs v w | .exc c n v, .exc d m w => c == d && n == m && seqs v w
  | .xv c n v, .xv d m w => c == d && n == m && seqs v w
  | .cls a, .cls b => a == b | .fn a, .fn b => a == b | .obj a, .obj b => a == b
  | .clo a l, .clo b m => a == b && seqo l m
  | _, _ => false
def seqo : List (Option D) → List (Option D) → Bool
  | [], [] => true
  | none :: l, none :: m => seqo l m
  | some a :: l, some b :: m => seqD a b && seqo l m
  | _, _ => false
def seqs : List D → List D → Bool
  | [], [] => true
  | a :: l, b :: m => seqD a b && seqs l m
  | _, _ => false
end
/-- the very same store -/
def memEq : Mem → Mem → Bool
  | [], [] => true
  | a :: l, b :: m => obEq a b && memEq l m
  | _, _ => false
def chkOld : Mem → Mem → Nat → Bool
  | a :: l, b :: m, n => (obEq a b || decide (limOb b ≤ n)) && chkOld l m n
  | [], _, _ => true
  | _, [], _ => false
def srcOk (src : Option (Nat × Ob)) (μ : Mem) : Bool :=
  match src with
  | none => true
  | some (n, o) => match μ[n]? with
    | some o' => obEq o o'
    | none => false

/-- the loop of a comprehension -/
def compL (f : D → Mem → R (Option D)) (src : Option (Nat × Ob)) : List D → Mem → R (List D)
  | [], μ => if srcOk src μ then .ok [] μ else .no
  | d :: ds, μ => if srcOk src μ then (f d μ).bind fun r μ => (compL f src ds μ).bind fun rs μ => .ok (match r with | some x => x :: rs | none => rs) μ else .no
def flatL (f : D → Mem → R (List D)) (src : Option (Nat × Ob)) : List D → Mem → R (List D)
  | [], μ => if srcOk src μ then .ok [] μ else .no
  | d :: ds, μ => if srcOk src μ then (f d μ).bind fun r μ => (flatL f src ds μ).bind fun rs μ => .ok (r ++ rs) μ else .no
def dcompL (f : D → Mem → R (Option (D × D))) (src : Option (Nat × Ob)) : List D → List D × List D → Mem → R (List D × List D)
  | [], a, μ => if srcOk src μ then .ok a μ else .no
  | d :: ds, a, μ => if srcOk src μ then (f d μ).bind fun r μ => (match r with | some (k, v) => if a.1.length < sizeLn then dcompL f src ds (dput k v a.1 a.2) μ else .no | none => dcompL f src ds a μ) else .no
def finX (keep : Bool) (μ0 : Mem) (d : D) (μ : Mem) : R D :=
  if keep || μ.length = μ0.length then .ex d μ
  else if lim d ≤ μ0.length ∧ chkOld μ0 μ μ0.length = true then .ex d (μ.take μ0.length) else .no
/-- an exception out of __init__: what it made is let go -/
def newX (μ : Mem) (r : R D) : R D := match r with
  | .ex x μ' => finX false μ x μ'
  | r => r
/-- the keys of items -/
def mapF (f : D → Mem → R D) : List D → Mem → R (List D)
  | [], μ => .ok [] μ
  | d :: l, μ => (f d μ).bind fun x μ => (mapF f l μ).bind fun r μ => .ok (x :: r) μ
/-- .. that leave the store as it is -/
def mapP (f : D → Mem → R D) (μ : Mem) : List D → Option (List D)
  | [] => some []
  | d :: l => match f d μ with
    | .ok x μ' => if memEq μ μ' then (mapP f μ l).map (x :: ·) else none
    | _ => none
/-- a new instance -/
def newV (c : Nat) (args : List D) (ps : List Nat) (kv : List D) (μ : Mem) : R D :=
  match P.cls c with
  | none => .no
  | some k => match k.init with
    | none => .no
    | some f => newX μ ((calF P C f (.obj μ.length :: args) ps kv (μ ++ [.ins c [] []])).bind fun d μ' => match d with
      | .non => if k.live then .ok (.obj μ.length) μ'
        else match μ'[μ.length]? with
          | some (.ins c' ns vs) => if μ'.length = μ.length + 1 ∧ lims vs ≤ μ.length ∧ chkOld μ μ' μ.length = true then .ok (.ins c' ns vs) (μ'.take μ.length) else .no
          | _ => .no
      | _ => .no)
def methOf (μ : Mem) (d : D) (m : Nat) : Option Nat := match rd μ d with
  | .ins c ns _ => if ns.contains m then none else (P.cls c).bind fun k => k.meths.lookup m
  | _ => none
def attV (μ : Mem) (d : D) (f : Nat) : R D :=
  match rd μ d with
  | .ins c ns vs => match P.cls c with
    | some k => match k.props.lookup f with
      | some g => calF P C g [d] [] [] μ
      | none => if k.flds.contains f then R.of μ (fget f ns vs) else .no
    | none => .no
  | .exc _ ns vs => R.of μ (fget f ns vs)
  | _ => .no
end

section
variable (P : Prog) (C : Cal) (reprS : D → Option Str)
mutual
def evE : E → Env → Mem → R D
  | .v i, ρ, μ => R.of μ (readV ρ i)
  | .xat i f, ρ, μ => R.of μ (getX P ρ i fget f)
  | .k d, _, μ => .ok d μ
  | .g n, _, μ => R.of μ (P.gl n)
  | .tup es, ρ, μ => (evX es ρ μ).bind fun l μ => if l.length ≤ sizeLn then .ok (.tup l) μ else .no
  | .key es, ρ, μ => (evX es ρ μ).bind fun l μ => if l.length ≤ sizeLn then .ok (.key l) μ else .no
  | .lst es, ρ, μ => (evX es ρ μ).bind fun l μ => if l.length ≤ sizeLn then .ok (.lst l) μ else .no
  | .star _, _, _ => .no
  | .dct t l, ρ, μ => (evKV l ρ μ).bind fun p μ => if p.1.all (keyOk t) then .ok (.dct t p.1 p.2) μ else .no
  | .dpu a k v, ρ, μ => (evE a ρ μ).bind fun a μ => match rd μ a with
    | .dct false ks vs => (evE k ρ μ).bind fun k μ => (evE v ρ μ).bind fun v μ => if keyOk false k && decide (ks.length < 4000) then .ok (.dct false (dput k v ks vs).1 (dput k v ks vs).2) μ else .no
    | _ => .no
  | .bin o a b, ρ, μ => (evE a ρ μ).bind fun a μ => (evE b ρ μ).bind fun b μ => R.of μ (binV μ o a b)
  | .neg a, ρ, μ => (evE a ρ μ).bind fun a μ => match a with
    | .int i => .ok (.int (-i)) μ
    | _ => .no
  | .cmp o a b, ρ, μ => (evE a ρ μ).bind fun a μ => (evE b ρ μ).bind fun b μ => (nox (cmpV P C μ o a b)).bind fun c μ => .ok (.bl c) μ
  | .cmp2 o p a b c, ρ, μ => (evE a ρ μ).bind fun a μ => (evE b ρ μ).bind fun b μ => (nox (cmpV P C μ o a b)).bind fun r μ =>
    if r then (evE c ρ μ).bind fun c μ => (nox (cmpV P C μ p b c)).bind fun c μ => .ok (.bl c) μ else .ok (.bl false) μ
  | .and es, ρ, μ => evAnd es ρ μ
  | .or es, ρ, μ => evOr es ρ μ
  | .not a, ρ, μ => (evE a ρ μ).bind fun a μ => R.of μ ((tru a).map fun b => .bl (!b))
  | .ite c a b, ρ, μ => (evE c ρ μ).bind fun c μ => match tru c with
    | some true => evE a ρ μ
    | some false => evE b ρ μ
    | none => .no
  | .cal f es, ρ, μ => (evEs es ρ μ).bind fun l μ => calF P C f l [] [] μ
  | .clk f es ps kv, ρ, μ => (evEs es ρ μ).bind fun l μ => (evEs kv ρ μ).bind fun k μ => calF P C f l ps k μ
  | .new c es, ρ, μ => (evEs es ρ μ).bind fun l μ => newV P C c l [] [] μ
  | .nwk c es ps kv, ρ, μ => (evEs es ρ μ).bind fun l μ => (evEs kv ρ μ).bind fun k μ => newV P C c l ps k μ
  | .exc c ns es, ρ, μ => (evEs es ρ μ).bind fun l μ => if l.length = ns.length then .ok (.exc c ns l) μ else .no
  | .exk c ns ps es, ρ, μ => (evEs es ρ μ).bind fun l μ => R.of μ ((bindK ns.length [] [] ps l).map fun l => .exc c ns l)
  | .mth o m es, ρ, μ => (evE o ρ μ).bind fun o μ => match methOf P μ o m with
    | some f => (evEs es ρ μ).bind fun l μ => calF P C f (o :: l) [] [] μ
    | none => .no
  | .mtk o m es ps kv, ρ, μ => (evE o ρ μ).bind fun o μ => match methOf P μ o m with
    | some f => (evEs es ρ μ).bind fun l μ => (evEs kv ρ μ).bind fun k μ => calF P C f (o :: l) ps k μ
    | none => .no
  | .att o f, ρ, μ => (evE o ρ μ).bind fun o μ => nox (attV P C μ o f)
  | .app i es, ρ, μ => (evEs es ρ μ).bind fun l μ => match getE ρ i with
    | some (.clo k ρ') => C.lam k ρ' l μ
    | _ => .no
  | .bi b es, ρ, μ => (evEs es ρ μ).bind fun l μ => nox (biV P C reprS μ b l)
  | .bm m o es, ρ, μ => (evE o ρ μ).bind fun o μ => if bmTy m (rd μ o) then (evEs es ρ μ).bind fun l μ => bmV μ m o l else .no
  | .isi e ts, ρ, μ => (evE e ρ μ).bind fun d μ => R.of μ ((isTys P μ d ts).map .bl)
  | .idx a i, ρ, μ => (evE a ρ μ).bind fun a μ => (evE i ρ μ).bind fun i μ => idxV P C μ a i
  | .sli a lo hi, ρ, μ => (evE a ρ μ).bind fun a μ => (evO lo ρ μ).bind fun l μ => (evO hi ρ μ).bind fun h μ => R.of μ (sliD (rd μ a) l h)
  | .rev a z, ρ, μ => (evE a ρ μ).bind fun a μ => R.of μ (revV μ a z)
  | .lc own t it c e, ρ, μ => (evIt it ρ μ).bind fun p μ => (nox (compL (fun d μ => (asT t d (wipeE ρ own) μ).bind fun ρ μ =>
      (evE c ρ μ).bind fun b μ => match tru b with
        | some true => (evE e ρ μ).bind fun x μ => .ok (some x) μ
        | some false => .ok none μ
        | none => .no) p.1 p.2 μ)).bind fun l μ => if l.length ≤ sizeLn then .ok (.lst l) μ else .no
  | .lc2 own t it c t2 it2 c2 e, ρ, μ => (evIt it ρ μ).bind fun p μ => (nox (flatL (fun d μ => (asT t d (wipeE ρ own) μ).bind fun ρ μ =>
      (evE c ρ μ).bind fun b μ => match tru b with
        | some true => (evIt it2 ρ μ).bind fun p μ => compL (fun d μ => (asT t2 d (wipeE ρ t2.vars) μ).bind fun ρ μ =>
          (evE c2 ρ μ).bind fun b μ => match tru b with
            | some true => (evE e ρ μ).bind fun x μ => .ok (some x) μ
            | some false => .ok none μ
            | none => .no) p.1 p.2 μ
        | some false => .ok [] μ
        | none => .no) p.1 p.2 μ)).bind fun l μ => if l.length ≤ sizeLn then .ok (.lst l) μ else .no
  | .dc own t it c k v, ρ, μ => (evIt it ρ μ).bind fun p μ => (nox (dcompL (fun d μ => (asT t d (wipeE ρ own) μ).bind fun ρ μ =>
      (evE c ρ μ).bind fun b μ => match tru b with
        | some true => (evE k ρ μ).bind fun k μ => (evE v ρ μ).bind fun v μ => if keyOk false k then .ok (some (k, v)) μ else .no
        | some false => .ok none μ
        | none => .no) p.1 p.2 ([], []) μ)).bind fun l μ => .ok (.dct false l.1 l.2) μ
  | .fmt e, ρ, μ => (evE e ρ μ).bind fun d μ => R.of μ (fmtV d)
  | .fst es, ρ, μ => (nox (evEs es ρ μ)).bind fun l μ => R.of μ ((strsD l).bind fun xs => let z := (xs.map sL).flatten; if z.length ≤ sizeLn then some (.str (sM z)) else none)
  | .lam k, ρ, μ => .ok (.clo k ρ) μ
  | .lay e, ρ, μ => (evE e ρ μ).bind fun d μ => match d with
    | .lst l => .ok (.obj μ.length) (μ ++ [.lst l])
    | .dct t ks vs => .ok (.obj μ.length) (μ ++ [.dct t ks vs])
    | _ => .no
  | .srt e, ρ, μ => (evE e ρ μ).bind fun d μ => match rd μ d with
    | .lst l => R.of μ ((srtL dlt l).map .lst)
    | .tup l => R.of μ ((srtL dlt l).map .lst)
    | .key l => R.of μ ((srtL dlt l).map .lst)
    | _ => .no
  | .srk e k, ρ, μ => (evE e ρ μ).bind fun d μ => match rd μ d with
    | .lst l => (nox (mapF (fun d μ => C.lam k ρ [d] μ) l μ)).bind fun ks μ => R.of μ ((srkV ks l).map .lst)
    | _ => .no
  | .srf e f, ρ, μ => (evE e ρ μ).bind fun d μ => match rd μ d with
    | .lst l => (nox (mapF (fun d μ => C.fn f [d] μ) l μ)).bind fun ks μ => R.of μ ((srkV ks l).map .lst)
    | _ => .no
  | .mnk e k, ρ, μ => (evE e ρ μ).bind fun d μ => match rd μ d with
    | .lst l => R.of μ ((mapP (fun d μ => C.lam k ρ [d] μ) μ l).bind fun ks => mnkV ks l)
    | _ => .no
  | .lof e, ρ, μ => (evIt e ρ μ).bind fun p μ => .ok (.lst p.2) μ
  | .dof e, ρ, μ => (evE e ρ μ).bind fun d μ => match rd μ d with
    | .lst l => R.of μ ((pairs l).map fun p => .dct false p.1 p.2)
    | _ => .no
  | .gti o i, ρ, μ => (evE o ρ μ).bind fun o μ => (evE i ρ μ).bind fun i μ => match rd μ o with
    | .ins c _ _ => match specOf P c 16 with
      | some f => calF P C f [o, i] [] [] μ
      | none => .no
    | _ => .no
  | .dofU e, ρ, μ => (evE e ρ μ).bind fun d μ => match rd μ d with
    | .lst l => R.of μ ((pairsU l ([], [])).map fun p => .dct false p.1 p.2)
    | _ => .no
  | .xvn c ns es, ρ, μ => (evEs es ρ μ).bind fun l μ => if l.length = ns.length then .ok (.xv c ns l) μ else .no
  | .xvk c ns ps es, ρ, μ => (evEs es ρ μ).bind fun l μ => R.of μ ((bindK ns.length [] [] ps l).map fun l => .xv c ns l)
  | .xva e f, ρ, μ => (evE e ρ μ).bind fun d μ => R.of μ (match d with
    | .xv c ns vs => (P.cls c).bind fun k => if k.xfl.contains f = true then fget f ns vs else none
    | _ => none)
  | .xvi e cs t, ρ, μ => (evE e ρ μ).bind fun d μ => match d with
    | .xv c ns vs => if cs.contains c = true then R.of μ ((isTy P μ (.exc c ns vs) t).map .bl) else .no
    | _ => .no
  | .cax f i, ρ, μ => match getE ρ i with
    | some (.exc c ns vs) => calF P C f [.exc c ns vs] [] [] μ
    | _ => .no
  | .xis i cs t, ρ, μ => match getE ρ i with
    | some (.exc c ns vs) => if cs.contains c = true then R.of μ ((isTy P μ (.exc c ns vs) t).map .bl) else .no
    | _ => .no
  | .apf i fs es ps kv, ρ, μ => match readV ρ i with
    | some (.fn f) => if fs.contains f && (P.fns f).isSome then (evEs es ρ μ).bind fun l μ => (evEs kv ρ μ).bind fun k μ => calF P C f l ps k μ else .no
    | _ => .no
where
  pairs : List D → Option (List D × List D)
    | [] => some ([], [])
    | .tup [k, v] :: l => if keyOk false k then (pairs l).bind fun p => if p.1.any (deq k) then none else some (k :: p.1, v :: p.2) else none
    | _ => none
  /-- .. later ones in the place of earlier ones -/
  pairsU : List D → List D × List D → Option (List D × List D)
    | [], a => some a
    | .tup [k, v] :: l, a => if keyOk false k && decide (a.1.length < 4000) then pairsU l (dput k v a.1 a.2) else none
    | _, _ => none
/-- what is walked -/
def evIt : It → Env → Mem → R (Option (Nat × Ob) × List D)
  | .rng es, ρ, μ => (evEs es ρ μ).bind fun l μ => R.of μ ((rngV l).map fun l => (none, l))
  | .enu e, ρ, μ => (evE e ρ μ).bind fun d μ => R.of μ (match d with
    | .str _ => none
    | d => (itV μ d).map fun p => (p.1, enuL 0 p.2))
  | .zip a b, ρ, μ => (evE a ρ μ).bind fun a μ => (evE b ρ μ).bind fun b μ => R.of μ (zipV a b)
  | .zipS a b, ρ, μ => (evE a ρ μ).bind fun a μ => (evE b ρ μ).bind fun b μ => R.of μ (zipSV a b)
  | .dk e, ρ, μ => (evE e ρ μ).bind fun d μ => R.of μ (dkV μ d)
  | .e e, ρ, μ => (evE e ρ μ).bind fun d μ => R.of μ (itV μ d)
def evEs : Es → Env → Mem → R (List D)
  | .n, _, μ => .ok [] μ
  | .c e r, ρ, μ => (evE e ρ μ).bind fun d μ => (evEs r ρ μ).bind fun l μ => .ok (d :: l) μ
/-- a display's items, with stars -/
def evX : Es → Env → Mem → R (List D)
  | .n, _, μ => .ok [] μ
  | .c (.star e) r, ρ, μ => (evE e ρ μ).bind fun d μ => match rd μ d with
    | .tup l => (evX r ρ μ).bind fun m μ => .ok (l ++ m) μ
    | .lst l => (evX r ρ μ).bind fun m μ => .ok (l ++ m) μ
    | _ => .no
  | .c e r, ρ, μ => (evE e ρ μ).bind fun d μ => (evX r ρ μ).bind fun l μ => .ok (d :: l) μ
def evKV : Kv → Env → Mem → R (List D × List D)
  | .c k v r, ρ, μ => (evE k ρ μ).bind fun k μ => (evE v ρ μ).bind fun v μ => (evKV r ρ μ).bind fun p μ => .ok (k :: p.1, v :: p.2) μ
  | .n, _, μ => .ok ([], []) μ
def evO : O → Env → Mem → R (Option Int)
  | .n, _, μ => .ok none μ
  | .s e, ρ, μ => (evE e ρ μ).bind fun d μ => match d with
    | .int i => .ok (some i) μ
    | _ => .no
def evAnd : Es → Env → Mem → R D
  | .n, _, _ => .no
  | .c e .n, ρ, μ => evE e ρ μ
  | .c e r, ρ, μ => (evE e ρ μ).bind fun d μ => match tru d with
    | some true => evAnd r ρ μ
    | some false => .ok (.bl false) μ
    | none => .no
def evOr : Es → Env → Mem → R D
  | .n, _, _ => .no
  | .c e .n, ρ, μ => evE e ρ μ
  | .c e r, ρ, μ => (evE e ρ μ).bind fun d μ => match tru d with
    | some true => .ok (.bl true) μ
    | some false => evOr r ρ μ
    | none => .no
/-- a value goes to a target -/
def asT : T → D → Env → Mem → R Env
  | .v i, d, ρ, μ => .ok (setE ρ i d) μ
  | .ix o i, d, ρ, μ => (evE o ρ μ).bind fun o μ => (evE i ρ μ).bind fun i μ => (setV P C μ o i d).bind fun _ μ => .ok ρ μ
  | .at o f, d, ρ, μ => (evE o ρ μ).bind fun o μ => match o with
    | .obj n => match μ[n]? with
      | some (.ins c ns vs) => match P.cls c with
        | some k => if k.flds.contains f && decide (ns.length < 900) then .ok ρ (μ.set n (.ins c (fput f d ns vs).1 (fput f d ns vs).2)) else .no
        | none => .no
      | _ => .no
    | _ => .no
  | .tup ts, d, ρ, μ => match d with
    | .tup l => asTs ts l ρ μ
    | .key l => asTs ts l ρ μ
    | .lst l => asTs ts l ρ μ
    | _ => .no
def asTs : Ts → List D → Env → Mem → R Env
  | .n, [], ρ, μ => .ok ρ μ
  | .c t r, d :: l, ρ, μ => (asT t d ρ μ).bind fun ρ μ => asTs r l ρ μ
  | _, _, _, _ => .no
end

def forL (f : D → Env → Mem → SR) (src : Option (Nat × Ob)) : List D → Env → Mem → SR
  | [], ρ, μ => if srcOk src μ then .nx ρ μ else .no
  | d :: ds, ρ, μ => if srcOk src μ then (match f d ρ μ with
    | .nx ρ μ => forL f src ds ρ μ
    | r => r) else .no
def whlL (c : Env → Mem → R D) (f : Env → Mem → SR) : Nat → Env → Mem → SR
  | 0, _, _ => .no
  | n + 1, ρ, μ => match c ρ μ with
    | .ok d μ => match tru d with
      | some true => match f ρ μ with
        | .nx ρ μ => whlL c f n ρ μ
        | r => r
      | some false => .nx ρ μ
      | none => .no
    | .ex x μ => .ex x ρ μ
    | .no => .no
/-- the most turns of a while -/
def WH : Nat := 100000
def seR {α : Type} (r : R α) (ρ : Env) (f : α → Mem → SR) : SR :=
  match r with
  | .ok a μ => f a μ
  | .ex x μ => .ex x ρ μ
  | .no => .no
@[simp] theorem seR_ok {α : Type} (a : α) (μ : Mem) (ρ : Env) (f : α → Mem → SR) : seR (.ok a μ) ρ f = f a μ := rfl
@[simp] theorem seR_ex {α : Type} (x : D) (μ : Mem) (ρ : Env) (f : α → Mem → SR) : seR (.ex x μ) ρ f = .ex x ρ μ := rfl
@[simp] theorem seR_no {α : Type} (ρ : Env) (f : α → Mem → SR) : seR .no ρ f = .no := rfl
mutual
def evS : S → Env → Mem → SR
  | .asg t e, ρ, μ => seR (evE P C reprS e ρ μ) ρ fun d μ => seR (nox (asT P C reprS t d ρ μ)) ρ fun ρ μ => .nx ρ μ
  | .par ts es, ρ, μ => seR (evEs P C reprS es ρ μ) ρ fun l μ => seR (nox (asTs P C reprS ts l ρ μ)) ρ fun ρ μ => .nx ρ μ
  | .ex e, ρ, μ => seR (evE P C reprS e ρ μ) ρ fun _ μ => .nx ρ μ
  | .ret e, ρ, μ => seR (evE P C reprS e ρ μ) ρ fun d μ => .rt d μ
  | .pass, ρ, μ => .nx ρ μ
  | .sti o i e, ρ, μ => seR (evE P C reprS e ρ μ) ρ fun d μ => seR (evE P C reprS o ρ μ) ρ fun o μ => seR (evE P C reprS i ρ μ) ρ fun i μ => match rd μ o with
    | .ins c _ _ => match specOf P c 17 with
      | some f => seR (calF P C f [o, i, d] [] [] μ) ρ fun _ μ => .nx ρ μ
      | none => .no
    | _ => .no
  | .ite c a b, ρ, μ => seR (evE P C reprS c ρ μ) ρ fun d μ => match tru d with
    | some true => evSs a ρ μ
    | some false => evSs b ρ μ
    | none => .no
  | .for t it b, ρ, μ => seR (evIt P C reprS it ρ μ) ρ fun p μ => forL (fun d ρ μ => seR (nox (asT P C reprS t d ρ μ)) ρ fun ρ μ => evSs b ρ μ) p.1 p.2 ρ μ
  | .whl c b, ρ, μ => whlL (evE P C reprS c) (evSs b) WH ρ μ
  | .rai e, ρ, μ => seR (evE P C reprS e ρ μ) ρ fun d μ => match d with
    | .exc c ns vs => .ex (.exc c ns vs) ρ μ
    | _ => .no
  | .try b hs, ρ, μ => match evSs b ρ μ with
    | .ex (.exc c ns vs) ρ μ => if P.exs = true then evH hs (.exc c ns vs) ρ μ else .no
    | .ex _ _ _ => .no
    | r => r
  | .wth e t b, ρ, μ => seR (evE P C reprS e ρ μ) ρ fun m μ => match special P μ m 8, special P μ m 9 with
    | some f, some g => seR (calF P C f [m] [] [] μ) ρ fun d μ => seR (nox (asT P C reprS t d ρ μ)) ρ fun ρ μ => match evSs b ρ μ with
      | .nx ρ μ => seR (calF P C g [m, .non, .non, .non] [] [] μ) ρ fun _ μ => .nx ρ μ
      | .rt d μ => seR (calF P C g [m, .non, .non, .non] [] [] μ) ρ fun _ μ => .rt d μ
      | .ex x ρ μ => seR (calF P C g [m, .cls 0, x, .non] [] [] μ) ρ fun d μ => match d with
        | .non => .ex x ρ μ
        | _ => .no
      | .no => .no
    | _, _ => .no
def evSs : Ss → Env → Mem → SR
  | .n, ρ, μ => .nx ρ μ
  | .c s r, ρ, μ => match evS s ρ μ with
    | .nx ρ μ => evSs r ρ μ
    | q => q
def evH : Hs → D → Env → Mem → SR
  | .n, x, ρ, μ => .ex x ρ μ
  | .c ts i b r, x, ρ, μ => match isTys P μ x ts with
    | some true => match i with
      | none => match evSs b ρ μ with
        | .ex _ _ _ => .no
        | q => q
      | some k => match evSs b (setE ρ k x) μ with
        | .nx ρ μ => .nx (ρ.set k none) μ
        | .ex _ _ _ => .no
        | q => q
    | some false => evH r x ρ μ
    | none => .no
end
end

def frz (base : Nat) (μ : Mem) : D → D
  | .obj n => if base ≤ n then (match μ[n]? with
    | some (.lst l) => .lst l
    | some (.dct t ks vs) => .dct t ks vs
    | _ => .obj n) else .obj n
  | d => d
def fin (keep : Bool) (μ0 : Mem) (d : D) (μ : Mem) : R D :=
  if keep || μ.length = μ0.length then .ok d μ
  else if lim (frz μ0.length μ d) ≤ μ0.length ∧ chkOld μ0 μ μ0.length = true then .ok (frz μ0.length μ d) (μ.take μ0.length) else .no
section
variable (P : Prog) (reprS : D → Option Str)
mutual
def calD : Nat → Nat → List D → Mem → R D
  | 0, _, _, _ => .no
  | n + 1, f, args, μ => match P.fns f with
    | none => .no
    | some F => if args.length = F.np then (match evSs P ⟨calD n, lamD n⟩ reprS F.body (args.map some ++ List.replicate (F.nn - F.np) none) μ with
      | .nx _ μ' => fin F.keep μ .non μ'
      | .rt d μ' => fin F.keep μ d μ'
      | .ex x _ μ' => finX F.keep μ x μ'
      | .no => .no) else .no
def lamD : Nat → Nat → List (Option D) → List D → Mem → R D
  | 0, _, _, _, _ => .no
  | n + 1, k, ρ, args, μ => match P.lams k with
    | none => .no
    | some L => if args.length = L.ps.length then evE P ⟨calD n, lamD n⟩ reprS L.body ((L.ps.zip args).foldl (fun ρ p => setE ρ p.1 p.2) ρ) μ else .no
end
end
/-- what is wanted of a run's end -/
def WpR {α : Type} (r : R α) (k : α → Mem → Prop) (kx : D → Mem → Prop) : Prop :=
  match r with
  | .ok d μ => k d μ
  | .ex x μ => kx x μ
  | .no => False
theorem WpR.bind {α β : Type} {r : R α} {f : α → Mem → R β} {k : β → Mem → Prop} {kx : D → Mem → Prop} (h : WpR (r.bind f) k kx) : WpR r (fun d μ => WpR (f d μ) k kx) kx := by
  cases r <;> exact h
theorem WpR.newX {μ : Mem} {r : R D} {k : D → Mem → Prop} {kx : D → Mem → Prop} (h : WpR (DI.newX μ r) k kx) : WpR r k (fun x μ' => WpR (finX false μ x μ') k kx) := by
  cases r <;> exact h
theorem WpR.mono {α : Type} {r : R α} {k k' : α → Mem → Prop} {kx kx' : D → Mem → Prop} (h : WpR r k kx) (g : ∀ d μ, k d μ → k' d μ) (gx : ∀ d μ, kx d μ → kx' d μ) : WpR r k' kx' := by
  cases r with
  | ok d μ => exact g _ _ h
  | ex x μ => exact gx _ _ h
  | no => exact h
theorem WpR.of {α : Type} {μ : Mem} {o : Option α} {k : α → Mem → Prop} {kx : D → Mem → Prop} (h : WpR (R.of μ o) k kx) : ∃ d, o = some d ∧ k d μ := by
  cases o with
  | none => exact h.elim
  | some d => exact ⟨d, rfl, h⟩
/-- what is wanted of a statement's end -/
def WpS (r : SR) (kn : Env → Mem → Prop) (kr : D → Mem → Prop) (kx : D → Env → Mem → Prop) : Prop :=
  match r with
  | .nx ρ μ => kn ρ μ
  | .rt d μ => kr d μ
  | .ex x ρ μ => kx x ρ μ
  | .no => False
theorem WpS.mono {r : SR} {kn kn' : Env → Mem → Prop} {kr kr' : D → Mem → Prop} {kx kx' : D → Env → Mem → Prop} (h : WpS r kn kr kx) (g : ∀ ρ μ, kn ρ μ → kn' ρ μ) (gr : ∀ d μ, kr d μ → kr' d μ) (gx : ∀ x ρ μ, kx x ρ μ → kx' x ρ μ) : WpS r kn' kr' kx' := by
  cases r with
  | nx ρ μ => exact g _ _ h
  | rt d μ => exact gr _ _ h
  | ex x ρ μ => exact gx _ _ _ h
  | no => exact h
theorem WpS.seR {α : Type} {r : R α} {ρ : Env} {f : α → Mem → SR} {kn : Env → Mem → Prop} {kr : D → Mem → Prop} {kx : D → Env → Mem → Prop} (h : WpS (DI.seR r ρ f) kn kr kx) : WpR r (fun d μ => WpS (f d μ) kn kr kx) (fun x μ => kx x ρ μ) := by
  cases r <;> exact h
theorem WpS.seq {r : SR} {f : Env → Mem → SR} {kn : Env → Mem → Prop} {kr : D → Mem → Prop} {kx : D → Env → Mem → Prop} (h : WpS (match r with | .nx ρ μ => f ρ μ | q => q) kn kr kx) : WpS r (fun ρ μ => WpS (f ρ μ) kn kr kx) kr kx := by
  cases r <;> exact h
end DI
end

section
set_option Elab.async false
set_option linter.all false
set_option maxRecDepth 100000
namespace DI
open PySem L2 PySem.Spec PyProof.Rows
section
variable {prog : Program} {w : World} {A : Around} {E : Value → Shared → Prop} {s : Shared}
end
end DI
end

section
set_option Elab.async false
set_option linter.all false
set_option maxRecDepth 100000
namespace DI
open PySem L2 PySem.Spec PyProof.Rows
/-- a plain tuple record -/
def TObj (o : Obj) : Prop := o.cls = .type "tuple" ∧ o.dict = none
/-- what is asked behind a new tuple -/
def NewT (H : Hp) (xs : List V) (Q : VK) : Prop := ∀ p o, TObj o → H p = none → Q (.ref p) (upd H p (.frz o (.tup xs)))
section
variable {X : Cx} {pins : List (Addr × Obj)} {σ : L2.St} {H : Hp} {s : Shared} {Q : VK}
theorem newT_at {h0 : Heap} {us : List Value} {xs : List V} (I : L2.Inv X pins σ H { s with heap := h0 }) (r : Vals xs us) (hz : xs.length ≤ sizeLine) (q : NewT H xs Q) :
    EP X pins σ Q (.ref h0.objs.size) { s with heap := h0.push { cls := .type "tuple", data := .seq us.toArray } } := by
  have e := Heap.get?_push_size h0 (o := { cls := .type "tuple", data := .seq us.toArray }) rfl
  refine ⟨.ref h0.objs.size, _, I.laid (t' := s.toks) (o := .frz { cls := .type "tuple", data := .seq us.toArray } (.tup xs)) (fun b u z => Heap.get?_push_of_some _ z) (Nat.le_refl _) ⟨e, hz, us, r, ⟨_, e, rfl, _, rfl⟩⟩, rfl, q _ _ ⟨rfl, rfl⟩ (I.hok.fresh (Nat.le_refl _))⟩
end
section
variable {X : Cx} {pos : Pos} {es : List Expr}
def tTupF (t : TA) : TE := fun σ H Q => t σ H fun xs H1 => xs.length ≤ sizeLine ∧ NewT H1 xs Q
theorem pe_tupF {k : Nat} {t : TA} (h : PA X es t) : PE X (.Tuple es k pos) (tTupF t) := by
  refine ⟨fun pins s σ H Q I hq => ?_⟩
  refine wpAny_Tuple_spliced (thn (h.run pos pins s σ H _ I hq) fun us s1 ⟨xs, H1, I1, r, z, q⟩ => ⟨by rw [← r.length]; exact z, newT_at I1 r z q⟩)
/-- t + u -/
theorem op_catF : OpR X (binaryOp .Add) (fun x y H Q => ∃ a b xs ys, x = .ref a ∧ y = .ref b ∧ SqT X.K H a xs ∧ SqT X.K H b ys ∧ xs.length + ys.length ≤ sizeLine ∧
    (xs = [] → Q (.ref b) H) ∧ (ys = [] → Q (.ref a) H) ∧ NewT H (xs ++ ys) Q) := by
  intro pins s σ H x y v u Q I rx ry h
  obtain ⟨a, b, xs, ys, rfl, rfl, ha, hb, hz, q0, q1, q2⟩ := h
  by_cases hx : xs = []
  · subst hx
    exact op_catA pins s σ H _ _ v u Q I rx ry ⟨a, b, [], ys, rfl, rfl, ha, hb, hz, q0, fun z => absurd rfl z, fun z => absurd rfl z⟩
  · cases rx
    cases ry
    obtain ⟨is, r1, p1, _⟩ := I.tuple ha
    obtain ⟨js, r2, p2, _⟩ := I.tuple hb
    refine HT.cat_tup p1 p2 (fun z => hx (r1.nil_iff.mp z)) (fun z => ⟨.ref a, H, I, rfl, q1 (r2.nil_iff.mp z)⟩) (fun _ => ?_) (by rw [← r1.length, ← r2.length]; exact hz)
    exact newT_at I (r1.append r2) (by rw [List.length_append]; exact hz) q2
/-- t[lo:hi] -/
theorem sl_tupF : SlR X (fun x lo hi H Q => ∃ a xs, x = .ref a ∧ SqT X.K H a xs ∧ (HT.sIx xs.length 0 lo = 0 ∧ HT.sIx xs.length xs.length hi = xs.length → Q (.ref a) H) ∧ NewT H (cutV xs lo hi) Q) := by
  intro pins s σ H x v vl vu lo hi sl Q I rx hs pl pu h
  obtain ⟨a, xs, rfl, hx, q1, q2⟩ := h
  by_cases hw : HT.sIx xs.length 0 lo = 0 ∧ HT.sIx xs.length xs.length hi = xs.length
  · exact sl_tupA pins s σ H _ v vl vu lo hi sl Q I rx hs pl pu ⟨a, xs, rfl, hx, q1, fun z => absurd hw z⟩
  · cases rx
    obtain ⟨is, r, ht, hz⟩ := I.tuple hx
    have hlen : is.toArray.size = xs.length := by rw [List.size_toArray]; exact r.length.symm
    refine ⟨"tuple", _, PyProof.Rows.slot_tuple_getitem.lookup, ht.typeIs, HT.getItem_tuple_cut ht hs pl pu (by rw [hlen]; exact hw) ?_ (by rw [hlen]; exact hz)⟩
    rw [hlen]
    exact newT_at I ((r.drop (HT.sIx xs.length 0 lo)).take (HT.sIx xs.length xs.length hi - HT.sIx xs.length 0 lo)) (Nat.le_trans (cutV_length xs lo hi) hz) q2
end
end DI
end

section
set_option Elab.async false
set_option linter.all false
set_option maxRecDepth 100000
namespace DI
open PySem L2 PySem.Spec PyProof.Rows

/-- what a law's text tells: the program, where defs and classes stand, the attributes' names -/
structure Tab where
  P : Prog
  reprS : D → Option Str
  fa : Nat → Addr
  ca : Nat → Addr
  an : Nat → Str
  /-- the forms of calls: values, keywords' parameters; the keywords' names -/
  form : Nat → Nat → List Nat → Option (List Str)
  /-- the classes that isinstance is asked for -/
  isc : List Nat
  /-- the exception that is handled: its slot, where it is, its class, its dict -/
  ex : Option (Nat × Addr × Value × Option Addr) := none
  /-- the lambda at hand: where, its code object and name, its number, its maker's slots -/
  clo : Option (Addr × Addr × Str × Nat × List (Option V)) := none
  /-- the defs that take a lambda -/
  thk : List Nat := []
  /-- the tables of code objects -/
  tbs : List (Addr × Str) := []
  /-- the code objects that make lambdas, and their tables -/
  cds : List (Addr × Addr) := []
  /-- repr may be telling: nothing is shown then -/
  quiet : Bool := false
  /-- the defs that may be called while repr is telling -/
  fq : Nat → Option Fn := fun _ => none
/-- nothing is shown -/
def noR : D → Option Str := fun _ => none
/-- .. as it is while repr is telling -/
abbrev Tab.q (T : Tab) : Tab := { T with P := { T.P with fns := T.fq }, reprS := noR, ex := none, clo := none, thk := [], quiet := true }
def Tab.kx (T : Tab) : Nat := if T.quiet = true then 0 else 8
theorem Tab.kx_le (T : Tab) : T.kx ≤ 8 := by
  unfold Tab.kx; split <;> omega
theorem Tab.kx_n {T : Tab} (h : T.quiet = false) : T.kx = 8 := by simp [Tab.kx, h]
/-- another handled exception, another lambda -/
abbrev Tab.sp (T : Tab) (e : Option (Nat × Addr × Value × Option Addr)) (c : Option (Addr × Addr × Str × Nat × List (Option V))) : Tab := { T with ex := e, clo := c }
/-- the store's addresses; the frozen part of the heap -/
structure Abs where
  α : List Addr
  G : Hp
structure Abs.le (a b : Abs) : Prop where
  pre : ∃ r, b.α = a.α ++ r
  fr : ∀ p o, a.G p = some o → b.G p = some o
theorem Abs.le_refl (a : Abs) : a.le a := ⟨⟨[], by simp⟩, fun _ _ h => h⟩
theorem Abs.le.trans {a b c : Abs} (h : a.le b) (g : b.le c) : a.le c := by
  obtain ⟨⟨r, e⟩, h⟩ := h
  obtain ⟨⟨q, f⟩, g⟩ := g
  exact ⟨⟨r ++ q, by rw [f, e, List.append_assoc]⟩, fun p o x => g p o (h p o x)⟩
theorem Abs.le.at {a b : Abs} (h : a.le b) {n : Nat} {p : Addr} (e : a.α[n]? = some p) : b.α[n]? = some p := by
  obtain ⟨⟨r, f⟩, _⟩ := h
  rw [f, List.getElem?_append_left]
  · exact e
  · exact (List.getElem?_eq_some_iff.mp e).1

/-- a table of code objects, a code object -/
def IsTE (o : HO) : Prop := (∃ ps, o = .tbl ps) ∨ ∃ φ, o = .ext φ
/-- a step of the small interpreter, seen from the heap: more is frozen, more is stored; what is tracked and neither frozen nor stored stays as it is -/
structure Stp (a : Abs) (H : Hp) (b : Abs) (H' : Hp) : Prop where
  le : a.le b
  dom : ∀ p, H' p = none → H p = none
  frame : ∀ p o, H p = some o → a.G p = none → p ∉ a.α → ¬ IsTE o → H' p = some o ∧ b.G p = none ∧ p ∉ b.α
  tl : ∀ p o, H p = some o → IsTE o → ∃ o', H' p = some o' ∧ IsTE o'
theorem Stp.refl (a : Abs) (H : Hp) : Stp a H a H := ⟨a.le_refl, fun _ h => h, fun p o h g n _ => ⟨h, g, n⟩, fun p o h t => ⟨o, h, t⟩⟩
theorem Stp.trans {a b c : Abs} {H H1 H2 : Hp} (h : Stp a H b H1) (g : Stp b H1 c H2) : Stp a H c H2 :=
  ⟨h.le.trans g.le, fun p e => h.dom p (g.dom p e), fun p o e1 e2 e3 nt => let ⟨x, y, z⟩ := h.frame p o e1 e2 e3 nt; g.frame p o x y z nt, fun p o e t => let ⟨o1, e1, t1⟩ := h.tl p o e t; g.tl p o1 e1 t1⟩
instance {a b : Abs} {H H' : Hp} : CoeOut (Stp a H b H') (a.le b) := ⟨Stp.le⟩
def toKey : D → Option Key
  | .str s => some (.inr s)
  | .int i => some (.inl i)
  | _ => none
def toKeyT : D → Option (List Key)
  | .key l => l.mapM fun d => match d with | .str s => some (Sum.inr s) | .int i => some (Sum.inl i) | _ => none
  | _ => none
/-- a tuple that is tracked with its record, or an empty one of the text -/
def TupAt (K : PySem.W.Frag) (G : Hp) (p : Addr) (vs : List V) : Prop := (∃ o, TObj o ∧ G p = some (.frz o (.tup vs))) ∨ (vs = [] ∧ SqT K G p [])
/-- a dict at p with these keys and values; t: its keys are tuples -/
def DcAt (G : Hp) (p : Addr) (t : Bool) (ks : List D) (ws : List V) : Prop :=
  match t with
  | false => ∃ xs, G p = some (.dK (xs.zip ws)) ∧ ks.mapM toKey = some xs
  | true => ∃ xs, G p = some (.dT (xs.zip ws)) ∧ ks.mapM toKeyT = some xs
theorem DcAt.imp {G G' : Hp} {p : Addr} {t : Bool} {ks : List D} {ws : List V} (h : DcAt G p t ks ws) (g : ∀ o, G p = some o → G' p = some o) : DcAt G' p t ks ws := by
  cases t with
  | false => obtain ⟨xs, e, m⟩ := h; exact ⟨xs, g _ e, m⟩
  | true => obtain ⟨xs, e, m⟩ := h; exact ⟨xs, g _ e, m⟩
theorem DcAt.there {G : Hp} {p : Addr} {t : Bool} {ks : List D} {ws : List V} (h : DcAt G p t ks ws) : ∃ o, G p = some o ∧ ∀ q, o ≠ .own q := by
  cases t with
  | false => obtain ⟨xs, e, m⟩ := h; exact ⟨_, e, fun _ z => by cases z⟩
  | true => obtain ⟨xs, e, m⟩ := h; exact ⟨_, e, fun _ z => by cases z⟩
theorem DcAt.noT {G : Hp} {p : Addr} {t : Bool} {ks : List D} {ws : List V} {o : HO} (h : DcAt G p t ks ws) (e : G p = some o) : ∀ ps, o ≠ .tbl ps := fun ps z => by
  subst z
  cases t with
  | false => obtain ⟨xs, e2, m⟩ := h; rw [e] at e2; cases e2
  | true => obtain ⟨xs, e2, m⟩ := h; rw [e] at e2; cases e2
theorem DcAt.of {G : Hp} {p : Addr} {t : Bool} {ks : List D} {ws : List V} {o : HO} (h : DcAt G p t ks ws) (e : G p = some o) {G' : Hp} (e' : G' p = some o) : DcAt G' p t ks ws :=
  h.imp fun u hu => by rw [e] at hu; rw [e']; exact hu
/-- a text that the model takes: its signs, its length -/
def strG (s : Str) : Bool := PyData.strOk s && decide ((sL s).length ≤ sizeLn)
theorem strG.ok {s : Str} (h : strG s = true) : PyData.strOk s = true := (Bool.and_eq_true_iff.mp h).1
theorem strG.len {s : Str} (h : strG s = true) : (sL s).length ≤ sizeLn := of_decide_eq_true (Bool.and_eq_true_iff.mp h).2
theorem strG.of {s : Str} (h : PyData.strOk s = true) (g : (sL s).length ≤ sizeLn) : strG s = true := Bool.and_eq_true_iff.mpr ⟨h, decide_eq_true g⟩
/-- an exception's own dict -/
def XdAt (T : Tab) (G : Hp) (ns : List Nat) (ws : List V) (dd : Option Addr) : Prop := (∃ q, dd = some q ∧ G q = some (.xd ((ns.map T.an).zip ws))) ∨ (ns = [] ∧ dd = none)
theorem XdAt.imp {T : Tab} {G G' : Hp} {ns : List Nat} {ws : List V} {dd : Option Addr} (h : XdAt T G ns ws dd) (g : ∀ p o, G p = some o → G' p = some o) : XdAt T G' ns ws dd := by
  rcases h with ⟨q, e, h⟩ | h
  · exact .inl ⟨q, e, g _ _ h⟩
  · exact .inr h
/-- at p: an exception held as a value -/
def XO (cls : Value) (dd : Option Addr) (p : Addr) : HO := .ext fun h => ∃ (oe : Obj) (vs : Array Value), h.get? p = some oe ∧ oe.cls = cls ∧ oe.dict = dd ∧ oe.data = .fields vs
section
variable (T : Tab) (K : PySem.W.Frag) (a : Abs)
mutual
def Rep : D → V → Prop
  | .non, v => v = .non
  | .bl b, v => v = .bl b
  | .int i, v => v = .int i
  | .str s, v => v = .str s ∧ strG s = true
  | .tup l, v => ∃ p vs, v = .ref p ∧ TupAt K a.G p vs ∧ Reps l vs
  | .key l, v => ∃ p vs, v = .ref p ∧ a.G p = some (.tup vs) ∧ Reps l vs
  | .lst l, v => ∃ p vs, v = .ref p ∧ a.G p = some (.lst vs) ∧ Reps l vs
  | .rol l, v => ∃ p vs, v = .ref p ∧ SqL K a.G p vs ∧ Reps l vs
  | .dct t ks vs, v => ∃ p ws, v = .ref p ∧ Reps vs ws ∧ ks.length = ws.length ∧ DcAt a.G p t ks ws
  | .ins c ns fs, v => ∃ p dx ws, v = .ref p ∧ a.G p = some (.ins (T.ca c) dx ((ns.map T.an).zip ws)) ∧ a.G dx = some (.own p) ∧ ns.length = ws.length ∧ Reps fs ws
  | .exc _ _ _, _ => False
  | .cls c, v => v = .ref (T.ca c)
  | .fn f, v => v = .ref (T.fa f)
  | .clo _ _, _ => False
  | .xv c ns fs, v => ∃ p dd ws, v = .ref p ∧ a.G p = some (XO (.ref (T.ca c)) dd p) ∧ ns.length = ws.length ∧ XdAt T a.G ns ws dd ∧ Reps fs ws
  | .obj n, v => ∃ p, a.α[n]? = some p ∧ v = .ref p
def Reps : List D → List V → Prop
  | [], vs => vs = []
  | d :: l, vs => ∃ v ws, vs = v :: ws ∧ Rep d v ∧ Reps l ws
end
end
section
variable {T : Tab} {K : PySem.W.Frag} {a b : Abs}
theorem SqT.mono (h : a.le b) {p : Addr} {vs : List V} (x : SqT K a.G p vs) : SqT K b.G p vs := by
  rcases x with (x | ⟨o, x⟩) | x
  · exact .inl (.inl (h.fr _ _ x))
  · exact .inl (.inr ⟨o, h.fr _ _ x⟩)
  · exact .inr x
theorem TupAt.mono (h : a.le b) {p : Addr} {vs : List V} (x : TupAt K a.G p vs) : TupAt K b.G p vs := by
  rcases x with ⟨o, t, x⟩ | ⟨rfl, x⟩
  · exact .inl ⟨o, t, h.fr _ _ x⟩
  · exact .inr ⟨rfl, SqT.mono h x⟩
theorem TupAt.sq {G : Hp} {p : Addr} {vs : List V} (x : TupAt K G p vs) : SqT K G p vs := by
  rcases x with ⟨o, t, x⟩ | ⟨rfl, x⟩
  · exact .inl (.inr ⟨o, x⟩)
  · exact x
theorem SqL.mono (h : a.le b) {p : Addr} {vs : List V} (x : SqL K a.G p vs) : SqL K b.G p vs := by
  rcases x with (x | ⟨o, x⟩) | x
  · exact .inl (.inl (h.fr _ _ x))
  · exact .inl (.inr ⟨o, h.fr _ _ x⟩)
  · exact .inr x
mutual
theorem Rep.mono (h : a.le b) : ∀ (d : D) (v : V), Rep T K a d v → Rep T K b d v
  | .non, _, x => by simpa only [Rep] using x
  | .bl _, _, x => by simpa only [Rep] using x
  | .int _, _, x => by simpa only [Rep] using x
  | .str _, _, x => by simpa only [Rep] using x
  | .tup l, _, x => by
    simp only [Rep] at x ⊢
    obtain ⟨p, vs, e, s, r⟩ := x
    exact ⟨p, vs, e, TupAt.mono h s, Reps.mono h l vs r⟩
  | .key l, _, x => by
    simp only [Rep] at x ⊢
    obtain ⟨p, vs, e, s, r⟩ := x
    exact ⟨p, vs, e, h.fr _ _ s, Reps.mono h l vs r⟩
  | .lst l, _, x => by
    simp only [Rep] at x ⊢
    obtain ⟨p, vs, e, s, r⟩ := x
    exact ⟨p, vs, e, h.fr _ _ s, Reps.mono h l vs r⟩
  | .rol l, _, x => by
    simp only [Rep] at x ⊢
    obtain ⟨p, vs, e, s, r⟩ := x
    exact ⟨p, vs, e, SqL.mono h s, Reps.mono h l vs r⟩
  | .dct t ks vs, _, x => by
    simp only [Rep] at x ⊢
    obtain ⟨p, ws, e, r, hl, s⟩ := x
    exact ⟨p, ws, e, Reps.mono h vs ws r, hl, s.imp fun o g => h.fr _ _ g⟩
  | .ins c ns fs, _, x => by
    simp only [Rep] at x ⊢
    obtain ⟨p, dx, ws, e, g, g2, hl, r⟩ := x
    exact ⟨p, dx, ws, e, h.fr _ _ g, h.fr _ _ g2, hl, Reps.mono h fs ws r⟩
  | .exc _ _ _, _, x => by simp only [Rep] at x
  | .cls _, _, x => by simpa only [Rep] using x
  | .fn _, _, x => by simpa only [Rep] using x
  | .clo _ _, _, x => by simp only [Rep] at x
  | .xv c ns fs, _, x => by
    simp only [Rep] at x ⊢
    obtain ⟨p, dd, ws, e, g, hl, hx, r⟩ := x
    exact ⟨p, dd, ws, e, h.fr _ _ g, hl, hx.imp h.fr, Reps.mono h fs ws r⟩
  | .obj n, _, x => by
    simp only [Rep] at x ⊢
    obtain ⟨p, e, f⟩ := x
    exact ⟨p, h.at e, f⟩
theorem Reps.mono (h : a.le b) : ∀ (l : List D) (vs : List V), Reps T K a l vs → Reps T K b l vs
  | [], _, x => by simpa only [Reps] using x
  | d :: l, _, x => by
    simp only [Reps] at x ⊢
    obtain ⟨v, ws, e, r, rs⟩ := x
    exact ⟨v, ws, e, Rep.mono h d v r, Reps.mono h l ws rs⟩
end
theorem Reps.nil : Reps T K a [] [] := by simp only [Reps]
theorem Reps.cons {d : D} {l : List D} {v : V} {ws : List V} (r : Rep T K a d v) (rs : Reps T K a l ws) : Reps T K a (d :: l) (v :: ws) := by
  simp only [Reps]; exact ⟨v, ws, rfl, r, rs⟩
theorem Reps.inv {d : D} {l : List D} {vs : List V} (r : Reps T K a (d :: l) vs) : ∃ v ws, vs = v :: ws ∧ Rep T K a d v ∧ Reps T K a l ws := by
  simpa only [Reps] using r
theorem Reps.inv0 {vs : List V} (r : Reps T K a [] vs) : vs = [] := by simpa only [Reps] using r
theorem Reps.length : ∀ {l : List D} {vs : List V}, Reps T K a l vs → l.length = vs.length
  | [], _, r => by rw [r.inv0]; rfl
  | d :: l, _, r => by
    obtain ⟨v, ws, rfl, _, q⟩ := r.inv
    simp [Reps.length q]
theorem Reps.append : ∀ {l m : List D} {vs ws : List V}, Reps T K a l vs → Reps T K a m ws → Reps T K a (l ++ m) (vs ++ ws)
  | [], _, _, _, r, q => by rw [r.inv0]; exact q
  | d :: l, m, _, ws, r, q => by
    obtain ⟨v, us, rfl, r1, r2⟩ := r.inv
    exact Reps.cons r1 (Reps.append r2 q)
theorem Reps.get : ∀ {l : List D} {vs : List V} {i : Nat} {d : D}, Reps T K a l vs → l[i]? = some d → ∃ v, vs[i]? = some v ∧ Rep T K a d v
  | [], _, _, _, _, e => by simp at e
  | d :: l, _, 0, _, r, e => by
    obtain ⟨v, us, rfl, r1, r2⟩ := r.inv
    simp at e; subst e
    exact ⟨v, by simp, r1⟩
  | d :: l, _, i + 1, _, r, e => by
    obtain ⟨v, us, rfl, r1, r2⟩ := r.inv
    obtain ⟨w, h1, h2⟩ := Reps.get (i := i) r2 (by simpa using e)
    exact ⟨w, by simpa using h1, h2⟩
theorem Reps.getV : ∀ {l : List D} {vs : List V} {i : Nat} {v : V}, Reps T K a l vs → vs[i]? = some v → ∃ d, l[i]? = some d ∧ Rep T K a d v
  | [], _, _, _, r, e => by rw [r.inv0] at e; simp at e
  | d :: l, _, 0, _, r, e => by
    obtain ⟨v, us, rfl, r1, r2⟩ := r.inv
    simp at e; subst e
    exact ⟨d, by simp, r1⟩
  | d :: l, _, i + 1, _, r, e => by
    obtain ⟨v, us, rfl, r1, r2⟩ := r.inv
    obtain ⟨w, h1, h2⟩ := Reps.getV (i := i) r2 (by simpa using e)
    exact ⟨w, by simpa using h1, h2⟩
theorem Reps.take : ∀ {l : List D} {vs : List V} (n : Nat), Reps T K a l vs → Reps T K a (l.take n) (vs.take n)
  | [], _, n, r => by rw [r.inv0]; simp; exact Reps.nil
  | d :: l, _, 0, r => by simp; exact Reps.nil
  | d :: l, _, n + 1, r => by
    obtain ⟨v, us, rfl, r1, r2⟩ := r.inv
    simpa using Reps.cons r1 (Reps.take n r2)
theorem Reps.drop : ∀ {l : List D} {vs : List V} (n : Nat), Reps T K a l vs → Reps T K a (l.drop n) (vs.drop n)
  | [], _, n, r => by rw [r.inv0]; simp; exact Reps.nil
  | d :: l, _, 0, r => by simpa using r
  | d :: l, _, n + 1, r => by
    obtain ⟨v, us, rfl, r1, r2⟩ := r.inv
    simpa using Reps.drop n r2
theorem Reps.reverse : ∀ {l : List D} {vs : List V}, Reps T K a l vs → Reps T K a l.reverse vs.reverse
  | [], _, r => by rw [r.inv0]; exact Reps.nil
  | d :: l, _, r => by
    obtain ⟨v, us, rfl, r1, r2⟩ := r.inv
    simpa using Reps.append (Reps.reverse r2) (Reps.cons r1 Reps.nil)
theorem Reps.set : ∀ {l : List D} {vs : List V} {d : D} {v : V} (n : Nat), Reps T K a l vs → Rep T K a d v → Reps T K a (l.set n d) (vs.set n v)
  | [], _, _, _, n, r, _ => by rw [r.inv0]; exact Reps.nil
  | e :: l, _, _, _, 0, r, q => by
    obtain ⟨v, us, rfl, r1, r2⟩ := r.inv
    exact Reps.cons q r2
  | e :: l, _, _, _, n + 1, r, q => by
    obtain ⟨v, us, rfl, r1, r2⟩ := r.inv
    exact Reps.cons r1 (Reps.set n r2 q)
end

section
variable (T : Tab) (K : PySem.W.Frag) (a : Abs)
/-- an object of the store at p -/
def ObRep (H : Hp) (p : Addr) : Ob → Prop
  | .lst l => ∃ vs, H p = some (.lst vs) ∧ Reps T K a l vs
  | .dct t ks vs => ∃ ws, Reps T K a vs ws ∧ ks.length = ws.length ∧ DcAt H p t ks ws
  | .ins c ns fs => ∃ dx ws, H p = some (.ins (T.ca c) dx ((ns.map T.an).zip ws)) ∧ H dx = some (.own p) ∧ a.G dx = none ∧ ns.length = ws.length ∧ Reps T K a fs ws
/-- the frozen part and the store lie in the heap -/
structure HolM (μ : Mem) (H : Hp) : Prop where
  le : ∀ p o, a.G p = some o → H p = some o
  len : μ.length = a.α.length
  nd : a.α.Nodup
  st : ∀ (n : Nat) (p : Addr) (ob : Ob), a.α[n]? = some p → (μ : List Ob)[n]? = some ob → a.G p = none ∧ ObRep T K a H p ob
  ow : ∀ q p, H q = some (.own p) → H p ≠ none
  tb : LamX.Tabs T.tbs H
  tb2 : ∀ q ∈ T.tbs, a.G q.1 = none
/-- a slot's value: exceptions and lambdas stand in slots alone -/
def EnvAt (i : Nat) (d : D) (v : V) : Prop := match d with
  | .exc c ns vs => ∃ p dd ws, T.ex = some (i, p, .ref (T.ca c), dd) ∧ v = .ref p ∧ ns.length = ws.length ∧ XdAt T a.G ns ws dd ∧ Reps T K a vs ws
  | .clo k l => ∃ p c q σ, T.clo = some (p, c, q, k, σ) ∧ v = .ref p ∧ a.G c = some (LamX.CodeO c q) ∧ l.length = σ.length ∧ ∀ j e, getE l j = some e → ∃ w, σ[j]? = some (some w) ∧ Rep T K a e w
  | d => Rep T K a d v
/-- .. and the names' values in the slots -/
structure Hol (ρ : Env) (μ : Mem) (σ : L2.St) (H : Hp) : Prop where
  m : HolM T K a μ H
  len : ρ.length = σ.length
  env : ∀ (i : Nat) (d : D), getE ρ i = some d → ∃ v, σ[i]? = some (some v) ∧ EnvAt T K a i d v
end
/-- what is wished of an exception: its class, its dict -/
def Kx (T : Tab) (K : PySem.W.Frag) (a : Abs) (H : Hp) (ρ : Env) (σ : L2.St) (W : WX) : D → Mem → Prop := fun x μ => ∃ c ns vs, x = .exc c ns vs ∧
  ∀ b dd ws H', Stp a H b H' → Hol T K b ρ μ σ H' → Reps T K b vs ws → ns.length = ws.length → XdAt T b.G ns ws dd → W (.ref (T.ca c)) dd σ H'
theorem Kx.mono {T : Tab} {K : PySem.W.Frag} {a b : Abs} {H H' : Hp} {ρ : Env} {σ : L2.St} {W : WX} (h : Stp a H b H') {x : D} {μ : Mem} (k : Kx T K a H ρ σ W x μ) : Kx T K b H' ρ σ W x μ := by
  obtain ⟨c, ns, vs, e, k⟩ := k
  exact ⟨c, ns, vs, e, fun b dd ws H2 st ho rv hl hd => k b dd ws H2 (h.trans st) ho rv hl hd⟩
/-- no exception -/
def Wn : WX := fun _ _ _ _ => False

/-- the calls of one level less -/
def Tab.C (T : Tab) (n : Nat) : Cal := ⟨calD T.P T.reprS n, lamD T.P T.reprS n⟩
section
variable (T : Tab) (n : Nat) (K : PySem.W.Frag) (W : WX)
/-- the reading of an expression by the small interpreter -/
def tE (e : E) : TE := fun σ H Q => ∃ a ρ μ, Hol T K a ρ μ σ H ∧ WpR (evE T.P (T.C n) T.reprS e ρ μ) (fun d μ' => ∀ b v H', Stp a H b H' → Hol T K b ρ μ' σ H' → Rep T K b d v → Q v H') (Kx T K a H ρ σ W)
/-- a new list or dict, by its content; H0: the heap ahead of it -/
def Fresh (H0 : Hp) (a : Abs) (H : Hp) (d : D) (v : V) : Prop :=
  match d with
  | .lst l => ∃ p vs, v = .ref p ∧ H p = some (.lst vs) ∧ H0 p = none ∧ a.G p = none ∧ p ∉ a.α ∧ Reps T K a l vs
  | .dct t ks ds => ∃ p ws, v = .ref p ∧ H0 p = none ∧ a.G p = none ∧ p ∉ a.α ∧ Reps T K a ds ws ∧ ks.length = ws.length ∧ DcAt H p t ks ws
  | d => Rep T K a d v
/-- .. of one that makes a new list or dict -/
def tF (e : E) : TE := fun σ H Q => ∃ a ρ μ, Hol T K a ρ μ σ H ∧ WpR (evE T.P (T.C n) T.reprS e ρ μ) (fun d μ' => ∀ b v H', Stp a H b H' → Hol T K b ρ μ' σ H' → Fresh T K H b H' d v → Q v H') (Kx T K a H ρ σ W)
def tT (e : E) : TT := fun σ H Q => ∃ a ρ μ, Hol T K a ρ μ σ H ∧ WpR (evE T.P (T.C n) T.reprS e ρ μ) (fun d μ' => ∃ c, tru d = some c ∧ ∀ b H', Stp a H b H' → Hol T K b ρ μ' σ H' → Q c H') (Kx T K a H ρ σ W)
def tEs (es : Es) : TA := fun σ H Q => ∃ a ρ μ, Hol T K a ρ μ σ H ∧ WpR (evEs T.P (T.C n) T.reprS es ρ μ) (fun l μ' => ∀ b vs H', Stp a H b H' → Hol T K b ρ μ' σ H' → Reps T K b l vs → Q vs H') (Kx T K a H ρ σ W)
end

section
variable {T : Tab} {K : PySem.W.Frag} {a b : Abs} {ρ : Env} {μ : Mem} {σ : L2.St} {H : Hp}
theorem EnvAt.mono {i : Nat} {d : D} {v : V} (h : a.le b) (x : EnvAt T K a i d v) : EnvAt T K b i d v := by
  unfold EnvAt at x ⊢
  split at x
  · obtain ⟨p, dd, ws, e, ev, hl, hx, r⟩ := x
    exact ⟨p, dd, ws, e, ev, hl, hx.imp h.fr, Reps.mono h _ _ r⟩
  · obtain ⟨p, c, q, σ, e, ev, hc, hl, r⟩ := x
    exact ⟨p, c, q, σ, e, ev, h.fr _ _ hc, hl, fun j e he => let ⟨w, e1, r1⟩ := r j e he; ⟨w, e1, Rep.mono h _ _ r1⟩⟩
  · exact Rep.mono h _ _ x
theorem EnvAt.rep {i : Nat} {d : D} {v : V} (x : EnvAt T K a i d v) (h : isSp d = false) : Rep T K a d v := by
  cases d <;> first | (simp [isSp] at h; done) | exact x
theorem EnvAt.of {i : Nat} {d : D} {v : V} (x : Rep T K a d v) : EnvAt T K a i d v := by
  cases d <;> first | exact x | (simp only [Rep] at x)
theorem Hol.get (h : Hol T K a ρ μ σ H) {i : Nat} {d : D} (e : readV ρ i = some d) : ∃ v, σ[i]? = some (some v) ∧ Rep T K a d v := by
  unfold readV at e
  obtain ⟨d', e1, e2⟩ := Option.bind_eq_some_iff.mp e
  split at e2
  · cases e2
  · rename_i hs
    cases e2
    obtain ⟨v, e3, r⟩ := h.env i d e1
    exact ⟨v, e3, r.rep (by simpa using hs)⟩
theorem ObRep.there {p : Addr} {ob : Ob} (h : ObRep T K a H p ob) : ∃ o, H p = some o := by
  cases ob with
  | lst l => obtain ⟨vs, h, _⟩ := h; exact ⟨_, h⟩
  | dct t ks vs => obtain ⟨ws, _, _, h⟩ := h; obtain ⟨o, e, _⟩ := h.there; exact ⟨o, e⟩
  | ins c ns fs => obtain ⟨dx, ws, h, _⟩ := h; exact ⟨_, h⟩
/-- the same object in another heap, under more frozen ones -/
theorem ObRep.keep {H' : Hp} {p : Addr} {ob : Ob} (h : ObRep T K a H p ob) (le : a.le b) (k : ∀ q o, H q = some o → (q = p ∨ o = .own p) → H' q = some o) (g : ∀ q, a.G q = none → H q = some (.own p) → b.G q = none) : ObRep T K b H' p ob := by
  cases ob with
  | lst l => obtain ⟨vs, h, r⟩ := h; exact ⟨vs, k _ _ h (.inl rfl), Reps.mono le _ _ r⟩
  | dct t ks vs =>
    obtain ⟨ws, r, hl, h⟩ := h
    exact ⟨ws, Reps.mono le _ _ r, hl, h.imp fun o e => k _ _ e (.inl rfl)⟩
  | ins c ns fs =>
    obtain ⟨dx, ws, h, d, n, hl, r⟩ := h
    exact ⟨dx, ws, k _ _ h (.inl rfl), k _ _ d (.inr rfl), g _ n d, hl, Reps.mono le _ _ r⟩
/-- a new object is laid: it is frozen at once -/
theorem ow_upd (ow : ∀ q p, H q = some (.own p) → H p ≠ none) {p : Addr} {o : HO} (hw : ∀ q, o ≠ .own q) : ∀ q r, upd H p o q = some (.own r) → upd H p o r ≠ none := fun q r e => by
  have hq : q ≠ p := by rintro rfl; rw [upd_same] at e; exact hw _ (Option.some.inj e)
  rw [upd_ne hq] at e
  by_cases hr : r = p
  · subst hr; rw [upd_same]; simp
  · rw [upd_ne hr]; exact ow q r e
theorem Tabs.keep {Tb : List (Addr × Str)} {H H' : Hp} (t : LamX.Tabs Tb H) (e : ∀ b o, H b = some o → ((∃ ps, o = .tbl ps) ∨ ∃ φ, o = .ext φ) → H' b = some o) : LamX.Tabs Tb H' := fun p hp => by
  obtain ⟨ps, h1, h2, h3⟩ := t p hp
  refine ⟨ps, e _ _ h1 (.inl ⟨_, rfl⟩), h2, fun pos cv hc => ?_⟩
  obtain ⟨c, e1, e2⟩ := h3 pos cv hc
  exact ⟨c, e1, e _ _ e2 (.inr ⟨_, rfl⟩)⟩
theorem HolM.freeze (h : HolM T K a μ H) {p : Addr} {o : HO} (hn : H p = none) (hw : ∀ q, o ≠ .own q := by intro q z; cases z) : HolM T K ⟨a.α, upd a.G p o⟩ μ (upd H p o) ∧ Stp a H ⟨a.α, upd a.G p o⟩ (upd H p o) := by
  have gn : a.G p = none := by
    cases e : a.G p with
    | none => rfl
    | some u => rw [h.le _ _ e] at hn; cases hn
  have le : a.le ⟨a.α, upd a.G p o⟩ := ⟨⟨[], by simp⟩, fun q u e => by
    show upd a.G p o q = _
    rw [upd_ne (ne_of_none e gn)]; exact e⟩
  refine ⟨⟨fun q u e => ?_, h.len, h.nd, fun n q ob e1 e2 => ?_, ow_upd h.ow hw, h.tb.ext (fun b o e => by rw [upd_ne (ne_of_none e hn)]; exact e), fun q hq => by
    obtain ⟨ps, e, _⟩ := h.tb q hq
    exact (upd_ne (ne_of_none e hn)).trans (h.tb2 q hq)⟩, le, fun q e => ?_, fun q u e1 e2 e3 _ => ?_, fun q o2 e t => ⟨o2, by rw [upd_ne (ne_of_none e hn)]; exact e, t⟩⟩
  rotate_left 2
  · by_cases hq : q = p
    · subst hq; exact hn
    · rw [upd_ne hq] at e; exact e
  · have hq : q ≠ p := ne_of_none e1 hn
    exact ⟨by rw [upd_ne hq]; exact e1, (upd_ne hq).trans e2, e3⟩
  · by_cases hq : q = p
    · subst hq
      rw [show (Abs.mk a.α (upd a.G q o)).G q = some o from upd_same] at e
      rw [upd_same]; exact e
    · rw [show (Abs.mk a.α (upd a.G p o)).G q = a.G q from upd_ne hq] at e
      rw [upd_ne hq]; exact h.le _ _ e
  · obtain ⟨g, r⟩ := h.st n q ob e1 e2
    obtain ⟨u, hu⟩ := r.there
    have hq : q ≠ p := ne_of_none hu hn
    refine ⟨(upd_ne hq).trans g, r.keep le (fun x u e _ => by rw [upd_ne (ne_of_none e hn)]; exact e) fun x e1 e2 => (upd_ne (ne_of_none e2 hn)).trans e1⟩
theorem Hol.to (h : Hol T K a ρ μ σ H) {μ' : Mem} {H' : Hp} (le : a.le b) (m : HolM T K b μ' H') : Hol T K b ρ μ' σ H' :=
  ⟨m, h.len, fun i d e => let ⟨v, e1, r⟩ := h.env i d e; ⟨v, e1, r.mono le⟩⟩
theorem Hol.freeze (h : Hol T K a ρ μ σ H) {p : Addr} {o : HO} (hn : H p = none) (hw : ∀ q, o ≠ .own q := by intro q z; cases z) : Hol T K ⟨a.α, upd a.G p o⟩ ρ μ σ (upd H p o) ∧ Stp a H ⟨a.α, upd a.G p o⟩ (upd H p o) :=
  let ⟨m, le⟩ := h.m.freeze hn hw
  ⟨h.to le.le m, le⟩
/-- an unowned object that stands already is frozen -/
theorem HolM.freezeAt (h : HolM T K a μ H) {p : Addr} {o : HO} (ho : H p = some o) (gn : a.G p = none) (hp : p ∉ a.α) (hw : ∀ q, o ≠ .own q) (hw2 : ∀ ps, o ≠ .tbl ps) : HolM T K ⟨a.α, upd a.G p o⟩ μ H ∧ a.le ⟨a.α, upd a.G p o⟩ := by
  have le : a.le ⟨a.α, upd a.G p o⟩ := ⟨⟨[], by simp⟩, fun q u e => by
    show upd a.G p o q = _
    rw [upd_ne (ne_of_none e gn)]; exact e⟩
  refine ⟨⟨fun q u e => ?_, h.len, h.nd, fun n q ob e1 e2 => ?_, h.ow, h.tb, fun q hq => by
    obtain ⟨ps, e, _⟩ := h.tb q hq
    have hne : q.1 ≠ p := fun z => by rw [z, ho] at e; exact hw2 ps (Option.some.inj e)
    exact (upd_ne hne).trans (h.tb2 q hq)⟩, le⟩
  · by_cases hq : q = p
    · subst hq
      rw [show (Abs.mk a.α (upd a.G q o)).G q = some o from upd_same] at e
      cases e; exact ho
    · rw [show (Abs.mk a.α (upd a.G p o)).G q = a.G q from upd_ne hq] at e
      exact h.le _ _ e
  · obtain ⟨g, r⟩ := h.st n q ob e1 e2
    have hq : q ≠ p := fun e => hp (e ▸ List.mem_of_getElem? e1)
    refine ⟨(upd_ne hq).trans g, r.keep le (fun x u e _ => e) fun x e1 e2 => ?_⟩
    have hx : x ≠ p := by
      rintro rfl
      rw [ho] at e2; exact hw _ (Option.some.inj e2)
    exact (upd_ne hx).trans e1
theorem Stp.freezeAt {a0 : Abs} {H0 : Hp} (s : Stp a0 H0 a H) {p : Addr} {o : HO} (h0 : H0 p = none) (le : a.le ⟨a.α, upd a.G p o⟩) : Stp a0 H0 ⟨a.α, upd a.G p o⟩ H :=
  ⟨s.le.trans le, s.dom, fun q u e1 e2 e3 nt => let ⟨x, y, z⟩ := s.frame q u e1 e2 e3 nt; ⟨x, (upd_ne (ne_of_none e1 h0)).trans y, z⟩, s.tl⟩
/-- a further object is laid -/
theorem Stp.lay {a0 : Abs} {H0 : Hp} (s : Stp a0 H0 a H) {p : Addr} {o : HO} (hp : H p = none) : Stp a0 H0 a (upd H p o) := by
  refine ⟨s.le, fun q e => s.dom q ?_, fun q u e1 e2 e3 nt => ?_, fun q o2 e t => let ⟨o1, e1, t1⟩ := s.tl q o2 e t; ⟨o1, by rw [upd_ne (ne_of_none e1 hp)]; exact e1, t1⟩⟩
  · by_cases hq : q = p
    · subst hq; exact hp
    · rw [upd_ne hq] at e; exact e
  · obtain ⟨x, y, z⟩ := s.frame q u e1 e2 e3 nt
    exact ⟨by rw [upd_ne (ne_of_none x hp)]; exact x, y, z⟩
theorem Fresh.pre {H0 H1 H' : Hp} (dom : ∀ p, H1 p = none → H0 p = none) {d : D} {v : V} (f : Fresh T K H1 b H' d v) : Fresh T K H0 b H' d v := by
  cases d with
  | lst l =>
    obtain ⟨p, vs, rfl, hp, h0, r⟩ := f
    exact ⟨p, vs, rfl, hp, dom _ h0, r⟩
  | dct t ks ds =>
    obtain ⟨p, ws, rfl, h0, r⟩ := f
    exact ⟨p, ws, rfl, dom _ h0, r⟩
  | _ => exact f
theorem Fresh.freeze {a0 : Abs} {H0 : Hp} (s : Stp a0 H0 a H) (h : HolM T K a μ H) {d : D} {v : V} (f : Fresh T K H0 a H d v) : ∃ b, a.le b ∧ Stp a0 H0 b H ∧ HolM T K b μ H ∧ Rep T K b d v := by
  cases d with
  | lst l =>
    obtain ⟨p, vs, rfl, hp, h0, g, n, r⟩ := f
    obtain ⟨m, le⟩ := h.freezeAt hp g n (fun _ z => by cases z) (fun _ z => by cases z)
    exact ⟨_, le, s.freezeAt h0 le, m, by simp only [Rep]; exact ⟨p, vs, rfl, upd_same, Reps.mono le _ _ r⟩⟩
  | dct t ks ds =>
    obtain ⟨p, ws, rfl, h0, g, n, r, hl, hd⟩ := f
    obtain ⟨o, e, hw⟩ := hd.there
    obtain ⟨m, le⟩ := h.freezeAt e g n hw (hd.noT e)
    exact ⟨_, le, s.freezeAt h0 le, m, by simp only [Rep]; exact ⟨p, ws, rfl, Reps.mono le _ _ r, hl, hd.of e upd_same⟩⟩
  | _ => exact ⟨a, a.le_refl, s, h, f⟩
end

section
variable (T : Tab) (n : Nat) (X : Cx) (W : WX)
abbrev SE (x : Expr) (e : E) : Prop := PE X x (tE T n X.K W e)
abbrev SF (x : Expr) (e : E) : Prop := PE X x (tF T n X.K W e)
abbrev ST (x : Expr) (e : E) : Prop := PT X x (tT T n X.K W e)
abbrev SA (x : List Expr) (e : Es) : Prop := PA X x (tEs T n X.K W e)
end
section
variable {T : Tab} {n : Nat} {X : Cx} {W : WX}
theorem SF.se {x : Expr} {e : E} (h : SF T n X W x e) : SE T n X W x e := by
  refine ⟨fun pins s σ H Q I q => h.run pins s σ H Q I ?_⟩
  obtain ⟨a, ρ, μ, ho, q⟩ := q
  refine ⟨a, ρ, μ, ho, q.mono (fun d μ' k b v H' le ho' f => ?_) fun _ _ k => k⟩
  obtain ⟨c, le2, s2, m, r⟩ := f.freeze le ho'.m
  exact k c v H' s2 (ho'.to le2 m) r
end
end DI
end

section
set_option Elab.async false
set_option linter.all false
set_option maxRecDepth 100000
namespace DI
open PySem L2 PySem.Spec PyProof.Rows
theorem PE.imp {X : Cx} {x : Expr} {t t' : TE} (h : PE X x t) (g : ∀ σ H Q, t' σ H Q → t σ H Q) : PE X x t' := ⟨fun pins s σ H Q I q => h.run pins s σ H Q I (g σ H Q q)⟩
theorem PT.imp {X : Cx} {x : Expr} {t t' : TT} (h : PT X x t) (g : ∀ σ H Q, t' σ H Q → t σ H Q) : PT X x t' := ⟨fun pins s σ H Q I q => h.run pins s σ H Q I (g σ H Q q)⟩
theorem PW.imp {X : Cx} {x : Expr} {t t' : TT} (h : PW X x t) (g : ∀ σ H Q, t' σ H Q → t σ H Q) : PW X x t' := ⟨fun wh pins s σ H Q I q => h.run wh pins s σ H Q I (g σ H Q q)⟩
theorem PA.imp {X : Cx} {x : List Expr} {t t' : TA} (h : PA X x t) (g : ∀ σ H Q, t' σ H Q → t σ H Q) : PA X x t' := ⟨fun pos pins s σ H Q I q => h.run pos pins s σ H Q I (g σ H Q q)⟩

section
variable (T : Tab) (K : PySem.W.Frag) (a : Abs) (H : Hp)
def RdV : D → V → Prop
  | .lst l, v => ∃ p vs, v = .ref p ∧ H p = some (.lst vs) ∧ Reps T K a l vs
  | .rol l, v => ∃ p vs, v = .ref p ∧ SqL K H p vs ∧ Reps T K a l vs
  | .tup l, v => ∃ p vs, v = .ref p ∧ SqT K H p vs ∧ Reps T K a l vs
  | .key l, v => ∃ p vs, v = .ref p ∧ H p = some (.tup vs) ∧ Reps T K a l vs
  | .dct t ks ds, v => ∃ p ws, v = .ref p ∧ Reps T K a ds ws ∧ ks.length = ws.length ∧ DcAt H p t ks ws
  | .ins c ns fs, v => ∃ p dx ws, v = .ref p ∧ H p = some (.ins (T.ca c) dx ((ns.map T.an).zip ws)) ∧ H dx = some (.own p) ∧ ns.length = ws.length ∧ Reps T K a fs ws
  | d, v => Rep T K a d v
end
section
variable {T : Tab} {K : PySem.W.Frag} {a b : Abs} {H : Hp} {μ : Mem}
theorem SqT.up (le : ∀ p o, a.G p = some o → H p = some o) {p : Addr} {vs : List V} (x : SqT K a.G p vs) : SqT K H p vs := by
  rcases x with (x | ⟨o, x⟩) | x
  · exact .inl (.inl (le _ _ x))
  · exact .inl (.inr ⟨o, le _ _ x⟩)
  · exact .inr x
theorem SqL.up (le : ∀ p o, a.G p = some o → H p = some o) {p : Addr} {vs : List V} (x : SqL K a.G p vs) : SqL K H p vs := by
  rcases x with (x | ⟨o, x⟩) | x
  · exact .inl (.inl (le _ _ x))
  · exact .inl (.inr ⟨o, le _ _ x⟩)
  · exact .inr x
theorem HolM.at (m : HolM T K a μ H) {n : Nat} {p : Addr} (e : a.α[n]? = some p) : ∃ ob, μ[n]? = some ob ∧ a.G p = none ∧ ObRep T K a H p ob := by
  have h1 := (List.getElem?_eq_some_iff.mp e).1
  have h2 : n < μ.length := by rw [m.len]; exact h1
  obtain ⟨g, o⟩ := m.st n p μ[n] e (by simp [h2])
  exact ⟨μ[n], by simp [h2], g, o⟩
theorem rd_rep (m : HolM T K a μ H) : ∀ {d : D} {v : V}, Rep T K a d v → RdV T K a H (rd μ d) v
  | .non, _, r => r
  | .bl _, _, r => r
  | .int _, _, r => r
  | .str _, _, r => r
  | .tup l, _, r => by
    simp only [Rep] at r
    obtain ⟨p, vs, e, s, q⟩ := r
    exact ⟨p, vs, e, SqT.up m.le s.sq, q⟩
  | .key l, _, r => by
    simp only [Rep] at r
    obtain ⟨p, vs, e, s, q⟩ := r
    exact ⟨p, vs, e, m.le _ _ s, q⟩
  | .lst l, _, r => by
    simp only [Rep] at r
    obtain ⟨p, vs, e, s, q⟩ := r
    exact ⟨p, vs, e, m.le _ _ s, q⟩
  | .rol l, _, r => by
    simp only [Rep] at r
    obtain ⟨p, vs, e, s, q⟩ := r
    exact ⟨p, vs, e, SqL.up m.le s, q⟩
  | .dct t ks vs, _, r => by
    simp only [Rep] at r
    obtain ⟨p, ws, e, q, hl, s⟩ := r
    exact ⟨p, ws, e, q, hl, s.imp fun o g => m.le _ _ g⟩
  | .ins c ns fs, _, r => by
    simp only [Rep] at r
    obtain ⟨p, dx, ws, e, g, g2, hl, q⟩ := r
    exact ⟨p, dx, ws, e, m.le _ _ g, m.le _ _ g2, hl, q⟩
  | .exc _ _ _, _, r => by simp only [Rep] at r
  | .cls _, _, r => r
  | .fn _, _, r => r
  | .clo _ _, _, r => by simp only [Rep] at r
  | .xv _ _ _, _, r => r
  | .obj n, _, r => by
    simp only [Rep] at r
    obtain ⟨p, e, rfl⟩ := r
    obtain ⟨ob, e2, g, o⟩ := m.at e
    cases ob with
    | lst l =>
      obtain ⟨vs, h, q⟩ := o
      simp only [rd, e2]
      exact ⟨p, vs, rfl, h, q⟩
    | dct t ks ds =>
      obtain ⟨ws, q, hl, s⟩ := o
      simp only [rd, e2]
      exact ⟨p, ws, rfl, q, hl, s⟩
    | ins c ns fs =>
      obtain ⟨dx, ws, h, d, _, hl, q⟩ := o
      simp only [rd, e2]
      exact ⟨p, dx, ws, rfl, h, d, hl, q⟩
end

section
variable {T : Tab} {n : Nat} {X : Cx} {W : WX} {pos : Pos}
theorem se_v {i : Nat} {x : Str} (hN : X.N[i]? = some x) (hv : Vis X.env.scope x) (hd : (x == ("__debug__" : Str)) = false) (hcd : (x == ("__classdict__" : Str)) = false) : SE T n X W (.Name x pos) (.v i) := by
  refine PE.imp (pe_var hN hv hd hcd) fun σ H Q q => ?_
  obtain ⟨a, ρ, μ, ho, q⟩ := q
  simp only [evE] at q
  obtain ⟨d, e, k⟩ := q.of
  obtain ⟨v, e1, r⟩ := ho.get e
  exact ⟨v, e1, k a v H (Stp.refl _ _) ho r⟩
/-- a value known ahead: a constant, a class, a def -/
theorem se_c {x : Expr} {e : E} {v : V} {d : D} (h : PE X x (tC v)) (he : ∀ ρ μ, evE T.P (T.C n) T.reprS e ρ μ = .ok d μ) (r : ∀ a, Rep T X.K a d v) : SE T n X W x e := by
  refine PE.imp h fun σ H Q q => ?_
  obtain ⟨a, ρ, μ, ho, q⟩ := q
  rw [he] at q
  exact q a v H (Stp.refl _ _) ho (r a)
theorem se_int {i : Int} {j : Nat} : SE T n X W (.Constant (.int i) j pos) (.k (.int i)) := se_c (d := .int i) pe_int (fun _ _ => by simp only [evE]) fun a => by simp only [Rep]
theorem se_bl {b : Bool} {j : Nat} : SE T n X W (.Constant (.bool b) j pos) (.k (.bl b)) := se_c (d := .bl b) pe_bl (fun _ _ => by simp only [evE]) fun a => by simp only [Rep]
theorem se_non {j : Nat} : SE T n X W (.Constant .none j pos) (.k .non) := se_c (d := .non) pe_non (fun _ _ => by simp only [evE]) fun a => by simp only [Rep]
theorem se_str {s : Str} {j : Nat} (h : strG s = true) : SE T n X W (.Constant (.str s) j pos) (.k (.str s)) := se_c (d := .str s) pe_str (fun _ _ => by simp only [evE]) fun a => by simp only [Rep]; exact ⟨trivial, h⟩

theorem sa_nil : SA T n X W [] .n := by
  refine PA.imp pa_nil fun σ H Q q => ?_
  obtain ⟨a, ρ, μ, ho, q⟩ := q
  simp only [evEs] at q
  exact q a [] H (Stp.refl _ _) ho Reps.nil
theorem sa_cons {x : Expr} {xs : List Expr} {e : E} {es : Es} (h : SE T n X W x e) (hs : SA T n X W xs es) (hst : starEach (x :: xs) X.env = (false, eval x X.env) :: starEach xs X.env) : SA T n X W (x :: xs) (.c e es) := by
  refine PA.imp (pa_cons h hs hst) fun σ H Q q => ?_
  obtain ⟨a, ρ, μ, ho, q⟩ := q
  simp only [evEs] at q
  refine ⟨a, ρ, μ, ho, q.bind.mono (fun d μ1 q1 b v H1 le1 ho1 r1 => ?_) fun _ _ k => k⟩
  refine ⟨b, ρ, μ1, ho1, q1.bind.mono (fun l μ2 q2 c vs H2 le2 ho2 r2 => ?_) fun _ _ k => k.mono le1⟩
  exact q2 c (v :: vs) H2 (le1.trans le2) ho2 (Reps.cons (Rep.mono le2.le _ _ r1) r2)
end
/-- a display's items without stars -/
def Es.plain : Es → Bool
  | .n => true
  | .c (.star _) _ => false
  | .c _ r => r.plain
theorem evX_plain (P : Prog) (C : Cal) (rs : D → Option Str) : ∀ (es : Es) (ρ : Env) (μ : Mem), es.plain = true → evX P C rs es ρ μ = evEs P C rs es ρ μ
  | .n, ρ, μ, _ => by simp only [evX, evEs]
  | .c e r, ρ, μ, h => by
    have ih := fun ρ μ hp => evX_plain P C rs r ρ μ hp
    cases e
    case star => simp [Es.plain] at h
    all_goals (simp only [Es.plain] at h; simp only [evX, evEs, ih _ _ h])
section
variable {T : Tab} {n : Nat} {X : Cx} {W : WX} {pos : Pos}
theorem sizeLn_eq : sizeLn = sizeLine := by rw [sizeLine_eq]; rfl
theorem se_tup {xs : List Expr} {es : Es} {k : Nat} (hp : es.plain = true) (h : SA T n X W xs es) : SE T n X W (.Tuple xs k pos) (.tup es) := by
  refine PE.imp (pe_tupF h) fun σ H Q q => ?_
  obtain ⟨a, ρ, μ, ho, q⟩ := q
  simp only [evE, evX_plain _ _ _ _ _ _ hp] at q
  refine ⟨a, ρ, μ, ho, q.bind.mono (fun l μ1 q1 b vs H1 le1 ho1 r1 => ?_) fun _ _ k => k⟩
  split at q1
  · rename_i hl
    refine ⟨by rw [← r1.length, ← sizeLn_eq]; exact hl, fun p o ht hp => ?_⟩
    obtain ⟨ho2, le2⟩ := ho1.freeze (o := .frz o (.tup vs)) hp
    exact q1 _ _ _ (le1.trans le2) ho2 (by simp only [Rep]; exact ⟨p, vs, rfl, .inl ⟨o, ht, upd_same⟩, Reps.mono le2.le _ _ r1⟩)
  · exact q1.elim
theorem HolM.fresh (m : HolM T X.K a μ H) {p : Addr} (hp : H p = none) : a.G p = none ∧ p ∉ a.α := by
  refine ⟨?_, fun hm => ?_⟩
  · cases e : a.G p with
    | none => rfl
    | some u => rw [m.le _ _ e] at hp; cases hp
  · obtain ⟨i, e⟩ := List.mem_iff_getElem?.mp hm
    obtain ⟨ob, _, _, o⟩ := m.at e
    obtain ⟨u, hu⟩ := o.there
    rw [hp] at hu; cases hu
/-- a heap that only grows -/
theorem HolM.grow (m : HolM T X.K a μ H) {H' : Hp} (g : ∀ q u, H q = some u → H' q = some u) (ow : ∀ q p, H' q = some (.own p) → H' p ≠ none) : HolM T X.K a μ H' := by
  refine ⟨fun q u e => g _ _ (m.le _ _ e), m.len, m.nd, fun i q ob e1 e2 => ?_, ow, m.tb.ext g, m.tb2⟩
  obtain ⟨gn, r⟩ := m.st i q ob e1 e2
  exact ⟨gn, r.keep a.le_refl (fun x u e _ => g _ _ e) fun x e1 e2 => e1⟩
/-- an object that is new, untracked by the store and the frozen part -/
theorem HolM.lay (m : HolM T X.K a μ H) {p : Addr} {o : HO} (hp : H p = none) (hw : ∀ q, o ≠ .own q := by intro q z; cases z) : HolM T X.K a μ (upd H p o) :=
  m.grow (fun q u e => by rw [upd_ne (ne_of_none e hp)]; exact e) (ow_upd m.ow hw)
theorem sf_lst {xs : List Expr} {es : Es} (hp : es.plain = true) (h : SA T n X W xs es) : SF T n X W (.List xs pos) (.lst es) := by
  refine PE.imp (pe_lst h) fun σ H Q q => ?_
  obtain ⟨a, ρ, μ, ho, q⟩ := q
  simp only [evE, evX_plain _ _ _ _ _ _ hp] at q
  refine ⟨a, ρ, μ, ho, q.bind.mono (fun l μ1 q1 b vs H1 le1 ho1 r1 => ?_) fun _ _ k => k⟩
  split at q1
  · rename_i hl
    refine ⟨by rw [← r1.length, ← sizeLn_eq]; exact hl, fun p hp => ?_⟩
    obtain ⟨f1, f2⟩ := ho1.m.fresh hp
    exact q1 b _ _ (le1.lay hp) (ho1.to b.le_refl (ho1.m.lay hp)) ⟨p, vs, rfl, upd_same, le1.dom _ hp, f1, f2, r1⟩
  · exact q1.elim
end

end DI
end

section
set_option Elab.async false
set_option linter.all false
set_option maxRecDepth 100000
namespace DI
open PySem L2 PySem.Spec PyProof.Rows
def toOp : Bop → Operator
  | .add => .Add | .sub => .Sub | .mul => .Mult | .mod => .Mod | .fdv => .FloorDiv | .pow => .Pow | .shl => .LShift
/-- a step by values: from what is read to a value; the store is as it was -/
def rV2 (T : Tab) (K : PySem.W.Frag) (f : Mem → D → D → Option D) : R2 := fun x y H Q => ∃ a μ d e z, HolM T K a μ H ∧ Rep T K a d x ∧ Rep T K a e y ∧ f μ d e = some z ∧
  ∀ b v H', Stp a H b H' → HolM T K b μ H' → Fresh T K H b H' z v → Q v H'
theorem strOk_app {x y : Str} (h : PyData.strOk x = true) (g : PyData.strOk y = true) : PyData.strOk (sM (sL x ++ sL y)) = true := by
  unfold PyData.strOk at *
  simp only [sM, sL, Array.all_eq_true', List.mem_toArray, List.mem_append, Array.mem_toList_iff] at *
  intro c hc
  rcases hc with hc | hc
  · exact h c hc
  · exact g c hc
theorem sM_app (x y : Str) : x ++ y = sM (sL x ++ sL y) := by
  show Str.mk (x.cps ++ y.cps) = _
  unfold sM sL
  congr 1
  apply Array.toList_inj.mp
  simp
theorem sL_length (x : Str) : (sL x).length = x.length := by
  unfold sL; rw [Array.length_toList]; rfl
section
variable {T : Tab} {n : Nat} {X : Cx} {W : WX} {pos : Pos} {a : Abs} {H0 H : Hp} {v : V} {μ : Mem}
theorem RdV.int {i : Int} (h : RdV T X.K a H (.int i) v) : v = .int i := by simpa only [RdV, Rep] using h
theorem RdV.str {i : Str} (h : RdV T X.K a H (.str i) v) : v = .str i ∧ strG i = true := by simpa only [RdV, Rep] using h
theorem rep_int {i : Int} : Fresh T X.K H0 a H (.int i) (.int i) := by simp only [Fresh, Rep]
theorem rep_bl {i : Bool} : Rep T X.K a (.bl i) (.bl i) := by simp only [Rep]
theorem rep_str {i : Str} (h : strG i = true) : Fresh T X.K H0 a H (.str i) (.str i) := by simp only [Fresh, Rep]; exact ⟨trivial, h⟩
/-- a value that is read as a tuple is that tuple -/
theorem rd_tup {d : D} {l : List D} (h : rd μ d = .tup l) : d = .tup l := by
  cases d <;> simp only [rd] at h <;> first | exact h | skip
  split at h <;> first | (cases h; done) | exact h
/-- a new list -/
theorem fresh_lst {l : List D} {p : Addr} {vs : List V} (m : HolM T X.K a μ H) (hp : H p = none) (r : Reps T X.K a l vs) : Stp a H a (upd H p (.lst vs)) ∧ HolM T X.K a μ (upd H p (.lst vs)) ∧ Fresh T X.K H a (upd H p (.lst vs)) (.lst l) (.ref p) :=
  ⟨(Stp.refl _ _).lay hp, m.lay hp, p, vs, rfl, upd_same, hp, (m.fresh hp).1, (m.fresh hp).2, r⟩
/-- a new tuple -/
theorem fresh_tup {l : List D} {p : Addr} {o : Obj} {vs : List V} (ht : TObj o) (m : HolM T X.K a μ H) (hp : H p = none) (r : Reps T X.K a l vs) : ∃ b, Stp a H b (upd H p (.frz o (.tup vs))) ∧ HolM T X.K b μ (upd H p (.frz o (.tup vs))) ∧ Rep T X.K b (.tup l) (.ref p) := by
  obtain ⟨m2, le2⟩ := m.freeze (o := .frz o (.tup vs)) hp
  exact ⟨_, le2, m2, by simp only [Rep]; exact ⟨p, vs, rfl, .inl ⟨o, ht, upd_same⟩, Reps.mono le2.le _ _ r⟩⟩
theorem reps_nil {l : List D} (r : Reps T X.K a l []) : l = [] := List.eq_nil_of_length_eq_zero (by rw [r.length]; rfl)

theorem op_addV : OpR X (binaryOp .Add) (rV2 T X.K fun μ => binV μ .add) := by
  intro pins s σ H x y v u Q I rx ry h
  obtain ⟨a, μ, d, e, z, m, r1, r2, f, k⟩ := h
  have q1 := rd_rep m r1
  have q2 := rd_rep m r2
  simp only [binV] at f
  generalize g1 : rd μ d = d' at *
  generalize g2 : rd μ e = e' at *
  unfold addV at f
  split at f
  · cases f
    exact op_add pins s σ H x y v u Q I rx ry ⟨_, _, q1.int, q2.int, k a _ H (Stp.refl _ _) m rep_int⟩
  · split at f
    · rename_i hl; cases f
      refine op_add_str pins s σ H x y v u Q I rx ry ⟨_, _, q1.str.1, q2.str.1, by rw [← sL_length, ← sL_length, ← sizeLn_eq]; exact hl, ?_⟩
      rw [sM_app]
      exact k a _ H (Stp.refl _ _) m (rep_str (strG.of (strOk_app (strG.ok q1.str.2) (strG.ok q2.str.2)) (by show (sM _).cps.toList.length ≤ _; simpa [sM] using hl)))
    · cases f
  · rename_i l l'
    split at f
    · rename_i hl; cases f
      obtain ⟨p, vs, rfl, s1, t1⟩ := q1
      obtain ⟨q, ws, rfl, s2, t2⟩ := q2
      refine op_catF pins s σ H _ _ v u Q I rx ry ⟨p, q, vs, ws, rfl, rfl, s1, s2, by rw [← t1.length, ← t2.length, ← sizeLn_eq]; exact hl, fun e => ?_, fun e2 => ?_, fun r o ht hr => ?_⟩
      · subst e
        cases reps_nil t1
        refine k a _ H (Stp.refl _ _) m ?_
        rw [rd_tup g2] at r2
        simpa only [Fresh, List.nil_append] using r2
      · subst e2
        cases reps_nil t2
        refine k a _ H (Stp.refl _ _) m ?_
        rw [rd_tup g1] at r1
        simpa only [Fresh, List.append_nil] using r1
      · obtain ⟨b, le, m2, r⟩ := fresh_tup ht m hr (Reps.append t1 t2)
        exact k b _ _ le m2 r
    · cases f
  · rename_i l l'
    split at f
    · rename_i hl; cases f
      obtain ⟨p, vs, rfl, s1, t1⟩ := q1
      obtain ⟨q, ws, rfl, s2, t2⟩ := q2
      refine op_cat pins s σ H _ _ v u Q I rx ry ⟨p, q, vs, ws, rfl, rfl, s1, s2, by rw [← t1.length, ← t2.length, ← sizeLn_eq]; exact hl, fun r hr => ?_⟩
      obtain ⟨st, m2, fr⟩ := fresh_lst m hr (Reps.append t1 t2)
      exact k a _ _ st m2 fr
    · cases f
  · cases f
theorem intV_inv {f : Int → Int → Option Int} {d e z : D} (h : intV f d e = some z) : ∃ i j k, d = .int i ∧ e = .int j ∧ f i j = some k ∧ z = .int k := by
  unfold intV at h
  split at h
  · obtain ⟨k, e1, e2⟩ := Option.map_eq_some_iff.mp h
    exact ⟨_, _, k, rfl, rfl, e1, e2.symm⟩
  · cases h
theorem op_intV {op : Operator} {o : Bop} {f : Int → Int → Option Int} (hb : ∀ μ d e, binV μ o d e = intV f (rd μ d) (rd μ e))
    (rule : ∀ pins s σ H x y v u (Q : VK) i j k, Inv X pins σ H s → RelV x v → RelV y u → x = .int i → y = .int j → f i j = some k → Q (.int k) H → wpAny (model X.prog X.w) X.A (binaryOp op v u) (EP X pins σ Q) X.xe s) : OpR X (binaryOp op) (rV2 T X.K fun μ => binV μ o) := by
  intro pins s σ H x y v u Q I rx ry h
  obtain ⟨a, μ, d, e, z, m, r1, r2, g, k⟩ := h
  have q1 := rd_rep m r1
  have q2 := rd_rep m r2
  have g : binV μ o d e = some z := g
  rw [hb] at g
  obtain ⟨i, j, w, e1, e2, e3, rfl⟩ := intV_inv g
  rw [e1] at q1; rw [e2] at q2
  exact rule pins s σ H x y v u Q i j w I rx ry q1.int q2.int e3 (k a _ H (Stp.refl _ _) m rep_int)
theorem op_subV : OpR X (binaryOp .Sub) (rV2 T X.K fun μ => binV μ .sub) :=
  op_intV (fun _ _ _ => rfl) fun pins s σ H x y v u Q i j k I rx ry e1 e2 e3 q => op_sub pins s σ H x y v u Q I rx ry ⟨i, j, e1, e2, by cases e3; exact q⟩
theorem op_modV : OpR X (binaryOp .Mod) (rV2 T X.K fun μ => binV μ .mod) :=
  op_intV (fun _ _ _ => rfl) fun pins s σ H x y v u Q i j k I rx ry e1 e2 e3 q => by
    split at e3
    · rename_i hl; cases e3; exact op_mod pins s σ H x y v u Q I rx ry ⟨i, j, e1, e2, hl, q⟩
    · cases e3
theorem op_fdvV : OpR X (binaryOp .FloorDiv) (rV2 T X.K fun μ => binV μ .fdv) :=
  op_intV (fun _ _ _ => rfl) fun pins s σ H x y v u Q i j k I rx ry e1 e2 e3 q => by
    split at e3
    · rename_i hl; cases e3; exact op_fdiv pins s σ H x y v u Q I rx ry ⟨i, j, e1, e2, hl, q⟩
    · cases e3
theorem op_powV : OpR X (binaryOp .Pow) (rV2 T X.K fun μ => binV μ .pow) :=
  op_intV (fun _ _ _ => rfl) fun pins s σ H x y v u Q i j k I rx ry e1 e2 e3 q => by
    split at e3
    · rename_i hl; cases e3; exact op_pow pins s σ H x y v u Q I rx ry ⟨i, j, e1, e2, ⟨hl.1, by omega, hl.2.2⟩, q⟩
    · cases e3
theorem op_shlV : OpR X (binaryOp .LShift) (rV2 T X.K fun μ => binV μ .shl) :=
  op_intV (fun _ _ _ => rfl) fun pins s σ H x y v u Q i j k I rx ry e1 e2 e3 q => by
    split at e3
    · rename_i hl; cases e3; exact op_shl pins s σ H x y v u Q I rx ry ⟨i, j, e1, e2, ⟨hl.1, by omega, hl.2.2⟩, q⟩
    · cases e3
theorem reps_rep {l : List D} {vs : List V} (r : Reps T X.K a l vs) : ∀ n, Reps T X.K a (List.replicate n l).flatten (List.replicate n vs).flatten
  | 0 => by simp; exact Reps.nil
  | n + 1 => by
    simp only [List.replicate_succ, List.flatten_cons]
    exact Reps.append r (reps_rep r n)
/-- two factors of together less than four million bits -/
def MulX (i j : Int) : Prop := i.natAbs.log2 + j.natAbs.log2 < 4000000
theorem MulX.fits {i j : Int} (h : MulX i j) : IntMulOk i j := by
  unfold MulX at h
  unfold IntMulOk
  intro both
  have big := (Bool.and_eq_true_iff.mp both).2
  have sz : ∀ m : Int, Builtin.Int.intBits m ≤ 1 + m.natAbs.log2 := by
    intro m
    unfold Builtin.Int.intBits
    split <;> omega
  have line : bitsLine = 134217728 := by decide
  unfold Builtin.Int.intTooBig at big
  have more := of_decide_eq_true big
  have s1 := sz i
  have s2 := sz j
  rw [line] at more
  omega
/-- a tuple some times over: a new tuple with a known record -/
theorem op_repTF : OpR X (binaryOp .Mult) (fun x y H Q => ∃ p j xs, x = V.ref p ∧ y = V.int j ∧ SqT X.K H p xs ∧ xs ≠ [] ∧ xs.length ≤ 1000 ∧ 2 ≤ j ∧ j ≤ 1000 ∧ NewT H (List.replicate j.toNat xs).flatten Q) := by
  intro pins s σ H x y v u Q I rx ry h
  obtain ⟨p, j, xs, rfl, rfl, hT, hne, hz, h1, h2, q⟩ := h
  cases rx; obtain ⟨t, rfl⟩ := ry
  obtain ⟨vs, r, ⟨⟨oc, dd, data, sl⟩, ho, hc, k, hd⟩, hs⟩ := I.tuple hT
  simp only at hc hd; subst hc hd
  have hl : vs.length = xs.length := r.length.symm
  have hv : vs ≠ [] := fun e => hne (List.eq_nil_of_length_eq_zero (by rw [← hl, e]; rfl))
  have he : vs.toArray.isEmpty = false := by cases vs with
    | nil => exact absurd rfl hv
    | cons => rfl
  have hk : ((vs.toArray.size : Nat) : Int) = xs.length := by rw [List.size_toArray, hl]
  have hm : ((xs.length : Nat) : Int) * j ≤ 1000000 := by
    have : ((xs.length : Nat) : Int) * j ≤ 1000 * j := Int.mul_le_mul_of_nonneg_right (by omega) (by omega)
    omega
  have hf : (List.replicate j.toNat xs).flatten.length ≤ sizeLine := by
    rw [PyProof.Rows.lm_len_rep_flat, sizeLine_eq]
    have : j.toNat * xs.length ≤ 1000 * 1000 := Nat.mul_le_mul (by omega) hz
    omega
  have hf2 : (List.replicate j.toNat vs).flatten.length ≤ sizeLine := by
    rw [PyProof.Rows.lm_len_rep_flat] at hf ⊢
    rw [hl]; exact hf
  have d1 : (decide (j < -(2 ^ 63)) || decide (j ≥ 2 ^ 63)) = false := by simp; omega
  have d2 : (vs.toArray.isEmpty || j == 1) = false := by rw [he]; simp; omega
  have d3 : (decide (j ≤ 0) || vs.toArray.isEmpty) = false := by rw [he]; simp; omega
  have d4 : Builtin.Tuple.tupleTooMany (((vs.toArray.size : Nat) : Int) * j) = false := by
    unfold Builtin.Tuple.tupleTooMany
    rw [sizeLine_eq, hk]; simp; omega
  refine wpAny_binaryOp_repeat_ref (T := "tuple") (U := "int") (by decide) ⟨_, ho, rfl⟩ (fun z => typeIs_int z j t) noFill_tuple_mul F.fills_int_mul F.slot_int_rmul repeat_tuple F.slot_int_index.lookup ?_
  refine call_meets F.slot_int_rmul (typeIs_int s j t) F.entry_int_rmul (F.args_int_rmul_2 _ _) (int_rmul_tuple j t p vs.toArray k dd sl) ⟨ho, rfl, ⟨_, ho, rfl⟩, ?_⟩
  refine call_meets F.slot_tuple_mul ⟨_, ho, rfl⟩ F.entry_tuple_mul (F.args_tuple_mul_2 _ _) (tuple_mulW p vs.toArray k dd sl j t d1 d2 d3 (by rw [hk]; omega) d4 (by rw [size_rep, List.size_toArray]; exact hf2)) ⟨ho, ?_⟩
  rw [size_rep]
  exact newT_at (h0 := s.heap) I (r.rep j.toNat) hf q
theorem op_mulX : OpR X (binaryOp .Mult) (rI MulX fun i j => .int (i * j)) := opI fun _ _ _ _ _ _ _ small rest => mul_int rest small.fits
theorem op_mulV : OpR X (binaryOp .Mult) (rV2 T X.K fun μ => binV μ .mul) := by
  intro pins s σ H x y v u Q I rx ry h
  obtain ⟨a, μ, d, e, z, m, r1, r2, f, k⟩ := h
  have q1 := rd_rep m r1
  have q2 := rd_rep m r2
  simp only [binV] at f
  generalize g1 : rd μ d = d' at *
  generalize g2 : rd μ e = e' at *
  unfold mulV at f
  split at f
  · split at f
    · rename_i hl; cases f
      refine op_mulX pins s σ H x y v u Q I rx ry ⟨_, _, q1.int, q2.int, ?_, k a _ H (Stp.refl _ _) m rep_int⟩
      unfold MulX
      exact hl
    · cases f
  · split at f
    · rename_i l j hl; cases f
      obtain ⟨p, vs, rfl, s1, t1⟩ := q1
      refine op_rep pins s σ H _ y v u Q I rx ry ⟨p, j, vs, rfl, q2.int, s1, by omega, by omega, by rw [← t1.length, ← sizeLn_eq]; exact hl.1, fun r hr => ?_⟩
      obtain ⟨st, m2, fr⟩ := fresh_lst m hr (reps_rep t1 j.toNat)
      exact k a _ _ st m2 fr
    · cases f
  · split at f
    · rename_i l j hl; cases f
      obtain ⟨p, vs, rfl, s1, t1⟩ := q1
      refine op_repTF pins s σ H _ y v u Q I rx ry ⟨p, j, vs, rfl, q2.int, s1, fun e => ?_, by rw [← t1.length]; exact hl.2.1, hl.2.2.1, hl.2.2.2, fun r o ht hr => ?_⟩
      · subst e; exact hl.1 (List.eq_nil_of_length_eq_zero t1.length)
      · obtain ⟨b, le, m2, fr⟩ := fresh_tup ht m hr (reps_rep t1 j.toNat)
        exact k b _ _ le m2 fr
    · cases f
  · cases f
theorem op_binV (o : Bop) : OpR X (binaryOp (toOp o)) (rV2 T X.K fun μ => binV μ o) := by
  cases o
  · exact op_addV
  · exact op_subV
  · exact op_mulV
  · exact op_modV
  · exact op_fdvV
  · exact op_powV
  · exact op_shlV
/-- two operands, then a step by values -/
theorem two {d e : E} {f : Mem → D → D → Option D} {σ : L2.St} {H : Hp} {Q : VK} {a : Abs} {ρ : Env} {μ : Mem} (ho : Hol T X.K a ρ μ σ H)
    (q : WpR ((evE T.P (T.C n) T.reprS d ρ μ).bind fun d μ => (evE T.P (T.C n) T.reprS e ρ μ).bind fun e μ => R.of μ (f μ d e)) (fun d μ' => ∀ b v H', Stp a H b H' → Hol T X.K b ρ μ' σ H' → Fresh T X.K H b H' d v → Q v H') (Kx T X.K a H ρ σ W)) :
    tOp (rV2 T X.K f) (tE T n X.K W d) (tE T n X.K W e) σ H Q := by
  refine ⟨a, ρ, μ, ho, q.bind.mono (fun d1 μ1 q1 b v H1 le1 ho1 r1 => ?_) fun _ _ k => k⟩
  refine ⟨b, ρ, μ1, ho1, q1.bind.mono (fun d2 μ2 q2 c w H2 le2 ho2 r2 => ?_) fun _ _ k => k.mono le1⟩
  obtain ⟨z, e1, k⟩ := q2.of
  exact ⟨c, μ2, d1, d2, z, ho2.m, Rep.mono le2.le _ _ r1, r2, e1, fun b' v' H' le3 m3 fr => k b' v' H' (le1.trans (le2.trans le3)) (ho2.to le3.le m3) (fr.pre (le1.trans le2).dom)⟩
theorem sf_bin {x y : Expr} {d e : E} (o : Bop) (h1 : SE T n X W x d) (h2 : SE T n X W y e) : SF T n X W (.BinOp x (toOp o) y pos) (.bin o d e) := by
  refine PE.imp (pe_op (op_binV (T := T) o) h1 h2) fun σ H Q q => ?_
  obtain ⟨a, ρ, μ, ho, q⟩ := q
  simp only [evE] at q
  exact two ho q
theorem se_neg {x : Expr} {d : E} (h1 : SE T n X W x d) : SE T n X W (.UnaryOp .USub x pos) (.neg d) := by
  refine PE.imp (pe_un un_neg h1) fun σ H Q q => ?_
  obtain ⟨a, ρ, μ, ho, q⟩ := q
  simp only [evE] at q
  refine ⟨a, ρ, μ, ho, q.bind.mono (fun d1 μ1 q1 b v H1 le1 ho1 r1 => ?_) fun _ _ k => k⟩
  split at q1
  · exact ⟨_, by simpa only [Rep] using r1, q1 b _ H1 le1 ho1 (by simp only [Rep])⟩
  · exact q1.elim
end
end DI
end

section
set_option Elab.async false
set_option linter.all false
set_option maxRecDepth 100000
namespace DI
open PySem L2 PySem.Spec PyProof.Rows
mutual
theorem sm_depth : ∀ (n : Nat) (d : D), sm n d = true → (toPy d).depth ≤ n
  | _, .non, _ => by simp [toPy, PyData.depth] | _, .bl _, _ => by simp [toPy, PyData.depth] | _, .int _, _ => by simp [toPy, PyData.depth] | _, .str _, _ => by simp [toPy, PyData.depth]
  | n + 1, .tup l, h => by
    have := sms_depth n l (by simpa only [sm] using h)
    simp only [toPy, PyData.depth]; omega
  | n + 1, .lst l, h => by
    have := sms_depth n l (by simpa only [sm] using h)
    simp only [toPy, PyData.depth]; omega
  | n + 1, .key l, h => by
    have := sms_depth n l (by simpa only [sm] using h)
    simp only [toPy, PyData.depth]; omega
  | 0, .key _, h => by simp [sm] at h
  | 0, .tup _, h => by simp [sm] at h
  | 0, .lst _, h => by simp [sm] at h
  | _, .dct _ _ _, h => by simp [sm] at h
  | _, .rol _, h => by simp [sm] at h
  | _, .ins _ _ _, h => by simp [sm] at h
  | _, .exc _ _ _, h => by simp [sm] at h
  | _, .cls _, h => by simp [sm] at h
  | _, .fn _, h => by simp [sm] at h
  | _, .clo _ _, h => by simp [sm] at h
  | _, .xv _ _ _, h => by simp [sm] at h
  | _, .obj _, h => by simp [sm] at h
theorem sms_depth : ∀ (n : Nat) (l : List D), sms n l = true → PyData.depthAll (toPys l) ≤ n
  | _, [], _ => by simp [toPys, PyData.depthAll]
  | n, d :: l, h => by
    simp only [sms, Bool.and_eq_true] at h
    have h1 := sm_depth n d h.1
    have h2 := sms_depth n l h.2
    simp only [toPys, PyData.depthAll]; omega
end
section
variable {T : Tab} {K : PySem.W.Frag} {a : Abs} {H : Hp}
mutual
theorem rep_dp (le : ∀ p o, a.G p = some o → H p = some o) : ∀ (n : Nat) (d : D) (v : V), sm n d = true → Rep T K a d v → Dp K H v (toPy d) ∧ (toPy d).canLay0 = true
  | _, .non, v, _, r => by simp only [Rep] at r; subst r; exact ⟨by simp only [toPy]; exact .non, by simp [toPy, PyData.canLay0]⟩
  | _, .bl b, v, _, r => by simp only [Rep] at r; subst r; exact ⟨by simp only [toPy]; exact .bl b, by simp [toPy, PyData.canLay0]⟩
  | _, .int b, v, _, r => by simp only [Rep] at r; subst r; exact ⟨by simp only [toPy]; exact .int b, by simp [toPy, PyData.canLay0]⟩
  | _, .str b, v, _, r => by simp only [Rep] at r; obtain ⟨rfl, h⟩ := r; exact ⟨by simp only [toPy]; exact .str b, by simpa [toPy, PyData.canLay0] using strG.ok h⟩
  | n + 1, .tup l, v, h, r => by
    simp only [Rep] at r
    obtain ⟨p, vs, rfl, s, q⟩ := r
    obtain ⟨h1, h2⟩ := reps_dp le n l vs (by simpa only [sm] using h) q
    exact ⟨by simp only [toPy]; exact .tup (SqT.up le s.sq) h1, by simpa only [toPy, PyData.canLay0] using h2⟩
  | n + 1, .lst l, v, h, r => by
    simp only [Rep] at r
    obtain ⟨p, vs, rfl, s, q⟩ := r
    obtain ⟨h1, h2⟩ := reps_dp le n l vs (by simpa only [sm] using h) q
    exact ⟨by simp only [toPy]; exact .lst (SqL.of (le _ _ s)) h1, by simpa only [toPy, PyData.canLay0] using h2⟩
  | n + 1, .key l, v, h, r => by
    simp only [Rep] at r
    obtain ⟨p, vs, rfl, s, q⟩ := r
    obtain ⟨h1, h2⟩ := reps_dp le n l vs (by simpa only [sm] using h) q
    exact ⟨by simp only [toPy]; exact .tup (.inl (.inl (le _ _ s))) h1, by simpa only [toPy, PyData.canLay0] using h2⟩
  | 0, .key _, _, h, _ => by simp [sm] at h
  | 0, .tup _, _, h, _ => by simp [sm] at h
  | 0, .lst _, _, h, _ => by simp [sm] at h
  | _, .dct _ _ _, _, h, _ => by simp [sm] at h
  | _, .rol _, _, h, _ => by simp [sm] at h
  | _, .ins _ _ _, _, h, _ => by simp [sm] at h
  | _, .exc _ _ _, _, h, _ => by simp [sm] at h
  | _, .cls _, _, h, _ => by simp [sm] at h
  | _, .fn _, _, h, _ => by simp [sm] at h
  | _, .clo _ _, _, h, _ => by simp [sm] at h
  | _, .xv _ _ _, _, h, _ => by simp [sm] at h
  | _, .obj _, _, h, _ => by simp [sm] at h
theorem reps_dp (le : ∀ p o, a.G p = some o → H p = some o) : ∀ (n : Nat) (l : List D) (vs : List V), sms n l = true → Reps T K a l vs → DpAll K H vs (toPys l) ∧ PyData.canLayAll0 (toPys l) = true
  | _, [], vs, _, r => by rw [r.inv0]; exact ⟨by simp only [toPys]; exact .nil, by simp [toPys, PyData.canLayAll0]⟩
  | n, d :: l, vs, h, r => by
    obtain ⟨v, ws, rfl, r1, r2⟩ := r.inv
    simp only [sms, Bool.and_eq_true] at h
    obtain ⟨a1, a2⟩ := rep_dp le n d v h.1 r1
    obtain ⟨b1, b2⟩ := reps_dp le n l ws h.2 r2
    exact ⟨by simp only [toPys]; exact .cons a1 b1, by simp only [toPys, PyData.canLayAll0, a2, b2, Bool.and_self]⟩
end
theorem rdv_dp {μ : Mem} (m : HolM T K a μ H) {n : Nat} {d : D} {v : V} (h : sm n (rd μ d) = true) (r : Rep T K a d v) : Dp K H v (toPy (rd μ d)) ∧ (toPy (rd μ d)).canLay0 = true := by
  have q := rd_rep m r
  generalize e : rd μ d = d' at *
  cases d' with
  | lst l =>
    obtain ⟨p, vs, rfl, s, t⟩ := q
    cases n with
    | zero => simp [sm] at h
    | succ n =>
      obtain ⟨h1, h2⟩ := reps_dp m.le n l vs (by simpa only [sm] using h) t
      exact ⟨by simp only [toPy]; exact .lst (SqL.of s) h1, by simpa only [toPy, PyData.canLay0] using h2⟩
  | tup l =>
    have := rd_tup e; subst this
    exact rep_dp m.le n _ v h r
  | key l =>
    obtain ⟨p, vs, rfl, s, t⟩ := q
    cases n with
    | zero => simp [sm] at h
    | succ n =>
      obtain ⟨h1, h2⟩ := reps_dp m.le n l vs (by simpa only [sm] using h) t
      exact ⟨by simp only [toPy]; exact .tup (.inl (.inl s)) h1, by simpa only [toPy, PyData.canLay0] using h2⟩
  | non => exact rep_dp (T := T) (a := a) m.le n .non v h q
  | bl b => exact rep_dp (T := T) (a := a) m.le n (.bl b) v h q
  | int b => exact rep_dp (T := T) (a := a) m.le n (.int b) v h q
  | str b => exact rep_dp (T := T) (a := a) m.le n (.str b) v h q
  | _ => simp [sm] at h
end
mutual
theorem deq_eqv : ∀ (n k : Nat) (d e : D), sm n d = true → sm k e = true → PyData.eqv (toPy d) (toPy e) = deq d e
  | n, k, d, e, h, g => by
    cases d <;> cases e <;> first
      | (simp [sm] at h; done)
      | (simp [sm] at g; done)
      | (simp [toPy, PyData.eqv, deq, b2i]; done)
      | (rename_i l m
         cases n with
         | zero => simp [sm] at h
         | succ n =>
           cases k with
           | zero => simp [sm] at g
           | succ k =>
             simp only [toPy, PyData.eqv, deq]
             exact deqs_eqv n k l m (by simpa only [sm] using h) (by simpa only [sm] using g))
theorem deqs_eqv : ∀ (n k : Nat) (l m : List D), sms n l = true → sms k m = true → PyData.eqvAll (toPys l) (toPys m) = deqs l m
  | _, _, [], [], _, _ => by simp [toPys, PyData.eqvAll, deqs]
  | _, _, [], _ :: _, _, _ => by simp [toPys, PyData.eqvAll, deqs]
  | _, _, _ :: _, [], _, _ => by simp [toPys, PyData.eqvAll, deqs]
  | n, k, d :: l, e :: m, h, g => by
    simp only [sms, Bool.and_eq_true] at h g
    simp only [toPys, PyData.eqvAll, deqs, deq_eqv n k d e h.1 g.1, deqs_eqv n k l m h.2 g.2]
end
end DI
namespace DI
open PySem L2 PySem.Spec PyProof.Rows
def toCmp : Cop → CmpOp
  | .eq => .Eq | .ne => .NotEq | .lt => .Lt | .le => .LtE | .gt => .Gt | .ge => .GtE | .in_ => .In | .ni => .NotIn | .is_ => .Is | .isn => .IsNot
/-- a comparison by values -/
def rCmp (T : Tab) (n : Nat) (K : PySem.W.Frag) (o : Cop) : R2 := fun x y H Q => ∃ a μ d e, HolM T K a μ H ∧ Rep T K a d x ∧ Rep T K a e y ∧
  WpR (cmpV T.P (T.C n) μ o d e) (fun c μ' => ∀ b H', Stp a H b H' → HolM T K b μ' H' → Q (.bl c) H') (fun _ _ => False)
theorem any_py (n k : Nat) (d : D) (h : sm n d = true) : ∀ l : List D, sms k l = true → ((toPys l).any fun z => PyData.eqv z (toPy d)) = l.any fun z => deq z d
  | [], _ => by simp [toPys]
  | e :: l, g => by
    simp only [sms, Bool.and_eq_true] at g
    simp only [toPys, List.any_cons, any_py n k d h l g.2, deq_eqv k n e d g.1 h]
/-- own == : what the small interpreter says of instances with an own __eq__, by the calls of this level -/
def EqOwn (T : Tab) (n : Nat) (X : Cx) : Prop := ∀ (neg : Bool), OpR X (compareOp (if neg then .NotEq else .Eq)) (fun x y H Q => ∃ a μ d e, HolM T X.K a μ H ∧ Rep T X.K a d x ∧ Rep T X.K a e y ∧ (sm SMD (rd μ d) && sm SMD (rd μ e)) = false ∧ nilT (rd μ d) (rd μ e) = false ∧
  WpR (eqV T.P (T.C n) μ d e) (fun c μ' => ∀ b H', Stp a H b H' → HolM T X.K b μ' H' → Q (.bl (if neg then !c else c)) H') (fun _ _ => False))
section
variable {T : Tab} {n : Nat} {X : Cx} {W : WX} {pos : Pos} {a : Abs} {H : Hp} {v : V} {μ : Mem}
theorem shaped_of {d : D} {k : Nat} (h : sm k d = true) (hk : k ≤ 64) (c : (toPy d).canLay0 = true) : SeqAt.shaped (toPy d) = true := by
  unfold SeqAt.shaped
  have := sm_depth k d h
  rw [c, Bool.true_and]
  exact decide_eq_true (by omega)
/-- a tuple compared with the empty one -/
theorem nil_two {pins : List (Addr × Obj)} {s : Shared} {σ : L2.St} {x y : V} {v u : Value} {d e : D} (m : HolM T X.K a μ H) (r1 : Rep T X.K a d x) (r2 : Rep T X.K a e y) (hn : nilT (rd μ d) (rd μ e) = true) (I : L2.Inv X pins σ H s) (rx : L2.RelV x v) (ry : L2.RelV y u) :
    ∃ p q is js, v = .ref p ∧ u = .ref q ∧ s.heap.IsTuple p is ∧ s.heap.IsTuple q js ∧ js.size = 0 ∧ (is.size == js.size) = isNilT (rd μ d) := by
  have q1 := rd_rep m r1
  have q2 := rd_rep m r2
  generalize rd μ d = d' at *
  generalize rd μ e = e' at *
  unfold nilT at hn
  split at hn
  · rename_i l
    obtain ⟨p, ws, rfl, sq, t⟩ := q1
    obtain ⟨q, zs, rfl, sq2, t2⟩ := q2
    obtain rfl : zs = [] := List.eq_nil_of_length_eq_zero t2.length.symm
    obtain ⟨us, rv, hl, _⟩ := I.tuple sq
    obtain ⟨js, rv2, hl2, _⟩ := I.tuple sq2
    cases rx
    cases ry
    have e1 := rv.length
    have e2 := rv2.length
    have e3 := t.length
    refine ⟨p, q, us.toArray, js.toArray, rfl, rfl, hl, hl2, by simpa using e2.symm, ?_⟩
    have e4 : js.toArray.size = 0 := by simpa using e2.symm
    have e5 : us.toArray.size = l.length := by rw [List.size_toArray]; omega
    rw [e4, e5]
    cases l <;> simp [isNilT]
  · cases hn
theorem nil_eq {pins : List (Addr × Obj)} {s : Shared} {σ : L2.St} {x y : V} {v u : Value} {d e : D} {Q : VK} (hu : X.A.units < cLine) (m : HolM T X.K a μ H) (r1 : Rep T X.K a d x) (r2 : Rep T X.K a e y) (hn : nilT (rd μ d) (rd μ e) = true) (I : L2.Inv X pins σ H s) (rx : L2.RelV x v) (ry : L2.RelV y u)
    (q : Q (.bl (isNilT (rd μ d))) H) : wpAny (model X.prog X.w) X.A (compareOp .Eq v u) (EP X pins σ Q) X.xe s := by
  obtain ⟨p, q', is, js, rfl, rfl, h1, h2, h3, h4⟩ := nil_two m r1 r2 hn I rx ry
  refine SeqAt.eq_tupleAt (e := fun _ => true) h1 h2 hu (fun j _ hj => by omega) ?_
  rw [h3, Nat.min_zero] at *
  rw [h4]
  exact ⟨.bl _, H, I, rfl, q⟩
theorem nil_ne {pins : List (Addr × Obj)} {s : Shared} {σ : L2.St} {x y : V} {v u : Value} {d e : D} {Q : VK} (hu : X.A.units < cLine) (m : HolM T X.K a μ H) (r1 : Rep T X.K a d x) (r2 : Rep T X.K a e y) (hn : nilT (rd μ d) (rd μ e) = true) (I : L2.Inv X pins σ H s) (rx : L2.RelV x v) (ry : L2.RelV y u)
    (q : Q (.bl (!isNilT (rd μ d))) H) : wpAny (model X.prog X.w) X.A (compareOp .NotEq v u) (EP X pins σ Q) X.xe s := by
  obtain ⟨p, q', is, js, rfl, rfl, h1, h2, h3, h4⟩ := nil_two m r1 r2 hn I rx ry
  unfold compareOp
  refine SeqAt.RcNeAt.tuples (e := fun _ => true) h1 h2 hu (fun j _ hj => by omega) _ _ _ _ ?_
  rw [h3, Nat.min_zero] at *
  rw [h4]
  exact ⟨.bl _, H, I, rfl, q⟩
theorem WpR.notR {r : R Bool} {k : Bool → Mem → Prop} {kx : D → Mem → Prop} (h : WpR (DI.notR r) k kx) : WpR r (fun c μ => k (!c) μ) kx := by
  cases r <;> exact h
theorem op_eqV (hu : X.A.units + 64 < cLine) (ho : EqOwn T n X) : OpR X (compareOp .Eq) (rCmp T n X.K .eq) := by
  intro pins s σ H x y v u Q I rx ry h
  obtain ⟨a, μ, d, e, m, r1, r2, q⟩ := h
  simp only [cmpV] at q
  by_cases hs : (sm SMD (rd μ d) && sm SMD (rd μ e)) = true
  · obtain ⟨h1, h2⟩ := Bool.and_eq_true_iff.mp hs
    obtain ⟨p1, c1⟩ := rdv_dp m h1 r1
    obtain ⟨p2, c2⟩ := rdv_dp m h2 r2
    unfold eqV at q
    rw [if_pos hs] at q
    refine op_eqD hu pins s σ H x y v u Q I rx ry ⟨_, _, p1, p2, shaped_of h1 (by decide) c1, shaped_of h2 (by decide) c2, ?_⟩
    rw [deq_eqv _ _ _ _ h1 h2]
    exact q a H (Stp.refl _ _) m
  · by_cases hn : nilT (rd μ d) (rd μ e) = true
    · unfold eqV at q
      rw [if_neg hs, if_pos hn] at q
      exact nil_eq (by omega) m r1 r2 hn I rx ry (q a H (Stp.refl _ _) m)
    · exact ho false pins s σ H x y v u Q I rx ry ⟨a, μ, d, e, m, r1, r2, by simpa using hs, by simpa using hn, q⟩
theorem op_neV (hu : X.A.units + 64 < cLine) (ho : EqOwn T n X) : OpR X (compareOp .NotEq) (rCmp T n X.K .ne) := by
  intro pins s σ H x y v u Q I rx ry h
  obtain ⟨a, μ, d, e, m, r1, r2, q⟩ := h
  simp only [cmpV] at q
  have q := q.notR
  by_cases hs : (sm SMD (rd μ d) && sm SMD (rd μ e)) = true
  · obtain ⟨h1, h2⟩ := Bool.and_eq_true_iff.mp hs
    obtain ⟨p1, c1⟩ := rdv_dp m h1 r1
    obtain ⟨p2, c2⟩ := rdv_dp m h2 r2
    unfold eqV at q
    rw [if_pos hs] at q
    refine op_neD hu pins s σ H x y v u Q I rx ry ⟨_, _, p1, p2, shaped_of h1 (by decide) c1, shaped_of h2 (by decide) c2, ?_⟩
    rw [deq_eqv _ _ _ _ h1 h2]
    exact q a H (Stp.refl _ _) m
  · by_cases hn : nilT (rd μ d) (rd μ e) = true
    · unfold eqV at q
      rw [if_neg hs, if_pos hn] at q
      exact nil_ne (by omega) m r1 r2 hn I rx ry (q a H (Stp.refl _ _) m)
    · exact ho true pins s σ H x y v u Q I rx ry ⟨a, μ, d, e, m, r1, r2, by simpa using hs, by simpa using hn, q⟩
theorem rep_intI {i : Int} (r : Rep T X.K a (.int i) v) : v = .int i := by simpa only [Rep] using r
theorem op_ltV : OpR X (compareOp .Lt) (rCmp T n X.K .lt) := by
  intro pins s σ H x y v u Q I rx ry h
  obtain ⟨a, μ, d, e, m, r1, r2, q⟩ := h
  simp only [cmpV] at q
  split at q
  · exact op_lt pins s σ H x y v u Q I rx ry ⟨_, _, rep_intI r1, rep_intI r2, q a H (Stp.refl _ _) m⟩
  · exact q.elim
theorem op_leV : OpR X (compareOp .LtE) (rCmp T n X.K .le) := by
  intro pins s σ H x y v u Q I rx ry h
  obtain ⟨a, μ, d, e, m, r1, r2, q⟩ := h
  simp only [cmpV] at q
  split at q
  · exact op_le pins s σ H x y v u Q I rx ry ⟨_, _, rep_intI r1, rep_intI r2, q a H (Stp.refl _ _) m⟩
  · exact q.elim
theorem op_gtV : OpR X (compareOp .Gt) (rCmp T n X.K .gt) := by
  intro pins s σ H x y v u Q I rx ry h
  obtain ⟨a, μ, d, e, m, r1, r2, q⟩ := h
  simp only [cmpV] at q
  split at q
  · exact op_gt pins s σ H x y v u Q I rx ry ⟨_, _, rep_intI r1, rep_intI r2, q a H (Stp.refl _ _) m⟩
  · exact q.elim
theorem op_geV : OpR X (compareOp .GtE) (rCmp T n X.K .ge) := by
  intro pins s σ H x y v u Q I rx ry h
  obtain ⟨a, μ, d, e, m, r1, r2, q⟩ := h
  simp only [cmpV] at q
  split at q
  · exact op_ge pins s σ H x y v u Q I rx ry ⟨_, _, rep_intI r1, rep_intI r2, q a H (Stp.refl _ _) m⟩
  · exact q.elim
theorem isN_of {d : D} {c : Bool} (r : Rep T X.K a d v) (hc : isV d .non = some c) : decide (v = .non) = c := by
  cases d <;> simp only [Rep] at r <;> simp only [isV] at hc <;> have hc := Option.some.inj hc <;> subst hc
  case non => subst r; rfl
  case bl => subst r; rfl
  case int => subst r; rfl
  case str => obtain ⟨rfl, _⟩ := r; rfl
  case tup => obtain ⟨p, vs, rfl, _⟩ := r; rfl
  case key => obtain ⟨p, vs, rfl, _⟩ := r; rfl
  case lst => obtain ⟨p, vs, rfl, _⟩ := r; rfl
  case rol => obtain ⟨p, vs, rfl, _⟩ := r; rfl
  case dct => obtain ⟨p, vs, rfl, _⟩ := r; rfl
  case ins => obtain ⟨p, vs, _, rfl, _⟩ := r; rfl
  case cls => subst r; rfl
  case fn => subst r; rfl
  case obj => obtain ⟨p, _, rfl⟩ := r; rfl
  case xv => obtain ⟨p, _, _, rfl, _⟩ := r; rfl
theorem isB_of {d : D} {c b : Bool} {u : Value} (r : Rep T X.K a d v) (rv : RelV v u) (hc : isV d (.bl b) = some c) : PySem.plainIs u (.bool b) = true ∧ (u == Value.bool b) = c := by
  cases d <;> simp only [Rep] at r <;> simp only [isV] at hc <;> have hc := Option.some.inj hc <;> subst hc
  case non => subst r; cases rv; exact ⟨rfl, by simp⟩
  case bl w => subst r; cases rv; exact ⟨rfl, by cases w <;> cases b <;> rfl⟩
  case int => subst r; obtain ⟨t, rfl⟩ := rv; exact ⟨rfl, by simp⟩
  case str => obtain ⟨rfl, _⟩ := r; obtain ⟨t, rfl⟩ := rv; exact ⟨rfl, by simp⟩
  case tup => obtain ⟨p, vs, rfl, _⟩ := r; cases rv; exact ⟨rfl, by simp⟩
  case key => obtain ⟨p, vs, rfl, _⟩ := r; cases rv; exact ⟨rfl, by simp⟩
  case lst => obtain ⟨p, vs, rfl, _⟩ := r; cases rv; exact ⟨rfl, by simp⟩
  case rol => obtain ⟨p, vs, rfl, _⟩ := r; cases rv; exact ⟨rfl, by simp⟩
  case dct => obtain ⟨p, vs, rfl, _⟩ := r; cases rv; exact ⟨rfl, by simp⟩
  case ins => obtain ⟨p, vs, _, rfl, _⟩ := r; cases rv; exact ⟨rfl, by simp⟩
  case cls => subst r; cases rv; exact ⟨rfl, by simp⟩
  case fn => subst r; cases rv; exact ⟨rfl, by simp⟩
  case obj => obtain ⟨p, _, rfl⟩ := r; cases rv; exact ⟨rfl, by simp⟩
  case xv => obtain ⟨p, _, _, rfl, _⟩ := r; cases rv; exact ⟨rfl, by simp⟩
theorem isV_right {d e : D} {c : Bool} (h : isV d e = some c) : e = .non ∨ ∃ b, e = .bl b := by
  cases e <;> simp [isV] at h ⊢
theorem op_isV : OpR X (compareOp .Is) (rCmp T n X.K .is_) := by
  intro pins s σ H x y v u Q I rx ry h
  obtain ⟨a, μ, d, e, m, r1, r2, q⟩ := h
  simp only [cmpV] at q
  obtain ⟨c, hc, k⟩ := q.of
  rcases isV_right hc with rfl | ⟨b, rfl⟩
  · have hy : y = .non := by simpa only [Rep] using r2
    refine op_isN pins s σ H x y v u Q I rx ry ⟨hy, ?_⟩
    rw [isN_of r1 hc]
    exact k a H (Stp.refl _ _) m
  · have hy : y = .bl b := by simpa only [Rep] using r2
    subst hy
    cases ry
    obtain ⟨h1, h2⟩ := isB_of r1 rx hc
    exact PySem.wpAny_is_plain h1 (fin_bl I (k a H (Stp.refl _ _) m) h2.symm)
theorem op_isnV : OpR X (compareOp .IsNot) (rCmp T n X.K .isn) := by
  intro pins s σ H x y v u Q I rx ry h
  obtain ⟨a, μ, d, e, m, r1, r2, q⟩ := h
  simp only [cmpV] at q
  obtain ⟨c, hc, k⟩ := q.of
  obtain ⟨c', hc2, rfl⟩ := Option.map_eq_some_iff.mp hc
  clear hc
  have hc := hc2
  rcases isV_right hc with rfl | ⟨b, rfl⟩
  · have hy : y = .non := by simpa only [Rep] using r2
    refine op_notN pins s σ H x y v u Q I rx ry ⟨hy, ?_⟩
    rw [isN_of r1 hc]
    exact k a H (Stp.refl _ _) m
  · have hy : y = .bl b := by simpa only [Rep] using r2
    subst hy
    cases ry
    obtain ⟨h1, h2⟩ := isB_of r1 rx hc
    exact PySem.wpAny_isNot_plain h1 (fin_bl I (k a H (Stp.refl _ _) m) (by rw [h2]))

theorem sm_tup {l : List D} {k : Nat} (h : sms k l = true) : sm (k + 1) (.tup l) = true := by simpa only [sm] using h
theorem sm_lst {l : List D} {k : Nat} (h : sms k l = true) : sm (k + 1) (.lst l) = true := by simpa only [sm] using h
theorem dp_fst {y : V} {e : D} {μ : Mem} (m : HolM T X.K a μ H) (r : Rep T X.K a e y) {l : List D} {k : Nat} (hl : sms k l = true) (he : rd μ e = .tup l ∨ rd μ e = .lst l) : Dp X.K H y (toPy (rd μ e)) ∧ PyData.canLayAll0 (toPys l) = true ∧ PyData.depthAll (toPys l) ≤ k := by
  rcases he with h | h
  · obtain ⟨h1, h2⟩ := rdv_dp (n := k + 1) m (by rw [h]; exact sm_tup hl) r
    rw [h] at h2
    exact ⟨h1, by simpa only [toPy, PyData.canLay0] using h2, sms_depth _ _ hl⟩
  · obtain ⟨h1, h2⟩ := rdv_dp (n := k + 1) m (by rw [h]; exact sm_lst hl) r
    rw [h] at h2
    exact ⟨h1, by simpa only [toPy, PyData.canLay0] using h2, sms_depth _ _ hl⟩
/-- in, not in over a sequence of data -/
theorem in_data (neg : Bool) (hu : X.A.units + 64 < cLine) {pins : List (Addr × Obj)} {s : Shared} {σ : L2.St} {x y : V} {v u : Value} {Q : VK} (I : L2.Inv X pins σ H s) (rx : L2.RelV x v) (ry : L2.RelV y u) {μ : Mem} {d e : D} (m : HolM T X.K a μ H) (r1 : Rep T X.K a d x) (r2 : Rep T X.K a e y)
    {l : List D} (hd : sm SMD (rd μ d) = true) (hl : sms SMD l = true) (he : rd μ e = .tup l ∨ rd μ e = .lst l) (q : Q (.bl (if neg then !(l.any fun z => deq z (rd μ d)) else l.any fun z => deq z (rd μ d))) H) :
    wpAny (model X.prog X.w) X.A (compareOp (if neg then .NotIn else .In) v u) (EP X pins σ Q) X.xe s := by
  obtain ⟨p1, c1⟩ := rdv_dp m hd r1
  obtain ⟨p2, c2, c3⟩ := dp_fst m r2 hl he
  obtain ⟨as, t1⟩ := Dp.reads I _ x v p1 rx
  obtain ⟨bs, t2⟩ := Dp.reads I _ y u p2 ry
  have hany := any_py SMD SMD _ hd l hl
  have hroom : X.A.units + 1 + min (PyData.depthAll (toPys l)) (toPy (rd μ d)).depth < cLine := by
    have : PyData.depthAll (toPys l) ≤ 40 := c3
    omega
  have fin : ∀ b : Bool, b = (if neg then !(l.any fun z => deq z (rd μ d)) else l.any fun z => deq z (rd μ d)) → EP X pins σ Q (.bool b) s := fun b hb => by
    subst hb; exact ⟨.bl _, H, I, rfl, q⟩
  rcases he with h | h <;> rw [h] at t2 <;> simp only [toPy] at t2 <;> cases neg
  · exact SeqAt.in_tuple_reads t2 t1 c2 c1 hroom (fin _ (by rw [hany]; rfl))
  · exact SeqAt.notIn_tuple_reads t2 t1 c2 c1 hroom (fin _ (by rw [hany]; rfl))
  · exact SeqAt.in_list_reads t2 t1 c2 c1 hroom (fin _ (by rw [hany]; rfl))
  · exact SeqAt.notIn_list_reads t2 t1 c2 c1 hroom (fin _ (by rw [hany]; rfl))

theorem keyOk_f {d : D} (h : keyOk false d = true) : ∃ k, toKey d = some k := by
  cases d <;> simp only [keyOk] at h <;> first | (exact absurd h (by decide)) | (exact ⟨_, rfl⟩) | (simp at h)
theorem keyOk_t {d : D} (h : keyOk true d = true) : ∃ l ks, d = .key l ∧ toKeyT d = some ks := by
  cases d <;> simp only [keyOk] at h <;> first | (exact absurd h (by decide)) | skip
  rename_i l
  simp only [Bool.and_eq_true, Bool.true_and] at h
  refine ⟨l, ?_⟩
  have : ∀ l : List D, (l.all fun d => match d with | .str _ => true | .int _ => true | _ => false) = true → ∃ ks, (l.mapM fun d => match d with | .str s => some (Sum.inr s : Key) | .int i => some (Sum.inl i) | _ => none) = some ks := by
    intro l
    induction l with
    | nil => intro _; exact ⟨[], rfl⟩
    | cons d l ih =>
      intro g
      simp only [List.all_cons, Bool.and_eq_true] at g
      obtain ⟨ks, e⟩ := ih g.2
      cases d <;> simp only [reduceCtorEq, false_and, Bool.false_eq_true] at g
      · rename_i i
        exact ⟨Sum.inl i :: ks, by simp [List.mapM_cons, e]⟩
      · rename_i s
        exact ⟨Sum.inr s :: ks, by simp [List.mapM_cons, e]⟩
  obtain ⟨ks, e⟩ := this l h
  exact ⟨ks, rfl, e⟩
end
end DI
end

section
set_option Elab.async false
set_option linter.all false
set_option maxRecDepth 100000
namespace DI
open PySem L2 PySem.Spec PyProof.Rows
theorem deq_key {a d : D} {x k : Key} (h : toKey a = some x) (g : toKey d = some k) : deq a d = decide (x = k) := by
  cases a <;> simp only [toKey] at h <;> first | (cases h; done) | skip <;> cases d <;> simp only [toKey] at g <;> first | (cases g; done) | skip <;> cases h <;> cases g <;> simp only [deq]
  · rename_i i j; simp [Bool.beq_eq_decide_eq]
  · simp
  · simp
  · rename_i i j; simp [Bool.beq_eq_decide_eq]
theorem mapM_cons {α β : Type} {f : α → Option β} {a : α} {l : List α} {r : List β} (h : (a :: l).mapM f = some r) : ∃ x xs, f a = some x ∧ l.mapM f = some xs ∧ r = x :: xs := by
  simp only [List.mapM_cons, Option.pure_def, Option.bind_eq_bind] at h
  obtain ⟨x, e1, h⟩ := Option.bind_eq_some_iff.mp h
  obtain ⟨xs, e2, h⟩ := Option.bind_eq_some_iff.mp h
  exact ⟨x, xs, e1, e2, (Option.some.inj h).symm⟩
theorem mapM_nil {α β : Type} {f : α → Option β} {r : List β} (h : ([] : List α).mapM f = some r) : r = [] := by simpa using h.symm
theorem mapM_len {α β : Type} {f : α → Option β} : ∀ {l : List α} {r : List β}, l.mapM f = some r → r.length = l.length
  | [], r, h => by rw [mapM_nil h]; rfl
  | a :: l, r, h => by
    obtain ⟨x, xs, _, e, rfl⟩ := mapM_cons h
    simp [mapM_len e]
def keyS : D → Option Key := fun d => match d with | .str s => some (Sum.inr s) | .int i => some (Sum.inl i) | _ => none
theorem deqs_keys : ∀ {l m : List D} {ks ls : List Key}, l.mapM keyS = some ks → m.mapM keyS = some ls → deqs l m = decide (ks = ls)
  | [], [], ks, ls, h, g => by rw [mapM_nil h, mapM_nil g]; simp [deqs]
  | [], _ :: _, ks, ls, h, g => by
    obtain ⟨x, xs, _, _, rfl⟩ := mapM_cons g
    rw [mapM_nil h]; simp [deqs]
  | _ :: _, [], ks, ls, h, g => by
    obtain ⟨x, xs, _, _, rfl⟩ := mapM_cons h
    rw [mapM_nil g]; simp [deqs]
  | a :: l, b :: m, ks, ls, h, g => by
    obtain ⟨x, xs, e1, e2, rfl⟩ := mapM_cons h
    obtain ⟨y, ys, f1, f2, rfl⟩ := mapM_cons g
    cases a <;> simp only [keyS] at e1 <;> first | (cases e1; done) | skip
    all_goals (cases b <;> simp only [keyS] at f1 <;> first | (cases f1; done) | skip)
    all_goals
      cases e1; cases f1
      simp only [deqs, deq, deqs_keys e2 f2]
    · rename_i s t
      by_cases hs : s = t <;> by_cases hx : xs = ys <;> simp [hs, hx]
    · simp
    · simp
    · rename_i s t
      by_cases hs : s = t <;> by_cases hx : xs = ys <;> simp [hs, hx]
theorem deq_keyT {a d : D} {x k : List Key} (h : toKeyT a = some x) (g : toKeyT d = some k) : deq a d = decide (x = k) := by
  cases a <;> simp only [toKeyT] at h <;> first | (cases h; done) | skip
  cases d <;> simp only [toKeyT] at g <;> first | (cases g; done) | skip
  simp only [deq]
  exact deqs_keys h g
section
variable {T : Tab} {K : PySem.W.Frag} {a : Abs} {H : Hp}
theorem dget_any {κ : Type} [DecidableEq κ] {f : D → Option κ} {d : D} {k : κ} (hq : ∀ a x, f a = some x → deq a d = decide (x = k)) : ∀ {ks : List D} {ds : List D} {ws : List V} {xs : List κ}, ks.mapM f = some xs → ks.length = ws.length → Reps T K a ds ws →
    (dget d ks ds = none ∧ valV (xs.zip ws) k = none) ∨ ∃ e w, dget d ks ds = some e ∧ valV (xs.zip ws) k = some w ∧ Rep T K a e w
  | [], ds, ws, xs, h, hl, r => by
    rw [mapM_nil h]
    exact .inl ⟨by simp [dget], rfl⟩
  | x :: ks, [], ws, xs, h, hl, r => by
    rw [r.inv0] at hl; simp at hl
  | x :: ks, e :: ds, ws, xs, h, hl, r => by
    obtain ⟨y, ys, e1, e2, rfl⟩ := mapM_cons h
    obtain ⟨v, vs, rfl, r1, r2⟩ := r.inv
    simp only [dget, hq x y e1, List.zip_cons_cons]
    by_cases hk : y = k
    · subst hk
      rw [valV_pos rfl]
      simp only [decide_true, if_true]
      exact .inr ⟨e, v, rfl, rfl, r1⟩
    · rw [valV_neg hk]
      simp only [hk, decide_false, Bool.false_eq_true, if_false]
      exact dget_any hq e2 (by simpa using hl) r2
/-- a look-up, by the small interpreter and by the layer -/
theorem dget_at {t : Bool} {ks ds : List D} {ws : List V} {p : Addr} {d : D} {v : V} (hk : keyOk t d = true) (hd : DcAt H p t ks ws) (hl : ks.length = ws.length) (r : Reps T K a ds ws) (le : ∀ q o, a.G q = some o → H q = some o) (rv : Rep T K a d v) :
    ∃ o : Option V, DGet H p v o ∧ ((dget d ks ds = none ∧ o = none) ∨ ∃ e w, dget d ks ds = some e ∧ o = some w ∧ Rep T K a e w) := by
  cases t with
  | false =>
    obtain ⟨xs, e, m⟩ := hd
    obtain ⟨k, hk⟩ := keyOk_f hk
    have hv : v = kV k := by
      cases d <;> simp only [toKey] at hk <;> first | (cases hk; done) | skip
      · cases hk; simp only [Rep] at rv; subst rv; rfl
      · cases hk; simp only [Rep] at rv; exact rv.1
    subst hv
    refine ⟨valV (xs.zip ws) k, DGet.k e, ?_⟩
    exact dget_any (fun b x hb => deq_key hb hk) m hl r
  | true =>
    obtain ⟨xs, e, m⟩ := hd
    obtain ⟨l, ls, rfl, hk⟩ := keyOk_t hk
    simp only [Rep] at rv
    obtain ⟨q, us, rfl, tq, ru⟩ := rv
    have eu : us = ls.map kV := by
      have : ∀ {l : List D} {ks : List Key} {vs : List V}, l.mapM keyS = some ks → Reps T K a l vs → vs = ks.map kV := by
        intro l
        induction l with
        | nil => intro ks vs h r; rw [r.inv0, mapM_nil h]; rfl
        | cons d l ih =>
          intro ks vs h r
          obtain ⟨x, xs, e1, e2, rfl⟩ := mapM_cons h
          obtain ⟨v, ws, rfl, r1, r2⟩ := r.inv
          rw [ih e2 r2]
          cases d <;> simp only [keyS] at e1 <;> first | (cases e1; done) | skip
          · cases e1; simp only [Rep] at r1; rw [r1]; rfl
          · cases e1; simp only [Rep] at r1; rw [r1.1]; rfl
      exact this hk ru
    subst eu
    have tq' : a.G q = some (.tup (ls.map kV)) := tq
    refine ⟨valV (xs.zip ws) ls, DGet.t e (le _ _ tq'), ?_⟩
    exact dget_any (fun b x hb => deq_keyT hb hk) m hl r
theorem deq_keyTR {a : D} {l : List D} {x k : List Key} (h : toKeyT a = some x) (g : l.mapM keyS = some k) : deq a (.tup l) = decide (x = k) := by
  cases a <;> simp only [toKeyT] at h <;> first | (cases h; done) | skip
  simp only [deq]
  exact deqs_keys h g
theorem keyTR_t {t : Bool} {d : D} (h : keyTR t d = true) : t = true ∧ ∃ l ks, d = .tup l ∧ l.mapM keyS = some ks := by
  cases d <;> simp only [keyTR] at h <;> first | (exact absurd h (by decide)) | skip
  rename_i l
  rw [Bool.and_eq_true] at h
  refine ⟨h.1, l, ?_⟩
  have : ∀ l : List D, (l.all fun d => match d with | .str _ => true | .int _ => true | _ => false) = true → ∃ ks, l.mapM keyS = some ks := by
    intro l
    induction l with
    | nil => intro _; exact ⟨[], rfl⟩
    | cons d l ih =>
      intro g
      simp only [List.all_cons, Bool.and_eq_true] at g
      obtain ⟨ks, e⟩ := ih g.2
      cases d <;> simp only [reduceCtorEq, false_and, Bool.false_eq_true] at g
      · rename_i i
        exact ⟨Sum.inl i :: ks, by simp [List.mapM_cons, e, keyS]⟩
      · rename_i s
        exact ⟨Sum.inr s :: ks, by simp [List.mapM_cons, e, keyS]⟩
  obtain ⟨ks, e⟩ := this l h.2
  exact ⟨ks, rfl, e⟩
theorem reps_keyS : ∀ {l : List D} {ks : List Key} {vs : List V}, l.mapM keyS = some ks → Reps T K a l vs → vs = ks.map kV
  | [], ks, vs, h, r => by rw [r.inv0, mapM_nil h]; rfl
  | d :: l, ks, vs, h, r => by
    obtain ⟨x, xs, e1, e2, rfl⟩ := mapM_cons h
    obtain ⟨v, ws, rfl, r1, r2⟩ := r.inv
    rw [reps_keyS e2 r2]
    cases d <;> simp only [keyS] at e1 <;> first | (cases e1; done) | skip
    · cases e1; simp only [Rep] at r1; rw [r1]; rfl
    · cases e1; simp only [Rep] at r1; rw [r1.1]; rfl
/-- a look-up by a tuple that stays -/
theorem dget_tup {ks ds : List D} {ws : List V} {p : Addr} {l : List D} {ls : List Key} (hd : DcAt H p true ks ws) (hl : ks.length = ws.length) (r : Reps T K a ds ws) (hk : l.mapM keyS = some ls) :
    ∃ kvs, H p = some (.dT kvs) ∧ ((dget (.tup l) ks ds = none ∧ valV kvs ls = none) ∨ ∃ e w, dget (.tup l) ks ds = some e ∧ valV kvs ls = some w ∧ Rep T K a e w) := by
  obtain ⟨xs, e, m⟩ := hd
  exact ⟨_, e, dget_any (fun b x hb => deq_keyTR hb hk) m hl r⟩
theorem ex_sq {K : PySem.W.Frag} {G H : Hp} (le : ∀ q o, G q = some o → H q = some o) {p : Addr} {vs : List V} (x : SqT K G p vs) : SqT K H p vs := by
  rcases x with (x | ⟨o, x⟩) | x
  · exact .inl (.inl (le _ _ x))
  · exact .inl (.inr ⟨o, le _ _ x⟩)
  · exact .inr x
theorem d_getItemT {X : Cx} {pins : List (Addr × Obj)} {σ : L2.St} {s : Shared} {p q : Addr} {kvs : List (List Key × V)} {k : List Key} {v : V} {A : Around} {E : Value → Shared → Prop} {Q : Value → Shared → Prop} (hu : A.units + 1 < cLine) (I : Inv X pins σ H s) (e : H p = some (.dT kvs)) (sq : SqT X.K H q (k.map kV)) (hv : valV kvs k = some v)
    (h : ∀ w' s', Inv X pins σ H s' → RelV v w' → Q w' s') : wpAny (model X.prog X.w) A (getItem (.ref p) (.ref q)) Q E s := by
  obtain ⟨_, _, xs, rel, dd⟩ := dt_of I.hok e
  obtain ⟨its, r, ⟨o, g1, g2, m, g3⟩, _⟩ := I.tuple sq
  obtain ⟨w', hw, rw'⟩ := RelO.some_of (v := v) (o := (atKey xs k).map (·.2)) (by rw [← hv]; exact rel.val k)
  obtain ⟨z, hz, rfl⟩ := Option.map_eq_some_iff.mp hw
  exact wpAny_getItem_heap (tupleKind_room_in1 hu) ⟨o, its.toArray, m, g1, g2, g3, by simpa using items_are r⟩ dd hz (h _ _ (I.tok _) rw')
end
section
variable {T : Tab} {n : Nat} {X : Cx} {W : WX} {pos : Pos} {a : Abs} {H : Hp} {v : V} {μ : Mem}
/-- x in o of an instance with an own __contains__ -/
def InOwn (T : Tab) (n : Nat) (X : Cx) : Prop := ∀ (neg : Bool), OpR X (compareOp (if neg then .NotIn else .In)) (fun x y H Q => ∃ a μ d e c ns fs, HolM T X.K a μ H ∧ Rep T X.K a d x ∧ Rep T X.K a e y ∧ rd μ e = .ins c ns fs ∧
  WpR (inV T.P (T.C n) μ d e) (fun c μ' => ∀ b H', Stp a H b H' → HolM T X.K b μ' H' → Q (.bl (if neg then !c else c)) H') (fun _ _ => False))
theorem one_sign {x y : Str} (h : (sL x).length = 1) : ∃ c, x = ⟨#[c]⟩ ∧ ((sL x).all fun c => (sL y).contains c) = decide (c ∈ y.cps.toList) := by
  obtain ⟨l⟩ := x
  obtain ⟨l⟩ := l
  have h : l.length = 1 := h
  match l, h with
  | [c], _ =>
    refine ⟨c, rfl, ?_⟩
    show ([c].all fun c => (sL y).contains c) = _
    simp only [List.all_cons, List.all_nil, Bool.and_true, sL]
    rw [Bool.eq_iff_iff]; simp
theorem op_inV (neg : Bool) (hu : X.A.units + 64 < cLine) (ho : InOwn T n X) : OpR X (compareOp (if neg then .NotIn else .In)) (fun x y H Q => ∃ a μ d e, HolM T X.K a μ H ∧ Rep T X.K a d x ∧ Rep T X.K a e y ∧
    WpR (inV T.P (T.C n) μ d e) (fun c μ' => ∀ b H', Stp a H b H' → HolM T X.K b μ' H' → Q (.bl (if neg then !c else c)) H') (fun _ _ => False)) := by
  intro pins s σ H x y v u Q I rx ry h
  obtain ⟨a, μ, d, e, m, r1, r2, q⟩ := h
  have q2 := rd_rep m r2
  have q0 := q
  unfold inV at q
  split at q
  · rename_i l he
    split at q
    · rename_i hs
      obtain ⟨h1, h2⟩ := Bool.and_eq_true_iff.mp hs
      exact in_data neg hu I rx ry m r1 r2 h1 h2 (.inl he) (q a H (Stp.refl _ _) m)
    · exact q.elim
  · rename_i l he
    split at q
    · rename_i hs
      obtain ⟨h1, h2⟩ := Bool.and_eq_true_iff.mp hs
      exact in_data neg hu I rx ry m r1 r2 h1 h2 (.inr he) (q a H (Stp.refl _ _) m)
    · exact q.elim
  · rename_i z he
    rw [he] at q2
    split at q
    · rename_i w
      split at q
      · rename_i hl
        obtain ⟨c, rfl, hc⟩ := one_sign (y := z) hl
        rw [hc] at q
        have hx : x = .str ⟨#[c]⟩ := by simp only [Rep] at r1; exact r1.1
        cases neg
        · exact op_in_sign pins s σ H x y v u Q I rx ry ⟨c, z, hx, q2.str.1, q a H (Stp.refl _ _) m⟩
        · exact op_notIn_sign pins s σ H x y v u Q I rx ry ⟨c, z, hx, q2.str.1, q a H (Stp.refl _ _) m⟩
      · exact q.elim
    · exact q.elim
  · rename_i t ks vs he
    rw [he] at q2
    obtain ⟨p, ws, rfl, rw', hl, hd⟩ := q2
    split at q
    · rename_i hk
      obtain ⟨o, hg, hc⟩ := dget_at hk hd hl rw' m.le r1
      have eo : (dget d ks vs).isSome = o.isSome := by
        rcases hc with ⟨h1, h2⟩ | ⟨_, _, h1, h2, _⟩ <;> rw [h1, h2] <;> rfl
      rw [eo] at q
      cases ry
      cases neg
      · exact d_in (by omega) I hg rx fun s3 I3 => ⟨.bl o.isSome, H, I3, rfl, q a H (Stp.refl _ _) m⟩
      · exact d_notIn (by omega) I hg rx fun s3 I3 => ⟨.bl (!o.isSome), H, I3, rfl, q a H (Stp.refl _ _) m⟩
    · exact q.elim
  · rename_i c ns fs he
    exact ho neg pins s σ H x y v u Q I rx ry ⟨a, μ, d, e, c, ns, fs, m, r1, r2, he, q0⟩
  · exact q.elim
theorem op_cmpV (o : Cop) (hu : X.A.units + 64 < cLine) (hE : EqOwn T n X) (hI : InOwn T n X) : OpR X (compareOp (toCmp o)) (rCmp T n X.K o) := by
  cases o
  · exact op_eqV hu hE
  · exact op_neV hu hE
  · exact op_ltV
  · exact op_leV
  · exact op_gtV
  · exact op_geV
  · exact op_inV false hu hI
  · intro pins s σ H x y v u Q I rx ry h
    obtain ⟨a, μ, d, e, m, r1, r2, q⟩ := h
    exact op_inV true hu hI pins s σ H x y v u Q I rx ry ⟨a, μ, d, e, m, r1, r2, q.notR⟩
  · exact op_isV
  · exact op_isnV
theorem WpR.nox {α : Type} {r : R α} {k : α → Mem → Prop} {kx : D → Mem → Prop} (h : WpR (DI.nox r) k kx) : WpR r k (fun _ _ => False) := by
  cases r <;> exact h
/-- two operands compared -/
theorem twoC {o : Cop} {d e : E} {σ : L2.St} {H : Hp} {Q : VK} {a : Abs} {ρ : Env} {μ : Mem} {f : Bool → Mem → R D} {kk : D → Mem → Prop} (ho : Hol T X.K a ρ μ σ H)
    (q : WpR ((evE T.P (T.C n) T.reprS d ρ μ).bind fun d μ => (evE T.P (T.C n) T.reprS e ρ μ).bind fun e μ => (DI.nox (cmpV T.P (T.C n) μ o d e)).bind f) kk (Kx T X.K a H ρ σ W))
    (hk : ∀ c μ1 b H1, Stp a H b H1 → Hol T X.K b ρ μ1 σ H1 → WpR (f c μ1) kk (Kx T X.K a H ρ σ W) → Q (.bl c) H1) :
    tOp (rCmp T n X.K o) (tE T n X.K W d) (tE T n X.K W e) σ H Q := by
  refine ⟨a, ρ, μ, ho, q.bind.mono (fun d1 μ1 q1 b v H1 le1 ho1 r1 => ?_) fun _ _ k => k⟩
  refine ⟨b, ρ, μ1, ho1, q1.bind.mono (fun d2 μ2 q2 c w H2 le2 ho2 r2 => ?_) fun _ _ k => k.mono le1⟩
  exact ⟨c, μ2, d1, d2, ho2.m, Rep.mono le2.le _ _ r1, r2, q2.bind.nox.mono (fun x μ3 q3 b' H3 le3 m3 => hk x μ3 b' H3 (le1.trans (le2.trans le3)) (ho2.to le3.le m3) q3) fun _ _ z => z⟩
/-- what a comparison wants around -/
structure CmpOk (T : Tab) (n : Nat) (X : Cx) : Prop where
  units : X.A.units + 64 < cLine
  eq : EqOwn T n X
  inn : InOwn T n X
theorem se_cmp {x y : Expr} {d e : E} (o : Cop) (hc : CmpOk T n X) (hm : behindInMarks (toCmp o) y = false) (h1 : SE T n X W x d) (h2 : SE T n X W y e) : SE T n X W (.Compare x [toCmp o] [y] pos) (.cmp o d e) := by
  refine PE.imp (pe_cmpR (op_cmpV (T := T) (n := n) o hc.units hc.eq hc.inn) h1 h2 hm) fun σ H Q q => ?_
  obtain ⟨a, ρ, μ, ho, q⟩ := q
  simp only [evE] at q
  exact twoC ho q fun c μ1 b H1 le1 ho1 q1 => q1 b _ H1 le1 ho1 rep_bl
theorem st_cmp {x y : Expr} {d e : E} (o : Cop) (hc : CmpOk T n X) (hm : behindInMarks (toCmp o) y = false) (h1 : SE T n X W x d) (h2 : SE T n X W y e) : ST T n X W (.Compare x [toCmp o] [y] pos) (.cmp o d e) := by
  refine PT.imp (pt_cmpR (op_cmpV (T := T) (n := n) o hc.units hc.eq hc.inn) h1 h2 hm) fun σ H Q q => ?_
  obtain ⟨a, ρ, μ, ho, q⟩ := q
  simp only [evE] at q
  exact twoC ho q fun c μ1 b H1 le1 ho1 q1 => by
    obtain ⟨c', e1, k⟩ := q1
    cases e1
    exact ⟨_, rfl, k b H1 le1 ho1⟩
/-- a plain expression as a test -/
theorem st_val {x : Expr} {d : E} (he : ∀ whole, isTrue x X.env whole = (do let v ← whole; standAt x.pos; holding [v] (truthy v))) (h : SE T n X W x d) : ST T n X W x d := by
  refine PT.imp (pt_val h he) fun σ H Q q => ?_
  obtain ⟨a, ρ, μ, ho, q⟩ := q
  refine ⟨a, ρ, μ, ho, q.mono (fun d1 μ1 q1 b v H1 le1 ho1 r1 => ?_) fun _ _ k => k⟩
  obtain ⟨c, e1, k⟩ := q1
  cases d1 <;> simp only [tru] at e1 <;> first | (cases e1; done) | skip
  cases e1
  exact ⟨_, by simpa only [Rep] using r1, k b H1 le1 ho1⟩
theorem st_not {x : Expr} {d : E} (h : ST T n X W x d) : ST T n X W (.UnaryOp .Not x pos) (.not d) := by
  refine PT.imp (pt_not h) fun σ H Q q => ?_
  obtain ⟨a, ρ, μ, ho, q⟩ := q
  simp only [evE] at q
  refine ⟨a, ρ, μ, ho, q.bind.mono (fun d1 μ1 q1 => ?_) fun _ _ k => k⟩
  obtain ⟨z, e1, k⟩ := q1.of
  obtain ⟨c, e2, rfl⟩ := Option.map_eq_some_iff.mp e1
  obtain ⟨c', e3, k⟩ := k
  cases e3
  exact ⟨c, e2, fun b H1 le ho => k b H1 le ho⟩
theorem se_not {x : Expr} {d : E} (h : SE T n X W x d) : SE T n X W (.UnaryOp .Not x pos) (.not d) := by
  refine PE.imp (pe_not h) fun σ H Q q => ?_
  obtain ⟨a, ρ, μ, ho, q⟩ := q
  simp only [evE] at q
  refine ⟨a, ρ, μ, ho, q.bind.mono (fun d1 μ1 q1 b v H1 le1 ho1 r1 => ?_) fun _ _ k => k⟩
  obtain ⟨z, e1, k⟩ := q1.of
  obtain ⟨c, e2, rfl⟩ := Option.map_eq_some_iff.mp e1
  cases d1 <;> simp only [tru] at e2 <;> first | (cases e2; done) | skip
  cases e2
  exact ⟨_, by simpa only [Rep] using r1, k b _ H1 le1 ho1 rep_bl⟩
abbrev SW (T : Tab) (n : Nat) (X : Cx) (W : WX) (x : Expr) (f : Env → Mem → R D) : Prop := PW X x (fun σ H Q => ∃ a ρ μ, Hol T X.K a ρ μ σ H ∧ WpR (f ρ μ) (fun d μ' => ∃ c, tru d = some c ∧ ∀ b H', Stp a H b H' → Hol T X.K b ρ μ' σ H' → Q c H') (Kx T X.K a H ρ σ W))
theorem sw_or1 {x : Expr} {d : E} (h : ST T n X W x d) : SW T n X W (.BoolOp .Or [x] pos) (evOr T.P (T.C n) T.reprS (.c d .n)) := by
  refine PW.imp (pw_or1 h) fun σ H Q q => ?_
  obtain ⟨a, ρ, μ, ho, q⟩ := q
  simp only [evOr] at q
  exact ⟨a, ρ, μ, ho, q⟩
theorem sw_or {x y : Expr} {xs : List Expr} {d e : E} {es : Es} (h : ST T n X W x d) (hs : SW T n X W (.BoolOp .Or (y :: xs) pos) (evOr T.P (T.C n) T.reprS (.c e es))) : SW T n X W (.BoolOp .Or (x :: y :: xs) pos) (evOr T.P (T.C n) T.reprS (.c d (.c e es))) := by
  refine PW.imp (pw_or h hs) fun σ H Q q => ?_
  obtain ⟨a, ρ, μ, ho, q⟩ := q
  simp only [evOr] at q
  refine ⟨a, ρ, μ, ho, q.bind.mono (fun d1 μ1 q1 => ?_) fun _ _ k => k⟩
  split at q1
  · rename_i e1
    obtain ⟨c, e2, k⟩ := q1
    cases e2
    exact ⟨true, e1, fun b H1 le1 ho1 => k b H1 le1 ho1⟩
  · rename_i e1
    exact ⟨false, e1, fun b H1 le1 ho1 => ⟨b, ρ, μ1, ho1, q1.mono (fun d2 μ2 ⟨c, e2, k⟩ => ⟨c, e2, fun b2 H2 le2 ho2 => k b2 H2 (le1.trans le2) ho2⟩) fun _ _ k => k.mono le1⟩⟩
  · exact q1.elim
theorem st_or {xs : List Expr} {es : Es} (h : SW T n X W (.BoolOp .Or xs pos) (evOr T.P (T.C n) T.reprS es)) : ST T n X W (.BoolOp .Or xs pos) (.or es) := by
  refine PT.imp (PW.pt h) fun σ H Q q => ?_
  obtain ⟨a, ρ, μ, ho, q⟩ := q
  simp only [evE] at q
  exact ⟨a, ρ, μ, ho, q⟩
/-- .. as values -/
abbrev SV (T : Tab) (n : Nat) (X : Cx) (W : WX) (x : Expr) (f : Env → Mem → R D) : Prop := PE X x (fun σ H Q => ∃ a ρ μ, Hol T X.K a ρ μ σ H ∧ WpR (f ρ μ) (fun d μ' => ∀ b v H', Stp a H b H' → Hol T X.K b ρ μ' σ H' → Rep T X.K b d v → Q v H') (Kx T X.K a H ρ σ W))
theorem sv_one {op : BoolOp} {x : Expr} {d : E} (h : SE T n X W x d) {f : Env → Mem → R D} (hf : ∀ ρ μ, f ρ μ = evE T.P (T.C n) T.reprS d ρ μ) : SV T n X W (.BoolOp op [x] pos) f := by
  refine PE.imp (pe_one h) fun σ H Q q => ?_
  obtain ⟨a, ρ, μ, ho, q⟩ := q
  rw [hf] at q
  exact ⟨a, ρ, μ, ho, q⟩
theorem sv_and {x y : Expr} {xs : List Expr} {d e : E} {es : Es} (h : SE T n X W x d) (hs : SV T n X W (.BoolOp .And (y :: xs) pos) (evAnd T.P (T.C n) T.reprS (.c e es))) : SV T n X W (.BoolOp .And (x :: y :: xs) pos) (evAnd T.P (T.C n) T.reprS (.c d (.c e es))) := by
  refine PE.imp (pe_and h hs) fun σ H Q q => ?_
  obtain ⟨a, ρ, μ, ho, q⟩ := q
  simp only [evAnd] at q
  refine ⟨a, ρ, μ, ho, q.bind.mono (fun d1 μ1 q1 b v H1 le1 ho1 r1 => ?_) fun _ _ k => k⟩
  split at q1
  · rename_i e1
    cases d1 <;> simp only [tru] at e1 <;> first | (cases e1; done) | skip
    cases e1
    refine ⟨true, by simpa only [Rep] using r1, ?_⟩
    exact ⟨b, ρ, μ1, ho1, q1.mono (fun d2 μ2 k b2 v2 H2 le2 ho2 r2 => k b2 v2 H2 (le1.trans le2) ho2 r2) fun _ _ k => k.mono le1⟩
  · rename_i e1
    cases d1 <;> simp only [tru] at e1 <;> first | (cases e1; done) | skip
    cases e1
    exact ⟨false, by simpa only [Rep] using r1, q1 b _ H1 le1 ho1 rep_bl⟩
  · exact q1.elim
theorem se_and {xs : List Expr} {es : Es} (h : SV T n X W (.BoolOp .And xs pos) (evAnd T.P (T.C n) T.reprS es)) : SE T n X W (.BoolOp .And xs pos) (.and es) := by
  refine PE.imp h fun σ H Q q => ?_
  obtain ⟨a, ρ, μ, ho, q⟩ := q
  simp only [evE] at q
  exact ⟨a, ρ, μ, ho, q⟩
end
end DI
end

section
set_option Elab.async false
set_option linter.all false
set_option maxRecDepth 100000
namespace DI
open PySem L2 PySem.Spec PyProof.Rows
theorem tail_of {prog : Program} {w : World} {A : Around} {E : Value → Shared → Prop} {s : Shared} {value slice : Expr} {o i : Value} {T id : String} {Q : Value → Shared → Prop}
    (hl : typeLookup (.type T) "__getitem__" = pure (some (.builtin id))) (hs : subscripted slice false o i = operate [o, i] (getItem o i)) (hT : s.TypeIs o T)
    (h : wpAny (model prog w) A (getItem o i) Q E s) : wpAny (model prog w) A (subscriptTail value slice o i) Q E s := by
  unfold subscriptTail
  refine wpAny_bind ?_
  rw [getitemInPython_of_ne hT.not_modules]
  refine wpAny_bind (wpAny_specialOf hT hl ?_)
  have fin : wpAny (model prog w) A (subscripted slice false o i) (fun r s₃ => wpAny (model prog w) A (letTemporaryGo value o r >>= fun _ => pure r) Q E s₃) E s := by
    rw [hs]
    exact wpAny_operating (wpAny_mono h (fun r s₃ h₃ => wpAny_bind (wpAny_letTemporaryGo (wpAny_pure h₃))) fun _ _ x => x)
  first
    | exact wpAny_pure (wpAny_bind fin)
    | exact wpAny_bind (wpAny_pure (wpAny_bind fin))
    | exact wpAny_bind fin
theorem atPl_ix (n : Nat) (i : Int) : atPl n i = ixN n i := by
  unfold atPl ixN
  by_cases h : 0 ≤ i
  · rw [if_pos h, if_pos h]
  · rw [if_neg h, if_neg h]
    by_cases g : -(n : Int) ≤ i
    · rw [if_pos g, if_pos (by omega)]
    · rw [if_neg g, if_neg (by omega)]
section
variable {T : Tab} {n : Nat} {X : Cx} {W : WX} {pos : Pos} {a : Abs} {H : Hp} {v : V} {μ : Mem}
/-- o[i] of an instance with an own __getitem__ -/
def IdxOwn (T : Tab) (n : Nat) (X : Cx) (W : WX) : Prop := ∀ (value slice : Expr) (pins : List (Addr × Obj)) (s : Shared) (σ : L2.St) (H : Hp) (x y : V) (v u : Value) (Q : VK) (a : Abs) (ρ : Env) (μ : Mem) (d e : D) (c : Nat) (ns : List Nat) (fs : List D), L2.Inv X pins σ H s → RelV x v → RelV y u →
  subscripted slice false v u = operate [v, u] (getItem v u) → Hol T X.K a ρ μ σ H → Rep T X.K a d x → Rep T X.K a e y → rd μ d = .ins c ns fs →
  WpR (idxV T.P (T.C n) μ d e) (fun z μ' => ∀ b v H', Stp a H b H' → Hol T X.K b ρ μ' σ H' → Rep T X.K b z v → Q v H') (Kx T X.K a H ρ σ W) → wpAny (model X.prog X.w) X.A (subscriptTail value slice v u) (EP X pins σ Q) X.xe s
theorem at_rep {l : List D} {vs : List V} {k : Int} {z : D} (r : Reps T X.K a l vs) (h : ((atPl l.length k).bind fun j => l[j]?) = some z) : ∃ w, atI vs k = some w ∧ Rep T X.K a z w := by
  obtain ⟨j, e1, e2⟩ := Option.bind_eq_some_iff.mp h
  obtain ⟨w, e3, q⟩ := r.get e2
  refine ⟨w, ?_, q⟩
  unfold atI
  rw [← r.length, ← atPl_ix, e1]
  exact e3
theorem strOk_mem {x : Str} (h : PyData.strOk x = true) {c : Nat} (hc : c ∈ sL x) : PyData.strOk (sM [c]) = true := by
  unfold PyData.strOk at *
  simp only [sM, sL, Array.all_eq_true', Array.mem_toList_iff] at *
  intro d hd
  have : d = c := by simpa using hd
  subst this
  exact h d hc
theorem se_idx {x y : Expr} {d e : E} (hu : X.A.units + 64 < cLine) (hO : IdxOwn T n X W) (hs : PlainIx y) (h1 : SE T n X W x d) (h2 : SE T n X W y e) : SE T n X W (.Subscript x y pos) (.idx d e) := by
  refine ⟨fun pins s σ H Q I q => ?_⟩
  obtain ⟨a, ρ, μ, ho, q⟩ := q
  simp only [evE] at q
  refine Subscript_ (binT h1 h2 I (R := fun x y H2 => ∃ b μ2 dx dy, Hol T X.K b ρ μ2 σ H2 ∧ Stp a H b H2 ∧ Rep T X.K b dx x ∧ Rep T X.K b dy y ∧
    WpR (idxV T.P (T.C n) μ2 dx dy) (fun z μ' => ∀ b v H', Stp a H b H' → Hol T X.K b ρ μ' σ H' → Rep T X.K b z v → Q v H') (Kx T X.K a H ρ σ W)) ?_ fun v u s2 x y H2 I2 rx ry q => ?_)
  · refine ⟨a, ρ, μ, ho, q.bind.mono (fun d1 μ1 q1 b v H1 le1 ho1 r1 => ?_) fun _ _ k => k⟩
    refine ⟨b, ρ, μ1, ho1, q1.bind.mono (fun d2 μ2 q2 c w H2 le2 ho2 r2 => ?_) fun _ _ k => k.mono le1⟩
    exact ⟨c, μ2, d1, d2, ho2, le1.trans le2, Rep.mono le2.le _ _ r1, r2, q2⟩
  · obtain ⟨b, μ2, dx, dy, ho2, le2, r1, r2, q⟩ := q
    have m := ho2.m
    have q1 := rd_rep m r1
    have q0 := q
    have tl := hs v u
    unfold idxV at q
    split at q
    · rename_i l k hl
      rw [hl] at q1
      obtain ⟨p, vs, rfl, sq, t⟩ := q1
      obtain ⟨z, e1, k1⟩ := q.of
      obtain ⟨w, e2, rw'⟩ := at_rep t e1
      exact ix_tup _ _ pins s2 σ H2 _ y v u Q I2 rx ry ⟨p, vs, k, w, rfl, by simpa only [Rep] using r2, sq, e2, k1 b w H2 le2 ho2 rw'⟩ tl
    · rename_i l k hl
      rw [hl] at q1
      obtain ⟨p, vs, rfl, sq, t⟩ := q1
      obtain ⟨z, e1, k1⟩ := q.of
      obtain ⟨w, e2, rw'⟩ := at_rep t e1
      exact ix_tup _ _ pins s2 σ H2 _ y v u Q I2 rx ry ⟨p, vs, k, w, rfl, by simpa only [Rep] using r2, .inl (.inl sq), e2, k1 b w H2 le2 ho2 rw'⟩ tl
    · rename_i l k hl
      rw [hl] at q1
      obtain ⟨p, vs, rfl, sq, t⟩ := q1
      obtain ⟨z, e1, k1⟩ := q.of
      obtain ⟨w, e2, rw'⟩ := at_rep t e1
      exact ix_list _ _ pins s2 σ H2 _ y v u Q I2 rx ry ⟨p, vs, k, w, rfl, by simpa only [Rep] using r2, SqL.of sq, e2, k1 b w H2 le2 ho2 rw'⟩ tl
    · rename_i l k hl
      rw [hl] at q1
      obtain ⟨p, vs, rfl, sq, t⟩ := q1
      obtain ⟨z, e1, k1⟩ := q.of
      obtain ⟨w, e2, rw'⟩ := at_rep t e1
      exact ix_list _ _ pins s2 σ H2 _ y v u Q I2 rx ry ⟨p, vs, k, w, rfl, by simpa only [Rep] using r2, sq, e2, k1 b w H2 le2 ho2 rw'⟩ tl
    · rename_i l k hl
      rw [hl] at q1
      obtain ⟨z, e1, k1⟩ := q.of
      obtain ⟨j, e4, e2⟩ := Option.bind_eq_some_iff.mp e1
      obtain ⟨c, e3, rfl⟩ := Option.map_eq_some_iff.mp e2
      have g := q1.str.2
      refine ix_str _ _ pins s2 σ H2 _ y v u Q I2 rx ry ⟨l, k, c, q1.str.1, by simpa only [Rep] using r2, by rw [← sL_length, ← sizeLn_eq]; exact strG.len g, ?_, k1 b _ H2 le2 ho2 ?_⟩ tl
      · unfold atI
        rw [← atPl_ix]
        exact Option.bind_eq_some_iff.mpr ⟨j, e4, e3⟩
      · simp only [Rep]
        exact ⟨rfl, strG.of (strOk_mem (strG.ok g) (List.mem_of_getElem? e3)) (by show 1 ≤ sizeLn; decide)⟩
    · rename_i t ks vs k hk
      rw [hk] at q1
      obtain ⟨p, ws, rfl, t1, hl, hd⟩ := q1
      split at q
      · rename_i hkey
        obtain ⟨z, e1, k1⟩ := q.of
        obtain ⟨o, hg, hc⟩ := dget_at hkey hd hl t1 m.le r2
        rcases hc with ⟨h1, _⟩ | ⟨e', w, h1, h2, rw'⟩
        · rw [h1] at e1; cases e1
        · rw [h1] at e1; cases e1
          subst h2
          obtain rfl : v = Value.ref p := rx
          exact tail_of PySem.F.slot_dict_getitem.lookup tl (dict_typeIs I2 hg) (d_getItem (by omega) I2 hg ry fun w' s3 I3 rw'' => ⟨w, H2, I3, rw'', k1 b w H2 le2 ho2 rw'⟩)
      · split at q
        · rename_i hkey
          obtain ⟨z, e1, k1⟩ := q.of
          obtain ⟨rfl, l, ls, rfl, hk2⟩ := keyTR_t hkey
          simp only [Rep] at r2
          obtain ⟨pq, us, rfl, tq, ru⟩ := r2
          obtain rfl := reps_keyS hk2 ru
          obtain ⟨kvs, eH, hc⟩ := dget_tup hd hl t1 hk2
          rcases hc with ⟨h1, _⟩ | ⟨e', w, h1, h2, rw'⟩
          · rw [h1] at e1; cases e1
          · rw [h1] at e1; cases e1
            obtain rfl : v = Value.ref p := rx
            obtain rfl : u = Value.ref pq := ry
            have hty := let ⟨_, _, xs, _, dd⟩ := dt_of I2.hok eH; dd.typeIs
            exact tail_of PySem.F.slot_dict_getitem.lookup tl hty (d_getItemT (by omega) I2 eH (ex_sq m.le tq.sq) h2 fun w' s3 I3 rw'' => ⟨w, H2, I3, rw'', k1 b w H2 le2 ho2 rw'⟩)
        · exact q.elim
    · rename_i c ns fs hk
      exact hO _ _ pins s2 σ H2 x y v u Q b ρ μ2 dx _ c ns fs I2 rx ry tl ho2 r1 r2 hk (q0.mono (fun z μ' kk c w H' le => kk c w H' (le2.trans le)) fun _ _ k => k.mono le2)
    · exact q.elim

theorem clip_ix (n d : Nat) (i : Int) : clip n i = HT.sIx n d (some i) := by
  unfold clip
  show _ = if i < 0 then (i + (n : Int)).toNat else min i.toNat n
  by_cases h : 0 ≤ i
  · rw [if_pos h, if_neg (by omega)]
  · rw [if_neg h, if_pos (by omega)]
theorem cut_eq {α : Type} (l : List α) (lo hi : Option Int) : cut l lo hi = (l.drop (HT.sIx l.length 0 lo)).take (HT.sIx l.length l.length hi - HT.sIx l.length 0 lo) := by
  unfold cut
  rw [List.drop_take]
  cases lo <;> cases hi <;> first
    | rfl
    | (rename_i i; show List.take (clip l.length i - 0) _ = _; rw [clip_ix _ l.length]; rfl)
    | (rename_i i; show List.take (l.length - clip l.length i) (List.drop (clip l.length i) l) = _; rw [clip_ix _ 0]; rfl)
    | (rename_i i j; show List.take (clip l.length j - clip l.length i) (List.drop (clip l.length i) l) = _; rw [clip_ix _ 0 i, clip_ix _ l.length j])
theorem cut_vs {l : List D} {vs : List V} (r : Reps T X.K a l vs) (lo hi : Option Int) : Reps T X.K a (cut l lo hi) (cutV vs lo hi) := by
  rw [cut_eq]
  unfold cutV
  rw [r.length]
  exact Reps.take _ (Reps.drop _ r)
theorem strOk_sub {x : Str} {l : List Nat} (h : PyData.strOk x = true) (hl : ∀ c ∈ l, c ∈ sL x) : PyData.strOk (sM l) = true := by
  unfold PyData.strOk at *
  simp only [sM, sL, Array.all_eq_true', Array.mem_toList_iff, List.mem_toArray] at *
  intro d hd
  exact h d (hl d hd)
theorem sl_any : SlR X (fun x lo hi H Q => ∃ a μ d z, HolM T X.K a μ H ∧ Rep T X.K a d x ∧ sliD (rd μ d) lo hi = some z ∧ ∀ b v H', Stp a H b H' → HolM T X.K b μ H' → Fresh T X.K H b H' z v → Q v H') := by
  intro pins s σ H x v vl vu lo hi sl Q I rx hs pl pu h
  obtain ⟨a, μ, d, z, m, r1, f, k⟩ := h
  have q1 := rd_rep m r1
  generalize e : rd μ d = d' at *
  unfold sliD at f
  split at f
  · rename_i l
    cases f
    obtain ⟨p, vs, rfl, sq, t⟩ := q1
    refine sl_tupF pins s σ H _ v vl vu lo hi sl Q I rx hs pl pu ⟨p, vs, rfl, sq, fun hw => ?_, fun q o ht hq => ?_⟩
    · refine k a _ H (Stp.refl _ _) m ?_
      have : cut l lo hi = l := by
        rw [cut_eq, t.length, hw.1, hw.2, List.drop_zero, Nat.sub_zero, List.take_of_length_le (by rw [t.length]; exact Nat.le_refl _)]
      rw [this]
      have hd := rd_tup e
      subst hd
      exact r1
    · obtain ⟨b, le, m2, r⟩ := fresh_tup ht m hq (cut_vs t lo hi)
      exact k b _ _ le m2 r
  · rename_i l
    cases f
    obtain ⟨p, vs, rfl, sq, t⟩ := q1
    refine sl_list pins s σ H _ v vl vu lo hi sl Q I rx hs pl pu ⟨p, vs, rfl, SqL.of sq, fun q hq => ?_⟩
    obtain ⟨st, m2, fr⟩ := fresh_lst m hq (cut_vs t lo hi)
    exact k a _ _ st m2 fr
  · rename_i l
    cases f
    obtain ⟨p, vs, rfl, sq, t⟩ := q1
    refine sl_list pins s σ H _ v vl vu lo hi sl Q I rx hs pl pu ⟨p, vs, rfl, sq, fun q hq => ?_⟩
    obtain ⟨st, m2, fr⟩ := fresh_lst m hq (cut_vs t lo hi)
    exact k a _ _ st m2 fr
  · rename_i w
    cases f
    have g := q1.str.2
    refine sl_str pins s σ H x v vl vu lo hi sl Q I rx hs pl pu ⟨w, q1.str.1, by rw [← sL_length, ← sizeLn_eq]; exact strG.len g, ?_⟩
    have e2 : cutS w lo hi = sM (cut (sL w) lo hi) := by
      unfold cutS sM
      rw [cut_eq, sL_length]
      rfl
    rw [e2]
    refine k a _ H (Stp.refl _ _) m (rep_str (strG.of (strOk_sub (strG.ok g) fun c hc => ?_) ?_))
    · rw [cut_eq] at hc
      exact List.mem_of_mem_drop (List.mem_of_mem_take hc)
    · have : (sL (sM (cut (sL w) lo hi))).length = (cut (sL w) lo hi).length := by simp [sL, sM]
      rw [this, cut_eq, List.length_take, List.length_drop]
      have := strG.len g
      omega
  · cases f
abbrev SO (T : Tab) (n : Nat) (X : Cx) (W : WX) (x : Option Expr) (o : O) : Prop := PO X x (fun σ H Q => ∃ a ρ μ, Hol T X.K a ρ μ σ H ∧ WpR (evO T.P (T.C n) T.reprS o ρ μ) (fun z μ' => ∀ b H', Stp a H b H' → Hol T X.K b ρ μ' σ H' → Q z H') (Kx T X.K a H ρ σ W))
theorem PO.imp {x : Option Expr} {t t' : TO} (h : PO X x t) (g : ∀ σ H Q, t' σ H Q → t σ H Q) : PO X x t' := ⟨fun pins s σ H Q I q => h.run pins s σ H Q I (g σ H Q q)⟩
theorem so_none : SO T n X W none .n := by
  refine PO.imp po_none fun σ H Q q => ?_
  obtain ⟨a, ρ, μ, ho, q⟩ := q
  simp only [evO] at q
  exact q a H (Stp.refl _ _) ho
theorem so_some {x : Expr} {e : E} (h : SE T n X W x e) : SO T n X W (some x) (.s e) := by
  refine PO.imp (po_some h) fun σ H Q q => ?_
  obtain ⟨a, ρ, μ, ho, q⟩ := q
  simp only [evO] at q
  refine ⟨a, ρ, μ, ho, q.bind.mono (fun d1 μ1 q1 b v H1 le1 ho1 r1 => ?_) fun _ _ k => k⟩
  split at q1
  · exact ⟨_, by simpa only [Rep] using r1, q1 b H1 le1 ho1⟩
  · exact q1.elim
theorem sf_sli {x : Expr} {d : E} {lo hi : Option Expr} {l h : O} {p2 : Pos} (h1 : SE T n X W x d) (hl : SO T n X W lo l) (hh : SO T n X W hi h) : SF T n X W (.Subscript x (.Slice lo hi none p2) pos) (.sli d l h) := by
  refine PE.imp (pe_slice (sl_any (T := T)) h1 hl hh) fun σ H Q q => ?_
  obtain ⟨a, ρ, μ, ho, q⟩ := q
  simp only [evE] at q
  refine ⟨a, ρ, μ, ho, q.bind.mono (fun d1 μ1 q1 b v H1 le1 ho1 r1 => ?_) fun _ _ k => k⟩
  refine ⟨b, ρ, μ1, ho1, q1.bind.mono (fun d2 μ2 q2 c H2 le2 ho2 => ?_) fun _ _ k => k.mono le1⟩
  refine ⟨c, ρ, μ2, ho2, q2.bind.mono (fun d3 μ3 q3 e H3 le3 ho3 => ?_) fun _ _ k => k.mono (le1.trans le2)⟩
  obtain ⟨z, e1, k⟩ := q3.of
  exact ⟨e, μ3, d1, z, ho3.m, Rep.mono (le2.trans le3).le _ _ r1, e1, fun b' v' H' le4 m4 fr => k b' v' H' (le1.trans (le2.trans (le3.trans le4))) (ho3.to le4.le m4) (fr.pre (le1.trans (le2.trans le3)).dom)⟩
end
end DI
end

section
set_option Elab.async false
set_option linter.all false
set_option maxRecDepth 100000
namespace DI
open PySem L2 PySem.Spec PyProof.Rows
section
variable {T : Tab} {n : Nat} {X : Cx} {W : WX} {pos : Pos} {a : Abs} {H : Hp} {v : V} {μ : Mem}
/-- one argument, by values -/
def rB1 (T : Tab) (K : PySem.W.Frag) (g : Mem → D → R D) : List V → Hp → VK → Prop := fun vs H Q => ∃ a μ d v, vs = [v] ∧ HolM T K a μ H ∧ Rep T K a d v ∧ WpR (g μ d) (fun d μ' => ∀ b v H', Stp a H b H' → HolM T K b μ' H' → Fresh T K H b H' d v → Q v H') (fun _ _ => False)
/-- len of an instance with an own __len__, and the like -/
def SpOwn (T : Tab) (n : Nat) (X : Cx) (f : Value) (g : Mem → D → R D) : Prop := CallR X f (fun vs H Q => ∃ a μ d v c ns fs, vs = [v] ∧ HolM T X.K a μ H ∧ Rep T X.K a d v ∧ rd μ d = .ins c ns fs ∧ WpR (g μ d) (fun d μ' => ∀ b v H', Stp a H b H' → HolM T X.K b μ' H' → Fresh T X.K H b H' d v → Q v H') (fun _ _ => False))
theorem cb_len (hO : SpOwn T n X (.builtin "len") (lenV T.P (T.C n))) : CallR X (.builtin "len") (rB1 T X.K (lenV T.P (T.C n))) := by
  intro pins s σ H vs us Q I r h
  obtain ⟨a, μ, d, v, rfl, m, r1, q⟩ := h
  have q1 := rd_rep m r1
  have q0 := q
  unfold lenV at q
  split at q
  · rename_i x e
    rw [e] at q1
    have g := q1.str.2
    exact call_len_str pins s σ H _ us Q I r ⟨x, by rw [q1.str.1], by rw [← sL_length, ← sizeLn_eq]; exact strG.len g, by rw [← sL_length]; exact q a _ H (Stp.refl _ _) m rep_int⟩
  · rename_i l e
    rw [e] at q1
    obtain ⟨p, ws, rfl, sq, t⟩ := q1
    exact call_len_seq pins s σ H _ us Q I r ⟨p, ws, rfl, .inr sq, by rw [← t.length]; exact q a _ H (Stp.refl _ _) m rep_int⟩
  · rename_i l e
    rw [e] at q1
    obtain ⟨p, ws, rfl, sq, t⟩ := q1
    exact call_len_seq pins s σ H _ us Q I r ⟨p, ws, rfl, .inl (SqL.of sq), by rw [← t.length]; exact q a _ H (Stp.refl _ _) m rep_int⟩
  · rename_i l e
    rw [e] at q1
    obtain ⟨p, ws, rfl, sq, t⟩ := q1
    exact call_len_seq pins s σ H _ us Q I r ⟨p, ws, rfl, .inl sq, by rw [← t.length]; exact q a _ H (Stp.refl _ _) m rep_int⟩
  · rename_i ks ds e
    rw [e] at q1
    obtain ⟨p, ws, rfl, t1, hl, xs, h1, h2⟩ := q1
    have e2 : (xs.zip ws).length = ks.length := by rw [List.length_zip, mapM_len h2, ← hl, Nat.min_self]
    exact call_lenD pins s σ H _ us Q I r ⟨p, _, rfl, h1, by rw [e2]; exact q a _ H (Stp.refl _ _) m rep_int⟩
  · rename_i c ns fs e
    exact hO pins s σ H _ us Q I r ⟨a, μ, d, v, c, ns, fs, rfl, m, r1, e, q0⟩
  · exact q.elim
theorem cb_int : CallR X (.type "int") (rB1 T X.K fun μ d => R.of μ (int1V d)) := by
  intro pins s σ H vs us Q I r h
  obtain ⟨a, μ, d, v, rfl, m, r1, q⟩ := h
  obtain ⟨z, e, k⟩ := q.of
  unfold int1V at e
  split at e
  · cases e
    exact call_int1 pins s σ H _ us Q I r (.inl ⟨_, by rw [show v = .int _ by simpa only [Rep] using r1], k a _ H (Stp.refl _ _) m rep_int⟩)
  · cases e
    exact call_int1 pins s σ H _ us Q I r (.inr ⟨_, by rw [show v = .bl _ by simpa only [Rep] using r1], k a _ H (Stp.refl _ _) m rep_int⟩)
  · cases e
/-- a built-in function called with one argument -/
theorem sf_b1 {x : Str} {p : Pos} {y : Expr} {e : E} {b : Bi} {g : Mem → D → R D} (hg : ∀ μ d, bi1V T.P (T.C n) T.reprS μ b d = g μ d)
    (hpe : ∀ {t : TA}, PA X [y] t → PE X (.Call (.Name x p) [y] [] pos) (tCB (rB1 T X.K g) t)) (h : SE T n X W y e) (hs : starEach [y] X.env = (false, eval y X.env) :: starEach [] X.env) : SF T n X W (.Call (.Name x p) [y] [] pos) (.bi b (.c e .n)) := by
  refine PE.imp (hpe (pa_cons h pa_nil hs)) fun σ H Q q => ?_
  obtain ⟨a, ρ, μ, ho, q⟩ := q
  simp only [evE, evEs] at q
  refine ⟨a, ρ, μ, ho, q.bind.bind.mono (fun d μ1 q1 b' v H1 le1 ho1 r1 => ?_) fun _ _ k => k⟩
  simp only [R.bind_ok, biV, hg] at q1
  exact ⟨b', μ1, d, v, rfl, ho1.m, r1, q1.nox.mono (fun z μ2 k b2 v2 H2 le2 m2 fr => k b2 v2 H2 (le1.trans le2) (ho1.to le2.le m2) (fr.pre le1.dom)) fun _ _ z => z⟩
end
end DI
end

section
set_option Elab.async false
set_option linter.all false
set_option maxRecDepth 100000
namespace DI
open PySem L2 PySem.Spec PyProof.Rows
section
variable {T : Tab} {K : PySem.W.Frag} {a b : Abs} {ρ : Env} {μ : Mem} {σ : L2.St} {H H0 : Hp}
mutual
theorem seqD_eq : ∀ (d e : D), seqD d e = true → d = e
  | .non, e, h => by cases e <;> simp [seqD] at h ⊢
  | .bl _, e, h => by cases e <;> simp [seqD] at h ⊢ <;> exact h
  | .int _, e, h => by cases e <;> simp [seqD] at h ⊢ <;> exact h
  | .str _, e, h => by cases e <;> simp [seqD] at h ⊢ <;> exact h
  | .tup l, e, h => by cases e <;> simp [seqD] at h ⊢; exact seqs_eq _ _ h
  | .key l, e, h => by cases e <;> simp [seqD] at h ⊢; exact seqs_eq _ _ h
  | .lst l, e, h => by cases e <;> simp [seqD] at h ⊢; exact seqs_eq _ _ h
  | .rol l, e, h => by cases e <;> simp [seqD] at h ⊢; exact seqs_eq _ _ h
  | .dct t ks vs, e, h => by cases e <;> simp [seqD] at h ⊢; exact ⟨h.1.1, seqs_eq _ _ h.1.2, seqs_eq _ _ h.2⟩
  | .ins c ns vs, e, h => by cases e <;> simp [seqD] at h ⊢; exact ⟨h.1.1, h.1.2, seqs_eq _ _ h.2⟩
  | .exc c ns vs, e, h => by cases e <;> simp [seqD] at h ⊢; exact ⟨h.1.1, h.1.2, seqs_eq _ _ h.2⟩
  | .cls _, e, h => by cases e <;> simp [seqD] at h ⊢ <;> exact h
  | .fn _, e, h => by cases e <;> simp [seqD] at h ⊢ <;> exact h
  | .obj _, e, h => by cases e <;> simp [seqD] at h ⊢ <;> exact h
  | .xv c ns vs, e, h => by cases e <;> simp [seqD] at h ⊢; exact ⟨h.1.1, h.1.2, seqs_eq _ _ h.2⟩
  | .clo k l, e, h => by cases e <;> simp [seqD] at h ⊢; exact ⟨h.1, seqo_eq _ _ h.2⟩
theorem seqo_eq : ∀ (l m : List (Option D)), seqo l m = true → l = m
  | [], [], _ => rfl
  | [], _ :: _, h => by simp [seqo] at h
  | none :: _, [], h => by simp [seqo] at h
  | some _ :: _, [], h => by simp [seqo] at h
  | none :: l, none :: m, h => by simp only [seqo] at h; rw [seqo_eq l m h]
  | none :: l, some _ :: m, h => by simp [seqo] at h
  | some _ :: l, none :: m, h => by simp [seqo] at h
  | some a :: l, some b :: m, h => by
    simp only [seqo, Bool.and_eq_true] at h
    rw [seqD_eq a b h.1, seqo_eq l m h.2]
theorem seqs_eq : ∀ (l m : List D), seqs l m = true → l = m
  | [], [], _ => rfl
  | [], _ :: _, h => by simp [seqs] at h
  | _ :: _, [], h => by simp [seqs] at h
  | d :: l, e :: m, h => by
    simp only [seqs, Bool.and_eq_true] at h
    rw [seqD_eq d e h.1, seqs_eq l m h.2]
end
theorem obEq_eq {x y : Ob} (h : obEq x y = true) : x = y := by
  cases x <;> cases y <;> simp [obEq] at h ⊢
  · exact seqs_eq _ _ h
  · exact ⟨h.1.1, seqs_eq _ _ h.1.2, seqs_eq _ _ h.2⟩
  · exact ⟨h.1.1, h.1.2, seqs_eq _ _ h.2⟩

theorem ObRep.notOwn {p q : Addr} {ob : Ob} (h : ObRep T K a H p ob) : H p ≠ some (.own q) := by
  intro e
  cases ob with
  | lst l => obtain ⟨vs, h, _⟩ := h; rw [h] at e; cases e
  | dct t ks vs =>
    obtain ⟨ws, _, _, h⟩ := h
    obtain ⟨o, h, g⟩ := h.there
    rw [h] at e; cases e; exact g _ rfl
  | ins c ns fs => obtain ⟨dx, ws, h, _⟩ := h; rw [h] at e; cases e
theorem ObRep.noTE {p : Addr} {ob : Ob} (h : ObRep T K a H p ob) : ∀ o, H p = some o → (∀ ps, o ≠ .tbl ps) ∧ ∀ φ, o ≠ .ext φ := fun o e => by
  cases ob with
  | lst l => obtain ⟨vs, h, _⟩ := h; rw [h] at e; cases e; exact ⟨fun _ z => by (cases z), fun _ z => by (cases z)⟩
  | dct t ks vs =>
    obtain ⟨ws, _, _, h⟩ := h
    cases t with
    | false => obtain ⟨xs, h, _⟩ := h; rw [h] at e; cases e; exact ⟨fun _ z => by (cases z), fun _ z => by (cases z)⟩
    | true => obtain ⟨xs, h, _⟩ := h; rw [h] at e; cases e; exact ⟨fun _ z => by (cases z), fun _ z => by (cases z)⟩
  | ins c ns fs => obtain ⟨dx, ws, h, _⟩ := h; rw [h] at e; cases e; exact ⟨fun _ z => by (cases z), fun _ z => by (cases z)⟩
/-- the tables, behind a write elsewhere -/
theorem tabs_upd {Tb : List (Addr × Str)} {p : Addr} {o' : HO} (t : LamX.Tabs Tb H) (n : ∀ o, H p = some o → (∀ ps, o ≠ .tbl ps) ∧ ∀ φ, o ≠ .ext φ) : LamX.Tabs Tb (upd H p o') := Tabs.keep t fun b o e z => by
  have hb : b ≠ p := by
    rintro rfl
    rcases z with ⟨ps, rfl⟩ | ⟨φ, rfl⟩
    · exact (n _ e).1 _ rfl
    · exact (n _ e).2 _ rfl
  rw [upd_ne hb]; exact e
/-- an object of the store is written -/
theorem HolM.put (m : HolM T K a μ H) {n : Nat} {p : Addr} {o' : HO} {ob' : Ob} (e : a.α[n]? = some p) (ho' : ObRep T K a (upd H p o') p ob') : HolM T K a (μ.set n ob') (upd H p o') ∧ Stp a H a (upd H p o') := by
  obtain ⟨ob, eo, g, r⟩ := m.at e
  refine ⟨⟨fun x u ex => ?_, by rw [List.length_set]; exact m.len, m.nd, fun k q ob2 e1 e2 => ?_, ow_upd m.ow fun q z => ho'.notOwn (by rw [upd_same, z]), tabs_upd m.tb r.noTE, m.tb2⟩, a.le_refl, fun x ex => ?_, fun x u e1 e2 e3 _ => ?_, fun x o2 ex t => ⟨o2, by
    have hx : x ≠ p := by
      rintro rfl
      rcases t with ⟨ps, rfl⟩ | ⟨φ, rfl⟩
      · exact (r.noTE _ ex).1 _ rfl
      · exact (r.noTE _ ex).2 _ rfl
    rw [upd_ne hx]; exact ex, t⟩⟩
  · have hx : x ≠ p := by rintro rfl; rw [g] at ex; cases ex
    rw [upd_ne hx]; exact m.le _ _ ex
  · by_cases hk : n = k
    · subst hk
      rw [e] at e1
      obtain rfl := Option.some.inj e1
      rw [List.getElem?_set_self (List.getElem?_eq_some_iff.mp eo).1] at e2
      obtain rfl := Option.some.inj e2
      exact ⟨g, ho'⟩
    · rw [List.getElem?_set_ne hk] at e2
      obtain ⟨g2, r2⟩ := m.st k q ob2 e1 e2
      have hq : q ≠ p := by
        rintro rfl
        obtain ⟨l1, m1⟩ := List.getElem?_eq_some_iff.mp e1
        obtain ⟨l2, m2⟩ := List.getElem?_eq_some_iff.mp e
        exact hk ((List.getElem_inj (h₀ := l2) (h₁ := l1) m.nd).mp (by rw [m1, m2]))
      refine ⟨g2, r2.keep a.le_refl (fun x u ex hx => ?_) fun x h _ => h⟩
      have hxp : x ≠ p := by
        rintro rfl
        rcases hx with hx | hx
        · exact hq hx.symm
        · subst hx; exact r.notOwn ex
      rw [upd_ne hxp]; exact ex
  · by_cases hx : x = p
    · subst hx; rw [upd_same] at ex; cases ex
    · rw [upd_ne hx] at ex; exact ex
  · have hx : x ≠ p := fun h => e3 (h ▸ List.mem_of_getElem? e)
    exact ⟨by rw [upd_ne hx]; exact e1, e2, e3⟩
/-- a list of nobody's is written -/
theorem HolM.write (m : HolM T K a μ H) {p : Addr} {o' : HO} (g : a.G p = none) (hp : p ∉ a.α) (no : ∀ q, H p ≠ some (.own q)) (no2 : ∀ o, H p = some o → (∀ ps, o ≠ .tbl ps) ∧ ∀ φ, o ≠ .ext φ) (hw : ∀ q, o' ≠ .own q := by intro q z; cases z) : HolM T K a μ (upd H p o') := by
  refine ⟨fun x u ex => ?_, m.len, m.nd, fun k q ob2 e1 e2 => ?_, ow_upd m.ow hw, tabs_upd m.tb no2, m.tb2⟩
  · have hx : x ≠ p := by rintro rfl; rw [g] at ex; cases ex
    rw [upd_ne hx]; exact m.le _ _ ex
  · obtain ⟨g2, r2⟩ := m.st k q ob2 e1 e2
    have hq : q ≠ p := fun h => hp (h ▸ List.mem_of_getElem? e1)
    refine ⟨g2, r2.keep a.le_refl (fun x u ex hx => ?_) fun x h _ => h⟩
    have hxp : x ≠ p := by
      rintro rfl
      rcases hx with hx | hx
      · exact hq hx.symm
      · subst hx; exact no _ ex
    rw [upd_ne hxp]; exact ex
theorem Stp.write {a0 : Abs} (s : Stp a0 H0 a H) {p : Addr} {o' : HO} (h0 : H0 p = none) : Stp a0 H0 a (upd H p o') := by
  refine ⟨s.le, fun x ex => ?_, fun x u e1 e2 e3 nt => ?_, fun x o2 ex t => let ⟨o1, e1, t1⟩ := s.tl x o2 ex t; ⟨o1, by rw [upd_ne (ne_of_none ex h0)]; exact e1, t1⟩⟩
  · by_cases hx : x = p
    · subst hx; exact h0
    · rw [upd_ne hx] at ex; exact s.dom _ ex
  · obtain ⟨x1, y1, z1⟩ := s.frame x u e1 e2 e3 nt
    have hx : x ≠ p := by rintro rfl; rw [h0] at e1; cases e1
    exact ⟨by rw [upd_ne hx]; exact x1, y1, z1⟩
/-- a list or a dict of nobody's goes into the store -/
theorem HolM.own (m : HolM T K a μ H) {p : Addr} {ob : Ob} (g : a.G p = none) (hp : p ∉ a.α) (r : ObRep T K a H p ob) (hi : ∀ c ns fs, ob ≠ .ins c ns fs) : HolM T K ⟨a.α ++ [p], a.G⟩ (μ ++ [ob]) H ∧ a.le ⟨a.α ++ [p], a.G⟩ := by
  have le : a.le ⟨a.α ++ [p], a.G⟩ := ⟨⟨[p], rfl⟩, fun _ _ h => h⟩
  refine ⟨⟨m.le, by simp [m.len], ?_, fun k q ob2 e1 e2 => ?_, m.ow, m.tb, m.tb2⟩, le⟩
  · show (a.α ++ [p]).Nodup
    rw [List.nodup_append]
    exact ⟨m.nd, by simp, fun x hx y hy => by
      rintro rfl
      have : x = p := by simpa using hy
      exact hp (this ▸ hx)⟩
  · have e1 : (a.α ++ [p])[k]? = some q := e1
    by_cases hk : k < a.α.length
    · rw [List.getElem?_append_left hk] at e1
      rw [List.getElem?_append_left (by rw [m.len]; exact hk)] at e2
      obtain ⟨g2, r2⟩ := m.st k q ob2 e1 e2
      exact ⟨g2, r2.keep le (fun _ _ h _ => h) fun x h _ => h⟩
    · have hk2 : k = a.α.length := by
        have := (List.getElem?_eq_some_iff.mp e1).1
        simp at this; omega
      subst hk2
      rw [List.getElem?_append_right (Nat.le_refl _)] at e1
      rw [List.getElem?_append_right (by rw [m.len]; exact Nat.le_refl _), m.len] at e2
      simp at e1 e2
      subst e1; subst e2
      refine ⟨g, r.keep le (fun _ _ h _ => h) fun x h _ => h⟩
theorem Stp.own {a0 : Abs} (s : Stp a0 H0 a H) {p : Addr} (h0 : H0 p = none) : Stp a0 H0 ⟨a.α ++ [p], a.G⟩ H := by
  refine ⟨s.le.trans ⟨⟨[p], rfl⟩, fun _ _ h => h⟩, s.dom, fun x u e1 e2 e3 nt => ?_, s.tl⟩
  obtain ⟨x1, y1, z1⟩ := s.frame x u e1 e2 e3 nt
  refine ⟨x1, y1, ?_⟩
  have hx : x ≠ p := by rintro rfl; rw [h0] at e1; cases e1
  simp [z1, hx]

theorem getE_set {ρ : Env} {i j : Nat} {d e : D} (h : getE (setE ρ i d) j = some e) : (i = j ∧ j < ρ.length ∧ e = d) ∨ (i ≠ j ∧ getE ρ j = some e) := by
  unfold getE setE at *
  by_cases hij : i = j
  · subst hij
    by_cases hl : i < ρ.length
    · rw [List.getElem?_set_self hl] at h
      exact .inl ⟨rfl, hl, by simpa using h.symm⟩
    · rw [List.getElem?_eq_none (by simpa using hl)] at h
      simp at h
  · rw [List.getElem?_set_ne hij] at h
    exact .inr ⟨hij, h⟩
theorem Hol.set (h : Hol T K a ρ μ σ H) {d : D} {v : V} (r : Rep T K a d v) (i : Nat) : Hol T K a (setE ρ i d) μ (σ.set i (some v)) H := by
  refine ⟨h.m, by unfold setE; rw [List.length_set, List.length_set]; exact h.len, fun j e he => ?_⟩
  rcases getE_set he with ⟨rfl, hl, rfl⟩ | ⟨hij, he⟩
  · exact ⟨v, List.getElem?_set_self (by rw [← h.len]; exact hl), EnvAt.of r⟩
  · obtain ⟨w, e1, r1⟩ := h.env j e he
    exact ⟨w, by rw [List.getElem?_set_ne hij]; exact e1, r1⟩
theorem Hol.wipe (h : Hol T K a ρ μ σ H) : ∀ vs : List Nat, Hol T K a (wipeE ρ vs) μ (L2.wipe σ vs) H
  | [] => h
  | i :: vs => by
    have q := Hol.wipe h vs
    refine ⟨q.m, by simp only [wipeE, L2.wipe, List.length_set]; exact q.len, fun j e he => ?_⟩
    simp only [wipeE, L2.wipe] at he ⊢
    unfold getE at he
    by_cases hij : i = j
    · subst hij
      by_cases hl : i < (wipeE ρ vs).length
      · rw [List.getElem?_set_self hl] at he; simp at he
      · rw [List.getElem?_eq_none (by simpa using hl)] at he; simp at he
    · rw [List.getElem?_set_ne hij] at he ⊢
      exact q.env j e he
theorem Hol.mem (h : Hol T K a ρ μ σ H) {μ' : Mem} {H' : Hp} (m : HolM T K a μ' H') : Hol T K a ρ μ' σ H' := h.to a.le_refl m
/-- a slot forgotten by the small interpreter -/
theorem Hol.drop (h : Hol T K a ρ μ σ H) (i : Nat) : Hol T K a (ρ.set i none) μ σ H := by
  refine ⟨h.m, by rw [List.length_set]; exact h.len, fun j e he => ?_⟩
  unfold getE at he
  by_cases hij : i = j
  · subst hij
    by_cases hl : i < ρ.length
    · rw [List.getElem?_set_self hl] at he; simp at he
    · rw [List.getElem?_eq_none (by simpa using hl)] at he; simp at he
  · rw [List.getElem?_set_ne hij] at he
    exact h.env j e he

end

def Ts.len : Ts → Nat
  | .n => 0
  | .c _ r => r.len + 1
section
def tG (T : Tab) (n : Nat) (K : PySem.W.Frag) (_ : WX) (t : DI.T) : TG := fun x σ H Q => ∃ a ρ μ d, Hol T K a ρ μ σ H ∧ Rep T K a d x ∧ WpR (asT T.P (T.C n) T.reprS t d ρ μ) (fun ρ' μ' => ∀ b σ' H', Stp a H b H' → Hol T K b ρ' μ' σ' H' → (∀ i, i ∉ t.vars → σ'[i]? = σ[i]?) → σ'.length = σ.length → Q σ' H') (fun _ _ => False)
end
section
variable (T : Tab) (n : Nat) (X : Cx) (W : WX)
abbrev SG (x : Expr) (t : DI.T) : Prop := PG X x (tG T n X.K W t)
end
section
variable {T : Tab} {n : Nat} {X : Cx} {W : WX} {pos : Pos}
theorem PG.imp {x : Expr} {t t' : TG} (h : PG X x t) (g : ∀ v σ H Q, t' v σ H Q → t v σ H Q) : PG X x t' := ⟨fun pins s σ H v u Q I r q => h.run pins s σ H v u Q I r (g v σ H Q q)⟩
theorem PGs.imp {x : List Expr} {t t' : TGs} (h : PGs X x t) (g : ∀ v σ H Q, t' v σ H Q → t v σ H Q) : PGs X x t' := ⟨fun pins s σ H v u Q I r q => h.run pins s σ H v u Q I r (g v σ H Q q)⟩
theorem sg_v {i : Nat} {x : Str} (hN : X.N.Nodup) (hi : X.N[i]? = some x) (hx : Loc X.env.scope x) (hf : X.fn x = true ∨ X.env.scope.names.lookup x = some .local) : SG T n X W (.Name x pos) (.v i) := by
  refine PG.imp (pg_name hN hi hx hf) fun v σ H Q q => ?_
  obtain ⟨a, ρ, μ, d, ho, r, q⟩ := q
  simp only [asT] at q
  refine q a _ H (Stp.refl _ _) (ho.set r i) (fun j hj => ?_) (List.length_set ..)
  rw [List.getElem?_set_ne (by intro e; subst e; exact hj (by simp only [DI.T.vars, List.mem_singleton]))]
/-- o[i] = v of an instance with an own __setitem__ -/
def SetOwn (T : Tab) (n : Nat) (X : Cx) : Prop := PSet X (fun o i v H Q => ∃ a μ x y z c ns fs f, HolM T X.K a μ H ∧ Rep T X.K a x o ∧ Rep T X.K a y i ∧ Rep T X.K a z v ∧ rd μ x = .ins c ns fs ∧ specOf T.P c 7 = some f ∧
  WpR (calF T.P (T.C n) f [x, y, z] [] [] μ) (fun _ μ' => ∀ b H', Stp a H b H' → HolM T X.K b μ' H' → Q H') (fun _ _ => False))
end
end DI
end

section
set_option Elab.async false
set_option linter.all false
set_option maxRecDepth 100000
namespace DI
open PySem L2 PySem.Spec PyProof.Rows
section
variable {X : Cx} {tg : Expr}
def iSeq (K : PySem.W.Frag) (te : TE) : TI := fun σ H R => te σ H fun x H1 => (∃ a xs, x = .ref a ∧ SqL K H1 a xs ∧ R (Itl K a) H1) ∨ (∃ a xs, x = .ref a ∧ SqT K H1 a xs ∧ R (Itt K a) H1) ∨ ∃ s, x = .str s ∧ R (Its s) H1
theorem pi_seq {l : Expr} {tl : TE} (hl : PE X l tl) : PI X tg l (iSeq X.K tl) := by
  refine ⟨fun pins s σ H R I h => ?_⟩
  refine thn (hl.run pins s σ H _ I h) fun v s1 ⟨x, H1, I1, r1, q1⟩ => ?_
  rcases q1 with ⟨a, xs, e, hq, q⟩ | ⟨a, xs, e, hq, q⟩ | ⟨z, e, q⟩
  · subst e
    cases r1
    obtain ⟨its, rv, p, hz⟩ := I1.list hq
    refine wpAny_pyIter_list p.isList ?_
    refine ⟨s1.heap.objs.size, [s1.heap.objs.size], _, _, H1, rfl, I1.kept (t' := s1.toks) fun b o e => Heap.get?_push_of_some _ e, turn_list a _, ⟨_, Heap.get?_push_size _ rfl, rfl, rfl⟩, fun b hb => ?_, q⟩
    have e : b = s1.heap.objs.size := by simpa using hb
    subst e
    exact I1.fpOk (Nat.le_refl _) (I1.hok.fresh (Nat.le_refl _))
  · subst e
    cases r1
    obtain ⟨its, rv, p, hz⟩ := I1.tuple hq
    refine wpAny_pyIter_tuple (show s1.heap.IsTuple a its.toArray from p) ?_
    refine ⟨s1.heap.objs.size, [s1.heap.objs.size], _, _, H1, rfl, I1.kept (t' := s1.toks) fun b o e => Heap.get?_push_of_some _ e, turn_tuple a _, ⟨_, Heap.get?_push_size _ rfl, rfl, rfl⟩, fun b hb => ?_, q⟩
    have e : b = s1.heap.objs.size := by simpa using hb
    subst e
    exact I1.fpOk (Nat.le_refl _) (I1.hok.fresh (Nat.le_refl _))
  · subst e
    obtain ⟨t, rfl⟩ := r1
    cases ha : z.cps.all (· < 128)
    · exact wpAny_pyIter_wide ha (pi_one (tk := s1.toks) I1 _ (turn_str _ z t "str_iterator" (.inr rfl)) ⟨_, Heap.get?_push_size _ rfl, rfl, rfl⟩ q)
    · exact wpAny_pyIter_ascii ha (pi_one (tk := s1.toks) I1 _ (turn_str _ z t "str_ascii_iterator" (.inl rfl)) ⟨_, Heap.get?_push_size _ rfl, rfl, rfl⟩ q)
end
/-- the iterator J gives the items, as long as the source is as it was -/
def Walks (T : Tab) (K : PySem.W.Frag) (a : Abs) (src : Option (Nat × Ob)) (items : List D) (J : L2.It) : Prop :=
  ∀ b μ H, a.le b → HolM T K b μ H → srcOk src μ = true → (∀ i d, items[i]? = some d → J.go i H ∧ ∀ x H', J.yld i H x H' → ∃ c, Stp b H c H' ∧ HolM T K c μ H' ∧ Rep T K c d x) ∧ J.stop items.length H
section
variable (T : Tab) (n : Nat) (K : PySem.W.Frag) (W : WX)
def tI (it : DI.It) : TI := fun σ H R => ∃ a ρ μ, Hol T K a ρ μ σ H ∧ WpR (evIt T.P (T.C n) T.reprS it ρ μ) (fun p μ' => ∀ b J H', Stp a H b H' → Hol T K b ρ μ' σ H' → Walks T K b p.1 p.2 J → R J H') (Kx T K a H ρ σ W)
end
abbrev SI (T : Tab) (n : Nat) (X : Cx) (W : WX) (tg x : Expr) (it : DI.It) : Prop := PI X tg x (tI T n X.K W it)
def Es.len : Es → Nat
  | .n => 0
  | .c _ r => r.len + 1
theorem evEs_len {P : Prog} {C : Cal} {rs : D → Option Str} : ∀ {es : Es} {ρ : Env} {μ : Mem} {k : List D → Mem → Prop} {kx : D → Mem → Prop}, WpR (evEs P C rs es ρ μ) k kx → WpR (evEs P C rs es ρ μ) (fun l μ => l.length = es.len ∧ k l μ) kx
  | .n, ρ, μ, k, kx, h => by simp only [evEs] at h ⊢; exact ⟨rfl, h⟩
  | .c e r, ρ, μ, k, kx, h => by
    simp only [evEs] at h ⊢
    cases e1 : evE P C rs e ρ μ with
    | no => rw [e1] at h; exact h.elim
    | ex x μ1 => rw [e1] at h; exact h
    | ok d μ1 =>
      rw [e1] at h
      simp only [R.bind_ok] at h ⊢
      have q := evEs_len h.bind
      cases e2 : evEs P C rs r ρ μ1 with
      | no => rw [e2] at h; exact h.elim
      | ex x μ2 => rw [e2] at h; exact h
      | ok l μ2 =>
        rw [e2] at q
        exact ⟨by simp [Es.len, q.1], q.2⟩
section
variable {T : Tab} {n : Nat} {X : Cx} {W : WX} {pos : Pos} {tg : Expr} {a : Abs} {μ : Mem} {H : Hp}
theorem PI.imp {x : Expr} {t t' : TI} (h : PI X tg x t) (g : ∀ σ H Q, t' σ H Q → t σ H Q) : PI X tg x t' := ⟨fun pins s σ H R I q => h.run pins s σ H R I (g σ H R q)⟩
/-- the source read, as long as it stays -/
theorem src_lst {d : D} {v : V} {src : Option (Nat × Ob)} {l : List D} {p : Addr} (r : Rep T X.K a d v) (hv : v = .ref p)
    (h : (d = .lst l ∧ src = none) ∨ (d = .rol l ∧ src = none) ∨ ∃ k, d = .obj k ∧ src = some (k, .lst l)) {b : Abs} {μ : Mem} {H : Hp} (le : a.le b) (m : HolM T X.K b μ H) (ok : srcOk src μ = true) : ∃ vs, SqL X.K H p vs ∧ Reps T X.K b l vs := by
  subst hv
  rcases h with ⟨rfl, rfl⟩ | ⟨rfl, rfl⟩ | ⟨k, rfl, rfl⟩
  · simp only [Rep] at r
    obtain ⟨q, vs, e, s, r⟩ := r
    cases e
    exact ⟨vs, SqL.of (m.le _ _ (le.fr _ _ s)), Reps.mono le _ _ r⟩
  · simp only [Rep] at r
    obtain ⟨q, vs, e, s, r⟩ := r
    cases e
    exact ⟨vs, SqL.up m.le (SqL.mono le s), Reps.mono le _ _ r⟩
  · simp only [Rep] at r
    obtain ⟨q, ep, e⟩ := r
    cases e
    obtain ⟨ob, eo, g, rr⟩ := m.at (le.at ep)
    simp only [srcOk, eo] at ok
    have := obEq_eq ok
    subst this
    obtain ⟨vs, h1, h2⟩ := rr
    exact ⟨vs, SqL.of h1, h2⟩
theorem walks_list {src : Option (Nat × Ob)} {l : List D} {p : Addr} (h : ∀ b μ H, a.le b → HolM T X.K b μ H → srcOk src μ = true → ∃ vs, SqL X.K H p vs ∧ Reps T X.K b l vs) : Walks T X.K a src l (Itl X.K p) := by
  intro b μ H le m ok
  obtain ⟨vs, hs, r⟩ := h b μ H le m ok
  refine ⟨fun i d e => ?_, vs, hs, by rw [r.length]; exact Nat.le_refl _⟩
  obtain ⟨v, ev, rv⟩ := r.get e
  refine ⟨⟨vs, v, hs, ev⟩, fun x H' y => ?_⟩
  obtain ⟨rfl, y⟩ := y
  have := y vs hs
  rw [ev] at this; cases this
  exact ⟨b, Stp.refl _ _, m, rv⟩
theorem walks_tup {l : List D} {p : Addr} {vs : List V} (s : SqT X.K a.G p vs) (r : Reps T X.K a l vs) : Walks T X.K a none l (Itt X.K p) := by
  intro b μ H le m _
  have s2 : SqT X.K H p vs := SqT.up m.le (SqT.mono le s)
  have r2 := Reps.mono le _ _ r
  refine ⟨fun i d e => ?_, vs, s2, by rw [r2.length]; exact Nat.le_refl _⟩
  obtain ⟨v, ev, rv⟩ := r2.get e
  refine ⟨⟨vs, v, s2, ev⟩, fun x H' y => ?_⟩
  obtain ⟨rfl, y⟩ := y
  have := y vs s2
  rw [ev] at this; cases this
  exact ⟨b, Stp.refl _ _, m, rv⟩
theorem si_seq {x : Expr} {e : E} (h : SE T n X W x e) : SI T n X W tg x (.e e) := by
  refine PI.imp (pi_seq h) fun σ H R q => ?_
  obtain ⟨a, ρ, μ, ho, q⟩ := q
  simp only [evIt] at q
  refine ⟨a, ρ, μ, ho, q.bind.mono (fun d μ1 q1 b v H1 le1 ho1 r1 => ?_) fun _ _ k => k⟩
  obtain ⟨p, e1, k⟩ := q1.of
  have k := k b
  unfold itV at e1
  split at e1
  · rename_i l
    cases e1
    simp only [Rep] at r1
    obtain ⟨p, vs, rfl, s, r⟩ := r1
    exact .inr (.inl ⟨p, vs, rfl, SqT.up ho1.m.le s.sq, k _ H1 le1 ho1 (walks_tup s.sq r)⟩)
  · rename_i l
    cases e1
    have r0 := r1
    simp only [Rep] at r1
    obtain ⟨p, vs, rfl, s, r⟩ := r1
    exact .inl ⟨p, vs, rfl, SqL.of (ho1.m.le _ _ s), k _ H1 le1 ho1 (walks_list fun c μ H le m ok => src_lst r0 rfl (.inl ⟨rfl, rfl⟩) le m ok)⟩
  · rename_i l
    cases e1
    have r0 := r1
    simp only [Rep] at r1
    obtain ⟨p, vs, rfl, s, r⟩ := r1
    exact .inl ⟨p, vs, rfl, SqL.up ho1.m.le s, k _ H1 le1 ho1 (walks_list fun c μ H le m ok => src_lst r0 rfl (.inr (.inl ⟨rfl, rfl⟩)) le m ok)⟩
  · rename_i z
    cases e1
    simp only [Rep] at r1
    obtain ⟨rfl, g⟩ := r1
    refine .inr (.inr ⟨z, rfl, k _ H1 le1 ho1 fun c μ H le m ok => ⟨fun i d e => ?_, ?_⟩⟩)
    · simp only [List.getElem?_map, Option.map_eq_some_iff] at e
      obtain ⟨u, eu, rfl⟩ := e
      have eu : z.cps[i]? = some u := by simpa [sL] using eu
      refine ⟨(Array.getElem?_eq_some_iff.mp eu).1, fun x H' y => ?_⟩
      obtain ⟨rfl, w, ew, rfl⟩ := y
      rw [eu] at ew; cases ew
      refine ⟨c, Stp.refl _ _, m, ?_⟩
      simp only [Rep]
      exact ⟨rfl, strG.of (strOk_mem (strG.ok g) (by simp only [sL]; exact Array.mem_toList_iff.mpr (Array.mem_of_getElem? eu))) (by show 1 ≤ sizeLn; decide)⟩
    · show z.cps.size ≤ _
      simp [sL]
  · rename_i k2
    split at e1
    · rename_i l eo
      cases e1
      have r0 := r1
      simp only [Rep] at r1
      obtain ⟨p, ep, rfl⟩ := r1
      obtain ⟨ob, eo2, g, rr⟩ := ho1.m.at ep
      rw [eo] at eo2; cases eo2
      obtain ⟨vs, h1, h2⟩ := rr
      exact .inl ⟨p, vs, rfl, SqL.of h1, k _ H1 le1 ho1 (walks_list fun c μ H le m ok => src_lst r0 rfl (.inr (.inr ⟨k2, rfl, rfl⟩)) le m ok)⟩
    · cases e1
  · cases e1
theorem walks_rng {lo : Int} {m : Nat} : Walks T X.K a none ((List.range m).map fun (k : Nat) => .int (lo + k)) (Itr lo m) := by
  intro b μ H le hm _
  refine ⟨fun i d e => ?_, by show m ≤ _; simp⟩
  simp only [List.getElem?_map, Option.map_eq_some_iff] at e
  obtain ⟨k, ek, rfl⟩ := e
  obtain ⟨hk, rfl⟩ := List.getElem?_eq_some_iff.mp ek
  have hk : i < m := by simpa using hk
  refine ⟨hk, fun x H' y => ?_⟩
  obtain ⟨rfl, rfl⟩ := y
  exact ⟨b, Stp.refl _ _, hm, by simp only [Rep, List.getElem_range]⟩
theorem rep_ints1 {d : D} {vs : List V} {i : Int} (r : Reps T X.K a [.int i] vs) : vs = [.int i] := by
  obtain ⟨v, ws, rfl, r1, r2⟩ := r.inv
  rw [r2.inv0, show v = .int i by simpa only [Rep] using r1]
theorem si_rng1 {x : Expr} {es : Es} {p : Pos} (hg : Gl X "range") (hm : X.mg "range" = none) (h : SA T n X W [x] es) (hs : starEach [x] X.env = [(false, eval x X.env)]) (hl : es.len = 1) : SI T n X W tg (.Call (.Name "range" p) [x] [] pos) (.rng es) := by
  refine PI.imp (pi_range1 hg hm h hs) fun σ H R q => ?_
  obtain ⟨a, ρ, μ, ho, q⟩ := q
  simp only [evIt] at q
  refine ⟨a, ρ, μ, ho, (evEs_len q.bind).mono (fun l μ1 ⟨q0, q1⟩ b vs H1 le1 ho1 r1 => ?_) fun _ _ k => k⟩
  rw [hl] at q0
  obtain ⟨z, e1, k⟩ := q1.of
  obtain ⟨w, e2, rfl⟩ := Option.map_eq_some_iff.mp e1
  have k := k b
  unfold rngV at e2
  split at e2
  · rename_i j _
    split at e2
    · rename_i hj
      cases e2
      refine ⟨j, rep_ints1 (d := .non) r1, by omega, by omega, k _ H1 le1 ho1 ?_⟩
      have := walks_rng (T := T) (X := X) (a := b) (lo := 0) (m := j.toNat)
      simpa using this
    · cases e2
  · simp at q0
  · simp at q0
  · cases e2
end
end DI
end

section
set_option Elab.async false
set_option linter.all false
set_option maxRecDepth 100000
namespace DI
open PySem L2 PySem.Spec PyProof.Rows
def KxS (T : Tab) (K : PySem.W.Frag) (a : Abs) (H : Hp) (W : WX) : D → Env → Mem → Prop := fun x ρ μ => ∃ c ns vs, x = .exc c ns vs ∧
  ∀ b dd ws σ' H', Stp a H b H' → Hol T K b ρ μ σ' H' → Reps T K b vs ws → ns.length = ws.length → XdAt T b.G ns ws dd → W (.ref (T.ca c)) dd σ' H'
section
variable (T : Tab) (n : Nat) (K : PySem.W.Frag) (W : WX)
def Kn (a : Abs) (H : Hp) (D : Ends) : Env → Mem → Prop := fun ρ' μ' => ∀ b σ' H', Stp a H b H' → Hol T K b ρ' μ' σ' H' → D.nx σ' H'
def Kr (a : Abs) (H : Hp) (D : Ends) : DI.D → Mem → Prop := fun d μ' => ∀ b v H', Stp a H b H' → HolM T K b μ' H' → Rep T K b d v → D.rt v H'
def tS (s : S) : TS := fun D σ H => ∃ a ρ μ, Hol T K a ρ μ σ H ∧ WpS (evS T.P (T.C n) T.reprS s ρ μ) (Kn T K a H D) (Kr T K a H D) (KxS T K a H W)
def tSs (s : Ss) : TS := fun D σ H => ∃ a ρ μ, Hol T K a ρ μ σ H ∧ WpS (evSs T.P (T.C n) T.reprS s ρ μ) (Kn T K a H D) (Kr T K a H D) (KxS T K a H W)
end
abbrev SS (T : Tab) (n : Nat) (X : Cx) (W : WX) (x : Stmt) (s : S) : Prop := PS X x (tS T n X.K W s)
abbrev SSs (T : Tab) (n : Nat) (X : Cx) (W : WX) (x : List Stmt) (s : Ss) : Prop := PSs X x (tSs T n X.K W s)
section
variable {T : Tab} {n : Nat} {X : Cx} {W : WX} {pos : Pos} {a b : Abs} {H H' : Hp} {D : Ends} {K : PySem.W.Frag} {ρ : Env} {μ : Mem} {d : DI.D}
theorem PS.imp {x : Stmt} {t t' : TS} (h : PS X x t) (g : ∀ D σ H, t' D σ H → t D σ H) : PS X x t' := ⟨fun pins s σ H D I q => h.run pins s σ H D I (g D σ H q)⟩
theorem PSs.imp {x : List Stmt} {t t' : TS} (h : PSs X x t) (g : ∀ D σ H, t' D σ H → t D σ H) : PSs X x t' := ⟨fun pins s σ H D I q => h.run pins s σ H D I (g D σ H q)⟩
theorem Kn.mono (s : Stp a H b H') (k : Kn T K a H D ρ μ) : Kn T K b H' D ρ μ := fun c σ H2 st ho => k c σ H2 (s.trans st) ho
theorem Kr.mono (s : Stp a H b H') (k : Kr T K a H D d μ) : Kr T K b H' D d μ := fun c v H2 st ho r => k c v H2 (s.trans st) ho r
theorem KxS.mono (s : Stp a H b H') (k : KxS T K a H W d ρ μ) : KxS T K b H' W d ρ μ := by
  obtain ⟨c, ns, vs, e, k⟩ := k
  exact ⟨c, ns, vs, e, fun b dd ws σ' H2 st ho rv hl hd => k b dd ws σ' H2 (s.trans st) ho rv hl hd⟩
theorem KxS.kx {σ : L2.St} (k : KxS T K a H W d ρ μ) : Kx T K a H ρ σ W d μ := by
  obtain ⟨c, ns, vs, e, k⟩ := k
  exact ⟨c, ns, vs, e, fun b dd ws H2 st ho rv hl hd => k b dd ws σ H2 st ho rv hl hd⟩
theorem WpS.up {r : SR} (s : Stp a H b H') (h : WpS r (Kn T K a H D) (Kr T K a H D) (KxS T K a H W)) : WpS r (Kn T K b H' D) (Kr T K b H' D) (KxS T K b H' W) := h.mono (fun _ _ k => k.mono s) (fun _ _ k => k.mono s) fun _ _ _ k => k.mono s
theorem sss_nil : SSs T n X W [] .n := by
  refine PSs.imp pss_nil fun D σ H q => ?_
  obtain ⟨a, ρ, μ, ho, q⟩ := q
  simp only [evSs] at q
  exact q a σ H (Stp.refl _ _) ho
theorem sss_cons {x : Stmt} {xs : List Stmt} {s : S} {ss : Ss} (h : SS T n X W x s) (hs : SSs T n X W xs ss) : SSs T n X W (x :: xs) (.c s ss) := by
  refine PSs.imp (pss_cons h hs) fun D σ H q => ?_
  obtain ⟨a, ρ, μ, ho, q⟩ := q
  simp only [evSs] at q
  refine ⟨a, ρ, μ, ho, q.seq.mono (fun ρ1 μ1 q1 b σ1 H1 st ho1 => ?_) (fun _ _ k => k) fun _ _ _ k => k⟩
  exact ⟨b, ρ1, μ1, ho1, q1.up st⟩
theorem ss_ex {x : Expr} {e : E} (h : SE T n X W x e) (hs : swapsWith x none pos.line X.env = pure false) : SS T n X W (.Expr x pos) (.ex e) := by
  refine PS.imp (ps_expr h hs) fun D σ H q => ?_
  obtain ⟨a, ρ, μ, ho, q⟩ := q
  simp only [evS] at q
  exact ⟨a, ρ, μ, ho, q.seR.mono (fun d μ1 k b v H1 st ho1 r => k b σ H1 st ho1) fun _ _ k => k.kx⟩
theorem ss_ret {x : Expr} {e : E} (h : SE T n X W x e) : SS T n X W (.Return (some x) pos) (.ret e) := by
  refine PS.imp (ps_ret h) fun D σ H q => ?_
  obtain ⟨a, ρ, μ, ho, q⟩ := q
  simp only [evS] at q
  exact ⟨a, ρ, μ, ho, q.seR.mono (fun d μ1 k b v H1 st ho1 r => k b v H1 st ho1.m r) fun _ _ k => k.kx⟩
theorem ss_if {c : Expr} {e : E} {x y : List Stmt} {s t : Ss} (hc : ST T n X W c e) (h1 : SSs T n X W x s) (h2 : SSs T n X W y t) : SS T n X W (.If c x y pos) (.ite e s t) := by
  refine PS.imp (ps_if hc h1 h2) fun D σ H q => ?_
  obtain ⟨a, ρ, μ, ho, q⟩ := q
  simp only [evS] at q
  refine ⟨a, ρ, μ, ho, q.seR.mono (fun d μ1 q1 => ?_) fun _ _ k => k.kx⟩
  split at q1
  · rename_i e1
    exact ⟨true, e1, fun b H1 st ho1 => ⟨b, ρ, μ1, ho1, q1.up st⟩⟩
  · rename_i e1
    exact ⟨false, e1, fun b H1 st ho1 => ⟨b, ρ, μ1, ho1, q1.up st⟩⟩
  · exact q1.elim
theorem ss_set {x : Str} {px : Pos} {y : Expr} {e : E} {i : Nat} (hN : X.N.Nodup) (hi : X.N[i]? = some x) (hx : Loc X.env.scope x) (he : SE T n X W y e) (hs : swapsWith y (some (.Name x px)) pos.line X.env = pure false) (hf : X.fn x = true ∨ X.env.scope.names.lookup x = some .local) : SS T n X W (.Assign [.Name x px] y pos) (.asg (.v i) e) := by
  refine PS.imp (ps_set hN hi hx he hs hf) fun D σ H q => ?_
  obtain ⟨a, ρ, μ, ho, q⟩ := q
  simp only [evS, asT, seR_ok] at q
  exact ⟨a, ρ, μ, ho, q.seR.mono (fun d μ1 k b v H1 st ho1 r => k b _ H1 st (ho1.set r i)) fun _ _ k => k.kx⟩
/-- a new list or dict is laid into the store -/
theorem lay_step {σ : L2.St} {v : V} {k : DI.D → Mem → Prop} {kx : DI.D → Mem → Prop} (ho1 : Hol T X.K b ρ μ σ H') (st : Stp a H b H') (f : Fresh T X.K H b H' d v)
    (q : WpR (match d with
      | .lst l => R.ok (.obj μ.length) (μ ++ [.lst l])
      | .dct t ks vs => .ok (.obj μ.length) (μ ++ [.dct t ks vs])
      | _ => .no) k kx) : ∃ c d' μ', Stp a H c H' ∧ Hol T X.K c ρ μ' σ H' ∧ Rep T X.K c d' v ∧ k d' μ' := by
  split at q
  · rename_i l
    obtain ⟨p, vs, rfl, hp, h0, g, hn, r⟩ := f
    obtain ⟨m2, le⟩ := ho1.m.own (ob := .lst l) g hn ⟨vs, hp, r⟩ (fun _ _ _ z => by cases z)
    refine ⟨_, _, _, st.own h0, ho1.to le m2, ?_, q⟩
    simp only [Rep]
    exact ⟨p, by rw [ho1.m.len]; simp, rfl⟩
  · rename_i t ks vs
    obtain ⟨p, ws, rfl, h0, g, hn, r, hl, hd⟩ := f
    obtain ⟨m2, le⟩ := ho1.m.own (ob := .dct t ks vs) g hn ⟨ws, r, hl, hd⟩ (fun _ _ _ z => by cases z)
    refine ⟨_, _, _, st.own h0, ho1.to le m2, ?_, q⟩
    simp only [Rep]
    exact ⟨p, by rw [ho1.m.len]; simp, rfl⟩
  · exact q.elim
theorem se_lay {x : Expr} {e : E} (h : SF T n X W x e) : SE T n X W x (.lay e) := by
  refine PE.imp h fun σ H Q q => ?_
  obtain ⟨a, ρ, μ, ho, q⟩ := q
  simp only [evE] at q
  refine ⟨a, ρ, μ, ho, q.bind.mono (fun d μ1 q1 b v H1 st ho1 f => ?_) fun _ _ k => k⟩
  obtain ⟨c, d', μ', s2, h2, r2, k⟩ := lay_step ho1 st f q1
  exact k c v H1 s2 h2 r2
/-- two plain names at once -/
theorem ss_par2 {i j : Nat} {x y : Str} {u v : Expr} {es : Es} {px py pt : Pos} {kt k2 pt2} (hc : X.calm = true) (hN : X.N.Nodup) (hi : X.N[i]? = some x) (hj : X.N[j]? = some y) (hij : i ≠ j)
    (hx : X.env.scope.names.lookup x = some .local) (hy : X.env.scope.names.lookup y = some .local) (ha : SA T n X W [u, v] es)
    (hw : swappedStores [.Tuple [.Name x px, .Name y py] kt pt] (.Tuple [u, v] k2 pt2) X.env = pure (some [x, y]))
    (hs : swapsWithSole [.Tuple [.Name x px, .Name y py] kt pt] (.Tuple [u, v] k2 pt2) pos.line X.env = pure false) : SS T n X W (.Assign [.Tuple [.Name x px, .Name y py] kt pt] (.Tuple [u, v] k2 pt2) pos) (.par (.c (.v i) (.c (.v j) .n)) es) := by
  refine PS.imp (ps_par hc hN hi hj hij hx hy ha hw hs) fun D σ H q => ?_
  obtain ⟨a, ρ, μ, ho, q⟩ := q
  simp only [evS] at q
  refine ⟨a, ρ, μ, ho, q.seR.mono (fun l μ1 q1 b vs H1 st ho1 r => ?_) fun _ _ k => k.kx⟩
  match l, q1, r with
  | [d, e], q1, r =>
    simp only [asTs, asT, R.bind_ok, seR_ok] at q1
    obtain ⟨w, ws, rfl, r1, r2⟩ := r.inv
    obtain ⟨w2, ws2, rfl, r3, r4⟩ := r2.inv
    rw [r4.inv0]
    exact ⟨w, w2, rfl, q1 b _ H1 st ((ho1.set r1 i).set r3 j)⟩
  | [], q1, r => simp only [asTs, seR_no] at q1; exact q1.elim
  | [d], q1, r => simp only [asTs, asT, R.bind_ok, seR_no] at q1; exact q1.elim
  | d :: e :: f :: l, q1, r => simp only [asTs, asT, R.bind_ok, seR_no] at q1; exact q1.elim
theorem forL_stop {f : DI.D → Env → Mem → SR} {src : Option (Nat × Ob)} {kn : Env → Mem → Prop} {kr : DI.D → Mem → Prop} {kx : DI.D → Env → Mem → Prop} (h : WpS (forL f src [] ρ μ) kn kr kx) : srcOk src μ = true ∧ kn ρ μ := by
  simp only [forL] at h
  split at h
  · rename_i hs; exact ⟨hs, h⟩
  · exact h.elim
theorem forL_go {f : DI.D → Env → Mem → SR} {src : Option (Nat × Ob)} {l : List DI.D} {kn : Env → Mem → Prop} {kr : DI.D → Mem → Prop} {kx : DI.D → Env → Mem → Prop} (h : WpS (forL f src (d :: l) ρ μ) kn kr kx) : srcOk src μ = true ∧ WpS (f d ρ μ) (fun ρ μ => WpS (forL f src l ρ μ) kn kr kx) kr kx := by
  simp only [forL] at h
  split at h
  · rename_i hs; exact ⟨hs, h.seq⟩
  · exact h.elim
theorem ss_for {x y : Expr} {body : List Stmt} {t : DI.T} {it : DI.It} {s : Ss} (hp : PassesOwn (model X.prog X.w) X.A X.env X.xe) (hc : X.calm = true) (hi : SI T n X W x y it) (hg : SG T n X W x t) (hb : SSs T n X W body s)
    (hs : ∀ v, foldedSetIterable y X.env v = pure v) : SS T n X W (.For x y body [] pos) (.for t it s) := by
  refine PS.imp (ps_for hp hc hi hg hb hs) fun D σ H q => ?_
  obtain ⟨a, ρ, μ, ho, q⟩ := q
  simp only [evS] at q
  refine ⟨a, ρ, μ, ho, q.seR.mono (fun p μ1 q1 b J H1 st ho1 w => ?_) fun _ _ k => k.kx⟩
  obtain ⟨src, items⟩ := p
  have inv : ∃ W0 : Nat → Nat → L2.St → Hp → Prop, W0 = fun i m σ' H' => m = items.length - i ∧ i ≤ items.length ∧ ∃ c ρ' μ', Stp b H1 c H' ∧ Hol T X.K c ρ' μ' σ' H' ∧
      WpS (forL (fun d ρ μ => seR (nox (asT T.P (T.C n) T.reprS t d ρ μ)) ρ fun ρ μ => evSs T.P (T.C n) T.reprS s ρ μ) src (items.drop i) ρ' μ') (Kn T X.K a H D) (Kr T X.K a H D) (KxS T X.K a H W) := ⟨_, rfl⟩
  obtain ⟨W0, hW⟩ := inv
  refine ⟨W0, ⟨items.length, by rw [hW]; exact ⟨by simp, Nat.zero_le _, b, ρ, μ1, Stp.refl _ _, ho1, q1⟩⟩, fun i m σ' H' w0 => ?_⟩
  rw [hW] at w0
  obtain ⟨rfl, hi, c, ρ', μ', st2, ho2, q2⟩ := w0
  by_cases hlt : i < items.length
  · right
    rw [List.drop_eq_getElem_cons hlt] at q2
    obtain ⟨hok, q3⟩ := forL_go q2
    obtain ⟨w1, w2⟩ := w c μ' H' st2.le ho2.m hok
    obtain ⟨g, y'⟩ := w1 i items[i] (by simp [hlt])
    refine ⟨g, fun σ3 H3 => W0 (i + 1) (items.length - (i + 1)) σ3 H3, fun σ3 H3 h3 => ⟨_, by omega, h3⟩, fun x' H3 hy => ?_⟩
    obtain ⟨e, st3, m3, r3⟩ := y' x' H3 hy
    refine ⟨e, ρ', μ', items[i], ho2.to st3.le m3, r3, q3.seR.nox.mono (fun ρ4 μ4 q4 f σ4 H4 st4 ho4 _ _ => ?_) fun _ _ k => k⟩
    refine ⟨f, ρ4, μ4, ho4, q4.mono (fun ρ5 μ5 q5 g5 σ5 H5 st5 ho5 => ?_) (fun d5 μ5 k g5 v5 H5 st5 ho5 r5 => k g5 v5 H5 (st.trans (st2.trans (st3.trans (st4.trans st5)))) ho5 r5) fun _ _ _ k => k.mono (st.trans (st2.trans (st3.trans st4)))⟩
    show W0 _ _ _ _
    rw [hW]
    exact ⟨rfl, hlt, g5, ρ5, μ5, st2.trans (st3.trans (st4.trans st5)), ho5, q5⟩
  · left
    have : i = items.length := by omega
    subst this
    rw [List.drop_of_length_le (Nat.le_refl _)] at q2
    obtain ⟨hok, k⟩ := forL_stop q2
    obtain ⟨w1, w2⟩ := w c μ' H' st2.le ho2.m hok
    exact ⟨w2, k c σ' H' (st.trans st2) ho2⟩
end
end DI
end

section
set_option Elab.async false
set_option linter.all false
set_option maxRecDepth 100000
namespace DI
open PySem L2 PySem.Spec PyProof.Rows
theorem wipe_get {σ : L2.St} {i : Nat} : ∀ {vs : List Nat}, (L2.wipe σ vs)[i]? = if i ∈ vs then (if i < σ.length then some none else none) else σ[i]?
  | [] => by simp [L2.wipe]
  | v :: vs => by
    simp only [L2.wipe]
    by_cases hv : v = i
    · subst hv
      by_cases hl : v < σ.length
      · rw [List.getElem?_set_self (by rw [L2.wipe_length]; exact hl)]; simp [hl]
      · rw [List.getElem?_eq_none (by simp [L2.wipe_length]; omega)]; simp [hl]
    · rw [List.getElem?_set_ne hv, wipe_get]
      have : i ∈ v :: vs ↔ i ∈ vs := by simp [Ne.symm hv]
      simp only [this]
theorem wipe_eq {σ σ2 : L2.St} {vs : List Nat} (h : ∀ i, i ∉ vs → σ2[i]? = σ[i]?) (hl : σ2.length = σ.length) : L2.wipe σ2 vs = L2.wipe σ vs := by
  apply List.ext_getElem?
  intro i
  rw [wipe_get, wipe_get, hl]
  split
  · rfl
  · rename_i hi; exact h i hi
theorem wipe_tg {σ σ2 : L2.St} {vs ts : List Nat} (hs : ∀ i ∈ ts, i ∈ vs) (h : ∀ i, i ∉ ts → σ2[i]? = (L2.wipe σ vs)[i]?) (hl : σ2.length = (L2.wipe σ vs).length) : L2.wipe σ2 vs = L2.wipe σ vs := by
  refine wipe_eq (fun i hi => ?_) (by rw [hl, L2.wipe_length])
  rw [h i (fun z => hi (hs i z)), wipe_get, if_neg hi]
abbrev SPs (T : Tab) (n : Nat) (X : Cx) (W : WX) (x : List Expr) (e : E) : Prop := PTs X x (tT T n X.K W e)
section
variable {T : Tab} {n : Nat} {X : Cx} {W : WX} {pos : Pos}
theorem PTs.imp {x : List Expr} {t t' : TT} (h : PTs X x t) (g : ∀ σ H Q, t' σ H Q → t σ H Q) : PTs X x t' := ⟨fun pins s σ H Q I q => h.run pins s σ H Q I (g σ H Q q)⟩
theorem sps_nil : SPs T n X W [] (.k (.bl true)) := by
  refine PTs.imp pts_nil fun σ H Q q => ?_
  obtain ⟨a, ρ, μ, ho, q⟩ := q
  simp only [evE] at q
  obtain ⟨c, e, k⟩ := q
  cases e
  exact k a H (Stp.refl _ _) ho
theorem sps_one {x : Expr} {e : E} (h : ST T n X W x e) : SPs T n X W [x] e := pts_one h
end
section
variable {T : Tab} {n : Nat} {X : Cx} {W : WX} {K : PySem.W.Frag} {a b : Abs} {ρ : Env} {μ : Mem} {σ : L2.St} {H : Hp}
theorem compL_go {f : D → Mem → R (Option D)} {src : Option (Nat × Ob)} {d : D} {l : List D} {k : List D → Mem → Prop} {kx : D → Mem → Prop} (h : WpR (compL f src (d :: l) μ) k kx) : srcOk src μ = true ∧ WpR (f d μ) (fun r μ => WpR (compL f src l μ) (fun rs μ => k (match r with | some x => x :: rs | none => rs) μ) kx) kx := by
  simp only [compL] at h
  split at h
  · rename_i hs; exact ⟨hs, h.bind.mono (fun r μ q => q.bind) fun _ _ k => k⟩
  · exact h.elim
theorem compL_stop {f : D → Mem → R (Option D)} {src : Option (Nat × Ob)} {k : List D → Mem → Prop} {kx : D → Mem → Prop} (h : WpR (compL f src [] μ) k kx) : srcOk src μ = true ∧ k [] μ := by
  simp only [compL] at h
  split at h
  · rename_i hs; exact ⟨hs, h⟩
  · exact h.elim
theorem WpR.some {α : Type} {r : R α} {k : α → Mem → Prop} (h : WpR r k (fun _ _ => False)) : ∃ d μ, k d μ := by
  cases r with
  | ok d μ => exact ⟨d, μ, h⟩
  | ex x μ => exact h.elim
  | no => exact h.elim
/-- the list that a comprehension builds, as it stands -/
structure Bld (T : Tab) (K : PySem.W.Frag) (a : Abs) (H0 : Hp) (ρ : Env) (σ : L2.St) (D : Addr) (b : Abs) (μ : Mem) (l : List DI.D) (acc : List V) (H : Hp) : Prop where
  st : Stp a H0 b H
  ho : Hol T K b ρ μ σ H
  at_ : H D = some (.lst acc)
  g : b.G D = none
  n : D ∉ b.α
  r : Reps T K b l acc
theorem Bld.step {D : Addr} {l : List DI.D} {acc : List V} {H0 H' : Hp} {c : Abs} {μ' : Mem} (B : Bld T K a H0 ρ σ D b μ l acc H) (s : Stp b H c H') (m : HolM T K c μ' H') : Bld T K a H0 ρ σ D c μ' l acc H' := by
  obtain ⟨x, y, z⟩ := s.frame D _ B.at_ B.g B.n (fun z => by rcases z with ⟨_, z⟩ | ⟨_, z⟩ <;> cases z)
  exact ⟨B.st.trans s, B.ho.to s.le m, x, y, z, Reps.mono s.le _ _ B.r⟩
theorem Bld.app {D : Addr} {l : List DI.D} {acc : List V} {H0 : Hp} (B : Bld T K a H0 ρ σ D b μ l acc H) (h0 : H0 D = none) {d : DI.D} {v : V} (r : Rep T K b d v) : Bld T K a H0 ρ σ D b μ (l ++ [d]) (acc ++ [v]) (upd H D (.lst (acc ++ [v]))) := by
  refine ⟨B.st.write h0, B.ho.to b.le_refl (B.ho.m.write B.g B.n (fun q e => by rw [B.at_] at e; cases e) fun o e => by rw [B.at_] at e; cases e; exact ⟨fun _ z => by (cases z), fun _ z => by (cases z)⟩), upd_same, B.g, B.n, Reps.append B.r (Reps.cons r Reps.nil)⟩
end
section
variable {T : Tab} {n : Nat} {X : Cx} {W : WX} {pos : Pos}
/-- [e for t in it if c], the turns; rest: what the loop is to give -/
theorem comp_turns {t : DI.T} {c e : E} {vs : List Nat} (hvs : ∀ i ∈ t.vars, i ∈ vs) {a : Abs} {H0 : Hp} {ρ : Env} {σ : L2.St} {D : Addr} (h0 : H0 D = none) {J : L2.It} {src : Option (Nat × Ob)} {items : List DI.D} {b1 : Abs} {μ1 : Mem} {l1 : List DI.D} {acc1 : List V} {H1 : Hp}
    (w : Walks T X.K b1 src items J) (B : Bld T X.K a H0 ρ σ D b1 μ1 l1 acc1 H1) {kk : List DI.D → Mem → Prop} (hz : ∀ l μ, kk l μ → l.length ≤ sizeLn) {f : DI.D → Mem → R (Option DI.D)}
    (hf : f = fun d μ => (asT T.P (T.C n) T.reprS t d (wipeE ρ vs) μ).bind fun ρ μ => (evE T.P (T.C n) T.reprS c ρ μ).bind fun b μ => match tru b with
      | some true => (evE T.P (T.C n) T.reprS e ρ μ).bind fun x μ => .ok (some x) μ
      | some false => .ok none μ
      | none => .no)
    (q : WpR (compL f src items μ1) (fun rs μ => kk (l1 ++ rs) μ) (fun _ _ => False)) (Fin : Hp → Prop) (hfin : ∀ b μ l acc H, b1.le b → Bld T X.K a H0 ρ σ D b μ l acc H → kk l μ → Fin H) :
    ∃ W0 : Nat → Nat → Hp → Prop, (∃ m, W0 0 m H1) ∧ ∀ i m H, W0 i m H → (J.stop i H ∧ Fin H) ∨ (J.go i H ∧ ∃ Nx : Hp → Prop, (∀ H', Nx H' → ∃ m', m' < m ∧ W0 (i + 1) m' H') ∧ ∀ x H', J.yld i H x H' →
      tG T n X.K Wn t x (L2.wipe σ vs) H' fun σ2 H2 => L2.wipe σ2 vs = L2.wipe σ vs ∧ tT T n X.K Wn c σ2 H2 fun b H3 =>
        if b = true then tE T n X.K Wn e σ2 H3 fun y H4 => ∃ acc, H4 D = some (.lst acc) ∧ acc.length < sizeLine ∧ Nx (upd H4 D (.lst (acc ++ [y]))) else Nx H3) := by
  subst hf
  generalize hf : (fun (d : DI.D) (μ : Mem) => (asT T.P (T.C n) T.reprS t d (wipeE ρ vs) μ).bind fun ρ μ => (evE T.P (T.C n) T.reprS c ρ μ).bind fun b μ => match tru b with
      | some true => (evE T.P (T.C n) T.reprS e ρ μ).bind fun x μ => R.ok (some x) μ
      | some false => .ok none μ
      | none => .no) = f at q
  have inv : ∃ W0 : Nat → Nat → Hp → Prop, W0 = fun i m H => m = items.length - i ∧ i ≤ items.length ∧ ∃ b μ l acc, b1.le b ∧ Bld T X.K a H0 ρ σ D b μ l acc H ∧ WpR (compL f src (items.drop i) μ) (fun rs μ => kk (l ++ rs) μ) (fun _ _ => False) := ⟨_, rfl⟩
  obtain ⟨W0, hW⟩ := inv
  refine ⟨W0, ⟨items.length, by rw [hW]; exact ⟨by simp, Nat.zero_le _, b1, μ1, l1, acc1, b1.le_refl, B, q⟩⟩, fun i m H w0 => ?_⟩
  rw [hW] at w0
  obtain ⟨rfl, hi, b, μ, l, acc, st, B, q⟩ := w0
  by_cases hlt : i < items.length
  · right
    rw [List.drop_eq_getElem_cons hlt] at q
    obtain ⟨hok, q⟩ := compL_go q
    obtain ⟨w1, w2⟩ := w b μ H st B.ho.m hok
    obtain ⟨g, y'⟩ := w1 i items[i] (by simp [hlt])
    refine ⟨g, fun H3 => W0 (i + 1) (items.length - (i + 1)) H3, fun H3 h3 => ⟨_, by omega, h3⟩, fun x' H3 hy => ?_⟩
    obtain ⟨e3, st3, m3, r3⟩ := y' x' H3 hy
    have B3 := B.step st3 m3
    rw [← hf] at q
    simp only [] at q
    rw [hf] at q
    refine ⟨e3, wipeE ρ vs, μ, items[i], B3.ho.wipe vs, r3, q.bind.mono (fun ρ4 μ4 q4 b4 σ4 H4 st4 ho4 f4 l4 => ?_) fun _ _ k => k⟩
    refine ⟨wipe_tg hvs f4 l4, b4, ρ4, μ4, ho4, q4.bind.mono (fun d5 μ5 q5 => ?_) fun _ _ k => k.elim⟩
    cases ht : tru d5 with
    | none => rw [ht] at q5; exact q5.elim
    | some bb =>
      rw [ht] at q5
      refine ⟨bb, rfl, fun b5 H5 st5 ho5 => ?_⟩
      cases bb with
      | false =>
        rw [if_neg Bool.false_ne_true]
        show W0 _ _ _
        rw [hW]
        exact ⟨rfl, hlt, b5, μ5, l, acc, st.trans (st3.trans (st4.trans st5)).le, B3.step (st4.trans st5) ho5.m, q5⟩
      | true =>
        rw [if_pos rfl]
        refine ⟨b5, ρ4, μ5, ho5, q5.bind.mono (fun d6 μ6 q6 b6 v6 H6 st6 ho6 r6 => ?_) fun _ _ k => k.elim⟩
        have B6 := B3.step (st4.trans (st5.trans st6)) ho6.m
        have q7 : WpR (compL f src (items.drop (i + 1)) μ6) (fun rs μ => kk ((l ++ [d6]) ++ rs) μ) (fun _ _ => False) := by
          have : WpR (compL f src (items.drop (i + 1)) μ6) (fun rs μ => kk (l ++ (d6 :: rs)) μ) (fun _ _ => False) := q6
          simpa using this
        refine ⟨acc, B6.at_, ?_, ?_⟩
        · obtain ⟨rs, μ7, k7⟩ := q7.some
          have := hz _ _ k7
          rw [← sizeLn_eq, ← B6.r.length]
          simp at this; omega
        · show W0 _ _ _
          rw [hW]
          have B7 := B6.app h0 r6
          exact ⟨rfl, hlt, b6, μ6, l ++ [d6], acc ++ [v6], st.trans (st3.trans (st4.trans (st5.trans st6))).le, B7, q7⟩
  · left
    have : i = items.length := by omega
    subst this
    rw [List.drop_of_length_le (Nat.le_refl _)] at q
    obtain ⟨hok, k⟩ := compL_stop q
    obtain ⟨w1, w2⟩ := w b μ H st B.ho.m hok
    exact ⟨w2, hfin b μ l acc H st B (by simpa using k)⟩
/-- the block's readings do not depend on the block's own context but by K -/
abbrev AllB (X : Cx) (scope : Scope) (P : Cx → Prop) : Prop := ∀ (s : Shared) (H : Hp) (C : Addr) (cl : List (Str × Addr)) (fp : List Addr), P (X.blk s H scope (compEnvC scope cl C X.env) fp)
theorem bld0 {a b : Abs} {H0 H : Hp} {ρ : Env} {μ : Mem} {σ : L2.St} {D : Addr} (st : Stp a H0 b H) (ho : Hol T X.K b ρ μ σ H) (hD : H D = none) : Bld T X.K a H0 ρ σ D b μ [] [] (upd H D (.lst [])) :=
  ⟨st.lay hD, ho.to b.le_refl (ho.m.lay hD), upd_same, (ho.m.fresh hD).1, (ho.m.fresh hD).2, Reps.nil⟩
theorem lc_imp {t : DI.T} {it : DI.It} {c e : E} {vs : List Nat} (hvs : ∀ i ∈ t.vars, i ∈ vs) {σ : L2.St} {H : Hp} {Q : VK} (q : tF T n X.K W (.lc vs t it c e) σ H Q) : tLc (tI T n X.K W it) (tG T n X.K Wn t) (tT T n X.K Wn c) (tE T n X.K Wn e) vs σ H Q := by
  obtain ⟨a, ρ, μ, ho, q⟩ := q
  simp only [evE] at q
  refine ⟨a, ρ, μ, ho, q.bind.mono (fun p μ1 q1 b J H1 st ho1 w D hD => ?_) fun _ _ k => k⟩
  obtain ⟨src, items⟩ := p
  refine comp_turns (kk := fun l μ => l.length ≤ sizeLn ∧ ∀ b v H', Stp a H b H' → Hol T X.K b ρ μ σ H' → Fresh T X.K H b H' (.lst l) v → Q v H') hvs (st.dom D hD) w (bld0 st ho1 hD) (fun _ _ h => h.1) rfl (q1.bind.nox.mono (fun l μ2 q2 => ?_) fun _ _ z => z) _ fun b2 μ2 l acc H2 le B k => ?_
  · simp only [List.nil_append]
    split at q2
    · rename_i hl; exact ⟨hl, q2⟩
    · exact q2.elim
  · exact k.2 b2 _ H2 B.st B.ho ⟨D, acc, rfl, B.at_, st.dom D hD, B.g, B.n, B.r⟩
theorem sf_lc {x tg y : Expr} {ifs : List Expr} {scope : Scope} {own : List (Str × Nat)} {t : DI.T} {it : DI.It} {c e : E} {vs : List Nat} (hv : own.map (·.2) = vs) (hvs : ∀ i ∈ t.vars, i ∈ vs) (hc : X.calm = true) (hN : X.N.Nodup) (hi : SI T n X W tg y it) (ok : BlkOk X.N X.env.scope scope own)
    (hg : AllB X scope fun X => SG T n X Wn tg t) (ht : AllB X scope fun X => SPs T n X Wn ifs c) (he : AllB X scope fun X => SE T n X Wn x e) (hs : ∀ v, foldedSetIterable y X.env v = pure v) : SF T n X W (.ListComp x [⟨tg, y, ifs, 0⟩] scope pos) (.lc vs t it c e) := by
  refine PE.imp (pe_lc (g := tG T n X.K Wn t) (tt := tT T n X.K Wn c) (te := tE T n X.K Wn e) hc hN hi ok hg ht he hs) fun σ H Q q => ?_
  rw [hv]
  exact lc_imp hvs q
/-- name = [..] on one line -/
theorem ss_setLc {i : Nat} {z : Str} {py spos : Pos} {x tg y : Expr} {ifs : List Expr} {scope : Scope} {own : List (Str × Nat)} {t : DI.T} {it : DI.It} {c e : E} {vs : List Nat} (hv : own.map (·.2) = vs) (hvs : ∀ i ∈ t.vars, i ∈ vs) (hc : X.calm = true) (hN : X.N.Nodup) (hy : X.N[i]? = some z) (hyl : X.env.scope.names.lookup z = some .local)
    (hsw : swapsWith (.ListComp x [⟨tg, y, ifs, 0⟩] scope pos) (some (.Name z py)) spos.line X.env = pure true) (hi : SI T n X W tg y it) (ok : BlkOk X.N X.env.scope scope own)
    (hg : AllB X scope fun X => SG T n X Wn tg t) (ht : AllB X scope fun X => SPs T n X Wn ifs c) (he : AllB X scope fun X => SE T n X Wn x e) (hs : ∀ v, foldedSetIterable y X.env v = pure v) : SS T n X W (.Assign [.Name z py] (.ListComp x [⟨tg, y, ifs, 0⟩] scope pos) spos) (.asg (.v i) (.lc vs t it c e)) := by
  refine PS.imp (ps_setLc (g := tG T n X.K Wn t) (tt := tT T n X.K Wn c) (te := tE T n X.K Wn e) hc hN hy hyl hsw hi ok hg ht he hs) fun D σ H q => ?_
  rw [hv]
  show tLc _ _ _ _ vs σ H _
  obtain ⟨a, ρ, μ, ho, q⟩ := q
  simp only [evS, asT, seR_ok] at q
  refine lc_imp hvs ⟨a, ρ, μ, ho, q.seR.mono (fun d μ1 k b v H1 st ho1 f => ?_) fun _ _ k => k.kx⟩
  obtain ⟨c', le2, s2, m, r⟩ := f.freeze st ho1.m
  exact k c' _ H1 s2 ((ho1.to le2 m).set r i)
structure BldD (T : Tab) (K : PySem.W.Frag) (a : Abs) (H0 : Hp) (ρ : Env) (σ : L2.St) (D : Addr) (b : Abs) (μ : Mem) (p : List DI.D × List DI.D) (xs : List Key) (ws : List V) (H : Hp) : Prop where
  st : Stp a H0 b H
  ho : Hol T K b ρ μ σ H
  at_ : H D = some (.dK (xs.zip ws))
  ks : p.1.mapM toKey = some xs
  len : p.1.length = ws.length
  g : b.G D = none
  n : D ∉ b.α
  r : Reps T K b p.2 ws
theorem BldD.step {K : PySem.W.Frag} {a b c : Abs} {ρ : Env} {σ : L2.St} {D : Addr} {p : List DI.D × List DI.D} {xs : List Key} {ws : List V} {μ μ' : Mem} {H0 H H' : Hp} (B : BldD T K a H0 ρ σ D b μ p xs ws H) (s : Stp b H c H') (m : HolM T K c μ' H') : BldD T K a H0 ρ σ D c μ' p xs ws H' := by
  obtain ⟨x, y, z⟩ := s.frame D _ B.at_ B.g B.n (fun z => by rcases z with ⟨_, z⟩ | ⟨_, z⟩ <;> cases z)
  exact ⟨B.st.trans s, B.ho.to s.le m, x, B.ks, B.len, y, z, Reps.mono s.le _ _ B.r⟩
end
end DI
end

section
set_option Elab.async false
set_option linter.all false
set_option maxRecDepth 100000
namespace DI
open PySem L2 PySem.Spec PyProof.Rows
/-- exceptions that no other one was handled at -/
abbrev Takes := L2N.Takes
/-- an exception that leaves a def -/
def KxC (T : Tab) (K : PySem.W.Frag) (a : Abs) (H : Hp) (E : XK) : D → Mem → Prop := fun x μ => ∃ c ns vs, x = .exc c ns vs ∧
  ∀ b dd ws H', Stp a H b H' → HolM T K b μ H' → Reps T K b vs ws → ns.length = ws.length → XdAt T b.G ns ws dd → E (.ref (T.ca c)) dd H'
/-- a wish at these slots -/
abbrev WEs (W : WX) (σ : L2.St) : XK := fun cls d H => W cls d σ H
theorem Kx.toC {T : Tab} {K : PySem.W.Frag} {a a1 : Abs} {H H1 : Hp} {ρ : Env} {σ : L2.St} {W : WX} {x : D} {μ μ1 : Mem} (k : Kx T K a H ρ σ W x μ) (st : Stp a H a1 H1) (ho : Hol T K a1 ρ μ1 σ H1) : KxC T K a1 H1 (WEs W σ) x μ := by
  obtain ⟨c, ns, vs, e, k⟩ := k
  exact ⟨c, ns, vs, e, fun b dd ws H2 st2 hm rv hl hd => k b dd ws H2 (st.trans st2) (ho.to st2.le hm) rv hl hd⟩
theorem KxC.mono {T : Tab} {K : PySem.W.Frag} {a b : Abs} {H H' : Hp} {E : XK} (h : Stp a H b H') {x : D} {μ : Mem} (k : KxC T K a H E x μ) : KxC T K b H' E x μ := by
  obtain ⟨c, ns, vs, e, k⟩ := k
  exact ⟨c, ns, vs, e, fun b dd ws H2 st ho rv hl hd => k b dd ws H2 (h.trans st) ho rv hl hd⟩
/-- what a def promises: what the small interpreter makes of it at this level -/
def spD (T : Tab) (K : PySem.W.Frag) (n f : Nat) : Sp := fun vs H Q E => ∃ a μ ds, HolM T K a μ H ∧ Reps T K a ds vs ∧
  WpR ((T.C n).fn f ds μ) (fun d μ' => ∀ b v H', Stp a H b H' → HolM T K b μ' H' → Rep T K b d v → Q v H') (KxC T K a H E)
/-- how a call with m values and the keywords ks (the parameters ix) binds -/
structure BindOk (T : Tab) (K : PySem.W.Frag) (fd : FuncData) (ps : List Str) (F : Fn) (m : Nat) (ix : List Nat) (ks : List Str) : Prop where
  ex : ∃ g gV, KBn K fd ps m ks g gV ∧ ∀ a args vs kv zs ds, Reps T K a args vs → Reps T K a kv zs → args.length = m → kv.length = ks.length → bindK F.np F.dflt args ix kv = some ds → Reps T K a ds (gV vs zs)
/-- a def that keeps its promise wherever nothing is being told by repr -/
structure FnG (P : Program) (w : World) (K : PySem.W.Frag) (mg : Str → Option Value) (base : Heap) (qt : Bool) (k : Nat) (f : Addr) (fd : FuncData) (ps : List Str) (sp : Sp) : Prop where
  len : ∀ vs H Q E, sp vs H Q E → vs.length = ps.length
  run : ∀ (A : Around) (outer : List PySem.Env) (s : Shared) (H : Hp) (args : Args) (us : List Value) (vs : List V) (Q : VK) (E : XK), Room k A → (qt = false → A.guards = some []) → Env0 P w K mg base A outer s H → BindsTo s fd args (ps.zip us) → Vals vs us → sp vs H Q E →
    codeAny (model P w) A (.call (.ref f) args) (CR (L2N.CX P w) outer P w H s Q E) s
section
variable (T : Tab) (P : Program) (w : World) (K : PySem.W.Frag) (mg : Str → Option Value) (base : Heap) (n : Nat)
/-- a def of the text -/
structure FnF (f : Nat) (F : Fn) : Prop where
  ex : ∃ fd ps, FnG P w K mg base T.quiet (3 * n + T.kx) (T.fa f) fd ps (spD T K n f) ∧ PySem.W.keepIn K (.ref (T.fa f)) = true ∧ PySem.W.isFn K (.ref (T.fa f)) = true ∧ ∀ m ix ks, T.form f m ix = some ks → BindOk T K fd ps F m ix ks
def FnsOk : Prop := ∀ f F, T.P.fns f = some F → FnF T P w K mg base n f F
/-- a def's code object -/
def cdOf (K : PySem.W.Frag) (f : Addr) : Value := match K.lookup f with
  | some ⟨_, _, .func fd, _⟩ => fd.code
  | _ => .none
/-- a def that takes a lambda without parameters: its promise at each call; hap: the lambda called in its body -/
def ThkF (f : Nat) : Prop := ∃ (N : List Str) (qual : Str) (scope : Scope) (nm : Str), N[0]? = some nm ∧ Vis scope nm ∧ (nm == ("__debug__" : Str)) = false ∧ (nm == ("__classdict__" : Str)) = false ∧ PySem.W.keepIn K (.ref (T.fa f)) = true ∧
  ∀ (A : Around) (outer : List PySem.Env) (s : Shared) (H : Hp) (Q : VK) (E : XK) (p c : Addr) (q : Str) (k : Nat) (σ0 : L2.St) (a : Abs) (ρ' : Env) (μ : Mem), Room (3 * n + T.kx) A → (T.quiet = false → A.guards = some []) → Env0 P w K mg base A outer s H →
    (∀ m, n = m + 1 → ∀ (p1 p2 : Pos) (pn : List (Addr × Obj)) (xe : Value → Shared → Prop) (W' : WX), Takes ((cxOf (L2N.CX P w) P w K mg base N qual scope (T.fa f) (cdOf K (T.fa f)) A outer s H E).tr pn xe) W' →
      SE (T.sp none (some (p, c, q, k, σ0))) m ((cxOf (L2N.CX P w) P w K mg base N qual scope (T.fa f) (cdOf K (T.fa f)) A outer s H E).tr pn xe) W' (.Call (.Name nm p1) [] [] p2) (.app 0 .n)) →
    HolM T K a μ H → EnvAt (T.sp none (some (p, c, q, k, σ0))) K a 0 (.clo k ρ') (.ref p) →
    WpR ((T.C n).fn f [.clo k ρ'] μ) (fun d μ' => ∀ b v H', Stp a H b H' → HolM T K b μ' H' → Rep T K b d v → Q v H') (KxC T K a H E) →
    codeAny (model P w) A (.call (.ref (T.fa f)) ⟨[.ref p], []⟩) (CR (L2N.CX P w) outer P w H s Q E) s
end
def spName : Nat → Str
  | 0 => "__eq__" | 1 => "__len__" | 2 => "__str__" | 3 => "__repr__" | 4 => "__bool__" | 5 => "__contains__" | 6 => "__getitem__" | 7 => "__setitem__" | 8 => "__enter__" | 16 => "__getitem__" | 17 => "__setitem__" | _ => "__exit__"
/-- what the text tells of its classes -/
structure TabOk (T : Tab) (K : PySem.W.Frag) : Prop where
  sysm : (K.lookup sysModules).isSome = true
  an : ∀ i j, T.an i = T.an j → i = j
  meth : ∀ c k m f, T.P.cls c = some k → k.meths.lookup m = some f → L2.Cls K (T.ca c) ∧ Meth K (T.ca c) (T.an m) (T.fa f)
  prop : ∀ c k m f, T.P.cls c = some k → k.props.lookup m = some f → L2.Cls K (T.ca c) ∧ ∃ p, PropOf K (T.ca c) (T.an m) p (T.fa f)
  fld : ∀ c k m, T.P.cls c = some k → k.flds.contains m = true → L2.Cls K (T.ca c) ∧ NoAttr K (T.ca c) (T.an m)
  init : ∀ c k f, T.P.cls c = some k → k.init = some f → Mk K (T.ca c) (T.fa f)
  xf : ∀ c k f, T.P.cls c = some k → k.xfl.contains f = true → XfC K (T.ca c) ∧ PySem.W.findIn K (.ref (T.ca c)) (T.an f) = some none
  spec : ∀ c k j f, T.P.cls c = some k → k.spec.lookup j = some f → PySem.W.findIn K (.ref (T.ca c)) (spName j) = some (some (.ref (T.fa f))) ∧ PySem.W.isFn K (.ref (T.fa f)) = true
  nosp : ∀ c k j, T.P.cls c = some k → k.spec.lookup j = none → (j = 1 ∨ j = 4) → PySem.W.findIn K (.ref (T.ca c)) (spName j) = some none
  spx : ∀ c k f, T.P.cls c = some k → (k.spec.lookup 16 = some f → PySem.W.fnIn K (T.fa f) = true) ∧ (k.spec.lookup 17 = some f → PySem.W.noSeq K (T.ca c) = true)
/-- what holds in every body of level n -/
structure Own (T : Tab) (n : Nat) (X : Cx) : Prop where
  calm : X.calm = true
  room : Room (3 * n + T.kx + 2) X.A
  gd : T.quiet = false → X.A.guards = some []
  fnA : ∀ j, j ≤ n → FnsOk T X.prog X.w X.K X.mg X.base j
  thkA : T.clo = none → ∀ j, j ≤ n → ∀ f, T.thk.contains f = true → ThkF T X.prog X.w X.K X.mg X.base j f
  tab : TabOk T X.K
  tabs : ∀ q ∈ T.cds, LamX.TabB X.base X.mg q.1 q.2
  nex : T.ex = none
  fnQ : T.quiet = false → ∀ j, j ≤ 1 → FnsOk T.q X.prog X.w X.K X.mg X.base j
theorem Own.fns {T : Tab} {n : Nat} {X : Cx} (O : Own T n X) : FnsOk T X.prog X.w X.K X.mg X.base n := O.fnA n (Nat.le_refl n)
section
variable {T : Tab} {n : Nat} {X : Cx} {W : WX} {pos : Pos} {a : Abs} {H : Hp} {μ : Mem}
theorem CR.ep {pins : List (Addr × Obj)} {σ : L2.St} {s s' : Shared} {Q : VK} {E : XK} {E2 : Value → Shared → Prop} {r : Result} (I : L2.Inv X pins σ H s) (hx : ∀ e s', L2N.CX X.prog X.w X.stack H s E e s' → E2 e s') (h : CR (L2N.CX X.prog X.w) X.stack X.prog X.w H s Q E r s') : wants (EP X pins σ Q) E2 r s' := by
  cases r with
  | error e => exact hx e s' h
  | ok fl =>
    cases fl with
    | ret u => exact I.after h
    | next => exact False.elim h
    | brk => exact False.elim h
    | cont => exact False.elim h
/-- what a call lets out is taken -/
theorem out_takes (tk : Takes X W) {pins : List (Addr × Obj)} {σ : L2.St} {s : Shared} (I : L2.Inv X pins σ H s) (e : Value) (s' : Shared) (c : L2N.CX X.prog X.w X.stack H s (WEs W σ) e s') : X.xe e s' := tk e s' (L2N.XE.of_call I (fun _ _ _ h => h) c)
/-- nothing is let out -/
theorem out_none {E2 : Value → Shared → Prop} {s : Shared} (e : Value) (s' : Shared) (c : L2N.CX X.prog X.w X.stack H s (fun _ _ _ => False) e s') : E2 e s' := by
  obtain ⟨_, _, _, _, _, _, _, _, _, _, _, _, z⟩ := c
  exact z.elim
theorem KxC.none {T : Tab} {K : PySem.W.Frag} {a : Abs} {H : Hp} {E : XK} {x : D} {μ : Mem} (z : False) : KxC T K a H E x μ := z.elim
/-- a def called, by what the small interpreter makes of it -/
theorem run_d (O : Own T n X) {pins : List (Addr × Obj)} {σ : L2.St} {s : Shared} {Q : VK} {E : XK} {A : Around} {E2 : Value → Shared → Prop} {f m : Nat} {ix : List Nat} {ks : List Str} {args kv : List D} {us ws : List Value} {vs zs : List V}
    (hx : ∀ e s', L2N.CX X.prog X.w X.stack H s E e s' → E2 e s') (hA : Room (3 * n + T.kx) A) (hG : T.quiet = false → A.guards = some []) (e0 : Env0 X.prog X.w X.K X.mg X.base A X.stack s H) (I : L2.Inv X pins σ H s) (hf : T.form f m ix = some ks) (r : Vals vs us) (rz : Vals zs ws) (ra : Reps T X.K a args vs) (rk : Reps T X.K a kv zs) (l1 : args.length = m) (l2 : kv.length = ks.length) (hm : HolM T X.K a μ H)
    (q : WpR (calF T.P (T.C n) f args ix kv μ) (fun d μ' => ∀ b v H', Stp a H b H' → HolM T X.K b μ' H' → Rep T X.K b d v → Q v H') (KxC T X.K a H E)) :
    codeAny (model X.prog X.w) A (.call (.ref (T.fa f)) ⟨us, ks.zip ws⟩) (wants (EP X pins σ Q) E2) s := by
  unfold calF at q
  split at q
  · rename_i F hF
    split at q
    · rename_i ds hds
      obtain ⟨fd, ps, Fo, kp, fn, hB⟩ := (O.fns f F hF).ex
      obtain ⟨g, gV, kb, rel⟩ := (hB m ix ks hf).ex
      have rd := rel a args vs kv zs ds ra rk l1 l2 hds
      have z1 : us.length = m := by rw [← r.length, ← ra.length]; exact l1
      have z2 : ws.length = ks.length := by rw [← rz.length, ← rk.length]; exact l2
      exact codeAny_mono (Fo.run A X.stack s H ⟨us, ks.zip ws⟩ (g us ws) (gV vs zs) Q E hA hG e0 (kb.to s us ws I.kIn z1 z2) (kb.rel r rz) ⟨a, μ, ds, hm, rd, q⟩) fun r s' hq => CR.ep I hx hq
    · exact q.elim
  · exact q.elim
theorem Own.r0 (O : Own T n X) : Room (3 * n + T.kx) X.A := O.room.mono (by omega)
theorem run_dc (O : Own T n X) (tk : Takes X W) {pins : List (Addr × Obj)} {σ : L2.St} {s : Shared} {Q : VK} {f m : Nat} {ix : List Nat} {ks : List Str} {args kv : List D} {us ws : List Value} {vs zs : List V} (I : L2.Inv X pins σ H s) (hf : T.form f m ix = some ks) (r : Vals vs us) (rz : Vals zs ws)
    (ra : Reps T X.K a args vs) (rk : Reps T X.K a kv zs) (l1 : args.length = m) (l2 : kv.length = ks.length) (hm : HolM T X.K a μ H)
    (q : WpR (calF T.P (T.C n) f args ix kv μ) (fun d μ' => ∀ b v H', Stp a H b H' → HolM T X.K b μ' H' → Rep T X.K b d v → Q v H') (KxC T X.K a H (WEs W σ))) :
    wpAny (model X.prog X.w) X.A (call (.ref (T.fa f)) us (ks.zip ws)) (EP X pins σ Q) X.xe s := wpAny_call (run_d O (out_takes tk I) O.r0 O.gd I.env0 I hf r rz ra rk l1 l2 hm q)
theorem Own.keep (O : Own T n X) {f : Nat} {args kv : List D} {ix : List Nat} {k : D → Mem → Prop} {kx : D → Mem → Prop} (q : WpR (calF T.P (T.C n) f args ix kv μ) k kx) : PySem.W.keepIn X.K (.ref (T.fa f)) = true ∧ PySem.W.isFn X.K (.ref (T.fa f)) = true := by
  unfold calF at q
  split at q
  · rename_i F hF
    obtain ⟨fd, ps, _, kp, fn, _⟩ := (O.fns f F hF).ex
    exact ⟨kp, fn⟩
  · exact q.elim
/-- the values of the keywords -/
abbrev SK (T : Tab) (n : Nat) (X : Cx) (W : WX) (x : List Keyword) (e : Es) : Prop := PK X x (tEs T n X.K W e)
theorem PK.imp {x : List Keyword} {t t' : TA} (h : PK X x t) (g : ∀ σ H Q, t' σ H Q → t σ H Q) : PK X x t' := ⟨fun pos pins s σ H Q I q => h.run pos pins s σ H Q I (g σ H Q q)⟩
theorem sk_nil : SK T n X W [] .n := by
  refine PK.imp pk_nil fun σ H Q q => ?_
  obtain ⟨a, ρ, μ, ho, q⟩ := q
  simp only [evEs] at q
  exact q a [] H (Stp.refl _ _) ho Reps.nil
theorem sk_cons {x : Expr} {xs : List Keyword} {e : E} {es : Es} {nm : Option Str} {kp : Pos} (h : SE T n X W x e) (hs : SK T n X W xs es) : SK T n X W (⟨nm, x, kp⟩ :: xs) (.c e es) := by
  refine PK.imp (pk_cons h hs) fun σ H Q q => ?_
  obtain ⟨a, ρ, μ, ho, q⟩ := q
  simp only [evEs] at q
  refine ⟨a, ρ, μ, ho, q.bind.mono (fun d μ1 q1 b v H1 le1 ho1 r1 => ?_) fun _ _ k => k⟩
  refine ⟨b, ρ, μ1, ho1, q1.bind.mono (fun l μ2 q2 c vs H2 le2 ho2 r2 => ?_) fun _ _ k => k.mono le1⟩
  exact q2 c (v :: vs) H2 (le1.trans le2) ho2 (Reps.cons (Rep.mono le2.le _ _ r1) r2)
/-- f(e, ..) -/
theorem se_cal (O : Own T n X) (tk : Takes X W) {x : Str} {p : Pos} {y : Expr} {ys : List Expr} {es : Es} {f : Nat} (hf : T.form f es.len [] = some []) (hg : Gl X x) (hm : X.mg x = some (.ref (T.fa f))) (kp : PySem.W.keepIn X.K (.ref (T.fa f)) = true) (ha : SA T n X W (y :: ys) es) (hdb : (x == ("__debug__" : Str)) = false)
    (he : starEach (y :: ys) X.env = (false, eval y X.env) :: starEach ys X.env) (hpl : (backTo pos (starEach ys X.env)).any (·.1) = false) : SE T n X W (.Call (.Name x p) (y :: ys) [] pos) (.cal f es) := by
  refine ⟨fun pins s σ H Q I q => ?_⟩
  obtain ⟨a, ρ, μ, ho, q⟩ := q
  simp only [evE] at q
  refine wpAny_Call_Name_kw (ld_glob I hg hm ?_ hdb)
  refine PySem.W.callWith_K (h₀ := X.base) I.ok.mod.kin kp (thn (ha.run pos pins s σ H (fun vs H1 => ∃ b l μ1, Stp a H b H1 ∧ Hol T X.K b ρ μ1 σ H1 ∧ Reps T X.K b l vs ∧ l.length = es.len ∧
    WpR (calF T.P (T.C n) f l [] [] μ1) (fun d μ' => ∀ b v H', Stp a H b H' → Hol T X.K b ρ μ' σ H' → Rep T X.K b d v → Q v H') (Kx T X.K a H ρ σ W)) I ?_) fun us s1 ⟨vs, H1, I1, r, b, l, μ1, st, ho1, rl, hl, q1⟩ => ⟨I1.kIn, ?_⟩) he hpl
  · exact ⟨a, ρ, μ, ho, (evEs_len q.bind).mono (fun l μ1 ⟨hl, q1⟩ b vs H1 st ho1 r => ⟨b, l, μ1, st, ho1, r, hl, q1⟩) fun _ _ k => k⟩
  · exact run_dc (ks := []) (ws := []) (zs := []) (kv := []) O tk I1 hf r .nil rl Reps.nil hl rfl ho1.m (q1.mono (fun d μ2 k c v H2 st2 m2 r2 => k c v H2 (st.trans st2) (ho1.to st2.le m2) r2) fun _ _ k => k.toC st ho1)
end
end DI
end

section
set_option Elab.async false
set_option linter.all false
set_option maxRecDepth 100000
namespace DI
open PySem L2 PySem.Spec PyProof.Rows
section
variable {T : Tab} {K : PySem.W.Frag}
mutual
theorem lim_rep {a : Abs} : ∀ (d : D) (v : V), Rep T K a d v → lim d ≤ a.α.length
  | .non, _, _ => by simp [lim]
  | .bl _, _, _ => by simp [lim]
  | .int _, _, _ => by simp [lim]
  | .str _, _, _ => by simp [lim]
  | .tup l, _, x => by simp only [Rep] at x; obtain ⟨p, vs, _, _, r⟩ := x; simp only [lim]; exact lims_rep l vs r
  | .key l, _, x => by simp only [Rep] at x; obtain ⟨p, vs, _, _, r⟩ := x; simp only [lim]; exact lims_rep l vs r
  | .lst l, _, x => by simp only [Rep] at x; obtain ⟨p, vs, _, _, r⟩ := x; simp only [lim]; exact lims_rep l vs r
  | .rol l, _, x => by simp only [Rep] at x; obtain ⟨p, vs, _, _, r⟩ := x; simp only [lim]; exact lims_rep l vs r
  | .dct t ks ds, _, x => by
    simp only [Rep] at x; obtain ⟨p, ws, _, r, hl, hd⟩ := x
    simp only [lim]
    have h1 := lims_rep ds ws r
    have h2 : lims ks = 0 := by
      cases t with
      | false => obtain ⟨xs, _, m⟩ := hd; exact lims_keys m
      | true => obtain ⟨xs, _, m⟩ := hd; exact lims_keysT m
    omega
  | .ins c ns fs, _, x => by simp only [Rep] at x; obtain ⟨p, dx, ws, _, _, _, _, r⟩ := x; simp only [lim]; exact lims_rep fs ws r
  | .exc _ _ _, _, x => by simp only [Rep] at x
  | .cls _, _, _ => by simp [lim]
  | .fn _, _, _ => by simp [lim]
  | .clo _ _, _, x => by simp only [Rep] at x
  | .xv c ns fs, _, x => by simp only [Rep] at x; obtain ⟨p, dd, ws, _, _, _, _, r⟩ := x; simp only [lim]; exact lims_rep fs ws r
  | .obj n, _, x => by simp only [Rep] at x; obtain ⟨p, e, _⟩ := x; simp only [lim]; exact (List.getElem?_eq_some_iff.mp e).1
theorem lims_rep {a : Abs} : ∀ (l : List D) (vs : List V), Reps T K a l vs → lims l ≤ a.α.length
  | [], _, _ => by simp [lims]
  | d :: l, _, x => by
    obtain ⟨v, ws, _, r, rs⟩ := x.inv
    have h1 := lim_rep d v r
    have h2 := lims_rep l ws rs
    simp only [lims]; omega
theorem lims_keys : ∀ {l : List D} {xs : List Key}, l.mapM toKey = some xs → lims l = 0
  | [], _, _ => by simp [lims]
  | d :: l, xs, h => by
    obtain ⟨y, ys, e1, e2, rfl⟩ := mapM_cons h
    have := lims_keys e2
    cases d <;> simp only [toKey] at e1 <;> first | (cases e1; done) | skip <;> simp [lims, lim, this]
theorem lims_keysT : ∀ {l : List D} {xs : List (List Key)}, l.mapM toKeyT = some xs → lims l = 0
  | [], _, _ => by simp [lims]
  | d :: l, xs, h => by
    obtain ⟨y, ys, e1, e2, rfl⟩ := mapM_cons h
    have := lims_keysT e2
    cases d <;> simp only [toKeyT] at e1 <;> first | (cases e1; done) | skip
    rename_i m
    have h3 : ∀ {m : List D} {z : List Key}, (m.mapM fun d => match d with | .str s => some (Sum.inr s : Key) | .int i => some (Sum.inl i) | _ => none) = some z → lims m = 0 := by
      intro m
      induction m with
      | nil => intro z _; simp [lims]
      | cons e m ih =>
        intro z hz
        obtain ⟨u, us, f1, f2, rfl⟩ := mapM_cons hz
        have := ih f2
        cases e <;> simp only at f1 <;> first | (cases f1; done) | skip
        all_goals simp [lims, lim, this]
    simp [lims, lim, this, h3 e1]
end
mutual
/-- a value that names no later store object stands in the store cut back, too -/
theorem Rep.cut {a b : Abs} {r : List Addr} (e : b.α = a.α ++ r) : ∀ (d : D) (v : V), lim d ≤ a.α.length → Rep T K b d v → Rep T K ⟨a.α, b.G⟩ d v
  | .non, _, _, x => by simpa only [Rep] using x
  | .bl _, _, _, x => by simpa only [Rep] using x
  | .int _, _, _, x => by simpa only [Rep] using x
  | .str _, _, _, x => by simpa only [Rep] using x
  | .tup l, _, h, x => by
    simp only [Rep] at x ⊢
    simp only [lim] at h
    obtain ⟨p, vs, e1, s, q⟩ := x
    exact ⟨p, vs, e1, s, Reps.cut e l vs h q⟩
  | .key l, _, h, x => by
    simp only [Rep] at x ⊢
    simp only [lim] at h
    obtain ⟨p, vs, e1, s, q⟩ := x
    exact ⟨p, vs, e1, s, Reps.cut e l vs h q⟩
  | .lst l, _, h, x => by
    simp only [Rep] at x ⊢
    simp only [lim] at h
    obtain ⟨p, vs, e1, s, q⟩ := x
    exact ⟨p, vs, e1, s, Reps.cut e l vs h q⟩
  | .rol l, _, h, x => by
    simp only [Rep] at x ⊢
    simp only [lim] at h
    obtain ⟨p, vs, e1, s, q⟩ := x
    exact ⟨p, vs, e1, s, Reps.cut e l vs h q⟩
  | .dct t ks ds, _, h, x => by
    simp only [Rep] at x ⊢
    simp only [lim] at h
    obtain ⟨p, ws, e1, q, hl, s⟩ := x
    exact ⟨p, ws, e1, Reps.cut e ds ws (by omega) q, hl, s⟩
  | .ins c ns fs, _, h, x => by
    simp only [Rep] at x ⊢
    simp only [lim] at h
    obtain ⟨p, dx, ws, e1, g, g2, hl, q⟩ := x
    exact ⟨p, dx, ws, e1, g, g2, hl, Reps.cut e fs ws h q⟩
  | .exc _ _ _, _, _, x => by simp only [Rep] at x
  | .cls _, _, _, x => by simpa only [Rep] using x
  | .fn _, _, _, x => by simpa only [Rep] using x
  | .clo _ _, _, _, x => by simp only [Rep] at x
  | .xv c ns fs, _, h, x => by
    simp only [Rep] at x ⊢
    simp only [lim] at h
    obtain ⟨p, dd, ws, e1, g, hl, hx, q⟩ := x
    exact ⟨p, dd, ws, e1, g, hl, hx, Reps.cut e fs ws h q⟩
  | .obj n, _, h, x => by
    simp only [Rep] at x ⊢
    simp only [lim] at h
    obtain ⟨p, e1, f⟩ := x
    refine ⟨p, ?_, f⟩
    rw [e, List.getElem?_append_left (by omega)] at e1
    exact e1
theorem Reps.cut {a b : Abs} {r : List Addr} (e : b.α = a.α ++ r) : ∀ (l : List D) (vs : List V), lims l ≤ a.α.length → Reps T K b l vs → Reps T K ⟨a.α, b.G⟩ l vs
  | [], _, _, x => by simpa only [Reps] using x
  | d :: l, _, h, x => by
    simp only [lims] at h
    obtain ⟨v, ws, rfl, q, qs⟩ := x.inv
    exact Reps.cons (Rep.cut e d v (by omega) q) (Reps.cut e l ws (by omega) qs)
end
theorem lim_ob {a : Abs} {H : Hp} {p : Addr} {ob : Ob} (h : ObRep T K a H p ob) : limOb ob ≤ a.α.length := by
  cases ob with
  | lst l => obtain ⟨vs, _, r⟩ := h; exact lims_rep l vs r
  | dct t ks ds =>
    obtain ⟨ws, r, hl, hd⟩ := h
    have h1 := lims_rep ds ws r
    have h2 : lims ks = 0 := by
      cases t with
      | false => obtain ⟨xs, _, m⟩ := hd; exact lims_keys (T := T) (K := K) m
      | true => obtain ⟨xs, _, m⟩ := hd; exact lims_keysT (T := T) (K := K) m
    show max (lims ks) (lims ds) ≤ _
    omega
  | ins c ns fs => obtain ⟨dx, ws, _, _, _, _, r⟩ := h; exact lims_rep fs ws r
theorem ObRep.cut {a b : Abs} {r : List Addr} {H : Hp} {p : Addr} {ob : Ob} (e : b.α = a.α ++ r) (hl : limOb ob ≤ a.α.length) (h : ObRep T K b H p ob) : ObRep T K ⟨a.α, b.G⟩ H p ob := by
  cases ob with
  | lst l => obtain ⟨vs, h1, q⟩ := h; exact ⟨vs, h1, Reps.cut e l vs hl q⟩
  | dct t ks ds =>
    obtain ⟨ws, q, h2, h3⟩ := h
    have hl : max (lims ks) (lims ds) ≤ a.α.length := hl
    exact ⟨ws, Reps.cut e ds ws (by omega) q, h2, h3⟩
  | ins c ns fs => obtain ⟨dx, ws, h1, h2, h3, h4, q⟩ := h; exact ⟨dx, ws, h1, h2, h3, h4, Reps.cut e fs ws hl q⟩
theorem chkOld_at : ∀ {μ0 μ : Mem} {n : Nat}, chkOld μ0 μ n = true → ∀ (i : Nat) (x y : Ob), μ0[i]? = some x → (μ : List Ob)[i]? = some y → x = y ∨ limOb y ≤ n
  | [], μ, n, _, i, x, y, h1, _ => by simp at h1
  | _ :: _, [], n, h, i, x, y, h1, h2 => by simp at h2
  | a :: l, b :: m, n, h, 0, x, y, h1, h2 => by
    simp only [chkOld, Bool.and_eq_true, Bool.or_eq_true, decide_eq_true_eq] at h
    simp at h1 h2; subst h1; subst h2
    rcases h.1 with h | h
    · exact .inl (obEq_eq h)
    · exact .inr h
  | a :: l, b :: m, n, h, i + 1, x, y, h1, h2 => by
    simp only [chkOld, Bool.and_eq_true] at h
    exact chkOld_at h.2 i x y (by simpa using h1) (by simpa using h2)
/-- the store cut back to what it was long -/
theorem HolM.cut {a b : Abs} {μ0 μ : Mem} {H0 H : Hp} (m0 : HolM T K a μ0 H0) (m : HolM T K b μ H) (le : a.le b) (hc : chkOld μ0 μ μ0.length = true) : HolM T K ⟨a.α, b.G⟩ (μ.take μ0.length) H := by
  obtain ⟨⟨r, e⟩, _⟩ := le
  have hl : μ0.length ≤ μ.length := by rw [m.len, m0.len, e]; simp
  refine ⟨m.le, ?_, m0.nd, fun i p ob e1 e2 => ?_, m.ow, m.tb, m.tb2⟩
  · rw [List.length_take, Nat.min_eq_left hl]
    exact m0.len
  · have e1 : a.α[i]? = some p := e1
    have hi : i < μ0.length := by rw [m0.len]; exact (List.getElem?_eq_some_iff.mp e1).1
    rw [List.getElem?_take_of_lt hi] at e2
    obtain ⟨g, q⟩ := m.st i p ob (by rw [e, List.getElem?_append_left (by rw [← m0.len]; exact hi)]; exact e1) e2
    refine ⟨g, q.cut e ?_⟩
    obtain ⟨ob0, eo, _, q0⟩ := m0.at e1
    rcases chkOld_at hc i ob0 ob eo e2 with rfl | h
    · exact lim_ob q0
    · rw [← m0.len]; exact h
theorem Stp.cut {a b : Abs} {H0 H : Hp} (s : Stp a H0 b H) : Stp a H0 ⟨a.α, b.G⟩ H := by
  refine ⟨⟨⟨[], by simp⟩, s.le.fr⟩, s.dom, fun p o e1 e2 e3 nt => ?_, s.tl⟩
  obtain ⟨x, y, z⟩ := s.frame p o e1 e2 e3 nt
  exact ⟨x, y, e3⟩
/-- at a def's end -/
theorem fin_ok {a : Abs} {μ : Mem} {H : Hp} (m0 : HolM T K a μ H) {keep : Bool} {d : D} {μ' : Mem} {k : D → Mem → Prop} {kx : D → Mem → Prop} (q : WpR (fin keep μ d μ') k kx) {b : Abs} {v : V} {H' : Hp} (st : Stp a H b H') (m : HolM T K b μ' H') (r : Rep T K b d v) :
    ∃ c d' μ2, Stp a H c H' ∧ HolM T K c μ2 H' ∧ Rep T K c d' v ∧ k d' μ2 := by
  unfold fin at q
  split at q
  · exact ⟨b, d, μ', st, m, r, q⟩
  · split at q
    · rename_i hc
      obtain ⟨hl, hc⟩ := hc
      have m2 := m0.cut m st.le hc
      obtain ⟨⟨rr, e⟩, _⟩ := id st.le
      -- what is frozen
      have plain : ∀ {d0 : D}, frz μ.length μ' d = d0 → d0 = d → ∃ c d' μ2, Stp a H c H' ∧ HolM T K c μ2 H' ∧ Rep T K c d' v ∧ k d' μ2 := fun {d0} h1 h2 => by
        subst h2
        rw [h1] at hl q
        exact ⟨_, _, _, st.cut, m2, Rep.cut e _ v (by rw [← m0.len]; exact hl) r, q⟩
      cases d with
      | obj n =>
        by_cases hn : μ.length ≤ n
        · simp only [Rep] at r
          obtain ⟨p, ep, rfl⟩ := r
          obtain ⟨ob, eo, g, q2⟩ := m.at ep
          have hp0 : p ∉ a.α := fun hp => by
            obtain ⟨i, hi⟩ := List.mem_iff_getElem?.mp hp
            have hi2 := (List.getElem?_eq_some_iff.mp hi).1
            have e2 : b.α[i]? = some p := by rw [e, List.getElem?_append_left hi2]; exact hi
            obtain ⟨l1, m1⟩ := List.getElem?_eq_some_iff.mp e2
            obtain ⟨l2, m3⟩ := List.getElem?_eq_some_iff.mp ep
            have : i = n := (List.getElem_inj (h₀ := l1) (h₁ := l2) m.nd).mp (by rw [m1, m3])
            have hml := m0.len
            omega
          have gn : (⟨a.α, b.G⟩ : Abs).G p = none := g
          have h0 : H p = none := by
            cases hh : H p with
            | none => rfl
            | some o =>
              cases hg : a.G p with
              | some u => rw [st.le.fr _ _ hg] at g; cases g
              | none =>
                have nt : ¬ IsTE o := fun z => by
                  obtain ⟨o9, e9, z9⟩ := st.tl _ _ hh z
                  rcases z9 with ⟨_, rfl⟩ | ⟨_, rfl⟩
                  · exact (q2.noTE _ e9).1 _ rfl
                  · exact (q2.noTE _ e9).2 _ rfl
                have := (st.frame p o hh hg hp0 nt).2.2
                exact absurd (List.mem_of_getElem? ep) this
          cases ob with
          | lst l =>
            have ef : frz μ.length μ' (.obj n) = .lst l := by simp only [frz, if_pos hn, eo]
            rw [ef] at hl q
            obtain ⟨vs, hv, rv⟩ := q2
            obtain ⟨m3, le3⟩ := m2.freezeAt hv gn hp0 (fun _ z => by cases z) (fun _ z => by cases z)
            refine ⟨_, _, _, st.cut.freezeAt h0 le3, m3, ?_, q⟩
            simp only [Rep]
            exact ⟨p, vs, rfl, upd_same, Reps.mono le3 _ _ (Reps.cut e l vs (by rw [← m0.len]; simpa [lim] using hl) rv)⟩
          | dct t ks ds =>
            have ef : frz μ.length μ' (.obj n) = .dct t ks ds := by simp only [frz, if_pos hn, eo]
            rw [ef] at hl q
            obtain ⟨ws, rv, hl2, hd⟩ := q2
            obtain ⟨o, ho, hw⟩ := hd.there
            obtain ⟨m3, le3⟩ := m2.freezeAt ho gn hp0 hw (by first | exact hd.noT ho | exact DcAt.noT (by assumption) ho)
            refine ⟨_, _, _, st.cut.freezeAt h0 le3, m3, ?_, q⟩
            simp only [Rep]
            refine ⟨p, ws, rfl, Reps.mono le3 _ _ (Reps.cut e ds ws (by rw [← m0.len]; simp only [lim] at hl; omega) rv), hl2, hd.of ho upd_same⟩
          | ins c ns fs => exact plain (by simp only [frz, if_pos hn, eo]) rfl
        · exact plain (by simp only [frz, if_neg hn]) rfl
      | _ => exact plain (by simp only [frz]) rfl
    · exact q.elim
end
end DI
end

section
set_option Elab.async false
set_option linter.all false
set_option maxRecDepth 100000
namespace DI
open PySem L2 PySem.Spec PyProof.Rows
section
variable {T : Tab} {K : PySem.W.Frag}
theorem reps_start {a : Abs} : ∀ {ds : List D} {vs : List V} {k i : Nat} {d : D}, Reps T K a ds vs → getE (ds.map some ++ List.replicate k none) i = some d → ∃ v, (vs.map some ++ List.replicate k (none : Option V))[i]? = some (some v) ∧ Rep T K a d v
  | [], vs, k, i, d, r, e => by
    unfold getE at e
    rw [r.inv0] at *
    simp only [List.map_nil, List.nil_append] at e
    rw [List.getElem?_replicate] at e
    split at e <;> simp at e
  | x :: ds, vs, k, 0, d, r, e => by
    obtain ⟨v, ws, rfl, r1, r2⟩ := r.inv
    simp [getE] at e; subst e
    exact ⟨v, by simp, r1⟩
  | x :: ds, vs, k, i + 1, d, r, e => by
    obtain ⟨v, ws, rfl, r1, r2⟩ := r.inv
    obtain ⟨w, h1, h2⟩ := reps_start (k := k) (i := i) r2 (by simpa [getE] using e)
    exact ⟨w, by simpa using h1, h2⟩
theorem hol_start {a : Abs} {ds : List D} {vs : List V} {μ : Mem} {H : Hp} {N : List Str} {nn np : Nat} (m : HolM T K a μ H) (r : Reps T K a ds vs) (h1 : ds.length = np) (h2 : nn = N.length) : Hol T K a (ds.map some ++ List.replicate (nn - np) none) μ (L2.start N vs) H := by
  unfold L2.start
  rw [← r.length, h1, ← h2]
  exact ⟨m, by simp [r.length], fun i d e => let ⟨v, h1, h2⟩ := reps_start r e; ⟨v, h1, EnvAt.of h2⟩⟩
end
/-- what a def's body is to show: at each entry, where all defs of one level less keep their promises -/
def BodyOk (T : Tab) (P : Program) (w : World) (K : PySem.W.Frag) (mg : Str → Option Value) (base : Heap) (n : Nat) (N : List Str) (qual : Str) (scope : Scope) (f : Addr) (body : List Stmt) (b : Ss) : Prop :=
  ∀ (A : Around) (outer : List PySem.Env) (s : Shared) (H : Hp) (E : XK) (W : WX), Own T n (cxOf (L2N.CX P w) P w K mg base N qual scope f (cdOf K f) A outer s H E) → Takes (cxOf (L2N.CX P w) P w K mg base N qual scope f (cdOf K f) A outer s H E) W → SSs T n (cxOf (L2N.CX P w) P w K mg base N qual scope f (cdOf K f) A outer s H E) W body b
/-- an exception at a def's end -/
theorem finX_ok {T : Tab} {K : PySem.W.Frag} {a : Abs} {μ : Mem} {H : Hp} (m0 : HolM T K a μ H) {keep : Bool} {x : D} {μ' : Mem} {k : D → Mem → Prop} {E : XK} (q : WpR (finX keep μ x μ') k (KxC T K a H E)) :
    ∃ c ns vs, x = .exc c ns vs ∧ ∀ b dd ws H', Stp a H b H' → HolM T K b μ' H' → Reps T K b vs ws → ns.length = ws.length → XdAt T b.G ns ws dd → E (.ref (T.ca c)) dd H' := by
  unfold finX at q
  split at q
  · exact q
  · split at q
    · rename_i hc
      obtain ⟨hl, hc⟩ := hc
      obtain ⟨c, ns, vs, rfl, q⟩ := q
      refine ⟨c, ns, vs, rfl, fun b dd ws H' st m rv hn hx => ?_⟩
      obtain ⟨⟨rr, e⟩, _⟩ := id st.le
      exact q ⟨a.α, b.G⟩ dd ws H' st.cut (m0.cut m st.le hc) (Reps.cut e vs ws (by rw [← m0.len]; simpa [lim] using hl) rv) hn hx
    · exact q.elim
section
variable {T : Tab} {P : Program} {w : World} {K : PySem.W.Frag} {mg : Str → Option Value} {base : Heap} {n : Nat}
/-- a def by its body, where nothing is being told by repr -/
theorem fnG_of {qt : Bool} {k : Nat} {x qual : Str} {params : Arguments} {body : List Stmt} {scope : Scope} {dvs : List V} {kws : List (Str × V)} {f : Addr} {fd : FuncData} {N ps : List Str} {sp : Sp} (Fd : FunD K x qual params body scope dvs kws f fd) (S : FnScope N ps scope) (len : ∀ vs H Q E, sp vs H Q E → vs.length = ps.length)
    (hb : ∀ (A : Around) (outer : List PySem.Env) (s : Shared) (H : Hp) (vs : List V) (Q : VK) (E : XK), Room k (A.deeper (envOfC qual scope s.heap.objs.size f (cdOf K f))) → (qt = false → (A.deeper (envOfC qual scope s.heap.objs.size f (cdOf K f))).guards = some []) → sp vs H Q E →
      ∃ t, PSs (cxOf (L2N.CX P w) P w K mg base N qual scope f (cdOf K f) A outer s H E) body t ∧ t { nx := fun _ H' => Q .non H', rt := Q } (L2.start N vs) H) : FnG P w K mg base qt (k + 1) f fd ps sp := by
  obtain ⟨oc, od, dV, kV, doc, pm, an, cdv, ct, osl, rfl, lk, hcd, _, _⟩ := Fd.ex
  have ecd : cdOf K f = cdv := by unfold cdOf; rw [lk]
  refine ⟨len, fun A outer s H args us vs Q E hr hg e0 hbi r h => ?_⟩
  have old : ∀ b o, base.get? b = some o → s.heap.get? b = some o := fun b o e => (e0.bs b o e).1
  have inK := e0.mod.kin.keeps old
  refine codeAny_call_function hr.depth (inK _ _ lk) rfl S.co S.gen rfl (PySem.W.codeRec_of inK hcd) (hbi _ _ _ _ ?_)
  refine wpAny_newFunctionEnv_cells S.kind (fun y hy => ?_) fun env he s1 z => ?_
  · obtain ⟨nm, v⟩ := y
    cases S.par nm (List.of_mem_zip hy).1 with
    | inl q => exact .inl q
    | inr q => exact .inr ⟨q, PySem.W.cellsFrom_some _ _ _ (.inl q)⟩
  · subst he
    rw [ecd] at hb
    obtain ⟨t, ht, hq⟩ := hb A outer s H vs Q E (hr.deeper _) hg h
    have I := inv_start (CX := L2N.CX P w) (E := E) (qual := qual) (f := f) (cd := cdv) S hr.hd e0 (len _ _ _ _ h) r z
    refine ⟨(e0.mod.nolimit.keeps old).keeps z.toInCall.keep, codeAny_func (wpAny_mono (ht.run [] s1 _ H _ I hq) (fun fl s2 q => ?_) fun _ _ q => q)⟩
    cases fl with
    | ret u =>
      obtain ⟨v, σ', H', J, rv, q⟩ := q
      exact ⟨v, H', J.os, J.bare, J.base, J.hok, rv, q⟩
    | next =>
      obtain ⟨σ', H', J, q⟩ := q
      exact ⟨.non, H', J.os, J.bare, J.base, J.hok, rfl, q⟩
    | brk => obtain ⟨_, _, _, q⟩ := q; exact q.elim
    | cont => obtain ⟨_, _, _, q⟩ := q; exact q.elim
theorem def_ok {x qual : Str} {params : Arguments} {body : List Stmt} {scope : Scope} {dvs : List V} {kws : List (Str × V)} {i : Nat} {fd : FuncData} {N ps : List Str} {F : Fn} (hF : T.P.fns i = some F) (Fd : FunD K x qual params body scope dvs kws (T.fa i) fd) (S : FnScope N ps scope)
    (h1 : F.np = ps.length) (h2 : F.nn = N.length) (tab : TabOk T K) (tabs : ∀ q ∈ T.cds, LamX.TabB base mg q.1 q.2) (nex : T.ex = none) (fnQ : T.quiet = false → ∀ j, j ≤ 1 → FnsOk T.q P w K mg base j) (fns : ∀ j, j ≤ n → FnsOk T P w K mg base j) (thk : T.clo = none → ∀ j, j ≤ n → ∀ f, T.thk.contains f = true → ThkF T P w K mg base j f) (hb : BodyOk T P w K mg base n N qual scope (T.fa i) body F.body) : FnG P w K mg base T.quiet (3 * (n + 1) + T.kx) (T.fa i) fd ps (spD T K (n + 1) i) := by
  have key : ∀ vs H Q E, spD T K (n + 1) i vs H Q E → ∃ a μ ds, HolM T K a μ H ∧ Reps T K a ds vs ∧ ds.length = F.np ∧
      WpS (evSs T.P (T.C n) T.reprS F.body (ds.map some ++ List.replicate (F.nn - F.np) none) μ) (fun _ μ' => WpR (fin F.keep μ .non μ') (fun d μ' => ∀ b v H', Stp a H b H' → HolM T K b μ' H' → Rep T K b d v → Q v H') (KxC T K a H E)) (fun d μ' => WpR (fin F.keep μ d μ') (fun d μ' => ∀ b v H', Stp a H b H' → HolM T K b μ' H' → Rep T K b d v → Q v H') (KxC T K a H E)) (fun x _ μ' => WpR (finX F.keep μ x μ') (fun d μ' => ∀ b v H', Stp a H b H' → HolM T K b μ' H' → Rep T K b d v → Q v H') (KxC T K a H E)) := by
    intro vs H Q E h
    obtain ⟨a, μ, ds, m, r, q⟩ := h
    have q : WpR (calD T.P T.reprS (n + 1) i ds μ) _ _ := q
    simp only [calD, hF] at q
    split at q
    · rename_i hl
      refine ⟨a, μ, ds, m, r, hl, ?_⟩
      have e : T.C n = ⟨calD T.P T.reprS n, lamD T.P T.reprS n⟩ := rfl
      rw [e]
      cases h : evSs T.P ⟨calD T.P T.reprS n, lamD T.P T.reprS n⟩ T.reprS F.body (ds.map some ++ List.replicate (F.nn - F.np) none) μ with
      | nx ρ μ' => rw [h] at q; exact q
      | rt d μ' => rw [h] at q; exact q
      | ex x ρ μ' => rw [h] at q; exact q
      | no => rw [h] at q; exact q
    · exact q.elim
  have ek : 3 * (n + 1) + T.kx = 3 * n + T.kx + 2 + 1 := by omega
  rw [ek]
  refine fnG_of (k := 3 * n + T.kx + 2) Fd S (fun vs H Q E h => ?_) fun A outer s H vs Q E hr hg h => ?_
  · obtain ⟨a, μ, ds, m, r, hl, _⟩ := key vs H Q E h
    rw [← r.length, hl, h1]
  · obtain ⟨a, μ, ds, m, r, hl, q⟩ := key vs H Q E h
    refine ⟨_, hb A outer s H E (fun cls d _ H => E cls d H) ⟨rfl, hr, hg, fns, thk, tab, tabs, nex, fnQ⟩ (L2N.takes_of rfl rfl rfl rfl), ?_⟩
    refine ⟨a, _, μ, hol_start m r hl h2, q.mono (fun ρ' μ' k b σ' H' st ho => ?_) (fun d μ' k b v H' st hm rv => ?_) fun x ρ' μ' k => ?_⟩
    · obtain ⟨c, d', μ2, s2, m2, r2, k2⟩ := fin_ok m k st ho.m (d := .non) (v := .non) (by simp only [Rep])
      exact k2 c _ H' s2 m2 r2
    · obtain ⟨c, d', μ2, s2, m2, r2, k2⟩ := fin_ok m k st hm rv
      exact k2 c _ H' s2 m2 r2
    · obtain ⟨c, ns, vs, e, k⟩ := finX_ok m k
      exact ⟨c, ns, vs, e, fun b dd ws σ' H' st ho rv hn hx => k b dd ws H' st ho.m rv hn hx⟩
/-- at level 0 nothing is promised -/
theorem def_ok0 {x qual : Str} {params : Arguments} {body : List Stmt} {scope : Scope} {dvs : List V} {kws : List (Str × V)} {i : Nat} {fd : FuncData} {ps : List Str} : FnG P w K mg base T.quiet (3 * 0 + T.kx) (T.fa i) fd ps (spD T K 0 i) :=
  ⟨fun vs H Q E h => by obtain ⟨a, μ, ds, m, r, q⟩ := h; exact q.elim, fun A outer s H args us vs Q E hr hg e0 hb r h => by obtain ⟨a, μ, ds, m, r, q⟩ := h; exact q.elim⟩
end
section
variable {T : Tab} {n : Nat} {X : Cx} {W : WX} {pos : Pos} {a : Abs} {H : Hp} {μ : Mem}
theorem fget_zip (an : ∀ i j, T.an i = T.an j → i = j) {m : Nat} {d : D} : ∀ {ns : List Nat} {ws : List V} {fs : List D}, ns.length = ws.length → Reps T X.K a fs ws → fget m ns fs = some d → ∃ w, ((ns.map T.an).zip ws).lookup (T.an m) = some w ∧ Rep T X.K a d w
  | [], ws, fs, _, _, h => by simp [fget] at h
  | i :: ns, ws, [], _, _, h => by simp [fget] at h
  | i :: ns, ws, e :: fs, hl, r, h => by
    obtain ⟨w, ws', rfl, r1, r2⟩ := r.inv
    simp only [fget] at h
    simp only [List.map_cons, List.zip_cons_cons, List.lookup_cons]
    by_cases hi : i = m
    · subst hi
      rw [if_pos rfl] at h; cases h
      exact ⟨w, by simp, r1⟩
    · rw [if_neg hi] at h
      have : (T.an m == T.an i) = false := by
        rw [beq_eq_false_iff_ne]
        intro e
        exact hi (an _ _ e).symm
      rw [this]
      exact fget_zip an (by simpa using hl) r2 h
end
end DI
end

section
set_option Elab.async false
set_option linter.all false
set_option maxRecDepth 100000
namespace DI
open PySem L2 PySem.Spec PyProof.Rows
section
variable {T : Tab} {n : Nat} {X : Cx} {W : WX} {pos : Pos} {a : Abs} {H : Hp} {μ : Mem}
end
end DI
end

section
set_option Elab.async false
set_option linter.all false
set_option maxRecDepth 100000
namespace DI
open PySem L2 PySem.Spec PyProof.Rows
section
variable {T : Tab} {n : Nat} {X : Cx} {W : WX} {pos : Pos} {a : Abs} {H : Hp} {μ : Mem}
/-- a new instance and its dict stand in the store -/
theorem HolM.ins (m : HolM T X.K a μ H) {x dx C : Addr} {c : Nat} (hc : C = T.ca c) (nx : H x = none) (nd : H dx = none) (ne : dx ≠ x) :
    HolM T X.K ⟨a.α ++ [x], a.G⟩ (μ ++ [.ins c [] []]) (upd (upd H dx (.own x)) x (.ins C dx [])) ∧ Stp a H ⟨a.α ++ [x], a.G⟩ (upd (upd H dx (.own x)) x (.ins C dx [])) := by
  subst hc
  have nx1 : upd H dx (.own x) x = none := by rw [upd_ne (Ne.symm ne)]; exact nx
  have h2 : HolM T X.K a μ (upd (upd H dx (.own x)) x (.ins (T.ca c) dx [])) := m.grow (fun q u e => by rw [upd_ne (ne_of_none e nx), upd_ne (ne_of_none e nd)]; exact e) fun q r e => by
    have hq : q ≠ x := by rintro rfl; rw [upd_same] at e; cases e
    rw [upd_ne hq] at e
    by_cases hr : r = x
    · subst hr; rw [upd_same]; simp
    · rw [upd_ne hr]
      by_cases hq2 : q = dx
      · subst hq2; rw [upd_same] at e; cases e; exact absurd rfl hr
      · rw [upd_ne hq2] at e
        have := m.ow q r e
        rw [upd_ne (by rintro rfl; exact this nd)]; exact this
  have f := m.fresh nx
  have le : a.le ⟨a.α ++ [x], a.G⟩ := ⟨⟨[x], rfl⟩, fun _ _ h => h⟩
  have r : ObRep T X.K a (upd (upd H dx (.own x)) x (.ins (T.ca c) dx [])) x (.ins c [] []) := ⟨dx, [], upd_same, by rw [upd_ne ne, upd_same], (m.fresh nd).1, rfl, Reps.nil⟩
  have s1 : Stp a H a (upd (upd H dx (.own x)) x (.ins (T.ca c) dx [])) := ((Stp.refl a H).lay nd).lay nx1
  refine ⟨⟨h2.le, by simp [m.len], ?_, fun k q ob2 e1 e2 => ?_, h2.ow, h2.tb, h2.tb2⟩, s1.own nx⟩
  · show (a.α ++ [x]).Nodup
    rw [List.nodup_append]
    exact ⟨m.nd, by simp, fun y hy z hz => by
      rintro rfl
      have : y = x := by simpa using hz
      exact f.2 (this ▸ hy)⟩
  · have e1 : (a.α ++ [x])[k]? = some q := e1
    by_cases hk : k < a.α.length
    · rw [List.getElem?_append_left hk] at e1
      rw [List.getElem?_append_left (by rw [m.len]; exact hk)] at e2
      obtain ⟨g2, r2⟩ := h2.st k q ob2 e1 e2
      exact ⟨g2, r2.keep le (fun _ _ h _ => h) fun x h _ => h⟩
    · have hk2 : k = a.α.length := by
        have := (List.getElem?_eq_some_iff.mp e1).1
        simp at this; omega
      subst hk2
      rw [List.getElem?_append_right (Nat.le_refl _)] at e1
      rw [List.getElem?_append_right (by rw [m.len]; exact Nat.le_refl _), m.len] at e2
      simp at e1 e2
      subst e1; subst e2
      exact ⟨f.1, r.keep le (fun _ _ h _ => h) fun x h _ => h⟩
end
end DI
end

section
set_option Elab.async false
set_option linter.all false
set_option maxRecDepth 100000
namespace DI
open PySem L2 PySem.Spec PyProof.Rows
section
variable {T : Tab} {n : Nat} {X : Cx} {W : WX} {pos : Pos} {a : Abs} {H : Hp} {μ : Mem}
theorem se_g {x : Str} {p : Pos} {i : Nat} {d : D} {v : V} {u : Value} (hg : Gl X x) (hm : X.mg x = some u) (r : RelV v u) (hd : (x == ("__debug__" : Str)) = false) (e : T.P.gl i = some d) (rr : ∀ a, Rep T X.K a d v) : SE T n X W (.Name x p) (.g i) := se_c (d := d) (pe_glob hg hm r hd) (fun _ _ => by simp only [evE, e]; rfl) rr
end
end DI
end

section
set_option Elab.async false
set_option linter.all false
set_option maxRecDepth 100000
namespace DI
open PySem L2 PySem.Spec PyProof.Rows
def tyS : Nat → String
  | 0 => "str" | 1 => "int" | 2 => "bool" | 3 => "tuple" | 4 => "list" | 5 => "dict" | _ => "NoneType"
/-- a class as the second argument -/
def tyV (T : Tab) : Ty → V
  | .py n => .ty (tyS n)
  | .own c => .ref (T.ca c)
/-- what the text tells of its classes for isinstance -/
structure IsOk (T : Tab) (K : PySem.W.Frag) : Prop where
  nam : ∀ c k, T.P.cls c = some k → k.init.isSome = true → L2.Cls K (T.ca c) ∧ PySem.W.findIn K (.ref (T.ca c)) "__class__" = some (some (.builtin "object.__class__")) ∧ PySem.W.mroIn K (T.ca c) (.type "object") = some true
  hn : PySem.W.specialIn K (.builtin "object.__class__") "__get__" = some (some (.builtin "getset_descriptor.__get__"))
  htk : PySem.W.takesIn K (.builtin "object.__class__") = some true
  dat : ∀ t c, (t ≤ 5 ∨ t = 15) → T.isc.contains c = true → PySem.W.kitOne K (.type (tyS t)) (.ref (T.ca c)) = some false
  ipy : ∀ c k n, T.P.cls c = some k → k.init.isSome = true → n ≤ 5 → PySem.W.kitOne K (.ref (T.ca c)) (.type (tyS n)) = some false
  iow : ∀ c k e, T.P.cls c = some k → k.init.isSome = true → T.isc.contains e = true → PySem.W.kitOne K (.ref (T.ca c)) (.ref (T.ca e)) = some (k.sup.contains e)
section
variable {T : Tab} {n : Nat} {X : Cx} {W : WX} {pos : Pos} {a : Abs} {H : Hp} {μ : Mem}
end
end DI
end

section
set_option Elab.async false
set_option linter.all false
set_option maxRecDepth 100000
namespace DI
open PySem L2 PySem.Spec PyProof.Rows
section
variable {T : Tab} {n : Nat} {X : Cx} {W : WX} {pos : Pos}
theorem chainC {o p : Cop} {d e f : E} {σ : L2.St} {H : Hp} {Q : VK} {a : Abs} {ρ : Env} {μ : Mem} {kk : D → Mem → Prop} (ho : Hol T X.K a ρ μ σ H)
    (q : WpR (evE T.P (T.C n) T.reprS (.cmp2 o p d e f) ρ μ) kk (Kx T X.K a H ρ σ W))
    (hk : ∀ c μ1 b H1, Stp a H b H1 → Hol T X.K b ρ μ1 σ H1 → kk (.bl c) μ1 → Q (.bl c) H1) :
    tChain (rCmp T n X.K o) (rCmp T n X.K p) (tE T n X.K W d) (tE T n X.K W e) (tE T n X.K W f) σ H Q := by
  simp only [evE] at q
  refine ⟨a, ρ, μ, ho, q.bind.mono (fun d1 μ1 q1 b v H1 le1 ho1 r1 => ?_) fun _ _ k => k⟩
  refine ⟨b, ρ, μ1, ho1, q1.bind.mono (fun d2 μ2 q2 c w H2 le2 ho2 r2 => ?_) fun _ _ k => k.mono le1⟩
  refine ⟨c, μ2, d1, d2, ho2.m, Rep.mono le2.le _ _ r1, r2, q2.bind.nox.mono (fun x μ3 q3 b3 H3 le3 m3 => ?_) fun _ _ z => z⟩
  have ho3 := ho2.to le3.le m3
  have le := le1.trans (le2.trans le3)
  refine ⟨x, rfl, ?_⟩
  cases x with
  | false =>
    simp only [Bool.false_eq_true, if_false] at q3 ⊢
    exact hk _ _ b3 H3 le ho3 q3
  | true =>
    simp only [if_true] at q3 ⊢
    refine ⟨b3, ρ, μ3, ho3, q3.bind.mono (fun d4 μ4 q4 b4 u H4 le4 ho4 r4 => ?_) fun _ _ k => k.mono le⟩
    exact ⟨b4, μ4, d2, d4, ho4.m, Rep.mono (le3.trans le4).le _ _ r2, r4, q4.bind.nox.mono (fun y μ5 q5 b5 H5 le5 m5 => hk y μ5 b5 H5 (le.trans (le4.trans le5)) (ho4.to le5.le m5) q5) fun _ _ z => z⟩
theorem se_cmp2 {x y z : Expr} {d e f : E} (o p : Cop) (hc : CmpOk T n X) (hm : lastMarks [toCmp o, toCmp p] [y, z] = false) (h1 : SE T n X W x d) (h2 : SE T n X W y e) (h3 : SE T n X W z f) : SE T n X W (.Compare x [toCmp o, toCmp p] [y, z] pos) (.cmp2 o p d e f) := by
  refine PE.imp (pe_chain (op_cmpV (T := T) (n := n) o hc.units hc.eq hc.inn) (op_cmpV (T := T) (n := n) p hc.units hc.eq hc.inn) h1 h2 h3 hm) fun σ H Q q => ?_
  obtain ⟨a, ρ, μ, ho, q⟩ := q
  exact chainC ho q fun c μ1 b H1 le1 ho1 q1 => q1 b _ H1 le1 ho1 rep_bl
/-- a method of a built-in's, by values -/
def rBm (T : Tab) (K : PySem.W.Frag) (m : Bm) : V → List V → Hp → VK → Prop := fun x vs H Q => ∃ a μ d ds kx, HolM T K a μ H ∧ Rep T K a d x ∧ Reps T K a ds vs ∧
  WpR (bmV μ m d ds) (fun d μ' => ∀ b v H', Stp a H b H' → HolM T K b μ' H' → Fresh T K H b H' d v → Q v H') kx
theorem lst_of {a : Abs} {μ : Mem} {H : Hp} {k : Nat} {l : List D} {v : V} (m : HolM T X.K a μ H) (r : Rep T X.K a (.obj k) v) (e : μ[k]? = some (.lst l)) : ∃ p vs, v = .ref p ∧ a.α[k]? = some p ∧ H p = some (.lst vs) ∧ Reps T X.K a l vs := by
  simp only [Rep] at r
  obtain ⟨p, ep, rfl⟩ := r
  obtain ⟨ob, eo, g, o⟩ := m.at ep
  rw [e] at eo; cases eo
  obtain ⟨vs, h, q⟩ := o
  exact ⟨p, vs, rfl, ep, h, q⟩
theorem rep_nonF {H0 H : Hp} {a : Abs} : Fresh T X.K H0 a H .non .non := by simp only [Fresh, Rep]
theorem bm_append : MtR X "list.append" (rBm T X.K .append) := by
  intro pins s σ H x vs v us Q I rx rs h
  obtain ⟨a, μ, d, ds, kx, m, r1, r2, q⟩ := h
  simp only [bmV] at q
  split at q
  · rename_i k e
    unfold appV at q
    split at q
    · rename_i l eo
      split at q
      · rename_i hz
        obtain ⟨p, ws, rfl, ep, hp, rl⟩ := lst_of m r1 eo
        obtain ⟨y, zs, rfl, r3, r4⟩ := r2.inv
        rw [r4.inv0] at rs
        obtain ⟨m2, st⟩ := m.put (o' := .lst (ws ++ [y])) (ob' := .lst (l ++ [e])) ep ⟨_, upd_same, Reps.append rl (Reps.cons r3 Reps.nil)⟩
        exact mt_append pins s σ H _ _ v us Q I rx rs ⟨p, ws, y, rfl, rfl, hp, by rw [← rl.length, ← sizeLn_eq]; exact hz, q a _ _ st m2 rep_nonF⟩
      · exact q.elim
    · exact q.elim
  · exact q.elim
theorem Reps.dropLast : ∀ {l : List D} {vs : List V}, Reps T X.K a l vs → Reps T X.K a l.dropLast vs.dropLast
  | [], vs, h => by rw [h.inv0]; exact Reps.nil
  | [d], vs, h => by
    obtain ⟨v, ws, rfl, r1, r2⟩ := h.inv
    rw [r2.inv0]; exact Reps.nil
  | d :: e :: l, vs, h => by
    obtain ⟨v, ws, rfl, r1, r2⟩ := h.inv
    obtain ⟨w, us, rfl, r3, r4⟩ := r2.inv
    exact Reps.cons r1 (Reps.dropLast r2)
end
end DI
end

section
set_option Elab.async false
set_option linter.all false
set_option maxRecDepth 100000
namespace DI
open PySem L2 PySem.Spec PyProof.Rows
section
variable {T : Tab} {n : Nat} {X : Cx} {W : WX} {pos : Pos}
/-- the receiver's type -/
def tyOf (m : Bm) (T : String) : Prop := ∀ d, bmTy m d = true → (T = "str" ∧ ∃ s, d = .str s) ∨ (T = "list" ∧ ∃ l, d = .lst l) ∨ (T = "dict" ∧ ∃ t ks vs, d = .dct t ks vs)
theorem tyOf_append : tyOf .append "list" := by intro d h; cases d <;> simp [bmTy] at h ⊢
theorem tyV_of {a : Abs} {μ : Mem} {H : Hp} {Ty : String} {bm : Bm} (hT : tyOf bm Ty) (m : HolM T X.K a μ H) {d : D} {v : V} (r : Rep T X.K a d v) (h : bmTy bm (rd μ d) = true) : L2.tyV X.K Ty v H := by
  have q := rd_rep m r
  rcases hT _ h with ⟨rfl, s, e⟩ | ⟨rfl, l, e⟩ | ⟨rfl, t, ks, ds, e⟩
  · rw [e] at q
    rw [q.str.1]; rfl
  · rw [e] at q
    obtain ⟨p, ws, rfl, sq, t⟩ := q
    exact .inl ⟨rfl, ws, SqL.of sq⟩
  · rw [e] at q
    obtain ⟨p, ws, rfl, t1, hl, hd⟩ := q
    refine .inr (.inr (.inl ⟨rfl, ?_⟩))
    cases t with
    | false => obtain ⟨xs, h1, _⟩ := hd; exact .inl ⟨_, h1⟩
    | true => obtain ⟨xs, h1, _⟩ := hd; exact .inr ⟨_, h1⟩
/-- o.m(a, ..) -/
theorem sf_bm {o e : Expr} {es : List Expr} {y : E} {ys : Es} {name : Str} {apos cpos : Pos} {Ty id : String} {bm : Bm} (hT : tyOf bm Ty) (pa : PlainAttrs Ty) (slot : Slot Ty name id) (hty : typeOf (.builtin id) = pure (.type "method_descriptor")) (hm : MtR X id (rBm T X.K bm)) (ho : SE T n X W o y) (ha : SA T n X W (e :: es) ys)
    (hbase : attributeBase o name X.env (eval o X.env) = eval o X.env)
    (hfew : ((backTo cpos (starEach (e :: es) X.env)).all (fun x => !x.1) && (backToKw cpos (keywordEach [] X.env)).all (fun x => x.1.isSome)
      && decide ((e :: es).length + ([] : List Keyword).length + (if ([] : List Keyword).isEmpty then 0 else 1) < 30)) = true)
    (hline : (apos.endLine == cpos.line) = true) (hs : starEach (e :: es) X.env = (false, eval e X.env) :: starEach es X.env) (hplain : (backTo cpos (starEach es X.env)).any (·.1) = false) : SF T n X W (.Call (.Attribute o name apos) (e :: es) [] cpos) (.bm bm y ys) := by
  refine PE.imp (pe_bm pa slot hty hm ho ha hbase hfew hline hs hplain) fun σ H Q q => ?_
  obtain ⟨a, ρ, μ, hol, q⟩ := q
  simp only [evE] at q
  refine ⟨a, ρ, μ, hol, q.bind.mono (fun d μ1 q1 b v H1 le1 ho1 r1 => ?_) fun _ _ k => k⟩
  split at q1
  · rename_i hb
    refine ⟨tyV_of hT ho1.m r1 hb, b, ρ, μ1, ho1, q1.bind.mono (fun l μ2 q2 c vs H2 le2 ho2 r2 => ?_) fun _ _ k => k.mono le1⟩
    exact ⟨c, μ2, d, l, _, ho2.m, Rep.mono le2.le _ _ r1, r2, WpR.mono q2 (fun z μ3 k b2 v2 H2 le3 m3 fr => k b2 v2 H2 (le1.trans (le2.trans le3)) (ho2.to le3.le m3) (fr.pre (le1.trans le2).dom)) fun _ _ z => z⟩
  · exact q1.elim
theorem Reps.eraseIdx : ∀ {l : List D} {vs : List V} {a : Abs} (i : Nat), Reps T X.K a l vs → Reps T X.K a (l.eraseIdx i) (vs.eraseIdx i)
  | [], vs, a, i, h => by rw [h.inv0]; exact Reps.nil
  | d :: l, vs, a, 0, h => by
    obtain ⟨v, ws, rfl, r1, r2⟩ := h.inv
    exact r2
  | d :: l, vs, a, i + 1, h => by
    obtain ⟨v, ws, rfl, r1, r2⟩ := h.inv
    exact Reps.cons r1 (Reps.eraseIdx i r2)
end
end DI
end

section
set_option Elab.async false
set_option linter.all false
set_option maxRecDepth 100000
namespace DI
open PySem L2 PySem.Spec PyProof.Rows
section
variable {T : Tab} {n : Nat} {X : Cx} {W : WX} {pos : Pos}
end
end DI
end

section
set_option Elab.async false
set_option linter.all false
set_option maxRecDepth 100000
namespace DI
open PySem L2 PySem.Spec PyProof.Rows
section
variable {T : Tab} {n : Nat} {X : Cx} {W : WX} {pos : Pos}
end
end DI
end

section
set_option Elab.async false
set_option linter.all false
set_option maxRecDepth 100000
namespace DI
open PySem L2 PySem.Spec PyProof.Rows
section
variable {T : Tab} {n : Nat} {X : Cx} {W : WX} {pos : Pos}
end
end DI
end

section
set_option Elab.async false
set_option linter.all false
set_option maxRecDepth 100000
namespace DI
open PySem L2 PySem.Spec PyProof.Rows
section
variable (T : Tab) (n : Nat) (K : PySem.W.Frag) (W : WX)
end
section
variable (T : Tab) (n : Nat) (X : Cx) (W : WX)
end
section
variable {T : Tab} {n : Nat} {X : Cx} {W : WX} {pos : Pos}
end
end DI
end

section
set_option Elab.async false
set_option linter.all false
set_option maxRecDepth 100000
namespace DI
open PySem L2 PySem.Spec PyProof.Rows
section
variable {T : Tab} {n : Nat} {X : Cx} {W : WX} {pos : Pos}
end
end DI
end

section
set_option Elab.async false
set_option linter.all false
set_option maxRecDepth 100000
namespace DI
open PySem L2 PySem.Spec PyProof.Rows
def spAr : Nat → Nat
  | 0 => 2 | 5 => 2 | 6 => 2 | 7 => 3 | 9 => 4 | 16 => 2 | 17 => 3 | _ => 1
/-- the forms of the calls of special methods -/
def SpForm (T : Tab) : Prop := ∀ c k j f, T.P.cls c = some k → k.spec.lookup j = some f → T.form f (spAr j) [] = some []
section
variable {T : Tab} {n : Nat} {X : Cx} {W : WX} {pos : Pos} {a : Abs} {H : Hp} {μ : Mem} {pins : List (Addr × Obj)} {σ : L2.St} {s : Shared}
theorem Own.room1 (O : Own T n X) : Room (3 * n + T.kx) X.A.in1 := (O.room.mono (by omega : 3 * n + T.kx + 1 ≤ 3 * n + T.kx + 2)).in1
/-- an own instance where it stands -/
theorem inst_at (I : L2.Inv X pins σ H s) {p C dx : Addr} {fs : List (Str × V)} (h : H p = some (.ins C dx fs)) : ∃ ox od, PySem.W.InstAt s.heap p ox C od := by
  obtain ⟨mA, J, _⟩ := ins_get I.hok h
  obtain ⟨od, J, _⟩ := J.look
  exact ⟨_, od, J⟩
/-- a special method called -/
theorem run_sp (O : Own T n X) (SF : SpForm T) (I : L2.Inv X pins σ H s) {A : Around} {Q : VK} {R : Value → Shared → Prop} {c j f : Nat} {k : DI.Cls} {ds : List D} {vs : List V} {us : List Value} (hA : Room (3 * n + T.kx) A) (hG : T.quiet = false → A.guards = some []) (e0 : Env0 X.prog X.w X.K X.mg X.base A X.stack s H)
    (hk : T.P.cls c = some k) (hs : k.spec.lookup j = some f) (hl : ds.length = spAr j) (m : HolM T X.K a μ H) (r : Reps T X.K a ds vs) (ru : Vals vs us)
    (q : WpR (calF T.P (T.C n) f ds [] [] μ) (fun d μ' => ∀ b v H', Stp a H b H' → HolM T X.K b μ' H' → Rep T X.K b d v → Q v H') (fun _ _ => False))
    (hR : ∀ u s', EP X pins σ Q u s' → R u s') : wpAny (model X.prog X.w) A (call (.ref (T.fa f)) us []) R X.xe s := by
  have z := run_d (E := fun _ _ _ => False) (E2 := X.xe) (ks := []) (ws := []) (zs := []) (kv := []) O out_none hA hG e0 I (SF c k j f hk hs) ru .nil r Reps.nil hl rfl m (q.mono (fun _ _ k => k) fun _ _ z => z.elim)
  exact thn (wpAny_call z) fun u s' h => hR u s' h
theorem own_len (O : Own T n X) (SF : SpForm T) : SpOwn T n X (.builtin "len") (lenV T.P (T.C n)) := by
  intro pins s σ H vs us Q I r h
  obtain ⟨a, μ, d, v, c, ns, fs, rfl, m, r1, e, q⟩ := h
  have rv := rd_rep m r1
  rw [e] at rv
  obtain ⟨p, dx, ws, rfl, h1, h2, h3, h4⟩ := rv
  unfold lenV at q
  rw [e] at q
  simp only [specOf] at q
  cases hk : T.P.cls c with
  | none => rw [hk] at q; exact q.elim
  | some k =>
    cases hs : k.spec.lookup 1 with
    | none => rw [hk] at q; simp only [Option.bind_some, hs] at q; exact q.elim
    | some f =>
      rw [hk] at q
      simp only [Option.bind_some, hs] at q
      obtain ⟨t1, t2⟩ := O.tab.spec c k 1 f hk hs
      obtain ⟨ox, od, J⟩ := inst_at I h1
      obtain ⟨mm, hF⟩ := I.fr
      cases r with
      | cons r0 rn =>
        cases rn
        obtain rfl := r0
        refine PySem.W.len_K (Q := EP X pins σ Q) hF I.ok.mod.kin J t1 t2 ?_
        refine run_sp (j := 1) (ds := [d]) (vs := [.ref p]) O SF I O.room1 O.gd I.env0.in1 hk hs rfl m (Reps.cons r1 Reps.nil) (.cons rfl .nil) (Q := fun v H' => ∃ i : Int, v = .int i ∧ (0 ≤ i ∧ i < 1000000) ∧ Q (.int i) H') (q.bind.mono (fun d2 μ2 q2 b v2 H2 st m2 r2 => ?_) fun _ _ z => z) fun u s' h => ?_
        · split at q2
          · split at q2
            · rename_i hb
              simp only [Rep] at r2
              exact ⟨_, r2, hb, q2 b _ H2 st m2 rep_int⟩
            · exact q2.elim
          · exact q2.elim
        · obtain ⟨v2, H2, I2, rv2, i, rfl, hb, q2⟩ := h
          obtain ⟨t, rfl⟩ := rv2
          show (0 ≤ i ∧ i < 2 ^ 63) ∧ _
          exact ⟨by omega, .int i, H2, I2.tok _, ⟨_, rfl⟩, q2⟩
end
end DI
end

section
set_option Elab.async false
set_option linter.all false
set_option maxRecDepth 100000
namespace DI
open PySem L2 PySem.Spec PyProof.Rows
section
variable {T : Tab} {n : Nat} {X : Cx} {W : WX} {pos : Pos} {a : Abs} {H : Hp} {μ : Mem} {pins : List (Addr × Obj)} {σ : L2.St} {s : Shared}
theorem okS_G {x : Str} (h : okS x = true) : strG x = true := by
  unfold okS at h
  rw [Bool.and_eq_true] at h
  refine strG.of ?_ (of_decide_eq_true h.2)
  have h1 := h.1
  unfold PyData.strOk
  simp only [sL, Array.all_eq_true', List.all_eq_true, Array.mem_toList_iff] at h1 ⊢
  exact h1
mutual
def toPyR : D → PyData
  | .dct _ [] _ => .dict []
  | .tup l => .tuple (toPyRs l) | .key l => .tuple (toPyRs l) | .lst l => .list (toPyRs l)
  | .bl b => .bool b | .int i => .int i | .str s => .str s
  | _ => .none
def toPyRs : List D → List PyData
  | [] => []
  | d :: l => toPyR d :: toPyRs l
end
mutual
def smR : Nat → D → Bool
  | _, .non => true | _, .bl _ => true | _, .int _ => true | _, .str _ => true
  | _, .dct _ [] _ => true
  | n + 1, .tup l => smRs n l
  | n + 1, .lst l => smRs n l
  | _, _ => false
def smRs : Nat → List D → Bool
  | _, [] => true
  | n, d :: l => smR n d && smRs n l
end
mutual
theorem smR_depth : ∀ (n : Nat) (d : D), smR n d = true → (toPyR d).depth ≤ n + 1
  | n, .non, _ => by simp [toPyR, PyData.depth]
  | n, .bl _, _ => by simp [toPyR, PyData.depth]
  | n, .int _, _ => by simp [toPyR, PyData.depth]
  | n, .str _, _ => by simp [toPyR, PyData.depth]
  | n, .dct _ [] _, _ => by simp [toPyR, PyData.depth, PyData.depthKv]
  | n, .dct _ (_ :: _) _, h => by cases n <;> simp [smR] at h
  | n + 1, .tup l, h => by
    have := smRs_depth n l (by simpa only [smR] using h)
    simp only [toPyR, PyData.depth]; omega
  | n + 1, .lst l, h => by
    have := smRs_depth n l (by simpa only [smR] using h)
    simp only [toPyR, PyData.depth]; omega
  | 0, .tup _, h => by simp [smR] at h
  | 0, .lst _, h => by simp [smR] at h
  | n, .key _, h => by cases n <;> simp [smR] at h
  | n, .rol _, h => by cases n <;> simp [smR] at h
  | n, .ins _ _ _, h => by cases n <;> simp [smR] at h
  | n, .exc _ _ _, h => by cases n <;> simp [smR] at h
  | n, .cls _, h => by cases n <;> simp [smR] at h
  | n, .fn _, h => by cases n <;> simp [smR] at h
  | n, .clo _ _, h => by cases n <;> simp [smR] at h
  | n, .xv _ _ _, h => by cases n <;> simp [smR] at h
  | n, .obj _, h => by cases n <;> simp [smR] at h
theorem smRs_depth : ∀ (n : Nat) (l : List D), smRs n l = true → PyData.depthAll (toPyRs l) ≤ n + 1
  | _, [], _ => by simp [toPyRs, PyData.depthAll]
  | n, d :: l, h => by
    simp only [smRs, Bool.and_eq_true] at h
    have h1 := smR_depth n d h.1
    have h2 := smRs_depth n l h.2
    simp only [toPyRs, PyData.depthAll]; omega
end
theorem not_sys (hs : (X.K.lookup sysModules).isSome = true) (I : L2.Inv X pins σ H s) {p : Addr} {u : HO} (h : H p = some u) : p ≠ sysModules := by
  rintro rfl
  obtain ⟨o, e⟩ := Option.isSome_iff_exists.mp hs
  have := (I.bs _ _ (I.ok.mod.kin _ _ e)).2
  rw [h] at this; cases this
mutual
theorem rep_reads (hs : (X.K.lookup sysModules).isSome = true) (I : L2.Inv X pins σ H s) (le : ∀ p o, a.G p = some o → H p = some o) : ∀ (n : Nat) (d : D) (v : V) (u : Value), smR n d = true → Rep T X.K a d v → RelV v u → ∃ as, Reads s.heap u (toPyR d) as ∧ sysModules ∉ as
  | _, .non, v, u, _, r, ru => by simp only [Rep] at r; subst r; cases ru; exact ⟨_, .none, by simp⟩
  | _, .bl b, v, u, _, r, ru => by simp only [Rep] at r; subst r; cases ru; exact ⟨_, .bool b, by simp⟩
  | _, .int i, v, u, _, r, ru => by simp only [Rep] at r; subst r; obtain ⟨t, rfl⟩ := ru; exact ⟨_, .int i t, by simp⟩
  | _, .str x, v, u, _, r, ru => by simp only [Rep] at r; obtain ⟨rfl, _⟩ := r; obtain ⟨t, rfl⟩ := ru; exact ⟨_, .str x t, by simp⟩
  | n, .dct t [] vs, v, u, _, r, ru => by
    simp only [Rep] at r
    obtain ⟨p, ws, rfl, rs, hl, hd⟩ := r
    cases ru
    obtain rfl : ws = [] := List.eq_nil_of_length_eq_zero hl.symm
    have fin : ∀ (o : Obj) (es : Array DictEntry) (ep : Nat), s.heap.get? p = some o → o.ExactDict → o.data = .dict es ep → es.toList = [] → H p = some (.dK []) ∨ H p = some (.dT []) → ∃ as, Reads s.heap (.ref p) (.dict []) as ∧ sysModules ∉ as := fun o es ep ho ex hd he hp => by
      refine ⟨_, Reads.dict ho ex.1 hd (by rw [he]; exact .nil) (by rw [he]; exact .nil), ?_⟩
      have : p ≠ sysModules := hp.elim (not_sys hs I) (not_sys hs I)
      simpa using fun e => this e.symm
    cases t with
    | false =>
      obtain ⟨xs, g, hm⟩ := hd
      have hp := le _ _ g
      rw [List.zip_nil_right] at hp
      obtain ⟨_, _, vs, kv, o, es, ep, ho, ex, hd, _, pr, _⟩ := I.hok p _ hp
      cases kv
      have he : es.toList = [] := by
        generalize es.toList = l at pr
        cases l with
        | nil => rfl
        | cons e l => exact (nomatch pr)
      exact fin o es ep ho ex hd he (.inl hp)
    | true =>
      obtain ⟨xs, g, hm⟩ := hd
      have hp := le _ _ g
      rw [List.zip_nil_right] at hp
      obtain ⟨_, _, ys, pr, o, es, ep, ho, ex, hd, he, _⟩ := I.hok p _ hp
      cases pr
      exact fin o es ep ho ex hd (by simpa using he) (.inr hp)
  | n + 1, .tup l, v, u, h, r, ru => by
    simp only [Rep] at r
    obtain ⟨p, vs, rfl, sq, q⟩ := r
    cases ru
    obtain ⟨its, rv, ⟨o, ho, hc, m, hd⟩, _⟩ := I.tuple (SqT.up le sq.sq)
    obtain ⟨as, hr, na⟩ := reps_reads hs I le n l vs its (by simpa only [smR] using h) q rv
    exact ⟨_, Reads.tuple ho hc hd hr, na⟩
  | n + 1, .lst l, v, u, h, r, ru => by
    simp only [Rep] at r
    obtain ⟨p, vs, rfl, sq, q⟩ := r
    cases ru
    obtain ⟨its, rv, ⟨o, m, ho, hc, _, hd⟩, _⟩ := I.list (SqL.of (le _ _ sq))
    obtain ⟨as, hr, na⟩ := reps_reads hs I le n l vs its (by simpa only [smR] using h) q rv
    exact ⟨_, Reads.list ho hc hd hr, by
      intro z
      rcases List.mem_cons.mp z with z | z
      · exact not_sys hs I (le _ _ sq) z.symm
      · exact na z⟩
  | n, .dct _ (_ :: _) _, _, _, h, _, _ => by cases n <;> simp [smR] at h
  | 0, .tup _, _, _, h, _, _ => by simp [smR] at h
  | 0, .lst _, _, _, h, _, _ => by simp [smR] at h
  | n, .key _, _, _, h, _, _ => by cases n <;> simp [smR] at h
  | n, .rol _, _, _, h, _, _ => by cases n <;> simp [smR] at h
  | n, .ins _ _ _, _, _, h, _, _ => by cases n <;> simp [smR] at h
  | n, .exc _ _ _, _, _, h, _, _ => by cases n <;> simp [smR] at h
  | n, .cls _, _, _, h, _, _ => by cases n <;> simp [smR] at h
  | n, .fn _, _, _, h, _, _ => by cases n <;> simp [smR] at h
  | n, .clo _ _, _, _, h, _, _ => by cases n <;> simp [smR] at h
  | n, .xv _ _ _, _, _, h, _, _ => by cases n <;> simp [smR] at h
  | n, .obj _, _, _, h, _, _ => by cases n <;> simp [smR] at h
theorem reps_reads (hs : (X.K.lookup sysModules).isSome = true) (I : L2.Inv X pins σ H s) (le : ∀ p o, a.G p = some o → H p = some o) : ∀ (n : Nat) (l : List D) (vs : List V) (us : List Value), smRs n l = true → Reps T X.K a l vs → Vals vs us → ∃ as, ReadsAll s.heap us (toPyRs l) as ∧ sysModules ∉ as
  | _, [], vs, us, _, r, ru => by
    obtain rfl := r.inv0
    cases ru
    exact ⟨_, .nil, by simp⟩
  | n, d :: l, vs, us, h, r, ru => by
    simp only [smRs, Bool.and_eq_true] at h
    obtain ⟨v, ws, rfl, r1, r2⟩ := r.inv
    cases ru with
    | cons u1 u2 =>
      obtain ⟨as, e1, n1⟩ := rep_reads hs I le n d v _ h.1 r1 u1
      obtain ⟨bs, e2, n2⟩ := reps_reads hs I le n l ws _ h.2 r2 u2
      exact ⟨_, .cons e1 e2, by simp [n1, n2]⟩
end
def blS (b : Bool) : Str := if b then "True" else "False"
/-- what repr shows of small data -/
def shownD (d : D) : Option Str :=
  match d with
  | .tup l => if sms 20 l = true ∧ (toPy (.tup l)).showable = true ∧ okS (toPy (.tup l)).shown = true then some (toPy (.tup l)).shown else none
  | .lst l => if sms 20 l = true ∧ (toPy (.lst l)).showable = true ∧ okS (toPy (.lst l)).shown = true then some (toPy (.lst l)).shown
    else if smRs 20 l = true ∧ (toPyR (.lst l)).showable = true ∧ okS (toPyR (.lst l)).shown = true then some (toPyR (.lst l)).shown else none
  | .int i => if i.natAbs.log2 < 1920 ∧ okS (intS i) = true then some (intS i) else none
  | .bl b => if okS (blS b) = true then some (blS b) else none
  | .non => if okS ("None" : Str) = true then some "None" else none
  | .str x => if okS (reprText x) = true then some (reprText x) else none
  | _ => none
/-- what is left of repr: things that are no own instance -/
def ReprF (fn : D → Option Str) (T : Tab) (X : Cx) : Prop := ∀ (pins : List (Addr × Obj)) (s : Shared) (σ : L2.St) (H : Hp) (a : Abs) (μ : Mem) (d : D) (v : V) (u : Value) (x : Str) (Q : VK), L2.Inv X pins σ H s → HolM T X.K a μ H → Rep T X.K a d v → RelV v u → fn (rd μ d) = some x → (∀ c ns fs, rd μ d ≠ .ins c ns fs) →
  (∀ b H', Stp a H b H' → HolM T X.K b μ H' → strG x = true → Q (.str x) H') → wpAny (model X.prog X.w) X.A (call (.builtin "repr") [u] []) (EP X pins σ Q) X.xe s
abbrev ReprC (T : Tab) (X : Cx) : Prop := ReprF T.reprS T X
theorem cb_reprG (O : Own T n X) (SF : SpForm T) (hC : ReprC T X) : CallR X (.builtin "repr") (rB1 T X.K (reprV T.P (T.C n) T.reprS)) := by
  intro pins s σ H vs us Q I r h
  obtain ⟨a, μ, d, v, rfl, m, r1, q⟩ := h
  have rv := rd_rep m r1
  unfold reprV at q
  split at q
  · rename_i c ns fs e
    rw [e] at rv
    obtain ⟨p, dx, ws, rfl, h1, h2, h3, h4⟩ := rv
    simp only [specOf] at q
    cases hk : T.P.cls c with
    | none => rw [hk] at q; exact q.elim
    | some k =>
      cases hs : k.spec.lookup 3 with
      | none => rw [hk] at q; simp only [Option.bind_some, hs] at q; exact q.elim
      | some f =>
        rw [hk] at q
        simp only [Option.bind_some, hs] at q
        obtain ⟨t1, t2⟩ := O.tab.spec c k 3 f hk hs
        obtain ⟨ox, od, J⟩ := inst_at I h1
        obtain ⟨mm, hF⟩ := I.fr
        cases r with
        | cons r0 rn =>
          cases rn
          obtain rfl := r0
          refine PySem.W.repr_K (Q := EP X pins σ Q) (by have := O.room1.un; omega) hF I.ok.mod.kin J t1 t2 ?_
          refine run_sp (j := 3) (ds := [d]) (vs := [.ref p]) O SF I O.room1 O.gd I.env0.in1 hk hs rfl m (Reps.cons r1 Reps.nil) (.cons rfl .nil) (Q := fun v H' => ∃ x : Str, v = .str x ∧ Q (.str x) H') (q.bind.mono (fun d2 μ2 q2 b v2 H2 st m2 r2 => ?_) fun _ _ z => z) fun u s' h => ?_
          · split at q2
            · simp only [Rep] at r2
              exact ⟨_, r2.1, q2 b _ H2 st m2 (rep_str r2.2)⟩
            · exact q2.elim
          · obtain ⟨v2, H2, I2, rv2, x, rfl, q2⟩ := h
            obtain ⟨t, rfl⟩ := rv2
            exact ⟨.str x, H2, I2, ⟨_, rfl⟩, q2⟩
  · rename_i hni
    obtain ⟨z, e1, k⟩ := q.of
    obtain ⟨x, e2, rfl⟩ := Option.map_eq_some_iff.mp e1
    cases r with
    | cons r0 rn =>
      cases rn
      exact hC pins s σ H a μ d v _ x Q I m r1 r0 e2 (fun c ns fs e => hni c ns fs e) fun b H' st m' hx => k b _ H' st m' (rep_str hx)
/-- data -/
theorem reprC_D0 (hsy : (X.K.lookup sysModules).isSome = true) (hun : X.A.units + 120 < cLine) (hg : X.A.guards = some []) : ReprF shownD T X := by
  intro pins s σ H a μ d v u x Q I m r1 r0 e2 hni k
  have rv := rd_rep m r1
  have k0 : strG x = true → Q (.str x) H := fun hx => k a H (Stp.refl _ _) m hx
  have main : ∀ (hm : sm 21 (rd μ d) = true) (p : Addr), v = .ref p → (toPy (rd μ d)).showable = true → okS (toPy (rd μ d)).shown = true → (toPy (rd μ d)).depth ≤ 21 → x = (toPy (rd μ d)).shown → wpAny (model X.prog X.w) X.A (call (.builtin "repr") [u] []) (EP X pins σ Q) X.xe s := by
    intro hm p ev hsh hok hdp ex
    subst ev
    obtain ⟨p1, cl⟩ := rdv_dp m hm r1
    obtain ⟨as, t1⟩ := Dp.reads I _ _ _ p1 r0
    obtain rfl := r0
    refine repr_of_reads' t1 hsh (PyData.noDict_hsm (PyData.hasDict_of_canLay _ cl)) hg (by omega) (fun _ _ e => e) (fun h' u tk hk => ?_) (by have := strG.len (okS_G hok); rw [← sL_length, ← sizeLn_eq]; exact this)
    subst ex
    exact ⟨.str _, H, I.kept hk, ⟨_, rfl⟩, k0 (okS_G hok)⟩
  generalize hgd : rd μ d = d' at *
  cases d' <;> first | (simp only [shownD] at e2; cases e2; done) | skip
  all_goals simp only [shownD] at e2
  · -- none
    split at e2
    · rename_i hz
      cases e2
      simp only [RdV, Rep] at rv
      subst rv
      cases r0
      exact PySem.P.repr_of_none ⟨.str _, H, I.tok _, ⟨_, rfl⟩, k0 (okS_G hz)⟩
    · cases e2
  · rename_i b
    split at e2
    · rename_i hz
      cases e2
      simp only [RdV, Rep] at rv
      subst rv
      cases r0
      exact PySem.P.repr_of_bool ⟨.str _, H, I.tok _, ⟨_, rfl⟩, k0 (okS_G hz)⟩
    · cases e2
  · rename_i i
    split at e2
    · rename_i hz
      cases e2
      obtain rfl : v = .int i := by simpa only [RdV, Rep] using rv
      exact SkE.call_repr_int pins s σ H [.int i] [u] Q I (.cons r0 .nil) ⟨i, rfl, hz.1, k0 (okS_G hz.2)⟩
    · cases e2
  · rename_i y
    split at e2
    · rename_i hz
      cases e2
      simp only [RdV, Rep] at rv
      obtain ⟨rfl, _⟩ := rv
      obtain ⟨t, rfl⟩ := r0
      exact PySem.P.repr_of_str ⟨.str _, H, I.tok _, ⟨_, rfl⟩, k0 (okS_G hz)⟩ (by have := strG.len (okS_G hz); rw [← sL_length, ← sizeLn_eq]; exact this)
    · cases e2
  · rename_i l
    split at e2
    · rename_i hc
      cases e2
      obtain ⟨p, ws, ev, _⟩ := rv
      refine main (by simpa only [sm] using hc.1) p ev hc.2.1 hc.2.2 ?_ rfl
      have := sms_depth 20 _ hc.1
      simp only [toPy, PyData.depth]; omega
    · cases e2
  · rename_i l
    split at e2
    · rename_i hc
      cases e2
      obtain ⟨p, ws, ev, _⟩ := rv
      refine main (by simpa only [sm] using hc.1) p ev hc.2.1 hc.2.2 ?_ rfl
      have := sms_depth 20 _ hc.1
      simp only [toPy, PyData.depth]; omega
    · split at e2
      · rename_i hc
        cases e2
        obtain ⟨p, ws, ev, hp, rs⟩ := rv
        subst ev
        obtain rfl := r0
        obtain ⟨its, rv2, ⟨o, m', ho, hco, _, hd⟩, _⟩ := I.list (SqL.of hp)
        obtain ⟨as, hr, na⟩ := reps_reads hsy I m.le 20 l ws its hc.1 rs rv2
        have t1 := Reads.list ho hco hd hr
        have nas : sysModules ∉ p :: as := by
          intro z
          rcases List.mem_cons.mp z with z | z
          · exact not_sys hsy I hp z.symm
          · exact na z
        have hdp := smRs_depth 20 l hc.1
        refine repr_of_reads' (d := toPyR (.lst l)) t1 hc.2.1 (fun _ => nas) hg (by simp only [toPyR, PyData.depth]; omega) (fun _ _ e => e) (fun h' u tk hk => ?_) (by have := strG.len (okS_G hc.2.2); rw [← sL_length, ← sizeLn_eq]; exact this)
        exact ⟨.str _, H, I.kept hk, ⟨_, rfl⟩, k0 (okS_G hc.2.2)⟩
      · cases e2
theorem reprC_D (O : Own T n X) (hg : X.A.guards = some []) : ReprF shownD T X := reprC_D0 O.tab.sysm (by have := O.room.un; omega) hg
end
end DI
end

section
set_option Elab.async false
set_option linter.all false
set_option maxRecDepth 100000
namespace DI
open PySem L2 PySem.Spec PyProof.Rows
section
variable {prog : Program} {w : World} {A : Around} {E : Value → Shared → Prop} {s : Shared} {K : PySem.W.Frag} {x C f : Addr} {ox : Obj} {od : Option Obj}
end
section
variable {T : Tab} {n : Nat} {X : Cx} {W : WX} {pos : Pos} {a : Abs} {H : Hp} {μ : Mem} {pins : List (Addr × Obj)} {σ : L2.St} {s : Shared}
end
end DI
end

section
set_option Elab.async false
set_option linter.all false
set_option maxRecDepth 100000
namespace DI
open PySem L2 PySem.Spec PyProof.Rows
section
variable {prog : Program} {w : World} {A : Around} {E : Value → Shared → Prop} {s : Shared}
end
section
variable {T : Tab} {n : Nat} {X : Cx} {W : WX} {pos : Pos}
end
end DI
end

section
set_option Elab.async false
set_option linter.all false
set_option autoImplicit false
set_option maxRecDepth 100000
namespace DI
open PySem PySem.W PySem.Calls PyProof.Rows PySem.SeqAt
section
variable {A : Around} {s : Shared}
variable {prog : Program} {w : World} {E : Value → Shared → Prop}
end
end DI
end

section
set_option Elab.async false
set_option linter.all false
set_option maxRecDepth 100000
namespace DI
open PySem PySem.Calls PySem.W PyProof.Rows
section
variable {pg : Program} {wd : World} {B : Around} {Ex : Value → Shared → Prop} {t : Shared} {p : Addr} {ob : Obj} {us : List Value} {c : Nat}
variable {β : Type} {bs : List β} {enc : β → PyData} {R : Value → β → Prop}
end
end DI
end

section
set_option Elab.async false
set_option linter.all false
set_option maxRecDepth 100000
namespace DI
open PySem L2 PySem.Spec PyProof.Rows
section
variable {T : Tab} {n : Nat} {X : Cx} {W : WX} {pos : Pos}
end
section
variable {prog : Program} {w : World} {A : Around} {E : Value → Shared → Prop} {s : Shared}
/-- a new set with nothing in it -/
abbrev setNil (b : Bool) : Obj := { cls := .type "set", dict := none, data := .set #[] 0 (.fresh 0 0 b) }
end
section
variable {T : Tab} {n : Nat} {X : Cx} {W : WX} {pos : Pos}
end
end DI
end

section
set_option Elab.async false
set_option linter.all false
set_option maxRecDepth 100000
namespace DI
open PySem L2 PySem.Spec PyProof.Rows
section
variable {T : Tab} {n : Nat} {X : Cx} {W : WX} {pos : Pos}
end
end DI
namespace DI
open PySem L2 PySem.Spec PyProof.Rows
section
variable {T : Tab} {n : Nat} {X : Cx} {W : WX} {pos : Pos}
end
end DI
end

section
set_option Elab.async false
set_option linter.all false
set_option maxRecDepth 100000
namespace DI
namespace Z
open PySem
section
variable {P : Program} {w : World} {A : Around} {E : Value → Shared → Prop} {s : Shared}
variable {z TI TO i1 i2 l1 l2 : Addr} {xs ys : Array Value} {I1 I2 : Nat → Heap → Prop}
end
open PySem.Spec PyProof.Rows L2

end Z
end DI
end

section
set_option Elab.async false
set_option linter.all false
set_option maxRecDepth 100000
namespace DI
open PySem L2 PySem.Spec PyProof.Rows
section
variable {T : Tab} {n : Nat} {X : Cx} {W : WX} {pos : Pos}
end
end DI
end

section
set_option Elab.async false
set_option linter.all false
set_option maxRecDepth 100000
namespace DI
open PySem L2 PySem.Spec PyProof.Rows
/-- where a parameter's value comes from -/
inductive Sr where
  | p (i : Nat) | k (i : Nat) | d (i : Nat)
def pk {α : Type} (us its ws : List α) : Sr → Option α
  | .p i => us[i]?
  | .k i => ws[i]?
  | .d i => its[i]?
def gS {α : Type} (ss : List Sr) (us its ws : List α) : List α := ss.filterMap (pk us its ws)
/-- the i-th parameter of np, with nd defaults, m values, keywords for ix -/
def srOf (np nd m : Nat) (ix : List Nat) (i : Nat) : Sr := if i < m then .p i else match ix.findIdx? (fun j => j == i) with
  | some j => .k j
  | none => .d (i + nd - np)
def srs (np nd m : Nat) (ix : List Nat) : List Sr := (List.range np).map (srOf np nd m ix)
theorem vals_get {vs : List V} {us : List Value} (r : Vals vs us) : ∀ i : Nat, (vs[i]? = none ∧ us[i]? = none) ∨ ∃ v u, vs[i]? = some v ∧ us[i]? = some u ∧ RelV v u := by
  induction r with
  | nil => intro i; exact .inl ⟨by simp, by simp⟩
  | cons h r ih =>
    intro i
    cases i with
    | zero => exact .inr ⟨_, _, by simp, by simp, h⟩
    | succ i => simpa using ih i
theorem vals_gS {vs ds zs : List V} {us its ws : List Value} (r1 : Vals vs us) (r2 : Vals ds its) (r3 : Vals zs ws) : ∀ ss : List Sr, Vals (gS ss vs ds zs) (gS ss us its ws)
  | [] => .nil
  | s :: ss => by
    have ih := vals_gS r1 r2 r3 ss
    have one : (pk vs ds zs s = none ∧ pk us its ws s = none) ∨ ∃ v u, pk vs ds zs s = some v ∧ pk us its ws s = some u ∧ RelV v u := by
      cases s with
      | p i => exact vals_get r1 i
      | k i => exact vals_get r3 i
      | d i => exact vals_get r2 i
    unfold gS at ih ⊢
    rcases one with ⟨e1, e2⟩ | ⟨v, u, e1, e2, r⟩
    · rw [List.filterMap_cons_none e1, List.filterMap_cons_none e2]; exact ih
    · rw [List.filterMap_cons_some e1, List.filterMap_cons_some e2]; exact .cons r ih
theorem zip_lookup {α : Type} : ∀ (ps : List Nat) (kv : List α) (i : Nat), (ps.zip kv).lookup i = (match ps.findIdx? (fun j => j == i) with | some j => kv[j]? | none => none)
  | [], kv, i => by simp
  | p :: ps, [], i => by
    simp only [List.zip_nil_right, List.lookup_nil, List.getElem?_nil]
    split <;> rfl
  | p :: ps, z :: kv, i => by
    simp only [List.zip_cons_cons, List.lookup_cons, List.findIdx?_cons]
    by_cases h : p = i
    · subst h; simp
    · have h1 : (i == p) = false := by simpa using fun e => h e.symm
      have h2 : (p == i) = false := by simpa using h
      rw [h1, h2, zip_lookup ps kv i]
      simp only [Bool.false_eq_true, if_false]
      cases e : ps.findIdx? (fun j => j == i) with
      | none => simp
      | some j => simp
section
variable {T : Tab} {K : PySem.W.Frag} {a : Abs}
theorem reps_map {np nd m : Nat} {ix : List Nat} {dflt args kv : List D} {vs zs dvs : List V} (ra : Reps T K a args vs) (rk : Reps T K a kv zs) (rd : Reps T K a dflt dvs) (hm : args.length = m) (hnd : dflt.length = nd) (hk : ix.length = kv.length) :
    ∀ {l : List Nat} {ds : List D}, (l.mapM fun i => match args[i]? with
      | some d => some d
      | none => match (ix.zip kv).lookup i with
        | some d => some d
        | none => if np ≤ i + dflt.length then dflt[i + dflt.length - np]? else none) = some ds → Reps T K a ds (gS (l.map (srOf np nd m ix)) vs dvs zs)
  | [], ds, h => by
    simp only [List.mapM_nil, Option.pure_def, Option.some.injEq] at h
    subst h; exact Reps.nil
  | i :: l, ds, h => by
    rw [List.mapM_cons] at h
    obtain ⟨d, e1, h⟩ := Option.bind_eq_some_iff.mp h
    obtain ⟨ds', e2, h⟩ := Option.bind_eq_some_iff.mp h
    simp only [Option.pure_def, Option.some.injEq] at h
    subst h
    have ih := reps_map ra rk rd hm hnd hk e2
    have one : ∃ v, pk vs dvs zs (srOf np nd m ix i) = some v ∧ Rep T K a d v := by
      unfold srOf
      by_cases hi : i < m
      · rw [if_pos hi]
        cases e : args[i]? with
        | none => rw [List.getElem?_eq_none_iff] at e; omega
        | some d' =>
          rw [e] at e1; cases e1
          obtain ⟨v, e3, r⟩ := ra.get e
          exact ⟨v, e3, r⟩
      · rw [if_neg hi]
        have e : args[i]? = none := List.getElem?_eq_none (by omega)
        rw [e] at e1
        simp only [zip_lookup] at e1
        cases ej : ix.findIdx? (fun j => j == i) with
        | some j =>
          simp only [ej] at e1 ⊢
          have hj : j < kv.length := by
            rw [← hk]
            exact (List.findIdx?_eq_some_iff_findIdx_eq.mp ej).1
          have e4 : kv[j]? = some kv[j] := by simp [hj]
          rw [e4] at e1; cases e1
          obtain ⟨v, e3, r⟩ := rk.get e4
          exact ⟨v, e3, r⟩
        | none =>
          simp only [ej] at e1 ⊢
          split at e1
          · rename_i hle
            rw [hnd] at e1
            obtain ⟨v, e3, r⟩ := rd.get e1
            exact ⟨v, e3, r⟩
          · cases e1
    obtain ⟨v, e3, r⟩ := one
    unfold gS at ih ⊢
    rw [List.map_cons, List.filterMap_cons_some e3]
    exact Reps.cons r ih
end
section
variable {T : Tab} {K : PySem.W.Frag} {x qual : Str} {params : Arguments} {body : List Stmt} {scope : Scope} {dvs : List V} {f : Addr} {fd : FuncData} {ps ks : List Str} {F : Fn} {m : Nat} {ix : List Nat}
theorem bind_n (Fd : FunD K x qual params body scope [] [] f fd) (hd : F.dflt = []) (hk : ix.length = ks.length)
    (h : ∀ (kV doc pm : Value) (an : Option Addr) (cdv ct : Value) (us ws : List Value), us.length = m → ws.length = ks.length →
      bindArgs (PySem.W.fnOf x qual params body scope .none kV doc pm an cdv ct) ⟨us, ks.zip ws⟩ = pure (ps.zip (gS (srs F.np 0 m ix) us [] ws))) : BindOk T K fd ps F m ix ks := by
  obtain ⟨oc, od, dV, kV, doc, pm, an, cdv, ct, osl, rfl, lk, hcd, hD, hK⟩ := Fd.ex
  rcases hD with ⟨_, rfl⟩ | ⟨e, _⟩
  · refine ⟨fun us ws => gS (srs F.np 0 m ix) us [] ws, fun vs zs => gS (srs F.np 0 m ix) vs [] zs, ⟨fun s us ws X l1 l2 => .of_eq (h kV doc pm an cdv ct us ws l1 l2), fun r1 r2 => vals_gS r1 .nil r2 _⟩, fun a args vs kv zs ds ra rk l1 l2 e => ?_⟩
    refine reps_map (nd := 0) (dflt := []) (dvs := []) ra rk Reps.nil l1 rfl (by rw [hk, l2]) ?_
    rw [← hd]; exact e
  · exact absurd rfl e
end
end DI
end

section
set_option Elab.async false
set_option linter.all false
namespace DI
open PySem PyProof.Rows
/-- the table as the kit tells it -/
def tabD (D : List (Str × Int)) : List (Str × KTD.Dat) := D.map fun p => (p.1, .flat (.int p.2))
/-- .. as the small interpreter holds it -/
def tabO (l : List (Str × Int)) : D := .dct false (l.map fun p => .str p.1) (l.map fun p => .int p.2)
def tabK (K : PySem.W.Frag) (p : Addr) (D : List (Str × Int)) : Bool := KTD.tabLook (KTD.datLooks fun b => K.lookup b) (fun b => K.lookup b) p (tabD D)
def tabL : List D → List D → Option (List (Str × Int))
  | [], [] => some []
  | .str k :: ks, .int i :: vs => (tabL ks vs).map fun l => (k, i) :: l
  | _, _ => none
theorem tabL_eq : ∀ {ks vs : List D} {l : List (Str × Int)}, tabL ks vs = some l → D.dct false ks vs = tabO l
  | [], [], l, h => by cases h; rfl
  | .str k :: ks, .int i :: vs, l, h => by
    simp only [tabL, Option.map_eq_some_iff] at h
    obtain ⟨l', h1, rfl⟩ := h
    have := tabL_eq h1
    simp only [tabO, D.dct.injEq, true_and] at this
    simp only [tabO, List.map_cons, this.1, this.2]
  | [], _ :: _, _, h => by simp [tabL] at h
  | _ :: _, [], _, h => by simp [tabL] at h
end DI
end

section
set_option Elab.async false
set_option linter.all false
set_option maxRecDepth 100000
namespace DI
open PySem L2 PySem.Spec PyProof.Rows
section
variable {T : Tab} {n : Nat} {X : Cx} {W : WX} {pos : Pos}
end
end DI
end

section
set_option Elab.async false
set_option linter.all false
set_option maxRecDepth 100000
namespace DI
open PySem L2 PySem.Spec PyProof.Rows
/-- what is known of a built-in base class -/
structure BaseX (B newId initId : String) (bmB : List Value) : Prop where
  F : ExcBaseFacts B newId initId bmB
  S : StoreFacts B bmB "object.__setattr__" "object"
  K : PySem.W.KxsFacts B initId
theorem baseVE : BaseX "ValueError" "ValueError.__new__" "ValueError.__init__" [.type "ValueError", .type "Exception", .type "BaseException", .type "object"] := ⟨PySem.F.excBase_ValueError, PySem.F.store_ValueError, PySem.W.kxs_ValueError⟩
theorem baseLE : BaseX "LookupError" "LookupError.__new__" "LookupError.__init__" [.type "LookupError", .type "Exception", .type "BaseException", .type "object"] := ⟨PySem.F.excBase_LookupError, PySem.F.store_LookupError, PySem.W.kxs_LookupError⟩
theorem baseAE : BaseX "ArithmeticError" "ArithmeticError.__new__" "ArithmeticError.__init__" [.type "ArithmeticError", .type "Exception", .type "BaseException", .type "object"] := ⟨PySem.F.excBase_ArithmeticError, PySem.F.store_ArithmeticError, PySem.W.kxs_ArithmeticError⟩
def xiA (ps : List (Str × Pos)) : Arguments := { posonlyargs := [], args := ps.map fun q => { arg := q.1, annotation := none, pos := q.2 }, vararg := none, kwonlyargs := [], kw_defaults := [], kwarg := none, defaults := [] }
def xiSup (p0 p1 p2 p3 p4 : Pos) : Stmt := .Expr (.Call (.Attribute (.Call (.Name "super" p0) [] [] p1) "__init__" p2) [] [] p3) p4
def xiSet (f : Str) (p0 p1 p2 p3 : Pos) : Stmt := .Assign [.Attribute (.Name "self" p0) f p1] (.Name f p2) p3
def xiS (fs : List Str) : Scope := { kind := .function, names := (PySem.Str.ofString "self", .local) :: (fs.map (fun f => (f, NameKind.local)) ++ [(PySem.Str.ofString "__class__", .free), (PySem.Str.ofString "super", .globalImplicit)]), isGenerator := false, isCoroutine := false, more := [] }
section
open PySem.W PySem.Calls
variable {prog : Program} {w : World} {A : Around} {E : Value → Shared → Prop} {s : Shared} {K : Frag} {mg mb : Str → Option Value} {m : Str → Option Value}
variable {C fI cda cc L x t0 : Addr} {qual name : Str} {scope : Scope} {params : Arguments} {body : List Stmt} {dV kV doc pm ct oc ccl cl : Value} {an od cdd cld : Option Addr} {osl ccs csl : Array (Option Value)} {vs : Array Value} {file : Str} {tf : Tok}
variable {B newId initId : String} {bmB : List Value}
theorem kept_x {h h' : Heap} (X : K.In h) (hx : K.lookup x = none) (k : ∀ b o, b ≠ x → h.get? b = some o → h'.get? b = some o) : K.In h' := fun a o e => k a o (fun z => by rw [z, hx] at e; cases e) (X a o e)
/-- super() -/
theorem xi_base {ar : Arg} {attr : Str} {whole : Sem Value} {p0 p1 : Pos} {Q : Value → Shared → Prop} {cdD : ClassData} (X : K.In s.heap) (hns : s.heap.Ns L m) (hg : s.heap.Ns mainGlobals mg) (hb : s.heap.Ns builtinsNs mb) (hbb : ∀ y : Str, y ≠ "__name__" → mb y = bootBuiltins y)
    (hf : K.lookup fI = some ⟨oc, od, .func (ksFn name qual params body scope dV kV doc pm an (.ref cda) ct cc), osl⟩) (hp : (params.posonlyargs ++ params.args).head? = some ar) (hv : m ar.arg = some (.ref x)) (hx : s.heap.get? x = some (excObj C t0 none .none))
    (hcode : K.lookup cda = some ⟨ccl, cdd, .fields vs, ccs⟩) (hvs : vs[2]? = some (.str file tf)) (hfile : ((prog.main.file : Str) == file) = true) (hcell : K.lookup cc = some ⟨cl, cld, .cell (some (.ref C)), csl⟩) (hD : clsIn K C = some cdD) (hsub : mroIn K C (.ref C) = some true)
    (hsuper : nsIn K mainGlobals "super" = some none) (hat : (attr == ("__class__" : Str)) = false) (hks : scope.names.lookup ("super" : Str) = some .globalImplicit) (hkc : scope.names.lookup ("__class__" : Str) = some .free) (hka : scope.names.lookup ar.arg = some .local) (hk : scope.kind = .function)
    (htop : (prog.main.scope.names.lookup ("super" : Str)).isSome = false) (hm0 : mg "super" = none)
    (h : ∀ h', h'.get? s.heap.objs.size = some (ks_superObj C x C) → (∀ y o, s.heap.get? y = some o → h'.get? y = some o) → Q (.ref s.heap.objs.size) { s with heap := h' }) :
    _root_.PySem.wpAt (model prog w) A (.func body (ksEnv qual scope L fI (.ref cda) cc)) (attributeBase (.Call (.Name "super" p0) [] [] p1) attr (ksEnv qual scope L fI (.ref cda) cc) whole) Q E s := by
  obtain ⟨hh, g, d, t, os⟩ := s
  obtain ⟨oD, hD1, hD2⟩ : ∃ oD, hh.get? C = some oD ∧ oD.data = .cls cdD := by
    unfold clsIn at hD
    split at hD
    · rename_i c d cd' sl ho
      cases hD
      exact ⟨_, X _ _ ho, rfl⟩
    · cases hD
  refine ks_wpAt_super_base (env := ksEnv qual scope L fI (.ref cda) cc) hks hkc hat rfl (X _ _ hf) rfl hp rfl (X _ _ hcode) rfl hvs hfile htop ?_
  refine ks_loadName_global hk hks (loadGlobal_builtin (env := ksEnv qual scope L fI (.ref cda) cc) hg hm0 hb ((hbb _ (by decide +kernel)).trans (by first | rfl | kernel_rfl)) ⟨rfl, ?_⟩)
  refine wpAny_loadName_free hk hkc rfl ⟨_, X _ _ hcell, rfl⟩ ?_
  refine wpAny_loadName_local hk hka hns hv ?_
  refine ks_wpAny_isType_cls hD1 hD2 ⟨rfl, ?_⟩
  refine ks_wpAny_call_super hD1 hD2 hx rfl (fun c e => by cases e) (looks_mroIn X hsub) (fun h' e k => ?_)
  exact h h' e k
/-- how the call of super().__init__ is read -/
def SupOk (qual : Str) (scope : Scope) (p0 p1 p2 p3 : Pos) : Prop := ∀ (L f : Addr) (cd : Value) (cc : Addr), ∃ pl : Sem Bool,
  eval (.Call (.Attribute (.Call (.Name "super" p0) [] [] p1) "__init__" p2) [] [] p3) (ksEnv qual scope L f cd cc) = (do
      let ov ← attributeBase (.Call (.Name "super" p0) [] [] p1) "__init__" (ksEnv qual scope L f cd cc) (eval (.Call (.Name "super" p0) [] [] p1) (ksEnv qual scope L f cd cc))
      standAt p2.atName
      let (f', first) ← holding [ov] (getMethod ov "__init__" pl)
      callWith p3 f' first (backTo p3 (starEach [] (ksEnv qual scope L f cd cc))) [])
/-- super().__init__() -/
theorem xi_super {ar : Arg} {p0 p1 p2 p3 p4 : Pos} {Q : Flow → Shared → Prop} {cdD : ClassData} (SO : SupOk qual scope p0 p1 p2 p3) (BX : BaseX B newId initId bmB) (X : K.In s.heap) (nx : K.lookup x = none) (hns : s.heap.Ns L m) (hg : s.heap.Ns mainGlobals mg) (hb : s.heap.Ns builtinsNs mb) (hbb : ∀ y : Str, y ≠ "__name__" → mb y = bootBuiltins y)
    (hf : K.lookup fI = some ⟨oc, od, .func (ksFn name qual params body scope dV kV doc pm an (.ref cda) ct cc), osl⟩) (hp : (params.posonlyargs ++ params.args).head? = some ar) (hv : m ar.arg = some (.ref x)) (hx : s.heap.get? x = some (excObj C t0 none .none))
    (hcode : K.lookup cda = some ⟨ccl, cdd, .fields vs, ccs⟩) (hvs : vs[2]? = some (.str file tf)) (hfile : ((prog.main.file : Str) == file) = true) (hcell : K.lookup cc = some ⟨cl, cld, .cell (some (.ref C)), csl⟩) (hD : clsIn K C = some cdD) (hsub : mroIn K C (.ref C) = some true)
    (hsuper : nsIn K mainGlobals "super" = some none) (hks : scope.names.lookup ("super" : Str) = some .globalImplicit) (hkc : scope.names.lookup ("__class__" : Str) = some .free) (hka : scope.names.lookup ar.arg = some .local) (hk : scope.kind = .function)
    (htop : (prog.main.scope.names.lookup ("super" : Str)).isSome = false) (hm0 : mg "super" = none) (ho : nsIn K cStatics "thirdparty.any" = some none) (hs : ks_superIn K C C "__init__" = some (some (.builtin initId))) (hB : subIn K (.ref C) (.type B) = some true) (q : excInitIn K C bmB newId = true)
    (h : ∀ h' t1 tk, (∀ b o, b ≠ x → s.heap.get? b = some o → h'.get? b = some o) → h'.get? x = some (excObj C t1 none .none) → Q .next { s with heap := h', toks := tk }) :
    _root_.PySem.wpAt (model prog w) A (.func body (ksEnv qual scope L fI (.ref cda) cc)) (exec (xiSup p0 p1 p2 p3 p4) (ksEnv qual scope L fI (.ref cda) cc)) Q E s := by
  refine ks_wpAt_Expr_any ?_ (hi := by unfold interactive; simp [hk])
  obtain ⟨pl, he⟩ := SO L fI (.ref cda) cc
  refine ks_wpAt_MethodCall (pl := pl) ?_ he
  refine xi_base X hns hg hb hbb hf hp hv hx hcode hvs hfile hcell hD hsub hsuper (by decide) hks hkc hka hk htop hm0 fun h1 e1 k1 => ?_
  have hx1 := k1 _ _ hx
  have X1 : K.In h1 := X.keeps k1
  have I1 : InstAt h1 x (excObj C t0 none .none) C none := ⟨hx1, rfl, rfl, trivial⟩
  have hI : Looks (model prog w) h1 (isInstance (.ref x) (.type B)) true := I1.type.andThen (looks_subIn X1 hB)
  have hs1 : alongIn K "__init__" ((cdD.mro.dropWhile (· != .ref C)).drop 1) = some (some (.builtin initId)) := by
    unfold ks_superIn at hs
    rw [hD] at hs
    exact hs
  refine kxs_getMethod (D := C) (l := (cdD.mro.dropWhile (· != .ref C)).drop 1) BX.K e1 (looks_opaque X1 ho) (l₀ := cdD.mro) (fun A Q E s k q => wpAny_bind ((looks_clsIn X1 hD) A _ E s k (wpAny_pure q))) rfl X1 hs1 hI (ks_ne X1 I1 hD) (by decide) ?_
  have e2 : (h1.push (kxs_mw initId x)).get? h1.objs.size = some (kxs_mw initId x) := Heap.get?_push_size _ rfl
  have hx2 : (h1.push (kxs_mw initId x)).get? x = some (excObj C t0 none .none) := Heap.get?_push_of_some _ hx1
  have X2 : K.In (h1.push (kxs_mw initId x)) := X1.keeps fun b o e => Heap.get?_push_of_some _ e
  refine kxs_callWith (i := initId) (x := x) rfl (evalArgs_empty ⟨e2, ?_⟩)
  obtain ⟨nm, N', qn, bs, bm, hdct, sn, sub, ab, col, dd, k0, k1', k2, k3, k5, hC, hT⟩ := excInit_of X2 q
  refine wpAny_call (codeAny_of_tree ?_)
  show wpAny _ A.in1 (callAny (.ref h1.objs.size) ⟨[], []⟩) _ _ _
  simp only [callAny]
  refine wpAny_bind (wpAny_load e2 ?_)
  simp only [kxs_mw, show (Value.type "method-wrapper" == Value.type "method" || Value.type "method-wrapper" == Value.type "builtin_function_or_method" || Value.type "method-wrapper" == Value.type "method-wrapper") = true by decide, if_true]
  refine KFB.if_so (by decide) ?_
  refine wpAny_bind (check_bound_init BX.F.toExcCallFacts hC hx2 rfl ?_)
  refine wpAny_bind (wpAny_pure (wpAny_pure ?_))
  refine ⟨plainId_quiet BX.F.init.plain _, codeAny_builtin BX.F.initEntry ?_⟩
  refine exc_init_tree (cls := .ref C) (t0 := t0) (dv := none) (c2 := .none) (c3 := .none) (b4 := .bool false) hx2 (by simp) fun h' k' e' t' => ?_
  exact h h' _ _ (fun b o hb e => k' b o hb (Heap.get?_push_of_some _ (k1 _ _ e))) e'
/-- the first store: the object's dict is made -/
theorem xi_set0 {t1 : Addr} {name : Str} {v : Value} {Q : Unit → Shared → Prop} (BX : BaseX B newId initId bmB) (X : K.In s.heap) (hx : s.heap.get? x = some (excObj C t1 none .none)) (hs : findIn K (.ref C) "__setattr__" = some (some (.builtin "object.__setattr__"))) (hp : excOver K C bmB = true) (ha : findIn K (.ref C) name = some none) (hh : hasDictIn K C = true)
    (h : ∀ h' tk dx, (∀ b o, b ≠ x → s.heap.get? b = some o → h'.get? b = some o) → s.heap.objs.size ≤ dx → dx ≠ x → h'.get? x = some (excObj C t1 (some dx) .none) → h'.Ns1 dx (fun y => if y = name then some v else none) → Q () { s with heap := h', toks := tk }) :
    wpAny (model prog w) A (setAttr (.ref x) name v) Q E s := by
  obtain ⟨hp0, g, d, t, os⟩ := s
  have ht : takerIn K C name = some none := by unfold takerIn; rw [ha]; rfl
  have hxs : x ≠ hp0.objs.size := Nat.ne_of_lt (Heap.lt_size hx)
  obtain ⟨cd, hc, hd'⟩ := any_some hh
  refine set_plain (od := none) X ⟨hx, rfl, rfl, trivial⟩ hs (osa_openX (od := none) (C := C) BX.S X ⟨hx, rfl, rfl, trivial⟩ hp ht fun b => ?_)
  refine wpAny_bind (wpAny_pure (wpAny_bind (instanceDict_exc hx (looks_clsIn X hc) hd' ?_)))
  refine HandSPX.store_in_new ?_ fun h' tk' hn' hs' => ?_
  · exact ⟨_, #[], _, (Heap.get?_update_ne _ _ _ _ hxs.symm).trans (Heap.get?_push_at rfl rfl), rfl, fun e he => absurd he (by simp), fun _ => rfl⟩
  · have hx₁ : (hp0.push { cls := .type "dict", data := .dict #[] }).get? x = some (excObj C t1 none .none) := Heap.get?_push_of_some _ hx
    refine h h' tk' hp0.objs.size (fun b o hb ho => ?_) (Nat.le_refl _) hxs.symm ?_ hn'
    · exact (hs'.2 b (Nat.ne_of_lt (Heap.lt_size ho))).trans ((Heap.get?_update_ne _ _ _ _ hb).trans (Heap.get?_push_of_some _ ho))
    · exact (hs'.2 x hxs).trans (Heap.get?_update_self _ hx₁ rfl)
/-- a later store -/
theorem xi_setD {t1 dx : Addr} {name : Str} {v : Value} {m0 : Str → Option Value} {nl : List Str} {Q : Unit → Shared → Prop} (BX : BaseX B newId initId bmB) (X : K.In s.heap) (hx : s.heap.get? x = some (excObj C t1 (some dx) .none)) (hns : s.heap.Ns1 dx m0) (hw : Within m0 nl) (hz : nl.length ≤ 1000) (hs : findIn K (.ref C) "__setattr__" = some (some (.builtin "object.__setattr__"))) (hp : excOver K C bmB = true) (ha : findIn K (.ref C) name = some none) (hh : hasDictIn K C = true)
    (h : ∀ h' tk, (∀ b o, b ≠ dx → s.heap.get? b = some o → h'.get? b = some o) → h'.Ns1 dx (fun y => if y = name then some v else m0 y) → Q () { s with heap := h', toks := tk }) :
    wpAny (model prog w) A (setAttr (.ref x) name v) Q E s := by
  obtain ⟨hp0, g, d, t, os⟩ := s
  have ht : takerIn K C name = some none := by unfold takerIn; rw [ha]; rfl
  obtain ⟨oD, esD, epD, hoD, hdD, _⟩ := hns.count hw
  obtain ⟨cd, hc, hd'⟩ := any_some hh
  refine set_plain (od := some oD) X ⟨hx, rfl, rfl, hoD⟩ hs (osa_openX (od := some oD) (C := C) BX.S X ⟨hx, rfl, rfl, hoD⟩ hp ht fun b => ?_)
  refine wpAny_bind (wpAny_pure (wpAny_bind (wpAny_bind (wpAny_loadPart hx (wpAny_bind ((looks_clsIn X hc).at ?_))))))
  rw [hd']
  refine wpAny_pure (a := some dx) ?_
  exact OEX.store_in_old hns hw hz fun h' tk' hn' hs' => h h' tk' (fun b o hb ho => (hs'.2 b hb).trans ho) hn'
end
/-- what the written part says of an exception class at C -/
structure XCls (K : PySem.W.Frag) (C : Addr) : Prop where
  base : ∃ B newId initId bmB, BaseX B newId initId bmB ∧ PySem.W.excInitIn K C bmB newId = true ∧ PySem.W.excOver K C bmB = true ∧ PySem.W.ks_superIn K C C "__init__" = some (some (.builtin initId)) ∧ PySem.W.subIn K (.ref C) (.type B) = some true
  sa : PySem.W.findIn K (.ref C) "__setattr__" = some (some (.builtin "object.__setattr__"))
  hd : PySem.W.hasDictIn K C = true
  sub : PySem.W.mroIn K C (.ref C) = some true
  kC : PySem.W.keepIn K (.ref C) = true
  exC : PySem.W.subIn K (.ref C) (.type "BaseException") = some true
  tyC : PySem.W.typeIn K (.ref C) = some (.type "type")
/-- .. and of its __init__ at fI, with the parameters fs -/
structure XIni (P : Program) (K : PySem.W.Frag) (C fI : Addr) (fs : List Str) : Prop where
  iC : PySem.W.findIn K (.ref C) "__init__" = some (some (.ref fI))
  fnI : PySem.W.isFn K (.ref fI) = true
  noN : ∀ f ∈ fs, PySem.W.findIn K (.ref C) f = some none
  op : PySem.W.nsIn K cStatics "thirdparty.any" = some none
  nsup : PySem.W.nsIn K mainGlobals "super" = some none
  htop : (P.main.scope.names.lookup ("super" : Str)).isSome = false
  sc : (xiS fs).names.lookup ("super" : Str) = some .globalImplicit ∧ (xiS fs).names.lookup ("__class__" : Str) = some .free ∧ (xiS fs).names.lookup ("self" : Str) = some .local ∧ (∀ f ∈ fs, (xiS fs).names.lookup f = some .local ∧ (f == ("__debug__" : Str)) = false ∧ f ≠ ("self" : Str)) ∧ fs.Nodup ∧ ∀ x ∈ (xiS fs).names, x.2 ≠ .cell
  fn : ∃ (qual : Str) (pps : List Pos) (sets : List (Pos × Pos × Pos × Pos)) (p0 p1 p2 p3 p4 : Pos) (doc pm ct oc ccl cl : Value) (an od cdd cld : Option Addr) (osl ccs csl : Array (Option Value)) (cda cc : Addr) (vs : Array Value) (file : Str) (tf : Tok),
    pps.length = fs.length + 1 ∧ sets.length = fs.length ∧
    K.lookup fI = some ⟨oc, od, .func (PySem.W.ksFn "__init__" qual (xiA ((("self" : Str) :: fs).zip pps)) (xiSup p0 p1 p2 p3 p4 :: (fs.zip sets).map fun q => xiSet q.1 q.2.1 q.2.2.1 q.2.2.2.1 q.2.2.2.2) (xiS fs) .none .none doc pm an (.ref cda) ct cc), osl⟩ ∧ PySem.W.codeIn K (.ref cda) qual = true ∧
    K.lookup cda = some ⟨ccl, cdd, .fields vs, ccs⟩ ∧ vs[2]? = some (.str file tf) ∧ ((P.main.file : Str) == file) = true ∧ K.lookup cc = some ⟨cl, cld, .cell (some (.ref C)), csl⟩ ∧ SupOk qual (xiS fs) p0 p1 p2 p3 ∧
    (∀ (oc : Value) (us : List Value), us.length = fs.length + 1 → bindArgs (PySem.W.ksFn "__init__" qual (xiA ((("self" : Str) :: fs).zip pps)) (xiSup p0 p1 p2 p3 p4 :: (fs.zip sets).map fun q => xiSet q.1 q.2.1 q.2.2.1 q.2.2.2.1 q.2.2.2.2) (xiS fs) .none .none doc pm an (.ref cda) ct cc) ⟨us, []⟩ = pure ((("self" : Str) :: fs).zip us)) ∧
    ∀ q ∈ fs.zip sets, ∀ (L f : Addr) (cd : Value) (cc : Addr), swapsWith (.Name q.1 q.2.2.2.1) (some (.Attribute (.Name "self" q.2.1) q.1 q.2.2.1)) q.2.2.2.2.line (PySem.W.ksEnv qual (xiS fs) L f cd cc) = pure false
section
open PySem.W PySem.Calls
variable {prog : Program} {w : World} {A : Around} {E : Value → Shared → Prop} {R : Result → Shared → Prop} {s : Shared} {K : Frag} {mg mb : Str → Option Value}
variable {C fI x t0 : Addr}
/-- the names, behind a write at x -/
theorem ns_keep {h h' : Heap} {L x : Addr} {m : Str → Option Value} (n : h.Ns L m) (ne : L ≠ x) (k : ∀ b o, b ≠ x → h.get? b = some o → h'.get? b = some o) : h'.Ns L m := by
  obtain ⟨o, es, ep, e, r⟩ := n
  exact ⟨o, es, ep, k _ _ ne e, r⟩
/-- self.f = f -/
theorem xi_assign {M : Model} {qual : Str} {scope : Scope} {L cc : Addr} {cd : Value} {m : Str → Option Value} {f : Str} {v : Value} {body : List Stmt} {q0 q1 q2 q3 : Pos} {A' : Around} {Q : Flow → Shared → Prop} (hns : s.heap.Ns L m) (hf : m f = some v) (hs : m "self" = some (.ref x)) (hk : scope.kind = .function) (hlf : scope.names.lookup f = some .local) (hls : scope.names.lookup ("self" : Str) = some .local) (hdf : (f == ("__debug__" : Str)) = false)
    (hsw : swapsWith (.Name f q2) (some (.Attribute (.Name "self" q0) f q1)) q3.line (ksEnv qual scope L fI cd cc) = pure false) (h : wpAny M A' (setAttr (.ref x) f v) (fun _ => Q .next) E s) :
    _root_.PySem.wpAt M A' (.func body (ksEnv qual scope L fI cd cc)) (exec (xiSet f q0 q1 q2 q3) (ksEnv qual scope L fI cd cc)) Q E s := by
  refine ks_wpAt_Assign_Attr (wpAt_of_wpAny (wpAny_Name (wpAny_loadName_local hk hlf hns hf (wpAny_Name (wpAny_loadName_local hk hls hns hs h) (by decide))) hdf)) hsw
/-- what __init__ leaves of a fresh exception at x -/
structure XEnd (h h' : Heap) (x C dx t1 : Addr) (m : Str → Option Value) : Prop where
  keep : ∀ b o, b ≠ x → h.get? b = some o → h'.get? b = some o
  obj : h'.get? x = some (excObj C t1 (some dx) .none)
  dbig : h.objs.size ≤ dx
  dne : dx ≠ x
  ns : h'.Ns1 dx m
/-- the values us are what __init__ of these parameters binds args to -/
def BindsX (fs : List Str) (args : Args) (us : List Value) : Prop := ∀ (qual : Str) (pps : List Pos) (body : List Stmt) (doc pm : Value) (an : Option Addr) (cda cc : Addr) (ct : Value), pps.length = fs.length + 1 →
  bindArgs (PySem.W.ksFn "__init__" qual (xiA ((("self" : Str) :: fs).zip pps)) body (xiS fs) .none .none doc pm an (.ref cda) ct cc) ⟨us, []⟩ = pure ((("self" : Str) :: fs).zip us) →
  bindArgs (PySem.W.ksFn "__init__" qual (xiA ((("self" : Str) :: fs).zip pps)) body (xiS fs) .none .none doc pm an (.ref cda) ct cc) args = pure ((("self" : Str) :: fs).zip us)
theorem bindsX0 {fs : List Str} {us : List Value} : BindsX fs ⟨us, []⟩ us := fun _ _ _ _ _ _ _ _ _ _ h => h
theorem xi_init1 {f : Str} {v : Value} {args : Args} (bx : BindsX [f] args [.ref x, v]) (C' : XCls K C) (T : XIni prog K C fI [f]) (X : K.In s.heap) (hlim : s.heap.NoLimit) (hg : s.heap.Ns mainGlobals mg) (hb : s.heap.Ns builtinsNs mb) (hbb : ∀ y : Str, y ≠ "__name__" → mb y = bootBuiltins y) (hm0 : mg "super" = none)
    (hx : s.heap.get? x = some (excObj C t0 none .none)) (nx : K.lookup x = none) (hroom : A.depth < recursionLimit)
    (hq : ∀ h' tk dx t1, XEnd s.heap h' x C dx t1 (fun y => if y = f then some v else none) → R (.ok (.ret .none)) { s with heap := h', toks := tk }) :
    codeAny (model prog w) A (.call (.ref fI) args) R s := by
  obtain ⟨B, newId, initId, bmB, BX, q1, q2, q3, q4⟩ := C'.base
  obtain ⟨qual, pps, sets, p0, p1, p2, p3, p4, doc, pm, ct, oc, ccl, cl, an, od, cdd, cld, osl, ccs, csl, cda, cc, vs, file, tf, hl1, hl2, hfn, hcd, hcode, hvs, hfile, hcell, SO, hbind, hsw⟩ := T.fn
  obtain ⟨s1, s2, s3, s4, s5, s6⟩ := T.sc
  obtain ⟨f1, f2, f3⟩ := s4 f (by simp)
  match pps, hl1, sets, hl2, hfn, hbind, hsw with
  | [pa, pb], _, [(a0, a1, a2, a3)], _, hfn, hbind, hsw =>
    refine ks_codeAny_call_defAt hroom (X _ _ hfn) rfl hlim (codeRec_of X hcd) rfl (BindsTo.of_eq (bx _ [pa, pb] _ _ _ _ _ _ _ rfl (hbind oc [.ref x, v] rfl))) s6 (fun y hy => ?_) (fun h₀ hns k => ?_) rfl rfl rfl
    · simp only [List.zip_cons_cons, List.zip_nil_right, List.mem_cons, List.not_mem_nil, or_false] at hy
      rcases hy with rfl | rfl
      · exact s3
      · exact f1
    have hx0 := k _ _ hx
    have hne : s.heap.objs.size ≠ x := Nat.ne_of_gt (Heap.lt_size hx)
    have X0 : K.In h₀ := X.keeps k
    obtain ⟨cdD, hD⟩ : ∃ cdD, clsIn K C = some cdD := by
      obtain ⟨cd, hc, _⟩ := any_some q2
      exact ⟨cd, hc⟩
    have ml : ∀ y : Str, ([((("self" : Str)), Value.ref x), (f, v)].reverse.lookup y) = if y = f then some v else if y = ("self" : Str) then some (.ref x) else none := fun y => by
      have bq : ∀ a b : Str, (a == b) = decide (a = b) := fun a b => by by_cases h : a = b <;> simp [h]
      simp only [List.reverse_cons, List.reverse_nil, List.nil_append, List.singleton_append, List.lookup_cons, List.lookup_nil, bq]
      by_cases h1 : y = f
      · simp only [h1, decide_true, if_true]
      · by_cases h2 : y = ("self" : Str)
        · simp only [h1, decide_false, h2, decide_true, if_true]
          rw [if_neg (by rw [← h2]; exact h1), decide_eq_false (by rw [← h2]; exact h1)]
        · simp only [h1, h2, decide_false, if_false]
    have hns' : h₀.Ns s.heap.objs.size (fun y => if y = f then some v else if y = ("self" : Str) then some (.ref x) else none) := by
      have e : (fun y => (([("self" : Str), f].zip [Value.ref x, v]).reverse).lookup y) = fun y => if y = f then some v else if y = ("self" : Str) then some (.ref x) else none := funext ml
      rw [← e]; exact hns
    have ms : (fun y : Str => if y = f then some v else if y = ("self" : Str) then some (Value.ref x) else none) ("self" : Str) = some (.ref x) := by
      show (if _ then _ else _) = _
      rw [if_neg (Ne.symm f3), if_pos rfl]
    have mf : (fun y : Str => if y = f then some v else if y = ("self" : Str) then some (Value.ref x) else none) f = some v := if_pos rfl
    have hg0 : h₀.Ns mainGlobals mg := hg.keeps k
    have hb0 : h₀.Ns builtinsNs mb := hb.keeps k
    refine ks_wpAt_execs_cons (xi_super (ar := ⟨"self", none, pa⟩) SO BX (s := { s with heap := h₀, toks := _ }) X0 nx hns' hg0 hb0 hbb hfn rfl ms hx0 hcode hvs hfile hcell hD C'.sub T.nsup s1 s2 s3 rfl T.htop hm0 T.op q3 q4 q1 fun h1 t1 tk1 k1 e1 => ?_)
    have X1 : K.In h1 := kept_x X0 nx k1
    have hns1 := ns_keep hns' hne k1
    refine ks_wpAt_execs_cons (xi_assign (s := { s with heap := h1, toks := tk1 }) hns1 mf ms rfl f1 s3 f2 (hsw (f, a0, a1, a2, a3) (by simp) _ _ _ _) (xi_set0 BX X1 e1 C'.sa q2 (T.noN f (by simp)) C'.hd fun h2 tk2 dx k2 d1 d2 e2 n2 => ?_))
    refine wpAt_of_wpAny (wpAny_execs_nil (hq h2 tk2 dx t1 ⟨fun b o hb e => k2 b o hb (k1 b o hb (k b o e)), e2, ?_, d2, n2⟩))
    have z : s.heap.objs.size < h1.objs.size := hns1.lt
    exact Nat.le_trans (Nat.le_of_lt z) d1
theorem xi_init2 {f g : Str} {v u : Value} {args : Args} (bx : BindsX [f, g] args [.ref x, v, u]) (C' : XCls K C) (T : XIni prog K C fI [f, g]) (X : K.In s.heap) (hlim : s.heap.NoLimit) (hg : s.heap.Ns mainGlobals mg) (hb : s.heap.Ns builtinsNs mb) (hbb : ∀ y : Str, y ≠ "__name__" → mb y = bootBuiltins y) (hm0 : mg "super" = none)
    (hx : s.heap.get? x = some (excObj C t0 none .none)) (nx : K.lookup x = none) (hroom : A.depth < recursionLimit)
    (hq : ∀ h' tk dx t1, XEnd s.heap h' x C dx t1 (fun y => if y = g then some u else if y = f then some v else none) → R (.ok (.ret .none)) { s with heap := h', toks := tk }) :
    codeAny (model prog w) A (.call (.ref fI) args) R s := by
  obtain ⟨B, newId, initId, bmB, BX, q1, q2, q3, q4⟩ := C'.base
  obtain ⟨qual, pps, sets, p0, p1, p2, p3, p4, doc, pm, ct, oc, ccl, cl, an, od, cdd, cld, osl, ccs, csl, cda, cc, vs, file, tf, hl1, hl2, hfn, hcd, hcode, hvs, hfile, hcell, SO, hbind, hsw⟩ := T.fn
  obtain ⟨s1, s2, s3, s4, s5, s6⟩ := T.sc
  obtain ⟨f1, f2, f3⟩ := s4 f (by simp)
  obtain ⟨g1, g2, g3⟩ := s4 g (by simp)
  have fg : f ≠ g := by simpa using s5
  match pps, hl1, sets, hl2, hfn, hbind, hsw with
  | [pa, pb, pc], _, [(a0, a1, a2, a3), (b0, b1, b2, b3)], _, hfn, hbind, hsw =>
    refine ks_codeAny_call_defAt hroom (X _ _ hfn) rfl hlim (codeRec_of X hcd) rfl (BindsTo.of_eq (bx _ [pa, pb, pc] _ _ _ _ _ _ _ rfl (hbind oc [.ref x, v, u] rfl))) s6 (fun y hy => ?_) (fun h₀ hns k => ?_) rfl rfl rfl
    · simp only [List.zip_cons_cons, List.zip_nil_right, List.mem_cons, List.not_mem_nil, or_false] at hy
      rcases hy with rfl | rfl | rfl
      · exact s3
      · exact f1
      · exact g1
    have hx0 := k _ _ hx
    have hne : s.heap.objs.size ≠ x := Nat.ne_of_gt (Heap.lt_size hx)
    have X0 : K.In h₀ := X.keeps k
    obtain ⟨cdD, hD⟩ : ∃ cdD, clsIn K C = some cdD := by
      obtain ⟨cd, hc, _⟩ := any_some q2
      exact ⟨cd, hc⟩
    have ml : ∀ y : Str, ([((("self" : Str)), Value.ref x), (f, v), (g, u)].reverse.lookup y) = if y = g then some u else if y = f then some v else if y = ("self" : Str) then some (.ref x) else none := fun y => by
      have bq : ∀ a b : Str, (a == b) = decide (a = b) := fun a b => by by_cases h : a = b <;> simp [h]
      simp only [List.reverse_cons, List.reverse_nil, List.nil_append, List.singleton_append, List.cons_append, List.lookup_cons, List.lookup_nil, bq]
      by_cases h0 : y = g
      · simp only [h0, decide_true, if_true]
      · by_cases h1 : y = f
        · subst h1
          simp only [h0, decide_false, decide_true, if_true, if_false]
        · by_cases h2 : y = ("self" : Str)
          · subst h2
            simp only [h0, h1, decide_false, decide_true, if_true, if_false]
          · simp only [h0, h1, h2, decide_false, if_false]
    have hns' : h₀.Ns s.heap.objs.size (fun y => if y = g then some u else if y = f then some v else if y = ("self" : Str) then some (.ref x) else none) := by
      have e : (fun y => (([("self" : Str), f, g].zip [Value.ref x, v, u]).reverse).lookup y) = fun y => if y = g then some u else if y = f then some v else if y = ("self" : Str) then some (.ref x) else none := funext ml
      rw [← e]; exact hns
    have ms : (fun y : Str => if y = g then some u else if y = f then some v else if y = ("self" : Str) then some (Value.ref x) else none) ("self" : Str) = some (.ref x) := by
      show (if _ then _ else _) = _
      rw [if_neg (Ne.symm g3), if_neg (Ne.symm f3), if_pos rfl]
    have mf : (fun y : Str => if y = g then some u else if y = f then some v else if y = ("self" : Str) then some (Value.ref x) else none) f = some v := by
      show (if _ then _ else _) = _
      rw [if_neg fg, if_pos rfl]
    have mg' : (fun y : Str => if y = g then some u else if y = f then some v else if y = ("self" : Str) then some (Value.ref x) else none) g = some u := if_pos rfl
    have hg0 : h₀.Ns mainGlobals mg := hg.keeps k
    have hb0 : h₀.Ns builtinsNs mb := hb.keeps k
    refine ks_wpAt_execs_cons (xi_super (ar := ⟨"self", none, pa⟩) SO BX (s := { s with heap := h₀, toks := _ }) X0 nx hns' hg0 hb0 hbb hfn rfl ms hx0 hcode hvs hfile hcell hD C'.sub T.nsup s1 s2 s3 rfl T.htop hm0 T.op q3 q4 q1 fun h1 t1 tk1 k1 e1 => ?_)
    have X1 : K.In h1 := kept_x X0 nx k1
    have hns1 := ns_keep hns' hne k1
    refine ks_wpAt_execs_cons (xi_assign (s := { s with heap := h1, toks := tk1 }) hns1 mf ms rfl f1 s3 f2 (hsw (f, a0, a1, a2, a3) (by simp) _ _ _ _) (xi_set0 BX X1 e1 C'.sa q2 (T.noN f (by simp)) C'.hd fun h2 tk2 dx k2 d1 d2 e2 n2 => ?_))
    have X2 : K.In h2 := kept_x X1 nx k2
    have hns2 := ns_keep hns1 hne k2
    have hsd : s.heap.objs.size ≤ dx := Nat.le_trans (Nat.le_of_lt hns1.lt) d1
    have hLd : s.heap.objs.size ≠ dx := by
      intro z
      have := hns1.lt
      rw [z] at this
      exact absurd d1 (Nat.not_le.mpr this)
    refine ks_wpAt_execs_cons (xi_assign (s := { s with heap := h2, toks := tk2 }) hns2 mg' ms rfl g1 s3 g2 (hsw (g, b0, b1, b2, b3) (by simp) _ _ _ _) (xi_setD BX X2 e2 n2 (Within.cons f v Within.nil) (by simp) C'.sa q2 (T.noN g (by simp)) C'.hd fun h3 tk3 k3 n3 => ?_))
    refine wpAt_of_wpAny (wpAny_execs_nil (hq h3 tk3 dx t1 ⟨fun b o hb e => ?_, ?_, hsd, d2, n3⟩))
    · have hbd : b ≠ dx := fun z => by
        have := Heap.lt_size e
        rw [z] at this
        exact absurd hsd (Nat.not_le.mpr this)
      exact k3 b o hbd (k2 b o hb (k1 b o hb (k b o e)))
    · exact k3 x _ (Ne.symm d2) e2
end
section
open PySem.HandSPX PySem.W
variable {M : Model} {prog : Program} {w : World} {A : Around} {E : Value → Shared → Prop} {R : Result → Shared → Prop} {h : Heap} {g : Array GenState} {d : Drawn} {t : Nat} {os : OsState} {kw : List (Str × Value)}
variable {nm q : Str} {C N : Addr} {bs bm bmB : List Value} {hdct : Bool} {sn : List Str} {sub : List Value} {ab : Bool} {col : Option Bool} {dd : Option Addr} {k0 k1 k2 k3 k5 : Option Value} {B newId initId : String}
theorem check_new_ownK (F : ExcBaseFacts B newId initId bmB) (hT : ∀ X : String, bm.contains (.type X) = bmB.contains (.type X)) {rest : List Value} {Q : Unit → Shared → Prop}
    (hC : h.get? C = some (excClassObj nm q C N bs bm hdct sn sub ab col dd k0 k1 k2 k3 k5 newId)) (hq : Q () ⟨h, g, d, t, os⟩) : wpAny M A (checkBuiltinCall newId ⟨.ref C :: rest, kw⟩) Q E ⟨h, g, d, t, os⟩ := by
  have hcont : (Value.ref C :: bm).contains (.type B) = true := by rw [List.contains_cons, hT, F.hasB, Bool.or_true]
  have hstar := F.noStar
  simp only [checkBuiltinCall, F.newKind, F.newSplit, F.newRow]
  repeat (first | refine wpAny_loadPart_at hC ?_ | (refine wpAny_isSubtype_exc hC ?_; rw [hcont]) | refine wpAny_staticBase_exc hC ?_ | refine wpAny_madeBy_exc hC ?_ | simp only [bne_self_eq_false, Bool.false_eq_true, if_false] | wp_step)
  exact hq
theorem new_ownK (F : ExcBaseFacts B newId initId bmB) (hT : ∀ X : String, bm.contains (.type X) = bmB.contains (.type X)) {rest : List Value}
    (hC : h.get? C = some (excClassObj nm q C N bs bm hdct sn sub ab col dd k0 k1 k2 k3 k5 newId))
    (hq : R (.ok (.ret (.ref (h.objs.size + 1)))) ⟨(h.push { cls := .type "tuple", data := .seq rest.toArray }).push
      { cls := .ref C, data := .fields #[.ref h.objs.size, .none, .none, .none, .bool false, .none] }, g, d, t, os⟩) (hrest : rest.length ≤ sizeLine) :
    codeAny (model prog w) A (.builtin newId ⟨.ref C :: rest, kw⟩) R ⟨h, g, d, t, os⟩ := by
  have hends := F.ends
  have hcB : (Value.ref C :: bm).contains (.type B) = true := by rw [List.contains_cons, hT, F.hasB, Bool.or_true]
  have hcA : (Value.ref C :: bm).contains (.type "AttributeError") = false := by rw [List.contains_cons, hT, F.noAttr]; rfl
  have hcN : (Value.ref C :: bm).contains (.type "NameError") = false := by rw [List.contains_cons, hT, F.noName]; rfl
  refine codeAny_builtinAt F.entry ?_
  unfold Builtin.«BaseException.__new__»
  refine PySem.wpAt_bind ?_
  show PySem.wpAt _ _ _ (stack >>= _) _ _ _
  refine PySem.wpAt_bind (PySem.wpAt_stack fun p below => PySem.wpAt_of_wpAny ?_)
  wp_walk
  refine PySem.wpAt_of_wpAny ?_
  rw [F.owner]
  repeat (first | with_reducible refine wpAny_madeHere_exc F.canon hC ?_ | with_reducible refine wpAny_loadPart_at hC ?_ | (with_reducible refine wpAny_isSubtype_exc hC ?_; first | rw [hcB] | rw [hcA] | rw [hcN]) | wp_step)
  show R _ _
  rw [Heap.size_push]
  exact hq
theorem type_call_ownK (F : ExcBaseFacts B newId initId bmB) (hT : ∀ X : String, bm.contains (.type X) = bmB.contains (.type X)) {rest : List Value} {fI : Addr} {Q : Fin → Shared → Prop}
    (hC : h.get? C = some (excClassObj nm q C N bs bm hdct sn sub ab col dd k0 k1 k2 k3 k5 newId))
    (hi : PySem.W.Looks (model prog w) h (typeLookup (.ref C) "__init__") (some (.ref fI))) (hb : ∀ self, PySem.W.Looks (model prog w) h (bindSpecial (.ref fI) self) (.ref fI, [self])) (hrest : rest.length ≤ sizeLine)
    (hq : codeAny (model prog w) A (.call (.ref fI) ⟨.ref (h.objs.size + 1) :: rest, kw⟩)
      (fun r s' => match r with | .ok (.ret v) => v = .none ∧ Q (.done (.ret (.ref (h.objs.size + 1)))) s' | .ok _ => False | .error e => E e s')
      ⟨(h.push (PySem.W.kdv_tup rest)).push (excO C h.objs.size), g, d, t, os⟩) :
    wpAny (model prog w) A (Builtin.«type.__call__» ⟨.ref C :: rest, kw⟩) Q E ⟨h, g, d, t, os⟩ := by
  repeat (first | with_reducible refine wpAny_loadPart_at hC ?_ | with_reducible refine wpAny_madeBy_exc hC ?_ | wp_step)
  refine codeAny_call_builtin_code (Code.quiet_builtin _ F.quiet) (check_new_ownK F hT hC ?_)
  refine new_ownK F hT hC ?_ hrest
  show wpAny _ _ _ _ _ _
  have k : ∀ b o, h.get? b = some o → ((h.push (PySem.W.kdv_tup rest)).push (excO C h.objs.size)).get? b = some o := fun b o e => Heap.get?_push_of_some _ (Heap.get?_push_of_some _ e)
  have hC₁ := k _ _ hC
  have hget : ((h.push (PySem.W.kdv_tup rest)).push (excO C h.objs.size)).get? (h.objs.size + 1) = some (excO C h.objs.size) := by heap_get
  have hcC : (Value.ref C :: bm).contains (.ref C) = true := by simp
  have i1 := hi.keeps k
  have b1 := (hb (.ref (h.objs.size + 1))).keeps k
  unfold isInstance
  repeat (first | with_reducible refine wpAny_loadPart_at hget ?_ | (with_reducible refine wpAny_isSubtype_exc hC₁ ?_; rw [hcC]) | wp_step)
  show wpAny _ _ (typeLookup (.ref C) _) _ _ _
  refine i1.at ?_
  refine wpAny_holding (wpAny_bind (b1.at ?_))
  refine wpAny_bind (wpAny_call (codeAny_mono hq fun r s' z => ?_))
  rcases r with e | (v | _ | _ | _) <;> first | exact z | exact z.elim | skip
  obtain ⟨rfl, z⟩ := z
  first
    | exact wpAny_pure (wpAny_pure z)
    | (wp_walk; exact z)
theorem wpAny_check_type_call_subK {M : Model} {rest : List Value} {Q : Unit → Shared → Prop} (hC : h.get? C = some (excClassObj nm q C N bs bm hdct sn sub ab col dd k0 k1 k2 k3 k5 newId))
    (hq : Q () ⟨h, g, d, t, os⟩) : wpAny M A (checkBuiltinCall "type.__call__" ⟨.ref C :: rest, kw⟩) Q E ⟨h, g, d, t, os⟩ := by
  have f3 := tc_sub
  have hT : (⟨h, g, d, t, os⟩ : Shared).TypeIs (.ref C) "type" := ⟨_, hC, rfl⟩
  simp only [checkBuiltinCall, tc_kind, tc_split]
  repeat (any_goals (first | assumption | with_reducible refine wpAny_loadPart_at hC ?_ | with_reducible refine wpAny_onRaise ?_ | with_reducible refine wpAny_map ?_ | wp_step))
theorem call_ownK (F : ExcBaseFacts B newId initId bmB) (hT : ∀ X : String, bm.contains (.type X) = bmB.contains (.type X)) {rest : List Value} {fI : Addr}
    (hC : h.get? C = some (excClassObj nm q C N bs bm hdct sn sub ab col dd k0 k1 k2 k3 k5 newId))
    (hi : PySem.W.Looks (model prog w) h (typeLookup (.ref C) "__init__") (some (.ref fI))) (hb : ∀ self, PySem.W.Looks (model prog w) h (bindSpecial (.ref fI) self) (.ref fI, [self])) (hrest : rest.length ≤ sizeLine)
    (hq : codeAny (model prog w) (A.under (.builtin "type.__call__" ⟨.ref C :: rest, kw⟩)) (.call (.ref fI) ⟨.ref (h.objs.size + 1) :: rest, kw⟩) (PySem.W.InitBack (h.objs.size + 1) R)
      ⟨(h.push (PySem.W.kdv_tup rest)).push (excO C h.objs.size), g, d, t, os⟩) :
    codeAny (model prog w) A (.call (.ref C) ⟨rest, kw⟩) R ⟨h, g, d, t, os⟩ := by
  have f1 := tc_lookup
  have f2 := tc_bind (.ref C)
  have hTy : (⟨h, g, d, t, os⟩ : Shared).TypeIs (.ref C) "type" := ⟨_, hC, rfl⟩
  refine codeAny_of_tree ?_
  show wpAny _ _ (callAny (.ref C) _) _ _ _
  repeat (any_goals (first | assumption | with_reducible refine wpAny_loadPart_at hC ?_ | wp_step))
  refine ⟨rfl, ?_⟩
  refine codeAny_call_builtin_at (Code.quiet_builtin _ (by decide +kernel)) entry_typeCall (wpAny_check_type_call_subK hC (type_call_ownK F hT hC hi hb hrest ?_))
  refine codeAny_mono hq fun r s' z => ?_
  rcases r with e | (v | _ | _ | _) <;> exact z
end
/-- what a call of __init__ with these values makes of a fresh exception -/
def InitsTo (prog : Program) (w : World) (K : PySem.W.Frag) (mg : Str → Option Value) (C fI : Addr) (rest : List Value) (m : Str → Option Value) (kw : List (Str × Value) := []) : Prop :=
  ∀ (A : Around) (s : Shared) (mb : Str → Option Value) (x t0 : Addr) (R : Result → Shared → Prop), K.In s.heap → s.heap.NoLimit → s.heap.Ns mainGlobals mg → s.heap.Ns builtinsNs mb → (∀ y : Str, y ≠ "__name__" → mb y = bootBuiltins y) → s.heap.get? x = some (PySem.W.excObj C t0 none .none) → K.lookup x = none → A.depth < recursionLimit →
    (∀ h' tk dx t1, XEnd s.heap h' x C dx t1 m → R (.ok (.ret .none)) { s with heap := h', toks := tk }) → codeAny (model prog w) A (.call (.ref fI) ⟨.ref x :: rest, kw⟩) R s
theorem inits1 {prog : Program} {w : World} {K : PySem.W.Frag} {mg : Str → Option Value} {C fI : Addr} {f : Str} {v : Value} (C' : XCls K C) (T : XIni prog K C fI [f]) (hm0 : mg "super" = none) : InitsTo prog w K mg C fI [v] (fun y => if y = f then some v else none) :=
  fun _ _ _ _ _ _ X hlim hg hb hbb hx nx hr hq => xi_init1 bindsX0 C' T X hlim hg hb hbb hm0 hx nx hr hq
theorem inits2 {prog : Program} {w : World} {K : PySem.W.Frag} {mg : Str → Option Value} {C fI : Addr} {f g : Str} {v u : Value} (C' : XCls K C) (T : XIni prog K C fI [f, g]) (hm0 : mg "super" = none) : InitsTo prog w K mg C fI [v, u] (fun y => if y = g then some u else if y = f then some v else none) :=
  fun _ _ _ _ _ _ X hlim hg hb hbb hx nx hr hq => xi_init2 bindsX0 C' T X hlim hg hb hbb hm0 hx nx hr hq
/-- .. by name -/
theorem initsK1 {prog : Program} {w : World} {K : PySem.W.Frag} {mg : Str → Option Value} {C fI : Addr} {f : Str} {v : Value} {kw : List (Str × Value)} (bx : ∀ x : Addr, BindsX [f] ⟨[.ref x], kw⟩ [.ref x, v]) (C' : XCls K C) (T : XIni prog K C fI [f]) (hm0 : mg "super" = none) : InitsTo prog w K mg C fI [] (fun y => if y = f then some v else none) kw :=
  fun _ _ _ _ _ _ X hlim hg hb hbb hx nx hr hq => xi_init1 (bx _) C' T X hlim hg hb hbb hm0 hx nx hr hq
theorem initsK2 {prog : Program} {w : World} {K : PySem.W.Frag} {mg : Str → Option Value} {C fI : Addr} {f g : Str} {v u : Value} {kw : List (Str × Value)} (bx : ∀ x : Addr, BindsX [f, g] ⟨[.ref x], kw⟩ [.ref x, v, u]) (C' : XCls K C) (T : XIni prog K C fI [f, g]) (hm0 : mg "super" = none) : InitsTo prog w K mg C fI [] (fun y => if y = g then some u else if y = f then some v else none) kw :=
  fun _ _ _ _ _ _ X hlim hg hb hbb hx nx hr hq => xi_init2 (bx _) C' T X hlim hg hb hbb hm0 hx nx hr hq
/-- a made exception -/
structure XMade (h h' : Heap) (e C d : Addr) (m : Str → Option Value) : Prop where
  keep : ∀ b o, h.get? b = some o → h'.get? b = some o
  new : h.objs.size ≤ e
  obj : ∃ oe vs, h'.get? e = some oe ∧ oe.cls = .ref C ∧ oe.dict = some d ∧ oe.data = .fields vs ∧ vs[1]? = some .none ∧ vs[2]? = some .none
  dbig : h.objs.size ≤ d
  dne : d ≠ e
  ns : h'.Ns1 d m
section
open PySem.W PySem.Calls
variable {prog : Program} {w : World} {A : Around} {R : Result → Shared → Prop} {s : Shared} {K : Frag} {mg mb : Str → Option Value}
variable {C fI : Addr} {rest : List Value} {m : Str → Option Value} {fs : List Str} {kw : List (Str × Value)}
theorem xi_make (C' : XCls K C) (T : XIni prog K C fI fs) (hI : InitsTo prog w K mg C fI rest m kw) (X : K.In s.heap) (hlim : s.heap.NoLimit) (hg : s.heap.Ns mainGlobals mg) (hb : s.heap.Ns builtinsNs mb) (hbb : ∀ y : Str, y ≠ "__name__" → mb y = bootBuiltins y) (hroom : A.depth + 1 < recursionLimit) (hrest : rest.length ≤ sizeLine)
    (hq : ∀ h' tk e d, XMade s.heap h' e C d m → R (.ok (.ret (.ref e))) { s with heap := h', toks := tk }) : codeAny (model prog w) A (.call (.ref C) ⟨rest, kw⟩) R s := by
  obtain ⟨B, newId, initId, bmB, BX, q1, q2, q3, q4⟩ := C'.base
  obtain ⟨nm, N', qn, bs, bm, hdct, sn, sub, ab, col, dd, k0, k1, k2, k3, k5, hC, hT⟩ := excInit_of X q1
  obtain ⟨hp, g, dr, tk, os⟩ := s
  have k : ∀ b o, hp.get? b = some o → ((hp.push (kdv_tup rest)).push (HandSPX.excO C hp.objs.size)).get? b = some o := fun b o e => Heap.get?_push_of_some _ (Heap.get?_push_of_some _ e)
  have hget : ((hp.push (kdv_tup rest)).push (HandSPX.excO C hp.objs.size)).get? (hp.objs.size + 1) = some (excObj C hp.objs.size none .none) := by heap_get
  have hnx : K.lookup (hp.objs.size + 1) = none := by
    cases e : K.lookup (hp.objs.size + 1) with
    | none => rfl
    | some o =>
      have z : hp.get? (hp.objs.size + 1) = some o := X _ _ e
      exact absurd (Nat.lt_of_succ_lt (Heap.lt_size z)) (Nat.lt_irrefl _)
  refine call_ownK BX.F hT hC (looks_findIn X T.iC) (fun self => bind_fn X self (beq_iff_eq.mp T.fnI)) hrest ?_
  refine hI _ ⟨(hp.push (kdv_tup rest)).push (HandSPX.excO C hp.objs.size), g, dr, tk, os⟩ mb (hp.objs.size + 1) hp.objs.size _ (X.keeps k) (hlim.keeps k) (hg.keeps k) (hb.keeps k) hbb hget hnx ?_ fun h' tk' dx t1 M => ?_
  · show A.depth + 1 < recursionLimit
    exact hroom
  · have old : ∀ b o, hp.get? b = some o → h'.get? b = some o := fun b o e => M.keep b o (Nat.ne_of_lt (Nat.lt_succ_of_lt (Heap.lt_size e))) (k b o e)
    have z : hp.objs.size + 1 + 1 ≤ dx := by
      have q := M.dbig
      rw [Heap.size_push, Heap.size_push] at q; exact q
    exact ⟨rfl, hq h' tk' (hp.objs.size + 1) dx ⟨old, Nat.le_succ _, ⟨_, _, M.obj, rfl, rfl, rfl, rfl, rfl⟩, Nat.le_trans (Nat.le_trans (Nat.le_succ _) (Nat.le_succ _)) z, M.dne, M.ns⟩⟩
end
end DI
end

section
set_option Elab.async false
set_option linter.all false
set_option maxRecDepth 100000
namespace DI
open PySem L2 PySem.Spec PyProof.Rows
/-- C(e, ..), C an exception class whose __init__ stores its parameters fs -/
def tMkX (C : Addr) (fs : List Str) (ta : TA) : L2.St → Hp → XK → Prop := fun σ H Q => ta σ H fun vs H1 => vs.length = fs.length ∧ ∀ d, H1 d = none → Q (.ref C) (some d) (upd H1 d (.xd (fs.zip vs)))
theorem relO_1 {f : Str} {v : V} {v' : Value} (r : L2.RelV v v') (y : Str) : RelO (List.lookup y [(f, v)]) (if y = f then some v' else none) := by
  by_cases h : y = f
  · subst h; simp [List.lookup]; exact r
  · have q : (y == f) = false := by simpa using h
    rw [if_neg h]
    have : List.lookup y [(f, v)] = none := by simp [List.lookup, q]
    rw [this]; trivial
theorem relO_2 {f g : Str} {v u : V} {v' u' : Value} (hfg : f ≠ g) (r : L2.RelV v v') (r2 : L2.RelV u u') (y : Str) : RelO (List.lookup y [(f, v), (g, u)]) (if y = g then some u' else if y = f then some v' else none) := by
  by_cases h : y = f
  · subst h
    rw [if_neg hfg, if_pos rfl]
    have : List.lookup y [(y, v), (g, u)] = some v := by simp [List.lookup]
    rw [this]; exact r
  · have q : (y == f) = false := by simpa using h
    by_cases h2 : y = g
    · subst h2
      rw [if_pos rfl]
      have : List.lookup y [(f, v), (y, u)] = some u := by simp [List.lookup, q]
      rw [this]; exact r2
    · have q2 : (y == g) = false := by simpa using h2
      rw [if_neg h2, if_neg h]
      have : List.lookup y [(f, v), (g, u)] = none := by simp [List.lookup, q, q2]
      rw [this]; trivial
section
variable {X : Cx} {C fI : Addr} {fs : List Str}
/-- what is left of a made exception, as the layer sees it -/
theorem mk_made {pins : List (Addr × Obj)} {σ : L2.St} {H1 : Hp} {Q : XK} {hp h' : Heap} {g : Array GenState} {dr : Drawn} {tk tk' : Nat} {os : OsState} {e d : Addr} {m : Str → Option Value} {kvs : List (Str × V)} (C' : XCls X.K C) (I1 : L2.Inv X pins σ H1 ⟨hp, g, dr, tk, os⟩) (M : XMade hp h' e C d m) (rel : ∀ y, RelO (List.lookup y kvs) (m y))
    (q : Q (.ref C) (some d) (upd H1 d (.xd kvs))) : L2N.MkP X pins σ Q (.ref e) ⟨h', g, dr, tk', os⟩ := by
  obtain ⟨oe, fv, hoe, hc, hd, hdat, h1, h2⟩ := M.obj
  have hns := M.ns
  obtain ⟨G', g1, g2⟩ := restrict h' fun b => decide (b ≠ e)
  have gk : ∀ b, b ≠ e → G'.get? b = h'.get? b := fun b hb => g1 b (decide_eq_true hb)
  have ge : G'.get? e = none := g2 e (by simp)
  have old : ∀ b o, hp.get? b = some o → G'.get? b = some o := fun b o q => (gk b (Nat.ne_of_lt (Nat.lt_of_lt_of_le (Heap.lt_size q) M.new))).trans (M.keep b o q)
  have ob : ObjOk X.prog X.w (upd H1 d (.xd kvs)) G' d (.xd kvs) := ⟨_, hns.at (fun o q => (gk d M.dne).trans q), rel⟩
  have J : L2.Inv X pins σ (upd H1 d (.xd kvs)) ⟨G', g, dr, tk', os⟩ := I1.laid (t' := tk') old M.dbig ob
  refine ⟨e, oe, fv, ⟨G', g, dr, tk', os⟩, _, .ref C, some d, rfl, J, fun b o q => ?_, ge, hoe, ⟨hc, hd, fun vs e => by rw [hdat] at e; cases e; exact h2⟩, hdat, h1, ?_, rfl, I1.bare, raises_own C'.exC C'.tyC, q⟩
  · by_cases hb : b = e
    · have q' : G'.get? b = some o := q
      rw [hb, ge] at q'; cases q'
    · exact (gk b hb).symm.trans q
  · rw [upd_ne (Ne.symm M.dne)]
    exact I1.hok.fresh M.new
theorem pmk_x1 {x f : Str} {e : Expr} {ta : TA} {p pos : Pos} {k : Nat} (C' : XCls X.K C) (T : XIni X.prog X.K C fI [f]) (hm0 : X.mg "super" = none) (hr : Room k X.A) (hg : Gl X x) (hm : X.mg x = some (.ref C)) (hdb : (x == ("__debug__" : Str)) = false) (ha : PA X [e] ta)
    (he : starEach (e :: []) X.env = (false, eval e X.env) :: starEach [] X.env) (hpl : (backTo pos (starEach [] X.env)).any (·.1) = false) : L2N.PMk X (.Call (.Name x p) [e] [] pos) (tMkX C [f] ta) := by
  intro pins s σ H Q I h
  refine wpAny_Call_Name_kw (ld_glob I hg hm ?_ hdb)
  refine PySem.W.callWith_K (h₀ := X.base) I.ok.mod.kin C'.kC (thn (ha.run pos pins s σ H _ I h) fun us s1 hh => ?_) he hpl
  obtain ⟨vs, H1, I1, r1, el, q1⟩ := hh
  refine ⟨I1.kIn, ?_⟩
  match vs, el, r1, q1 with
  | [v], _, .cons rv .nil, q1 =>
    rename_i u
    have hlim := I1.nolimit
    obtain ⟨mb, hb, hbb⟩ := I1.mod.blt
    have hg1 := I1.mod.glob.keeps I1.bk
    have hb1 := hb.keeps I1.bk
    obtain ⟨hp, g, dr, tk, os⟩ := s1
    refine wpAny_call (xi_make C' T (inits1 C' T hm0) I1.kIn hlim hg1 hb1 hbb (by have := hr.dp; omega) (by show 1 ≤ sizeLine; rw [sizeLine_eq]; omega) fun h' tk' e d M => ?_)
    exact mk_made C' I1 M (relO_1 rv) (q1 d (I1.hok.fresh M.dbig))
theorem pmk_x2 {x f g : Str} {e e2 : Expr} {ta : TA} {p pos : Pos} {k : Nat} (hfg : f ≠ g) (C' : XCls X.K C) (T : XIni X.prog X.K C fI [f, g]) (hm0 : X.mg "super" = none) (hr : Room k X.A) (hg : Gl X x) (hm : X.mg x = some (.ref C)) (hdb : (x == ("__debug__" : Str)) = false) (ha : PA X [e, e2] ta)
    (he : starEach [e, e2] X.env = (false, eval e X.env) :: starEach [e2] X.env) (hpl : (backTo pos (starEach [e2] X.env)).any (·.1) = false) : L2N.PMk X (.Call (.Name x p) [e, e2] [] pos) (tMkX C [f, g] ta) := by
  intro pins s σ H Q I h
  refine wpAny_Call_Name_kw (ld_glob I hg hm ?_ hdb)
  refine PySem.W.callWith_K (h₀ := X.base) I.ok.mod.kin C'.kC (thn (ha.run pos pins s σ H _ I h) fun us s1 hh => ?_) he hpl
  obtain ⟨vs, H1, I1, r1, el, q1⟩ := hh
  refine ⟨I1.kIn, ?_⟩
  match vs, el, r1, q1 with
  | [v, v2], _, .cons rv (.cons rv2 .nil), q1 =>
    have hlim := I1.nolimit
    obtain ⟨mb, hb, hbb⟩ := I1.mod.blt
    have hg1 := I1.mod.glob.keeps I1.bk
    have hb1 := hb.keeps I1.bk
    obtain ⟨hp, gg, dr, tk, os⟩ := s1
    refine wpAny_call (xi_make C' T (inits2 C' T hm0) I1.kIn hlim hg1 hb1 hbb (by have := hr.dp; omega) (by show 2 ≤ sizeLine; rw [sizeLine_eq]; omega) fun h' tk' e d M => ?_)
    exact mk_made C' I1 M (relO_2 hfg rv rv2) (q1 d (I1.hok.fresh M.dbig))
/-- C(), C without own __init__ -/
theorem pmk_x0 {x : Str} {p pos : Pos} (C' : XCls X.K C) (iC : ∃ B newId initId bmB, BaseX B newId initId bmB ∧ PySem.W.excInitIn X.K C bmB newId = true ∧ PySem.W.findIn X.K (.ref C) "__init__" = some (some (.builtin initId))) (hg : Gl X x) (hm : X.mg x = some (.ref C)) (hdb : (x == ("__debug__" : Str)) = false) : L2N.PMk X (.Call (.Name x p) [] [] pos) (fun _ H Q => Q (.ref C) none H) := by
  intro pins s σ H Q I h
  refine wpAny_Call_Name_kw (ld_glob I hg hm ?_ hdb)
  refine PySem.W.callWith_K0 I.kIn C'.kC ?_
  obtain ⟨B, newId, initId, bmB, BX, q1, q2⟩ := iC
  obtain ⟨nm, N', qn, bs, bm, hdct, sn, sub, ab, col, dd, k0, k1, k2, k3, k5, hC, hT⟩ := PySem.W.excInit_of I.kIn q1
  have fr : ∀ n, s.heap.get? (s.heap.objs.size + n) = none := fun n => Heap.get?_none_of_le (Nat.le_add_right _ _)
  have nH : H (s.heap.objs.size + 1) = none := I.hok.fresh (Nat.le_succ _)
  have KX := I.kIn
  obtain ⟨hp, g, dr, tk, os⟩ := s
  refine PySem.W.call_B BX.F hT hC (PySem.W.looks_findIn KX q2) (by simp) fun h' k he ht => ?_
  exact ⟨_, _, _, ⟨hp, g, dr, tk, os⟩, H, .ref C, none, rfl, I, k, fr 1, he, ⟨rfl, rfl, fun vs e => by cases e; rfl⟩, rfl, rfl, nH, rfl, I.bare, raises_own C'.exC C'.tyC, h⟩
end
section
variable {T : Tab} {n : Nat} {X : Cx} {W : WX} {pos : Pos}
theorem evE_exc {P : Prog} {C : Cal} {r : D → Option Str} {c : Nat} {ns : List Nat} {es : Es} {ρ : Env} {μ : Mem} : evE P C r (.exc c ns es) ρ μ = (evEs P C r es ρ μ).bind fun l μ => if l.length = ns.length then .ok (.exc c ns l) μ else .no := by simp only [evE]
/-- raise C(e, ..) -/
theorem ss_rai {x : Expr} {c : Nat} {ns : List Nat} {es : Es} {fs : List Str} (hc : X.calm = true) (tk : Takes X W) (hf : fs = ns.map T.an) (pm : L2N.PMk X x (tMkX (T.ca c) fs (tEs T n X.K W es))) : SS T n X W (.Raise (some x) none pos) (.rai (.exc c ns es)) := by
  subst hf
  refine PS.imp (L2N.ps_raise hc tk pm) fun D σ H q => ?_
  obtain ⟨a, ρ, μ, ho, q⟩ := q
  simp only [evS] at q
  have q := q.seR
  rw [evE_exc] at q
  refine ⟨a, ρ, μ, ho, q.bind.mono (fun l μ1 q1 b vs H1 st ho1 r => ?_) fun _ _ k => k.kx⟩
  split at q1
  · rename_i hl
    obtain ⟨c', ns', vs', e, k⟩ := q1
    cases e
    refine ⟨by rw [← r.length, hl, List.length_map], fun d hd => ?_⟩
    obtain ⟨ho2, st2⟩ := ho1.freeze (o := .xd ((ns.map T.an).zip vs)) hd
    exact k _ _ vs σ _ (st.trans st2) ho2 (Reps.mono st2.le _ _ r) (by rw [← hl, r.length]) (.inl ⟨d, rfl, upd_same⟩)
  · exact q1.elim
end
end DI
end

section
set_option Elab.async false
set_option linter.all false
set_option maxRecDepth 100000
namespace DI
open PySem L2 PySem.Spec PyProof.Rows
/-- the test of an except clause: a class, or two, or three -/
inductive TestOk (X : Cx) : Expr → List Value → Prop
  | one {x : Str} {c : Value} {p : Pos} (h : Names X x c) : TestOk X (.Name x p) [c]
  | two {x y : Str} {c d : Value} {p q r : Pos} {k : Nat} (h : Names X x c) (g : Names X y d) : TestOk X (.Tuple [.Name x p, .Name y q] k r) [c, d]
  | three {x y z : Str} {c d e : Value} {p q u r : Pos} {k : Nat} (h : Names X x c) (g : Names X y d) (i : Names X z e) : TestOk X (.Tuple [.Name x p, .Name y q, .Name z u] k r) [c, d, e]
abbrev TSx := Addr → Value → Option Addr → TS
/-- an except clause -/
structure ClauseT where
  cs : List Value
  nm : Option Nat
  ts : TSx
def ends_as (i : Nat) (D : Ends) : Ends := { nx := fun σ' H' => D.nx (σ'.set i none) H', rt := D.rt, bk := fun σ' H' => D.bk (σ'.set i none) H', ct := fun σ' H' => D.ct (σ'.set i none) H' }
/-- what the clauses wish of an exception of the body, one after the other -/
def wTry (K : PySem.W.Frag) (Wout : WX) (D : Ends) : List ClauseT → WX
  | [] => Wout
  | q :: r => fun cls d σ H => ∃ b, PySem.W.exmAny K cls q.cs = some b ∧ (b = true → ∀ a, H a = none → match q.nm with
      | none => q.ts a cls d D σ H
      | some i => q.ts a cls d (ends_as i D) (σ.set i (some (.ref a))) H) ∧ (b = false → wTry K Wout D r cls d σ H)
inductive HdsT (X : Cx) : List ExceptHandler → List ClauseT → Prop
  | nil : HdsT X [] []
  | cons {tx : Expr} {cs : List Value} {ts : TSx} {b₀ : Stmt} {suite : List Stmt} {pos' : Pos} {hds : List ExceptHandler} {l : List ClauseT} (hc : TestOk X tx cs)
      (hsu : ∀ (a : Addr) (oe : Obj) (cls : Value) (d : Option Addr) (pn : List (Addr × Obj)), L2N.Zn cls d oe → (∃ vs, oe.data = .fields vs) → PSs (X.suite a ((a, oe) :: pn)) (b₀ :: suite) (ts a cls d)) (r : HdsT X hds l) :
      HdsT X (.ExceptHandler (some tx) none (b₀ :: suite) pos' :: hds) (⟨cs, none, ts⟩ :: l)
  | consAs {tx : Expr} {n : Str} {i : Nat} {cs : List Value} {ts : TSx} {b₀ : Stmt} {suite : List Stmt} {pos' : Pos} {hds : List ExceptHandler} {l : List ClauseT} (hi : X.N[i]? = some n) (hln : X.env.kindOf n = some .local) (hc : TestOk X tx cs)
      (hsu : ∀ (a : Addr) (oe : Obj) (cls : Value) (d : Option Addr) (pn : List (Addr × Obj)), L2N.Zn cls d oe → (∃ vs, oe.data = .fields vs) → PSs (X.suite a ((a, oe) :: pn)) (b₀ :: suite) (ts a cls d)) (r : HdsT X hds l) :
      HdsT X (.ExceptHandler (some tx) (some n) (b₀ :: suite) pos' :: hds) (⟨cs, some i, ts⟩ :: l)
section
variable {X : Cx} {body : List Stmt} {h₀ : ExceptHandler} {hds : List ExceptHandler} {l : List ClauseT} {pos : Pos} {tb : WX → TS} {Wout : WX}
theorem flying_keeps {B h h' : Heap} {fs : List PySem.Env} {a : Addr} {Z : Obj → Prop} (f : HandSPX.FlyingZ B fs a Z h) (k : ∀ b o, h.get? b = some o → h'.get? b = some o) : HandSPX.FlyingZ B fs a Z h' := by
  obtain ⟨k1, k2, k3, oe, vs, T, oT, ts, he, hz, hd, h1, hn, hne, hT, hdT, h3⟩ := f
  exact ⟨fun b o e => k b o (k1 b o e), k2, Heap.FunFrames.of_keeps (fun b o e _ => ⟨o, k b o e, rfl⟩) k3, oe, vs, T, oT, ts, k _ _ he, hz, hd, h1, hn, hne, k _ _ hT, hdT, h3⟩
/-- the test, and whether it fits -/
theorem test_run {Y : Cx} {pins : List (Addr × Obj)} {σ : L2.St} {H : Hp} {s : Shared} {tx : Expr} {cs : List Value} {cls : Value} {a : Addr} {b : Bool} {Q : Bool → Shared → Prop} {E : Value → Shared → Prop} (I : L2.Inv Y pins σ H s) (hc : TestOk Y tx cs) (LT : PySem.W.Looks (model Y.prog Y.w) s.heap (typeOf (.ref a)) cls) (hb : PySem.W.exmAny Y.K cls cs = some b)
    (h : ∀ s', (∃ h' tk, s' = { s with heap := h', toks := tk } ∧ ∀ b o, s.heap.get? b = some o → h'.get? b = some o) → Q b s') :
    wpAny (model Y.prog Y.w) Y.A (eval tx Y.env) (fun v s1 => wpAny (model Y.prog Y.w) Y.A (excMatches (.ref a) v) Q E s1) E s := by
  have nm : ∀ {x : Str} {c : Value} {p : Pos} {Q' : Value → Shared → Prop} {s1 : Shared}, L2.Inv Y pins σ H s1 → Names Y x c → Q' c s1 → wpAny (model Y.prog Y.w) Y.A (eval (.Name x p) Y.env) Q' E s1 := fun {x c p Q' s1} J hn q => by
    obtain ⟨hg, hdbg, hm | ⟨hm, hv, hnn⟩⟩ := hn
    · exact ld_glob J hg hm q hdbg
    · exact ld_blt J hg hm hv q hnn hdbg
  have same : ∃ h' tk, s = { s with heap := h', toks := tk } ∧ ∀ b o, s.heap.get? b = some o → h'.get? b = some o := ⟨s.heap, s.toks, rfl, fun _ _ e => e⟩
  cases hc with
  | one hn =>
    obtain ⟨b1, d1, h1, h2, rfl⟩ := PySem.W.exmAny_cons hb
    cases h2
    refine nm I hn ((PySem.W.exm_one I.kIn LT h1).here ?_)
    rw [Bool.or_false] at h
    exact h s same
  | @two x1 x2 c1 c2 _ _ _ _ hn gn =>
    refine Tuple_ ?_
    refine Calls.spliced_cons (nm I hn (Calls.spliced_cons (nm I gn (Calls.spliced_nil ?_))))
    refine wpAny_newObj_type ?_ (by show 2 ≤ sizeLine; decide)
    have e := Heap.get?_push_size s.heap (o := { cls := .type "tuple", data := .seq [c1, c2].toArray }) rfl
    have k : ∀ b o, s.heap.get? b = some o → (s.heap.push { cls := .type "tuple", data := .seq [c1, c2].toArray }).get? b = some o := fun b o z => Heap.get?_push_of_some _ z
    refine (PySem.W.exm_tup2 (I.kIn.keeps k) (LT.keeps k) e hb).here ?_
    exact h _ ⟨_, s.toks, rfl, k⟩
  | @three x1 x2 x3 c1 c2 c3 _ _ _ _ _ hn gn jn =>
    refine Tuple_ ?_
    refine Calls.spliced_cons (nm I hn (Calls.spliced_cons (nm I gn (Calls.spliced_cons (nm I jn (Calls.spliced_nil ?_))))))
    refine wpAny_newObj_type ?_ (by show 3 ≤ sizeLine; decide)
    have e := Heap.get?_push_size s.heap (o := { cls := .type "tuple", data := .seq [c1, c2, c3].toArray }) rfl
    have k : ∀ b o, s.heap.get? b = some o → (s.heap.push { cls := .type "tuple", data := .seq [c1, c2, c3].toArray }).get? b = some o := fun b o z => Heap.get?_push_of_some _ z
    refine (PySem.W.exm_tup3 (I.kIn.keeps k) (LT.keeps k) e hb).here ?_
    exact h _ ⟨_, s.toks, rfl, k⟩
theorem testOk_suite {tx : Expr} {cs : List Value} {a : Addr} {pn : List (Addr × Obj)} (h : TestOk X tx cs) : TestOk (X.suite a pn) tx cs := by
  cases h with
  | one h => exact .one h
  | two h g => exact .two h g
  | three h g i => exact .three h g i
theorem ps_tryD (hs : X.stack = X.env :: X.outer) (hf : X.env.frame = some X.env.locals) (hN : X.N.Nodup) (tk : Takes X Wout)
    (hb : ∀ (W : WX) (pn : List (Addr × Obj)) (xe : Value → Shared → Prop), Takes (X.tr pn xe) W → PassesOwn (model X.prog X.w) X.A X.env xe → PSs (X.tr pn xe) body (tb W))
    (hh : HdsT X (h₀ :: hds) l) : PS X (.Try body (h₀ :: hds) [] [] pos) (fun D σ H => tb (wTry X.K Wout D l) D σ H) := by
  refine ⟨fun pins s σ H D I h => ?_⟩
  have ok := I.ok
  have hfr : X.A.frames = some (X.env :: X.outer) := by rw [ok.frames, hs]
  refine wpAny_Try_except ?_
  refine wpAny_mono ((hb (wTry X.K Wout D l) (X.pn ++ pins) (fun e s₁ => wpAny (model X.prog X.w) X.A (noteFrame e X.env) (fun _ s₂ => wpAny (model X.prog X.w) X.A (setFlight e none) (fun _ s₃ =>
    wpAny (model X.prog X.w) X.A (handleBy e X.env (h₀ :: hds)) (SP X pins D) X.xe s₃) X.xe s₂) X.xe s₁) (fun u s' xx => ?_) PassesOwn.looking).run [] s σ H D (I.toTry _) h) (fun f s1 hsp => ?_) (fun e s1 he => he)
  · -- the catch
    obtain ⟨a, B, sI, pins', σ', H', cls, d, rfl, J', nb, up, sky, na, os, ag, w⟩ := xx
    have J : L2.Inv X pins σ' H' sI := J'.ofTry ok
    have sky' : Sky B (X.env :: X.outer) a (L2N.Zn cls d) X.env.locals s'.heap := by rw [← hs]; exact sky
    show wpAny (model X.prog X.w) X.A (noteFrame (.ref a) X.env) _ _ _
    refine L2N.Sky.land L2N.Zn.steady hfr hf sky' fun h3 fl3 up3 => ?_
    have nfr : a ∉ frs (X.env :: X.outer) := fun hm => by
      obtain ⟨oe, vs, he, hz, hd⟩ := fl3.there
      obtain ⟨_, o', e', hnf⟩ := fl3.2.2.1.mem hm
      rw [he] at e'; cases e'
      exact hnf _ hd
    have nL : a ≠ X.env.locals := fun z => nfr (List.mem_filterMap.mpr ⟨X.env, List.mem_cons_self, by rw [hf, z]⟩)
    have nF : a ∉ X.fs := fun hm => by
      obtain ⟨e, he, q⟩ := List.mem_filterMap.mp hm
      exact nfr (List.mem_filterMap.mpr ⟨e, List.mem_cons_of_mem _ he, q⟩)
    have go : ∀ {hds' : List ExceptHandler} {l' : List ClauseT}, HdsT X hds' l' → wTry X.K Wout D l' cls d σ' H' → ∀ (g3 : Heap) (tk3 : Nat), HandSPX.FlyingZ B (X.env :: X.outer) a (L2N.Zn cls d) g3 → sI.heap.UpToSlots g3 →
        wpAny (model X.prog X.w) X.A (handleBy (.ref a) X.env hds') (SP X pins D) X.xe { s' with heap := g3, toks := tk3 } := by
      intro hds' l' hk
      induction hk with
      | nil =>
        intro w g3 tk3 fl3 up3
        refine wpAny_handleBy_nil ?_
        obtain ⟨k1, k2, k3, oe, vs, T, oT, ts', he, hz, hd, h1, hr⟩ := id fl3
        unfold PySem.passOn
        refine wpAny_bind (wpAny_field he hd h1 ?_)
        rw [if_neg (show ¬ ((Value.ref T == Value.none) = true) from by simp)]
        have fin : wpAny (model X.prog X.w) X.A (setFlight (.ref a) X.env.frame) (fun _ s4 => wpAny (model X.prog X.w) X.A (throw (.ref a) : Sem Flow) (SP X pins D) X.xe s4) X.xe { s' with heap := g3, toks := tk3 } := by
          rw [hf]
          refine HandSPX.setFlight_upZ fl3 fun h4 hh4 up4 => wpAny_throw (tk _ _ ?_)
          exact ⟨a, B, sI, pins, σ', H', cls, d, rfl, J, nb, up3.trans up4, .inr (.inr (by rw [hs]; exact hh4)), na, os, ag, w⟩
        first
          | exact wpAny_bind (wpAny_pure (wpAny_bind fin))
          | exact wpAny_bind fin
      | @cons tx cs ts b₀ suite pos' hds2 l2 hc hsu r ih =>
        intro w g3 tk3 fl3 up3
        obtain ⟨b, hb1, hyes, hno⟩ := w
        refine wpAny_handleBy_cons (codeAny_handlers_test ?_) (by intro q; cases q)
        have J3 : L2.Inv X pins σ' H' { s' with heap := g3, toks := tk3 } := J.landed nb fl3.1 up3 os ag
        obtain ⟨oe3, vs3, he3, hz3, hd3⟩ := fl3.there
        have S3 := J3.suite he3 hd3 na nL nF
        have LT : PySem.W.Looks (model X.prog X.w) g3 (typeOf (.ref a)) cls := fun A Q E s k q => wpAny_typeOf_ref (k _ _ he3) (by rw [hz3.1]; exact q)
        refine test_run (Y := X.suite a ((a, oe3) :: (X.pn ++ pins))) S3 (testOk_suite hc) LT hb1 ?_
        rintro s9 ⟨g9, tk9, rfl, k9⟩
        have fl9 := flying_keeps fl3 k9
        have up9 : sI.heap.UpToSlots g9 := up3.trans (Heap.UpToSlots.of_keeps k9)
        cases b with
        | true =>
          refine codeAny_handlers_suite ?_
          refine HandSPX.lands_againZ fl9 fun h4 fl4 up4 => ?_
          have J4 : L2.Inv X pins σ' H' { s' with heap := h4, toks := tk9 } := J.landed nb fl4.1 (up9.trans up4) os ag
          obtain ⟨oe4, vs4, he4, hz4, hd4⟩ := fl4.there
          have S4 := J4.suite he4 hd4 na nL nF
          refine wpAny_mono ((hsu a oe4 cls d (X.pn ++ pins) hz4 ⟨_, hd4⟩).run [] _ _ H' _ S4 (hyes rfl a na)) (fun f s6 hsp => ?_) (fun _ _ z => False.elim z)
          cases f with
          | next =>
            obtain ⟨σ6, H6, S6, q6⟩ := hsp
            exact ⟨_, _, S6.unsuite ok, q6⟩
          | brk =>
            obtain ⟨σ6, H6, S6, q6⟩ := hsp
            exact ⟨_, _, S6.unsuite ok, q6⟩
          | cont =>
            obtain ⟨σ6, H6, S6, q6⟩ := hsp
            exact ⟨_, _, S6.unsuite ok, q6⟩
          | ret u =>
            obtain ⟨v6, σ6, H6, S6, r6, q6⟩ := hsp
            exact ⟨_, _, _, S6.unsuite ok, r6, q6⟩
        | false =>
          show wpAny _ X.A (handleBy (.ref a) X.env hds2) _ _ _
          exact ih (hno rfl) g9 tk9 fl9 up9
      | @consAs tx n i cs ts b₀ suite pos' hds2 l2 hi hln hc hsu r ih =>
        intro w g3 tk3 fl3 up3
        have hloc : Loc X.env.scope n := .inl hln
        obtain ⟨b, hb1, hyes, hno⟩ := w
        refine wpAny_handleBy_cons (codeAny_handlers_test ?_) (by intro q; cases q)
        have J3 : L2.Inv X pins σ' H' { s' with heap := g3, toks := tk3 } := J.landed nb fl3.1 up3 os ag
        obtain ⟨oe3, vs3, he3, hz3, hd3⟩ := fl3.there
        have S3 := J3.suite he3 hd3 na nL nF
        have LT : PySem.W.Looks (model X.prog X.w) g3 (typeOf (.ref a)) cls := fun A Q E s k q => wpAny_typeOf_ref (k _ _ he3) (by rw [hz3.1]; exact q)
        refine test_run (Y := X.suite a ((a, oe3) :: (X.pn ++ pins))) S3 (testOk_suite hc) LT hb1 ?_
        rintro s9 ⟨g9, tk9, rfl, k9⟩
        have fl9 := flying_keeps fl3 k9
        have up9 : sI.heap.UpToSlots g9 := up3.trans (Heap.UpToSlots.of_keeps k9)
        cases b with
        | true =>
          refine codeAny_handlers_suite_as ?_
          refine HandSPX.lands_againZ fl9 fun h4 fl4 up4 => ?_
          have J4 : L2.Inv X pins σ' H' { s' with heap := h4, toks := tk9 } := J.landed nb fl4.1 (up9.trans up4) os ag
          obtain ⟨oe4, vs4, he4, hz4, hd4⟩ := fl4.there
          have S4 := J4.suite he4 hd4 na nL nF
          refine store_ok (X := X.suite a ((a, oe4) :: (X.pn ++ pins))) (v := .ref a) S4 hN hi hloc rfl (fun s5 S5 => ?_) (.inr hln)
          refine wpAny_mono ((hsu a oe4 cls d (X.pn ++ pins) hz4 ⟨_, hd4⟩).run [] s5 _ H' _ S5 (hyes rfl a na)) (fun f s6 hsp => ?_) (fun _ _ z => False.elim z)
          have end_ : ∀ {σ6 : L2.St} {H6 : Hp} {Q : Shared → Prop}, L2.Inv (X.suite a ((a, oe4) :: (X.pn ++ pins))) [] σ6 H6 s6 → (∀ s7, L2.Inv X pins (σ6.set i none) H6 s7 → Q s7) →
              wpAny (model X.prog X.w) X.A (do bindName X.env n .none; unbindBehindTheSuite X.env n pos') (fun _ s7 => Q s7) X.xe s6 := fun {σ6 H6 Q} S6 hq => gone_ok (S6.unsuite ok) hN hi hln hq
          cases f with
          | next =>
            obtain ⟨σ6, H6, S6, q6⟩ := hsp
            exact end_ S6 fun s7 J7 => ⟨_, _, J7, q6⟩
          | brk =>
            obtain ⟨σ6, H6, S6, q6⟩ := hsp
            exact end_ S6 fun s7 J7 => ⟨_, _, J7, q6⟩
          | cont =>
            obtain ⟨σ6, H6, S6, q6⟩ := hsp
            exact end_ S6 fun s7 J7 => ⟨_, _, J7, q6⟩
          | ret u =>
            obtain ⟨v6, σ6, H6, S6, r6, q6⟩ := hsp
            exact end_ S6 fun s7 J7 => ⟨_, _, _, J7, r6, q6⟩
        | false =>
          show wpAny _ X.A (handleBy (.ref a) X.env hds2) _ _ _
          exact ih (hno rfl) g9 tk9 fl9 up9
    exact go hh w h3 s'.toks fl3 (up.trans up3)
  · cases f with
    | next =>
      obtain ⟨σ', H', J', q⟩ := hsp
      exact wpAny_execs_nil ⟨σ', H', J'.ofTry ok, q⟩
    | brk =>
      obtain ⟨σ', H', J', q⟩ := hsp
      exact ⟨σ', H', J'.ofTry ok, q⟩
    | cont =>
      obtain ⟨σ', H', J', q⟩ := hsp
      exact ⟨σ', H', J'.ofTry ok, q⟩
    | ret u =>
      obtain ⟨v, σ', H', J', r, q⟩ := hsp
      exact ⟨v, σ', H', J'.ofTry ok, r, q⟩
end
end DI
end

section
set_option Elab.async false
set_option linter.all false
set_option maxRecDepth 100000
namespace DI
open PySem L2 PySem.Spec PyProof.Rows
section
variable {T : Tab} {K : PySem.W.Frag} {a : Abs} {e : Option (Nat × Addr × Value × Option Addr)} {c : Option (Addr × Addr × Str × Nat × List (Option V))}
mutual
theorem Rep.sp : ∀ (d : D) (v : V), Rep T K a d v → Rep (T.sp e c) K a d v
  | .non, _, x => by simpa only [Rep] using x
  | .bl _, _, x => by simpa only [Rep] using x
  | .int _, _, x => by simpa only [Rep] using x
  | .str _, _, x => by simpa only [Rep] using x
  | .tup l, _, x => by
    simp only [Rep] at x ⊢
    obtain ⟨p, vs, e, s, r⟩ := x
    exact ⟨p, vs, e, s, Reps.sp l vs r⟩
  | .key l, _, x => by
    simp only [Rep] at x ⊢
    obtain ⟨p, vs, e, s, r⟩ := x
    exact ⟨p, vs, e, s, Reps.sp l vs r⟩
  | .lst l, _, x => by
    simp only [Rep] at x ⊢
    obtain ⟨p, vs, e, s, r⟩ := x
    exact ⟨p, vs, e, s, Reps.sp l vs r⟩
  | .rol l, _, x => by
    simp only [Rep] at x ⊢
    obtain ⟨p, vs, e, s, r⟩ := x
    exact ⟨p, vs, e, s, Reps.sp l vs r⟩
  | .dct t ks vs, _, x => by
    simp only [Rep] at x ⊢
    obtain ⟨p, ws, e, r, hl, s⟩ := x
    exact ⟨p, ws, e, Reps.sp vs ws r, hl, s⟩
  | .ins c ns fs, _, x => by
    simp only [Rep] at x ⊢
    obtain ⟨p, dx, ws, e, g, g2, hl, r⟩ := x
    exact ⟨p, dx, ws, e, g, g2, hl, Reps.sp fs ws r⟩
  | .exc _ _ _, _, x => by simp only [Rep] at x
  | .cls _, _, x => by simpa only [Rep] using x
  | .fn _, _, x => by simpa only [Rep] using x
  | .clo _ _, _, x => by simp only [Rep] at x
  | .xv c ns fs, _, x => by
    simp only [Rep] at x ⊢
    obtain ⟨p, dd, ws, e, g, hl, hx, r⟩ := x
    exact ⟨p, dd, ws, e, g, hl, hx, Reps.sp fs ws r⟩
  | .obj n, _, x => by simpa only [Rep] using x
theorem Reps.sp : ∀ (l : List D) (vs : List V), Reps T K a l vs → Reps (T.sp e c) K a l vs
  | [], _, x => by simpa only [Reps] using x
  | d :: l, _, x => by
    simp only [Reps] at x ⊢
    obtain ⟨v, ws, e, r, rs⟩ := x
    exact ⟨v, ws, e, Rep.sp d v r, Reps.sp l ws rs⟩
end
theorem ObRep.sp {H : Hp} {p : Addr} {ob : Ob} (h : ObRep T K a H p ob) : ObRep (T.sp e c) K a H p ob := by
  cases ob with
  | lst l => obtain ⟨vs, h, r⟩ := h; exact ⟨vs, h, Reps.sp l vs r⟩
  | dct t ks vs => obtain ⟨ws, r, hl, h⟩ := h; exact ⟨ws, Reps.sp vs ws r, hl, h⟩
  | ins c ns fs => obtain ⟨dx, ws, h1, h2, h3, h4, r⟩ := h; exact ⟨dx, ws, h1, h2, h3, h4, Reps.sp fs ws r⟩
theorem HolM.sp {μ : Mem} {H : Hp} (h : HolM T K a μ H) : HolM (T.sp e c) K a μ H :=
  ⟨h.le, h.len, h.nd, fun n p ob e1 e2 => let ⟨x, y⟩ := h.st n p ob e1 e2; ⟨x, y.sp⟩, h.ow, h.tb, h.tb2⟩
/-- the way back -/
theorem Rep.spr {d : D} {v : V} (h : Rep (T.sp e c) K a d v) : Rep T K a d v := Rep.sp (T := T.sp e c) (e := T.ex) (c := T.clo) d v h
theorem Reps.spr {l : List D} {vs : List V} (h : Reps (T.sp e c) K a l vs) : Reps T K a l vs := Reps.sp (T := T.sp e c) (e := T.ex) (c := T.clo) l vs h
theorem HolM.spr {μ : Mem} {H : Hp} (h : HolM (T.sp e c) K a μ H) : HolM T K a μ H := HolM.sp (T := T.sp e c) (e := T.ex) (c := T.clo) h
end
section
variable {T : Tab} {K : PySem.W.Frag} {a : Abs} {ρ : Env} {μ : Mem} {σ : L2.St} {H : Hp}
/-- the caught exception goes to slot k -/
theorem Hol.catch (h : Hol T K a ρ μ σ H) (nex : T.ex = none) {k : Nat} {p : Addr} {c : Nat} {ns : List Nat} {vs : List D} {ws : List V} {dd : Option Addr} (hl : ns.length = ws.length) (hx : XdAt T a.G ns ws dd) (r : Reps T K a vs ws) :
    Hol (T.sp (some (k, p, .ref (T.ca c), dd)) T.clo) K a (setE ρ k (.exc c ns vs)) μ (σ.set k (some (.ref p))) H := by
  refine ⟨h.m.sp, by simp [setE, h.len], fun i d e => ?_⟩
  unfold getE setE at e
  by_cases hi : k = i
  · subst hi
    by_cases hk : k < ρ.length
    · rw [List.getElem?_set_self hk] at e
      have e : .exc c ns vs = d := Option.some.inj e
      subst e
      refine ⟨.ref p, List.getElem?_set_self (by rw [← h.len]; exact hk), ?_⟩
      exact ⟨p, dd, ws, rfl, rfl, hl, hx, Reps.sp _ _ r⟩
    · rw [List.getElem?_eq_none (by rw [List.length_set]; omega)] at e
      cases e
  · rw [List.getElem?_set_ne hi] at e
    obtain ⟨v, e1, r1⟩ := h.env i d e
    refine ⟨v, by rw [List.getElem?_set_ne hi]; exact e1, ?_⟩
    unfold EnvAt at r1 ⊢
    split at r1
    · obtain ⟨_, _, _, z, _⟩ := r1
      rw [nex] at z; cases z
    · obtain ⟨p, c, q, σ, e, ev, hc, hl, r⟩ := r1
      exact ⟨p, c, q, σ, e, ev, hc, hl, fun j e he => let ⟨w, e1, r1⟩ := r j e he; ⟨w, e1, Rep.sp _ _ r1⟩⟩
    · exact Rep.sp _ _ r1
/-- .. and is let go -/
theorem Hol.uncatch (nex : T.ex = none) {k : Nat} {p : Addr} {cv : Value} {dd : Option Addr} (h : Hol (T.sp (some (k, p, cv, dd)) T.clo) K a ρ μ σ H) : Hol T K a (ρ.set k none) μ (σ.set k none) H := by
  refine ⟨h.m.spr, by simp [h.len], fun i d e => ?_⟩
  unfold getE at e
  by_cases hi : k = i
  · subst hi
    by_cases hk : k < ρ.length
    · rw [List.getElem?_set_self hk] at e
      cases e
    · rw [List.getElem?_eq_none (by rw [List.length_set]; omega)] at e
      cases e
  · rw [List.getElem?_set_ne hi] at e
    obtain ⟨v, e1, r1⟩ := h.env i d e
    refine ⟨v, by rw [List.getElem?_set_ne hi]; exact e1, ?_⟩
    unfold EnvAt at r1 ⊢
    split at r1
    · obtain ⟨_, _, _, z, _⟩ := r1
      exact (hi (congrArg Prod.fst (Option.some.inj z))).elim
    · obtain ⟨p, c, q, σ, e, ev, hc, hl, r⟩ := r1
      exact ⟨p, c, q, σ, e, ev, hc, hl, fun j e he => let ⟨w, e1, r1⟩ := r j e he; ⟨w, e1, Rep.spr r1⟩⟩
    · exact Rep.spr r1
end
/-- the clauses' tests, as the small interpreter judges them -/
def TyOk (T : Tab) (K : PySem.W.Frag) (ts : List Ty) (cs : List Value) : Prop := ∀ c ns vs μ b, isTys T.P μ (.exc c ns vs) ts = some b → PySem.W.exmAny K (.ref (T.ca c)) cs = some b
/-- except clauses -/
inductive HdsS (T : Tab) (n : Nat) (X : Cx) : List ExceptHandler → Hs → List ClauseT → Prop
  | nil : HdsS T n X [] .n []
  | cons {tx : Expr} {cs : List Value} {ts : List Ty} {b₀ : Stmt} {suite : List Stmt} {b : Ss} {pos' : Pos} {hds : List ExceptHandler} {hs : Hs} {l : List ClauseT} (hc : TestOk X tx cs) (hy : TyOk T X.K ts cs)
      (hsu : ∀ (a : Addr) (oe : Obj) (cls : Value) (d : Option Addr) (pn : List (Addr × Obj)), L2N.Zn cls d oe → (∃ vs, oe.data = .fields vs) → SSs T n (X.suite a ((a, oe) :: pn)) Wn (b₀ :: suite) b) (r : HdsS T n X hds hs l) :
      HdsS T n X (.ExceptHandler (some tx) none (b₀ :: suite) pos' :: hds) (.c ts none b hs) (⟨cs, none, fun _ _ _ => tSs T n X.K Wn b⟩ :: l)
  | consAs {tx : Expr} {x : Str} {i : Nat} {cs : List Value} {ts : List Ty} {b₀ : Stmt} {suite : List Stmt} {b : Ss} {pos' : Pos} {hds : List ExceptHandler} {hs : Hs} {l : List ClauseT} (hi : X.N[i]? = some x) (hln : X.env.kindOf x = some .local) (hc : TestOk X tx cs) (hy : TyOk T X.K ts cs)
      (hsu : ∀ (a : Addr) (oe : Obj) (cls : Value) (d : Option Addr) (pn : List (Addr × Obj)), L2N.Zn cls d oe → (∃ vs, oe.data = .fields vs) → SSs (T.sp (some (i, a, cls, d)) T.clo) n (X.suite a ((a, oe) :: pn)) Wn (b₀ :: suite) b) (r : HdsS T n X hds hs l) :
      HdsS T n X (.ExceptHandler (some tx) (some x) (b₀ :: suite) pos' :: hds) (.c ts (some i) b hs) (⟨cs, some i, fun a cls d => tSs (T.sp (some (i, a, cls, d)) T.clo) n X.K Wn b⟩ :: l)
section
variable {T : Tab} {n : Nat} {X : Cx} {W : WX} {pos : Pos}
theorem HdsS.toT {hds : List ExceptHandler} {hs : Hs} {l : List ClauseT} (h : HdsS T n X hds hs l) : HdsT X hds l := by
  induction h with
  | nil => exact .nil
  | cons hc hy hsu r ih => exact .cons hc hsu ih
  | consAs hi hln hc hy hsu r ih => exact .consAs hi hln hc hsu ih
/-- the clauses, one after the other -/
theorem hds_run (nex : T.ex = none) {hds : List ExceptHandler} {hs : Hs} {l : List ClauseT} (hh : HdsS T n X hds hs l) {D : Ends} {a : Abs} {H : Hp} {c : Nat} {ns : List Nat} {vs : List DI.D} {ρ : Env} {μ : Mem}
    (q : WpS (evH T.P (T.C n) T.reprS hs (.exc c ns vs) ρ μ) (Kn T X.K a H D) (Kr T X.K a H D) (KxS T X.K a H W)) {b : Abs} {dd : Option Addr} {ws : List V} {σ' : L2.St} {H' : Hp} (st : Stp a H b H') (ho : Hol T X.K b ρ μ σ' H') (rv : Reps T X.K b vs ws) (hl : ns.length = ws.length) (hd : XdAt T b.G ns ws dd) :
    wTry X.K W D l (.ref (T.ca c)) dd σ' H' := by
  induction hh with
  | nil =>
    simp only [evH] at q
    obtain ⟨c', ns', vs', e, k⟩ := q
    cases e
    exact k b dd ws σ' H' st ho rv hl hd
  | @cons tx cs ts b₀ suite bs pos' hds hs l hc hy hsu r ih =>
    simp only [evH] at q
    split at q
    · rename_i ht
      refine ⟨true, hy c ns vs μ true ht, fun _ p hp => ?_, fun z => nomatch z⟩
      refine ⟨b, ρ, μ, ho, ?_⟩
      cases h : evSs T.P (T.C n) T.reprS bs ρ μ with
      | nx ρ2 μ2 =>
        simp only [h] at q
        exact fun b2 σ2 H2 st2 ho2 => q b2 σ2 H2 (st.trans st2) ho2
      | rt d2 μ2 =>
        simp only [h] at q
        exact fun b2 v2 H2 st2 m2 r2 => q b2 v2 H2 (st.trans st2) m2 r2
      | ex x2 ρ2 μ2 => simp only [h] at q; exact q.elim
      | no => simp only [h] at q; exact q.elim
    · rename_i ht
      exact ⟨false, hy c ns vs μ false ht, (fun z => nomatch z), fun _ => ih q⟩
    · exact q.elim
  | @consAs tx x i cs ts b₀ suite bs pos' hds hs l hi hln hc hy hsu r ih =>
    simp only [evH] at q
    split at q
    · rename_i ht
      refine ⟨true, hy c ns vs μ true ht, fun _ p hp => ?_, fun z => nomatch z⟩
      refine ⟨b, setE ρ i (.exc c ns vs), μ, ho.catch nex hl hd rv, ?_⟩
      show WpS (evSs T.P (T.C n) T.reprS bs (setE ρ i (.exc c ns vs)) μ) _ _ _
      cases h : evSs T.P (T.C n) T.reprS bs (setE ρ i (.exc c ns vs)) μ with
      | nx ρ2 μ2 =>
        simp only [h] at q
        exact fun b2 σ2 H2 st2 ho2 => q b2 _ H2 (st.trans st2) (ho2.uncatch nex)
      | rt d2 μ2 =>
        simp only [h] at q
        exact fun b2 v2 H2 st2 m2 r2 => q b2 v2 H2 (st.trans st2) m2.spr r2.spr
      | ex x2 ρ2 μ2 => simp only [h] at q; exact q.elim
      | no => simp only [h] at q; exact q.elim
    · rename_i ht
      exact ⟨false, hy c ns vs μ false ht, (fun z => nomatch z), fun _ => ih q⟩
    · exact q.elim
theorem ss_try {body : List Stmt} {h₀ : ExceptHandler} {hds : List ExceptHandler} {l : List ClauseT} {b : Ss} {hs : Hs} (nex : T.ex = none) (hst : X.stack = X.env :: X.outer) (hf : X.env.frame = some X.env.locals) (hN : X.N.Nodup) (tk : Takes X W)
    (hb : ∀ (W' : WX) (pn : List (Addr × Obj)) (xe : Value → Shared → Prop), Takes (X.tr pn xe) W' → PassesOwn (model X.prog X.w) X.A X.env xe → SSs T n (X.tr pn xe) W' body b)
    (hh : HdsS T n X (h₀ :: hds) hs l) : SS T n X W (.Try body (h₀ :: hds) [] [] pos) (.try b hs) := by
  refine PS.imp (ps_tryD (tb := fun W' => tSs T n X.K W' b) hst hf hN tk hb hh.toT) fun D σ H q => ?_
  obtain ⟨a, ρ, μ, ho, q⟩ := q
  simp only [evS] at q
  refine ⟨a, ρ, μ, ho, ?_⟩
  cases h : evSs T.P (T.C n) T.reprS b ρ μ with
  | nx ρ2 μ2 => rw [h] at q; exact q
  | rt d2 μ2 => rw [h] at q; exact q
  | no => rw [h] at q; exact q
  | ex x2 ρ2 μ2 =>
    rw [h] at q
    cases x2 with
    | exc c ns vs =>
      simp only at q
      split at q
      · exact ⟨c, ns, vs, rfl, fun b2 dd ws σ2 H2 st ho2 rv hl hd => hds_run nex hh q st ho2 rv hl hd⟩
      · exact q.elim
    | _ => exact q.elim
end
end DI
end

section
set_option Elab.async false
set_option linter.all false
set_option maxRecDepth 100000
namespace DI
open PySem L2 PySem.Spec PyProof.Rows HotX L2H
section
variable {prog : Program} {w : World} {A : Around} {E : Value → Shared → Prop} {s : Shared}
end
section
variable {X : Cx} {pos : Pos}
end
section
variable {T : Tab} {n : Nat} {X : Cx} {W : WX} {pos : Pos}
/-- err.f in an except suite -/
theorem se_xat {a : Addr} {oe : Obj} {cls : Value} {dd : Option Addr} {pn : List (Addr × Obj)} {i f : Nat} {x nm : Str} {p : Pos} (tab : TabOk T X.K) (hn : nm = T.an f) (hz : L2N.Zn cls dd oe) (hf : ∃ vs, oe.data = .fields vs)
    (hi : X.N[i]? = some x) (hv : Vis X.env.scope x) (hd : (x == ("__debug__" : Str)) = false) (hcd : (x == ("__classdict__" : Str)) = false)
    (hb : attributeBase (.Name x p) nm X.env (eval (.Name x p) X.env) = eval (.Name x p) X.env) :
    SE (T.sp (some (i, a, cls, dd)) T.clo) n (X.suite a ((a, oe) :: pn)) W (.Attribute (.Name x p) nm pos) (.xat i f) := by
  subst hn
  refine ⟨fun pins s σ H Q I q => ?_⟩
  obtain ⟨a1, ρ, μ, ho, q⟩ := q
  simp only [evE] at q
  obtain ⟨d, hd1, q⟩ := q.of
  unfold getX at hd1
  split at hd1
  · rename_i c ns vs hg
    obtain ⟨k, hk, hd1⟩ := Option.bind_eq_some_iff.mp hd1
    split at hd1
    · rename_i hfl
      obtain ⟨xf, nof⟩ := tab.xf c k f hk hfl
      obtain ⟨v, e1, p1, d2, ws, e2, ev, hl, hx, rr⟩ := ho.env i _ hg
      have e2 : some (i, a, cls, dd) = some (i, p1, Value.ref (T.ca c), d2) := e2
      cases e2
      subst ev
      obtain ⟨w, hw, rw'⟩ := fget_zip (T := T.sp (some (i, a, .ref (T.ca c), dd)) T.clo) (X := X) tab.an hl rr hd1
      rcases hx with ⟨q', rfl, hq⟩ | ⟨rfl, rfl⟩
      · exact (pe_xf (C := T.ca c) xf nof hz.zc hf (pe_var (X := X.suite a ((a, oe) :: pn)) (pos := p) (i := i) hi hv hd hcd) hb).run pins s σ H Q I ⟨_, e1, rfl, rfl, q', _, w, rfl, ho.m.le _ _ hq, hw, q a1 w H (Stp.refl _ _) ho rw'⟩
      · simp [fget] at hd1
    · cases hd1
  · cases hd1
end
end DI
end

section
set_option Elab.async false
set_option linter.all false
set_option maxRecDepth 100000
namespace DI
open PySem L2 PySem.Spec PyProof.Rows LamX
section
variable {T : Tab} {K : PySem.W.Frag} {P : Program} {w : World} {mg : Str → Option Value} {base : Heap} {n : Nat} {e : Option (Nat × Addr × Value × Option Addr)} {c : Option (Addr × Addr × Str × Nat × List (Option V))}
theorem KxC.spr {a : Abs} {H : Hp} {E : XK} {x : DI.D} {μ : Mem} (k : KxC (T.sp e c) K a H E x μ) : KxC T K a H E x μ := by
  obtain ⟨c, ns, vs, e, k⟩ := k
  exact ⟨c, ns, vs, e, fun b dd ws H' st hm rv hl hd => k b dd ws H' st hm.sp (Reps.sp _ _ rv) hl hd⟩
theorem KxC.sp {a : Abs} {H : Hp} {E : XK} {x : DI.D} {μ : Mem} (k : KxC T K a H E x μ) : KxC (T.sp e c) K a H E x μ := KxC.spr (T := T.sp e c) (e := T.ex) (c := T.clo) k
theorem spD.spr {f : Nat} {vs : List V} {H : Hp} {Q : VK} {E : XK} (h : spD (T.sp e c) K n f vs H Q E) : spD T K n f vs H Q E := by
  obtain ⟨a, μ, ds, m, r, q⟩ := h
  exact ⟨a, μ, ds, m.spr, r.spr, q.mono (fun d μ' k b v H' st hm rr => k b v H' st hm.sp (Rep.sp _ _ rr)) fun x μ' k => k.spr⟩
theorem FnG.spS {qt : Bool} {k : Nat} {f : Addr} {fd : FuncData} {ps : List Str} {i : Nat} (F : FnG P w K mg base qt k f fd ps (spD T K n i)) : FnG P w K mg base qt k f fd ps (spD (T.sp e c) K n i) :=
  ⟨fun vs H Q E h => F.len vs H Q E h.spr, fun A outer s H args us vs Q E hr hg e0 hb r h => F.run A outer s H args us vs Q E hr hg e0 hb r h.spr⟩
theorem BindOk.spS {fd : FuncData} {ps : List Str} {F : Fn} {m : Nat} {ix : List Nat} {ks : List Str} (B : BindOk T K fd ps F m ix ks) : BindOk (T.sp e c) K fd ps F m ix ks := by
  obtain ⟨g, gV, kb, rel⟩ := B.ex
  exact ⟨g, gV, kb, fun a args vs kv zs ds r rz l1 l2 hb => Reps.sp _ _ (rel a args vs kv zs ds r.spr rz.spr l1 l2 hb)⟩
theorem FnsOk.spS (F : FnsOk T P w K mg base n) : FnsOk (T.sp e c) P w K mg base n := fun f Fd hF => by
  obtain ⟨fd, ps, Fo, kp, fn, hB⟩ := (F f Fd hF).ex
  exact ⟨fd, ps, Fo.spS, kp, fn, fun m ix ks hf => (hB m ix ks hf).spS⟩
theorem TabOk.spS (t : TabOk T K) : TabOk (T.sp e c) K := ⟨t.sysm, t.an, t.meth, t.prop, t.fld, t.init, t.xf, t.spec, t.nosp, t.spx⟩
end
section
variable {T : Tab} {n : Nat} {X : Cx} {W : WX}
/-- the context of a lambda's body -/
abbrev lamCxN (X : Cx) (A : Around) (outer : List PySem.Env) (s : Shared) (H : Hp) (E : XK) (scope : Scope) (f c' : Addr) : Cx :=
  (lamCx X A outer s H E scope f c').wish fun e s' => wpAny (model X.prog X.w) (A.deeper (lamEnv X scope s.heap.objs.size f c')) (leaving (lamEnv X scope s.heap.objs.size f c') e) (fun _ s'' => L2N.CX X.prog X.w outer H s E e s'') (fun e' s'' => L2N.CX X.prog X.w outer H s E e' s'') s'
end
end DI
end

section
set_option Elab.async false
set_option linter.all false
set_option maxRecDepth 100000
namespace DI
open PySem L2 PySem.Spec PyProof.Rows LamX
/-- the heap behind the making of a lambda -/
structure LamH (H H1 : Hp) (P c' : Addr) (q : Str) : Prop where
  keep : ∀ p o, p ≠ P → H p = some o → H1 p = some o
  tab : ∃ ps, H P = some (.tbl ps)
  tab1 : ∃ ps, H1 P = some (.tbl ps)
  new : ∀ p o, H1 p = some o → p ≠ P → p ≠ c' → H p = some o
  code : H1 c' = some (CodeO c' q)
theorem LamH.ne {H H1 : Hp} {P c' : Addr} {q : Str} (L : LamH H H1 P c' q) {p : Addr} {o : HO} (e : H p = some o) (n : ∀ ps, o ≠ .tbl ps) : p ≠ P := fun z => by
  obtain ⟨ps, e2⟩ := L.tab
  rw [z, e2] at e; exact n ps (Option.some.inj e).symm
theorem LamH.dom {H H1 : Hp} {P c' : Addr} {q : Str} (L : LamH H H1 P c' q) {p : Addr} (e : H1 p = none) : H p = none := by
  cases h : H p with
  | none => rfl
  | some o =>
    by_cases z : p = P
    · obtain ⟨ps, e2⟩ := L.tab1
      rw [z, e2] at e; cases e
    · rw [L.keep _ _ z h] at e; cases e
/-- .. its code object is frozen -/
theorem HolM.lam {T : Tab} {K : PySem.W.Frag} {a : Abs} {μ : Mem} {H H1 : Hp} {P c' : Addr} {q : Str} (m : HolM T K a μ H) (L : LamH H H1 P c' q) (T1 : Tabs T.tbs H1) (gP : a.G P = none) : ∃ b, Stp a H b H1 ∧ HolM T K b μ H1 ∧ b.G c' = some (CodeO c' q) := by
  have le1 : ∀ p o, a.G p = some o → H1 p = some o := fun p o e => L.keep _ _ (fun z => by rw [z, gP] at e; cases e) (m.le _ _ e)
  have st1 : ∀ (n : Nat) (p : Addr) (ob : Ob), a.α[n]? = some p → (μ : List Ob)[n]? = some ob → a.G p = none ∧ ObRep T K a H1 p ob := fun n p ob e1 e2 => by
    obtain ⟨g, r⟩ := m.st n p ob e1 e2
    refine ⟨g, r.keep a.le_refl (fun x u e hx => L.keep _ _ (L.ne e ?_) e) fun x h _ => h⟩
    rcases hx with rfl | rfl
    · exact (r.noTE _ e).1
    · exact fun ps z => by cases z
  have ow1 : ∀ q p, H1 q = some (.own p) → H q = some (.own p) := fun q p e => L.new _ _ e (fun z => by obtain ⟨ps, e2⟩ := L.tab1; rw [z, e2] at e; cases e) (fun z => by rw [z, L.code] at e; cases e)
  have m1 : HolM T K a μ H1 := ⟨le1, m.len, m.nd, st1, fun q p e z => m.ow q p (ow1 q p e) (L.dom z), T1, m.tb2⟩
  have na : c' ∉ a.α := fun h => by
    obtain ⟨i, hi⟩ := List.mem_iff_getElem?.mp h
    obtain ⟨ob, _, _, r⟩ := m1.at hi
    exact (r.noTE _ L.code).2 _ rfl
  have frame : ∀ p o, H p = some o → a.G p = none → p ∉ a.α → ¬ IsTE o → H1 p = some o ∧ a.G p = none ∧ p ∉ a.α := fun p o e1 e2 e3 nt => ⟨L.keep _ _ (L.ne e1 fun ps z => nt (.inl ⟨ps, z⟩)) e1, e2, e3⟩
  have tl : ∀ p o, H p = some o → IsTE o → ∃ o', H1 p = some o' ∧ IsTE o' := fun p o e t => by
    by_cases z : p = P
    · obtain ⟨qs, e2⟩ := L.tab1
      exact ⟨_, by rw [z]; exact e2, .inl ⟨_, rfl⟩⟩
    · exact ⟨_, L.keep _ _ z e, t⟩
  cases hg : a.G c' with
  | some o =>
    have e := le1 _ _ hg
    rw [L.code] at e; cases e
    exact ⟨a, ⟨a.le_refl, fun p e => L.dom e, frame, tl⟩, m1, hg⟩
  | none =>
    obtain ⟨m2, le⟩ := m1.freezeAt L.code hg na (fun _ z => by cases z) (fun _ z => by cases z)
    refine ⟨_, ⟨le, fun p e => L.dom e, fun p o e1 e2 e3 nt => ?_, tl⟩, m2, upd_same⟩
    obtain ⟨x, y, z⟩ := frame p o e1 e2 e3 nt
    have hp : p ≠ c' := fun hz => nt (.inr ⟨_, by rw [hz, L.code] at x; exact (Option.some.inj x).symm⟩)
    exact ⟨x, (upd_ne hp).trans y, z⟩
section
variable {X : Cx} {pins : List (Addr × Obj)} {σ : L2.St} {H : Hp} {s : Shared}
end
section
variable {T : Tab} {n : Nat} {X : Cx} {W : WX} {pos : Pos}
/-- what the body of a def that takes a lambda is to show -/
def BodyOkT (T : Tab) (P : Program) (w : World) (K : PySem.W.Frag) (mg : Str → Option Value) (base : Heap) (n : Nat) (N : List Str) (qual : Str) (scope : Scope) (f : Addr) (nm : Str) (body : List Stmt) (b : Ss) : Prop :=
  ∀ (clo : Option (Addr × Addr × Str × Nat × List (Option V))) (A : Around) (outer : List PySem.Env) (s : Shared) (H : Hp) (E : XK) (W : WX), Own (T.sp none clo) n (cxOf (L2N.CX P w) P w K mg base N qual scope f (cdOf K f) A outer s H E) → Takes (cxOf (L2N.CX P w) P w K mg base N qual scope f (cdOf K f) A outer s H E) W →
    (∀ (p1 p2 : Pos) (pn : List (Addr × Obj)) (xe : Value → Shared → Prop) (W' : WX), Takes ((cxOf (L2N.CX P w) P w K mg base N qual scope f (cdOf K f) A outer s H E).tr pn xe) W' → SE (T.sp none clo) n ((cxOf (L2N.CX P w) P w K mg base N qual scope f (cdOf K f) A outer s H E).tr pn xe) W' (.Call (.Name nm p1) [] [] p2) (.app 0 .n)) →
    SSs (T.sp none clo) n (cxOf (L2N.CX P w) P w K mg base N qual scope f (cdOf K f) A outer s H E) W body b
/-- no lambda at hand: nothing is called -/
theorem se_app0 (ncl : T.clo = none) {i : Nat} {x : Expr} : SE T n X W x (.app i .n) := by
  refine ⟨fun pins s σ H Q I h => ?_⟩
  obtain ⟨a2, ρ2, μ2, ho2, q2⟩ := h
  simp only [evE, evEs, R.bind_ok] at q2
  split at q2
  · rename_i hg
    obtain ⟨v, hs, p, c, q, σ0, ec, _⟩ := ho2.env i _ hg
    rw [ncl] at ec; cases ec
  · exact q2.elim
theorem BodyOkT.plain {P : Program} {w : World} {K : PySem.W.Frag} {mg : Str → Option Value} {base : Heap} {N : List Str} {qual : Str} {scope : Scope} {f : Addr} {nm : Str} {body : List Stmt} {b : Ss} (nex : T.ex = none) (ncl : T.clo = none) (h : BodyOkT T P w K mg base n N qual scope f nm body b) : BodyOk T P w K mg base n N qual scope f body b := by
  obtain ⟨a1, a2, a3, a4, a5, a6, a7, ex, clo, a8, a9, a10, a11, a12⟩ := T
  cases nex; cases ncl
  exact fun A outer s H E W O tk => h none A outer s H E W O tk fun p1 p2 pn xe W' _ => se_app0 rfl
section
variable {P : Program} {w : World} {K : PySem.W.Frag} {mg : Str → Option Value} {base : Heap}
theorem thk_ok {x qual nm : Str} {params : Arguments} {body : List Stmt} {scope : Scope} {dvs : List V} {kws : List (Str × V)} {i : Nat} {fd : FuncData} {N : List Str} {F : Fn} (hF : T.P.fns i = some F) (Fd : FunD K x qual params body scope dvs kws (T.fa i) fd) (S : FnScope N [nm] scope)
    (hbd : ∀ (s : Shared) (u : Value), K.In s.heap → BindsTo s fd ⟨[u], []⟩ ([nm].zip [u])) (hN : N[0]? = some nm) (hv : Vis scope nm) (hd : (nm == ("__debug__" : Str)) = false) (hcd : (nm == ("__classdict__" : Str)) = false) (h1 : F.np = 1) (h2 : F.nn = N.length) (tab : TabOk T K) (tabs : ∀ q ∈ T.cds, TabB base mg q.1 q.2) (fnQ : T.quiet = false → ∀ j, j ≤ 1 → FnsOk T.q P w K mg base j)
    (fns : ∀ j, j ≤ n → FnsOk T P w K mg base j) (hb : BodyOkT T P w K mg base n N qual scope (T.fa i) nm body F.body) : ThkF T P w K mg base (n + 1) i := by
  refine ⟨N, qual, scope, nm, hN, hv, hd, hcd, Fd.kp, fun A outer s H Q E p c q k σ0 a ρ' μ hr hg e0 hap hm he hq => ?_⟩
  have hq : WpR (calD T.P T.reprS (n + 1) i [.clo k ρ'] μ) _ _ := hq
  simp only [calD, hF, h1, List.length_cons, List.length_nil, Nat.zero_add, if_true] at hq
  obtain ⟨oc, od, dV, kV, doc, pm, an, cdv, ct, osl, rfl, lk, hcdv, _, _⟩ := Fd.ex
  have ecd : cdOf K (T.fa i) = cdv := by unfold cdOf; rw [lk]
  have KX : K.In s.heap := e0.mod.kin.keeps fun b o e => (e0.bs b o e).1
  have e : T.C n = ⟨calD T.P T.reprS n, lamD T.P T.reprS n⟩ := rfl
  have key : WpS (evSs T.P (T.C n) T.reprS F.body ([DI.D.clo k ρ'].map some ++ List.replicate (F.nn - 1) none) μ) (fun _ μ' => WpR (fin F.keep μ .non μ') (fun d μ' => ∀ b v H', Stp a H b H' → HolM T K b μ' H' → Rep T K b d v → Q v H') (KxC T K a H E))
      (fun d μ' => WpR (fin F.keep μ d μ') (fun d μ' => ∀ b v H', Stp a H b H' → HolM T K b μ' H' → Rep T K b d v → Q v H') (KxC T K a H E)) (fun x _ μ' => WpR (finX F.keep μ x μ') (fun d μ' => ∀ b v H', Stp a H b H' → HolM T K b μ' H' → Rep T K b d v → Q v H') (KxC T K a H E)) := by
    rw [e]
    cases h : evSs T.P ⟨calD T.P T.reprS n, lamD T.P T.reprS n⟩ T.reprS F.body ([DI.D.clo k ρ'].map some ++ List.replicate (F.nn - 1) none) μ with
    | nx ρ μ' => rw [h] at hq; exact hq
    | rt d μ' => rw [h] at hq; exact hq
    | ex x ρ μ' => rw [h] at hq; exact hq
    | no => rw [h] at hq; exact hq
  refine run_ofS (k := 3 * n + T.kx + 2) (N := N) (ps := [nm]) (us := [.ref p]) (vs := [.ref p]) lk hcdv S (by rw [show 3 * n + T.kx + 2 + 1 = 3 * (n + 1) + T.kx by omega]; exact hr) e0 (hbd s (.ref p) KX) (.cons rfl .nil) rfl fun hr' => ?_
  unfold BodyOkT at hb
  rw [ecd] at hb hap
  refine ⟨_, hb (some (p, c, q, k, σ0)) A outer s H E (fun cls d _ H => E cls d H) ⟨rfl, hr', hg, fun j hj => (fns j hj).spS, (fun z => nomatch z), tab.spS, tabs, rfl, fnQ⟩ (L2N.takes_of rfl rfl rfl rfl) (hap n rfl), ?_⟩
  refine ⟨a, _, μ, ⟨hm.sp, ?_, fun i d e => ?_⟩, key.mono (fun ρ' μ' k b σ' H' st ho => ?_) (fun d μ' k b v H' st hm rv => ?_) fun x ρ' μ' k => ?_⟩
  · unfold L2.start; rw [h2]; simp
  · cases i with
    | zero =>
      have e : some (DI.D.clo k ρ') = some d := e
      cases e
      exact ⟨.ref p, by unfold L2.start; rfl, he⟩
    | succ i =>
      exfalso
      unfold getE at e
      rw [show ([DI.D.clo k ρ'].map some ++ List.replicate (F.nn - 1) none)[i + 1]? = (List.replicate (F.nn - 1) (none : Option DI.D))[i]? from by simp] at e
      rw [List.getElem?_replicate] at e
      split at e <;> simp at e
  · obtain ⟨c, d', μ2, s2, m2, r2, k2⟩ := fin_ok hm k st ho.m.spr (d := .non) (v := .non) (by simp only [Rep])
    exact k2 c _ H' s2 m2 r2
  · obtain ⟨c, d', μ2, s2, m2, r2, k2⟩ := fin_ok ‹HolM T K a μ H› k st hm.spr rv.spr
    exact k2 c _ H' s2 m2 r2
  · obtain ⟨c, ns, vs, e, k⟩ := finX_ok hm k
    exact ⟨c, ns, vs, e, fun b dd ws σ' H' st ho rv hn hx => k b dd ws H' st ho.m.spr rv.spr hn hx⟩
theorem thk_ok0 {i : Nat} {N : List Str} {qual nm : Str} {scope : Scope} (hN : N[0]? = some nm) (hv : Vis scope nm) (hd : (nm == ("__debug__" : Str)) = false) (hcd : (nm == ("__classdict__" : Str)) = false) (kp : PySem.W.keepIn K (.ref (T.fa i)) = true) : ThkF T P w K mg base 0 i :=
  ⟨N, qual, scope, nm, hN, hv, hd, hcd, kp, fun A outer s H Q E p c q k σ0 a ρ' μ hr hg e0 hap hm he hq => (show False from hq).elim⟩
end
end
end DI
end

section
set_option Elab.async false
set_option linter.all false
set_option maxRecDepth 100000
namespace DI
open PySem PySem.W PySem.SeqAt
open AutoSeq1 (wpAny_loadPart')
open MeetsSeq
theorem str_eq_dec (x : Str) (t : Tok) (l C dx : Addr) :
    Meets (Builtin.«str.__eq__» ⟨[.str x t, .ref l], []⟩) (fun _ R s => s.heap.get? l = some (instObj C dx) ∧ R (.ok (.ret .notImplemented)) s) :=
  .of_wp fun prog w A R s h => by obtain ⟨hp, g, d, tk, os⟩ := s; obtain ⟨hl, h⟩ := h; wp_walk using wpAny_loadPart' hl, wpAny_load hl; exact ⟨_, rfl, h⟩
theorem str_ne_dec (x : Str) (t : Tok) (l C dx : Addr) :
    Meets (Builtin.«str.__ne__» ⟨[.str x t, .ref l], []⟩) (fun _ R s => s.heap.get? l = some (instObj C dx) ∧ R (.ok (.ret .notImplemented)) s) :=
  .of_wp fun prog w A R s h => by obtain ⟨hp, g, d, tk, os⟩ := s; obtain ⟨hl, h⟩ := h; wp_walk using wpAny_loadPart' hl, wpAny_load hl; exact ⟨_, rfl, h⟩
theorem int_eq_dec (x : Int) (t : Tok) (l C dx : Addr) :
    Meets (Builtin.«int.__eq__» ⟨[.int x t, .ref l], []⟩) (fun _ R s => s.heap.get? l = some (instObj C dx) ∧ R (.ok (.ret .notImplemented)) s) :=
  .of_wp fun prog w A R s h => by obtain ⟨hp, g, d, tk, os⟩ := s; obtain ⟨hl, h⟩ := h; wp_walk using wpAny_loadPart' hl, wpAny_load hl; exact ⟨_, rfl, h⟩
theorem int_ne_dec (x : Int) (t : Tok) (l C dx : Addr) :
    Meets (Builtin.«int.__ne__» ⟨[.int x t, .ref l], []⟩) (fun _ R s => s.heap.get? l = some (instObj C dx) ∧ R (.ok (.ret .notImplemented)) s) :=
  .of_wp fun prog w A R s h => by obtain ⟨hp, g, d, tk, os⟩ := s; obtain ⟨hl, h⟩ := h; wp_walk using wpAny_loadPart' hl, wpAny_load hl; exact ⟨_, rfl, h⟩
theorem bool_eq_dec (x : Bool) (l C dx : Addr) :
    Meets (Builtin.«int.__eq__» ⟨[.bool x, .ref l], []⟩) (fun _ R s => s.heap.get? l = some (instObj C dx) ∧ R (.ok (.ret .notImplemented)) s) :=
  .of_wp fun prog w A R s h => by obtain ⟨hp, g, d, tk, os⟩ := s; obtain ⟨hl, h⟩ := h; wp_walk using wpAny_loadPart' hl, wpAny_load hl; exact ⟨_, rfl, h⟩
theorem bool_ne_dec (x : Bool) (l C dx : Addr) :
    Meets (Builtin.«int.__ne__» ⟨[.bool x, .ref l], []⟩) (fun _ R s => s.heap.get? l = some (instObj C dx) ∧ R (.ok (.ret .notImplemented)) s) :=
  .of_wp fun prog w A R s h => by obtain ⟨hp, g, d, tk, os⟩ := s; obtain ⟨hl, h⟩ := h; wp_walk using wpAny_loadPart' hl, wpAny_load hl; exact ⟨_, rfl, h⟩
theorem non_eq_dec (l : Addr) : Gives (Builtin.«NoneType.__eq__» ⟨[.none, .ref l], []⟩) (.val (Value.notImplemented)) :=
  .of_wp fun M A E s Q h => by obtain ⟨hp, g, d, tk, os⟩ := s; wp_walk; exact ⟨_, rfl, h⟩
theorem non_ne_dec (l : Addr) : Gives (Builtin.«NoneType.__ne__» ⟨[.none, .ref l], []⟩) (.val (Value.notImplemented)) :=
  .of_wp fun M A E s Q h => by obtain ⟨hp, g, d, tk, os⟩ := s; wp_walk; exact ⟨_, rfl, h⟩
end DI

namespace DI
open PySem PySem.W PySem.Calls PyProof.Rows
section
variable {pg : Program} {wd : World} {B : Around} {Ex : Value → Shared → Prop} {t : Shared} {K : Frag} {x C f L : Addr} {h₀ : Heap} {m : Str → Option Value} {ox : Obj} {odo : Option Obj} {b tb : Value}
/-- a built-in at the left declines -/
def Dec (pg : Program) (wd : World) (op : CmpOp) (Ta : String) (a b : Value) (t : Shared) : Prop := ∃ id, Slot Ta (cmpInfo op).2.1 id ∧ ∀ (A : Around) (E : Value → Shared → Prop) (Q : Value → Shared → Prop), Q .notImplemented t → wpAny (model pg wd) A (call (.builtin id) [a, b]) Q E t
end
open MeetsSeq in
/-- which built-in values decline -/
theorem dec_val {pg : Program} {wd : World} {t : Shared} {l C dx : Addr} (hl : t.heap.get? l = some (instObj C dx)) {ne : Bool} :
    (∀ x tk, Dec pg wd (if ne then .NotEq else .Eq) "str" (.str x tk) (.ref l) t) ∧ (∀ x tk, Dec pg wd (if ne then .NotEq else .Eq) "int" (.int x tk) (.ref l) t) ∧ (∀ x, Dec pg wd (if ne then .NotEq else .Eq) "bool" (.bool x) (.ref l) t) ∧ Dec pg wd (if ne then .NotEq else .Eq) "NoneType" .none (.ref l) t := by
  cases ne
  · exact ⟨fun x tk => ⟨_, F.slot_str_eq, fun A E Q q => call_meets F.slot_str_eq (typeIs_str t x tk) F.entry_str_eq (F.args_str_eq_2 _ _) (str_eq_dec x tk l C dx) ⟨hl, q⟩⟩,
      fun x tk => ⟨_, F.slot_int_eq, fun A E Q q => call_meets F.slot_int_eq (typeIs_int t x tk) F.entry_int_eq (F.args_int_eq_2 _ _) (int_eq_dec x tk l C dx) ⟨hl, q⟩⟩,
      fun x => ⟨_, F.slot_bool_eq, fun A E Q q => call_meets F.slot_bool_eq rfl F.entry_int_eq (F.args_int_eq_2 _ _) (bool_eq_dec x l C dx) ⟨hl, q⟩⟩,
      ⟨_, F.slot_NoneType_eq, fun A E Q q => call_gives F.slot_NoneType_eq rfl F.entry_NoneType_eq (F.args_NoneType_eq_2 _ _) (non_eq_dec l) q⟩⟩
  · exact ⟨fun x tk => ⟨_, F.slot_str_ne, fun A E Q q => call_meets F.slot_str_ne (typeIs_str t x tk) F.entry_str_ne (F.args_str_ne_2 _ _) (str_ne_dec x tk l C dx) ⟨hl, q⟩⟩,
      fun x tk => ⟨_, F.slot_int_ne, fun A E Q q => call_meets F.slot_int_ne (typeIs_int t x tk) F.entry_int_ne (F.args_int_ne_2 _ _) (int_ne_dec x tk l C dx) ⟨hl, q⟩⟩,
      fun x => ⟨_, F.slot_bool_ne, fun A E Q q => call_meets F.slot_bool_ne rfl F.entry_int_ne (F.args_int_ne_2 _ _) (bool_ne_dec x l C dx) ⟨hl, q⟩⟩,
      ⟨_, F.slot_NoneType_ne, fun A E Q q => call_gives F.slot_NoneType_ne rfl F.entry_NoneType_ne (F.args_NoneType_ne_2 _ _) (non_ne_dec l) q⟩⟩
end DI
end

section
set_option Elab.async false
set_option linter.all false
set_option maxRecDepth 100000
namespace DI
open PySem PySem.W PySem.Calls PyProof.Rows
section
variable {pg : Program} {wd : World} {B : Around} {Ex : Value → Shared → Prop} {t : Shared} {K : Frag} {x y C C2 : Addr} {ox oy : Obj} {od od2 : Option Obj}
/-- the class tells no more of == than object does -/
structure IdK (K : Frag) (C : Addr) : Prop where
  eq : findIn K (.ref C) "__eq__" = some (some (.builtin "object.__eq__"))
  ne : findIn K (.ref C) "__ne__" = some (some (.builtin "object.__ne__"))
  po : plainOver K C = true
  ty : mroIn K C (.type "tuple") = some false
theorem InstAt.noT (I : InstAt t.heap x ox C od) : t.heap.get? x = some ox ∧ ox.cls ≠ .type "tuple" := by
  obtain ⟨h, hc, _⟩ := I
  exact ⟨h, by rw [hc]; intro e; cases e⟩
end
end DI
end

section
set_option Elab.async false
set_option linter.all false
set_option maxRecDepth 100000
namespace DI
open PySem PySem.W PySem.Calls PyProof.Rows
section
variable {pg : Program} {wd : World} {B : Around} {Ex : Value → Shared → Prop} {t : Shared} {K : Frag} {x C f L : Addr} {h₀ : Heap} {m : Str → Option Value} {ox : Obj} {odo : Option Obj} {b tb : Value}
end
section
open L2
variable {T : Tab} {n : Nat} {X : Cx}
/-- what the text tells of the classes with an own __eq__ -/
def NeA (T : Tab) (K : Frag) : Prop := ∀ c k f, T.P.cls c = some k → k.spec.lookup 0 = some f → findIn K (.ref (T.ca c)) "__ne__" = some (some (.builtin "object.__ne__")) ∧ plainOver K (T.ca c) = true ∧
  (∀ t, (t ≤ 5 ∨ t = 15) → mroIn K (T.ca c) (.type (tyS t)) = some false) ∧ ∀ c' k', T.P.cls c' = some k' → k'.init.isSome = true → k'.sup.contains c = false → mroIn K (T.ca c') (.ref (T.ca c)) = some false
/-- what the text tells of the live classes without an own __eq__ -/
def NeI (T : Tab) (K : Frag) : Prop := T.P.ids = true → ∀ c k, T.P.cls c = some k → k.live = true → k.spec.lookup 0 = none → IdK K (T.ca c) ∧ ∀ c' k' f, T.P.cls c' = some k' → k'.spec.lookup 0 = some f → T.ca c' ≠ T.ca c ∧ mroIn K (T.ca c') (.ref (T.ca c)) = some false
end
end DI
end

section
set_option Elab.async false
set_option linter.all false
set_option maxRecDepth 100000
namespace DI
open PySem L2 PySem.Spec PyProof.Rows L2H
def tyX : Nat → String
  | 6 => "ValueError" | 7 => "LookupError" | 8 => "ArithmeticError" | 9 => "KeyError" | 10 => "IndexError" | 11 => "ZeroDivisionError" | _ => "object"
def tyXV (T : Tab) : Ty → V
  | .py n => .ty (tyX n)
  | .own c => .ref (T.ca c)
def tyXU (T : Tab) : Ty → Value
  | .py n => .type (tyX n)
  | .own c => .ref (T.ca c)
/-- what an own exception class tells for isinstance -/
structure ExcK (K : PySem.W.Frag) (C : Addr) : Prop where
  cl : (PySem.W.clsIn K C).isSome = true
  ga : PySem.W.findIn K (.ref C) "__getattribute__" = some (some (.builtin "BaseException.__getattribute__"))
  gg : PySem.W.findIn K (.ref C) "__getattr__" = some none
  sub : PySem.W.subIn K (.ref C) (.type "BaseException") = some true
  ca : PySem.W.findIn K (.ref C) "__class__" = some (some (.builtin "object.__class__"))
  mr : PySem.W.mroIn K C (.type "object") = some true
/-- the classes cs, asked for the types ts -/
structure XisOk (T : Tab) (K : PySem.W.Frag) (cs : List Nat) (ts : List Ty) : Prop where
  exc : ∀ c, cs.contains c = true → ExcK K (T.ca c)
  one : ∀ c t, cs.contains c = true → ts.contains t = true → ∀ μ ns vs b, isTy T.P μ (.exc c ns vs) t = some b → PySem.W.kitOne K (.ref (T.ca c)) (tyXU T t) = some b
/-- a class named in the text -/
def SClsX (T : Tab) (X : Cx) (x : Expr) (y : Ty) : Prop := PE X x (tC (tyXV T y))
theorem clsX_of {T : Tab} (y : Ty) : ClsV (tyXV T y) (tyXU T y) := by
  cases y with
  | py n => exact .ty _
  | own c => exact .own _
section
variable {T : Tab} {n : Nat} {X : Cx} {W : WX} {pos : Pos} {clo : Option (Addr × Addr × Str × Nat × List (Option V))}
theorem sclsX_own {x : Str} {p : Pos} {c : Nat} (hg : Gl X x) (hm : X.mg x = some (.ref (T.ca c))) (hd : (x == ("__debug__" : Str)) = false) : SClsX T X (.Name x p) (.own c) := pe_glob (v := .ref (T.ca c)) hg hm rfl hd
theorem sclsX_py {x : Str} {p : Pos} {m : Nat} (hg : Gl X x) (hm : X.mg x = none) (hv : bootBuiltins x = some (.type (tyX m))) (hn : x ≠ "__name__") (hd : (x == ("__debug__" : Str)) = false) : SClsX T X (.Name x p) (.py m) := pe_bltn (v := .ty (tyX m)) hg hm hv rfl hn hd
end
section
variable {T : Tab} {n : Nat} {P : Program} {w : World} {K : PySem.W.Frag} {mg : Str → Option Value} {base : Heap}
end
end DI
namespace DI
open PySem L2 PySem.Spec PyProof.Rows L2H
section
variable {T : Tab} {n : Nat} {X : Cx} {pos : Pos} {clo : Option (Addr × Addr × Str × Nat × List (Option V))}
end
end DI
namespace DI
open PySem L2 PySem.Spec PyProof.Rows
section
variable {T : Tab} {n : Nat} {X : Cx} {W : WX}
end
end DI
end

section
set_option Elab.async false
set_option linter.all false
set_option maxRecDepth 100000
namespace DI
open PySem PySem.Calls PyProof.Rows PySem.W
section
variable {prog : Program} {w : World} {A : Around} {E : Value → Shared → Prop} {s : Shared} {a kS : Addr} {vs : List Value} {kz : List PyData} {e1 : Nat} {P : PySem.Fin → Shared → Prop}
end
end DI
end

section
set_option Elab.async false
set_option linter.all false
set_option maxRecDepth 100000
namespace DI
open PySem L2 PySem.Spec PyProof.Rows LamX
section
variable {X : Cx} {pins : List (Addr × Obj)} {σ : L2.St} {H HZ : Hp} {s s1 : Shared}
end
section
variable {T : Tab} {n : Nat} {X : Cx} {W : WX}
end
end DI
end

section
set_option Elab.async false
set_option linter.all false
set_option maxRecDepth 100000
namespace DI
open PySem L2 PySem.Spec PyProof.Rows LamX
section
variable {X : Cx} {pins : List (Addr × Obj)} {σ : L2.St} {H : Hp} {s : Shared}
/-- untracked new objects may change -/
theorem inv_edit {h' : Heap} {t' : Nat} {ch : List Addr} (I : L2.Inv X pins σ H s)
    (hch : ∀ b ∈ ch, X.s_0.heap.objs.size ≤ b ∧ b ≠ X.env.locals ∧ (∀ x c, X.env.cells.lookup x = some c → c ≠ b) ∧ (∀ p ∈ X.pn ++ pins, p.1 ≠ b) ∧ H b = none)
    (k : ∀ b o, b ∉ ch → s.heap.get? b = some o → h'.get? b = some o) : L2.Inv X pins σ H { s with heap := h', toks := t' } := by
  have tr : ∀ b u, H b = some u → b ∉ ch := fun b u e z => by rw [(hch b z).2.2.2.2] at e; cases e
  refine I.step (g' := s.gens) (d' := s.drawn) (ch := ch) (fun b hb => ⟨.inr (hch b hb).1, (hch b hb).2.1, (hch b hb).2.2.1, (hch b hb).2.2.2.1⟩) (fun b o _ _ n e _ => k b o n e) (fun b o _ _ n e _ => ⟨o.slots, k b o n e⟩)
    (fun b o _ e n => n) (fun b o n e => ⟨o, k b o n e⟩) (fun b xs e => e) (fun b o u e => e) (fun b qs e => ⟨#[], by simpa using e⟩) (fun m hn => ?_) (fun b u e => ?_) I.bare
  · obtain ⟨ob, es, ep, ho, r⟩ := hn
    exact ⟨ob, es, ep, k _ ob (fun z => (hch _ z).2.1 rfl) ho, r⟩
  · refine (I.hok b u e).stay (fun d v hd q => k d v ?_ q) (fun d q => q) fun d xs q => q
    rcases hd with z | z
    · rw [z]; exact tr b u e
    · exact tr d _ z
end
theorem rv_get {ws : List V} {us : List Value} (rv : Vals ws us) : ∀ {i : Nat} {u : Value}, us[i]? = some u → ∃ w, ws[i]? = some w ∧ RelV w u := by
  induction rv with
  | nil => intro i u h; simp at h
  | cons r0 rn ih =>
    intro i u h
    cases i with
    | zero => simp at h; subst h; exact ⟨_, by simp, r0⟩
    | succ i => simpa using ih (by simpa using h)
section
variable {T : Tab} {n : Nat} {X : Cx} {W : WX} {pos : Pos} {a : Abs} {ρ : Env} {μ : Mem} {H : Hp} {σ : L2.St} {s : Shared} {pins : List (Addr × Obj)}
end
end DI
end

section
set_option Elab.async false
set_option linter.all false
set_option maxRecDepth 100000
namespace DI
open PySem PyProof.Rows
section
variable {prog : Program} {w : World} {A : Around} {E : Value → Shared → Prop} {R : Result → Shared → Prop} {I l q S : Addr} {n : Nat}
section
variable {J0 : Shared → Prop} {J : Nat → Value → Value → Shared → Prop}
end
end
end DI
end

section
set_option Elab.async false
set_option linter.all false
set_option maxRecDepth 100000
namespace DI
open PySem L2 PySem.Spec PyProof.Rows LamX
section
variable {T : Tab} {n : Nat} {X : Cx} {W : WX} {pos : Pos} {a : Abs} {ρ : Env} {μ : Mem} {H : Hp} {σ : L2.St} {s : Shared} {pins : List (Addr × Obj)}
end
end DI
end

section
set_option Elab.async false
set_option linter.all false
set_option maxRecDepth 100000
namespace DI
open PySem L2 PySem.Spec PyProof.Rows LamX
section
variable {T : Tab} {n : Nat} {X : Cx} {W : WX} {pos : Pos}
end
end DI
end

section
set_option Elab.async false
set_option linter.all false
set_option maxRecDepth 100000
namespace DI
open PySem PySem.W PySem.Calls PyProof.Rows Builtin Builtin.List
section
variable {prog : Program} {w : World} {A : Around} {E : Value → Shared → Prop}
/-- the list into which the parts go -/
abbrev prt (acc : Array Value) (c : Nat) : Obj := { cls := .type "list", dict := none, data := .seq acc c, slots := #[] }
/-- a builtin's code over another one's -/
structure Under (c : Code) (A A' : Around) : Prop where
  fr : A'.frames = A.frames
  hd : A'.handled = A.handled
  dp : A'.depth ≤ A.depth + 1
  un : A'.units = A.units + 1
  gd : ∀ g, A.guards = some g → A'.guards = some (c :: g)
theorem under_loop (A : Around) (args : Args) : Under (.builtin "list.__repr__.loop" args) A (A.under (.builtin "list.__repr__.loop" args)) :=
  ⟨by simp [Around.under, Code.envs, Code.isFrame, pushEnvs], by first | rfl | simp [Around.under], by first | exact Nat.le_refl _ | simp [Around.under, Code.weight, Code.isCreation, Code.isGuard, Code.isCaller, Code.frames, Code.isFrame, guardIds], units_under_list_loop A args, fun g hg => guards_under_guard (isGuard_list_loop _) hg⟩
theorem list_loopJ {R : Result → Shared → Prop} {a P : Addr} {ts : List Str} {base : Nat} (hne : a ≠ P) (J : Nat → Shared → Prop) (hsz : base + (listText ts).length ≤ sizeLine)
    (look : ∀ i s', J i s' → ∃ oa na, ∃ items : Array Value, s'.heap.get? a = some oa ∧ oa.data = .seq items na ∧ items.size = ts.length)
    (turn : ∀ (i : Nat) (t : Str) (s' : Shared) (oa : Obj) (items : Array Value) (na : Nat) (x : Value) (acc : Array Value) (c n : Nat) (args : Args), J i s' → s'.heap.get? a = some oa → oa.data = .seq items na → items[i]? = some x → ts[i]? = some t → s'.heap.get? P = some (prt acc c) → n + 1 + t.length ≤ sizeLine → (∃ rest, args.pos = .ref a :: rest) → args.kw = [] →
      wpAny (model prog w) (A.under (.builtin "list.__repr__.loop" args)) (pyReprUnder (n + 1) x) (fun r s'' => r = t ∧ s''.heap.get? P = some (prt acc c) ∧ ∀ g tk, Heap.SameBut P s''.heap g → (∃ acc' c', g.get? P = some (prt acc' c')) → J (i + 1) { s'' with heap := g, toks := tk }) (fun _ _ => False) s')
    (fin : ∀ s' u tk, J ts.length s' → R (.ok (.ret (.str (listText ts) u))) { s' with toks := tk }) :
    ∀ (k i : Nat) (s : Shared) (acc : Array Value) (c : Nat) (done : List (Str × Tok)), ts.length - i = k → i ≤ ts.length → J i s → s.heap.get? P = some (prt acc c) → acc.toList = strValues done → done.map (·.1) = ts.take i →
    codeAny (model prog w) A (.builtin "list.__repr__.loop" ⟨[.ref a, rawInt i, .ref P, rawInt ((base + piled (ts.take i) : Nat) : Int)], []⟩) R s := by
  have hX : (listText ts).length = (textFrom 0 "[" ts).length + 1 := by
    show (textFrom 0 "[" ts ++ "]").length = _
    rw [strLen_append]; rfl
  have hL := textFrom_len ts 0 "["
  have hsz1 : ts.length ≤ sizeLine := by
    have h1 := hL.1
    rw [if_neg (Nat.lt_irrefl 0)] at h1
    omega
  have hsz2 : ∀ t ∈ ts, t.length ≤ sizeLine := fun t ht => by
    have h2 := hL.2.1 t ht
    omega
  have hsz3 : (listText ts).length ≤ sizeLine := by omega
  have hp3 := piled_le_listText ts
  intro k
  induction k with
  | zero =>
    intro i s acc c done hk hi hJ hP hacc hdone
    have hin : i = ts.length := by omega
    obtain ⟨oa, na, items, ha, hda, hl⟩ := look i s hJ
    refine codeAny_builtin F.entry_list_repr_loop ?_
    show wpAny _ _ («list.__repr__.loop» ⟨[.ref a, .int i 0, .ref P, .int ((base + piled (ts.take i) : Nat) : Int) 0], []⟩) _ _ s
    rw [repr_loop_tree]
    refine wpAny_bind (wpAny_listItems ha hda ?_)
    have hnone : items[(i : Int).toNat]? = none := by simp [hin, hl]
    simp only [hnone]
    unfold reprEnd
    refine wpAny_bind (wpAny_listItems hP rfl ?_)
    rw [hacc, repr_fold]
    refine wpAny_bind (wpAny_pure ?_)
    have hall : done.map (·.1) = ts := by rw [hdone, hin, List.take_length]
    rw [hall]
    refine wpAny_bind (wpAny_mkStr (wpAny_pure ?_) hsz3)
    rw [hin] at hJ
    exact fin s _ _ hJ
  | succ k ih =>
    intro i s acc c done hk hi hJ hP hacc hdone
    have hlt : i < ts.length := by omega
    obtain ⟨oa, na, items, ha, hda, hl⟩ := look i s hJ
    have hlt2 : i < items.size := by omega
    have ht : ts[i]? = some ts[i] := by simp [hlt]
    have hp1 := piled_take_succ ht
    have hp2 := piled_take_le ts (i + 1)
    refine codeAny_builtin F.entry_list_repr_loop ?_
    show wpAny _ _ («list.__repr__.loop» ⟨[.ref a, .int i 0, .ref P, .int ((base + piled (ts.take i) : Nat) : Int) 0], []⟩) _ _ s
    rw [repr_loop_tree]
    refine wpAny_bind (wpAny_listItems ha hda ?_)
    have hsome : items[(i : Int).toNat]? = some items[i] := by simp [hlt2]
    simp only [hsome]
    rw [Int.toNat_natCast]
    refine wpAny_bind (wpAny_holding (wpAny_mono (turn i ts[i] s oa items na items[i] acc c (base + piled (ts.take i)) _ hJ ha hda (by simp [hlt2]) ht hP (by omega) ⟨_, rfl⟩ rfl) (fun r s'' hq => ?_) fun _ _ z => z.elim))
    obtain ⟨rfl, hP2, hJ2⟩ := hq
    refine wpAny_bind (wpAny_mkStr ?_ (hsz2 _ (List.mem_of_getElem? ht)))
    refine wpAny_bind ?_
    show wpAny _ _ (updateSeq P _) _ _ _
    have hasz : acc.size ≤ sizeLine := by
      have e1 : acc.toList.length = acc.size := by simp
      have e2 : (strValues done).length = done.length := by simp [strValues]
      have e3 : done.length = (ts.take i).length := by rw [← hdone, List.length_map]
      have e4 : (ts.take i).length ≤ i := by rw [List.length_take]; omega
      rw [hacc] at e1; omega
    refine wpAny_updateSeq hP2 rfl (wpAny_pure ⟨F.quiet_list_repr_loop _, ?_⟩) hasz
    have e1 : ((i : Int) + 1) = ((i + 1 : Nat) : Int) := by omega
    have e2 : base + piled (ts.take i) + (ts[i].length + 2) = base + piled (ts.take (i + 1)) := by omega
    rw [e1, e2]
    have hacc2 : (acc.push (.str ts[i] s''.toks)).toList = strValues (done ++ [(ts[i], s''.toks)]) := by
      rw [Array.toList_push, hacc]; simp [strValues]
    have hd2 : (done ++ [(ts[i], s''.toks)]).map (·.1) = ts.take (i + 1) := by
      rw [List.map_append, hdone, List.take_add_one, ht]; rfl
    obtain ⟨c2, hg⟩ : ∃ c2, (s''.heap.update P (Obj.mapSeq (·.push (.str ts[i] s''.toks)))).get? P = some (prt (acc.push (.str ts[i] s''.toks)) c2) := ⟨_, Heap.get?_update_self (Obj.mapSeq (·.push (.str ts[i] s''.toks))) hP2 rfl⟩
    exact ih (i + 1) _ _ c2 (done ++ [(ts[i], s''.toks)]) (by omega) hlt (hJ2 _ _ (Heap.SameBut.update s''.heap P _) ⟨_, _, hg⟩) hg hacc2 hd2
theorem list_reprAtJ {R : Result → Shared → Prop} {a : Addr} {ts : List Str} {base : Nat} {s : Shared} {g : List Code} {oa : Obj} {x : Value} {l : List Value} {na : Nat}
    (hg : A.guards = some g) (hca : Clear g a) (ha : s.heap.get? a = some oa) (hda : oa.data = .seq (x :: l).toArray na) (hsz : base + (listText ts).length ≤ sizeLine)
    (J : Nat → Shared → Prop)
    (look : ∀ i s', J i s' → ∃ oa na, ∃ items : Array Value, s'.heap.get? a = some oa ∧ oa.data = .seq items na ∧ items.size = ts.length)
    (turn : ∀ (i : Nat) (t : Str) (s' : Shared) (oa : Obj) (items : Array Value) (na : Nat) (x : Value) (acc : Array Value) (c n : Nat) (args : Args), J i s' → s'.heap.get? a = some oa → oa.data = .seq items na → items[i]? = some x → ts[i]? = some t → s'.heap.get? s.heap.objs.size = some (prt acc c) → n + 1 + t.length ≤ sizeLine → (∃ rest, args.pos = .ref a :: rest) → args.kw = [] →
      wpAny (model prog w) (A.under (.builtin "list.__repr__.loop" args)) (pyReprUnder (n + 1) x) (fun r s'' => r = t ∧ s''.heap.get? s.heap.objs.size = some (prt acc c) ∧ ∀ g tk, Heap.SameBut s.heap.objs.size s''.heap g → (∃ acc' c', g.get? s.heap.objs.size = some (prt acc' c')) → J (i + 1) { s'' with heap := g, toks := tk }) (fun _ _ => False) s')
    (j0 : ∀ h', (∀ b o, s.heap.get? b = some o → h'.get? b = some o) → h'.get? s.heap.objs.size = some (prt #[] 0) → J 0 { s with heap := h' })
    (fin : ∀ s' u tk, J ts.length s' → R (.ok (.ret (.str (listText ts) u))) { s' with toks := tk }) :
    wpAny (model prog w) A.in1 (Builtin.listReprAt base ⟨[.ref a], []⟩) (fun fin s' => match fin with | .done f => R (.ok f) s' | .again c' => c'.quiet = true ∧ codeAny (model prog w) A c' R s') (fun e s' => R (.error e) s') s := by
  refine wpAny_list_repr_head (A := A.in1) hg (fun v rest kw hm => listSameRef_of_ne (hca _ _ _ _ hm)) ha hda ?_
  refine wpAny_bind (m := newList []) (wpAny_newObj_type ?_)
  refine wpAny_pure ⟨F.quiet_list_repr_loop _, ?_⟩
  exact list_loopJ (P := s.heap.objs.size) (Nat.ne_of_lt (Heap.lt_size ha)) J hsz look turn fin _ 0 _ #[] _ [] rfl (Nat.zero_le _)
    (j0 _ (fun b o e => Heap.get?_push_of_some _ e) (Heap.get?_push_size _ rfl)) (Heap.get?_push_size _ rfl) rfl (by simp)
theorem tup_foldJ (J : Nat → Shared → Prop) {vs : List Value} {ts : List Str}
    (turn : ∀ (i : Nat) (t : Str) (x : Value) (s' : Shared) (n : Nat), J i s' → vs[i]? = some x → ts[i]? = some t → n + 1 + t.length ≤ sizeLine → wpAny (model prog w) A (pyReprUnder (n + 1) x) (fun r s'' => r = t ∧ J (i + 1) s'') (fun _ _ => False) s') :
    ∀ (l : List Value) (us : List Str) (i : Nat) (acc : Array Str) (n : Nat) (s : Shared) (Q : (Array Str × Nat) → Shared → Prop), vs.drop i = l → ts.drop i = us → l.length = us.length → n + piled us ≤ sizeLine → J i s →
    (∀ s', J (i + l.length) s' → Q ⟨acc ++ us.toArray, n + piled us⟩ s') → wpAny (model prog w) A (forIn l (⟨acc, n⟩ : (Array Str × Nat)) tupBody) Q E s := by
  intro l
  induction l with
  | nil =>
    intro us i acc n s Q hl hu hlen hn hJ h
    obtain rfl : us = [] := List.eq_nil_of_length_eq_zero hlen.symm
    have h0 := h s hJ
    simp only [List.forIn_nil]
    exact wpAny_pure (by simpa [piled] using h0)
  | cons x l ih =>
    intro us i acc n s Q hl hu hlen hn hJ h
    cases us with
    | nil => cases hlen
    | cons t us =>
      rw [piled_cons] at hn
      rw [List.forIn_cons]
      have hx : vs[i]? = some x := by
        have : (vs.drop i)[0]? = some x := by rw [hl]; rfl
        simpa using this
      have ht : ts[i]? = some t := by
        have : (ts.drop i)[0]? = some t := by rw [hu]; rfl
        simpa using this
      have hl2 : vs.drop (i + 1) = l := by rw [← List.tail_drop, hl]; rfl
      have hu2 : ts.drop (i + 1) = us := by rw [← List.tail_drop, hu]; rfl
      refine wpAny_bind (wpAny_bind (wpAny_mono (turn i t x s n hJ hx ht (by omega)) (fun r s' hq => ?_) fun _ _ z => z.elim))
      obtain ⟨rfl, hJ2⟩ := hq
      refine wpAny_pure ?_
      refine ih us (i + 1) (acc.push r) (n + (r.length + 2)) _ Q hl2 hu2 (by simpa using hlen) (by omega) hJ2 fun s'' hJ3 => ?_
      have e0 : i + 1 + l.length = i + (x :: l).length := by simp only [List.length_cons]; omega
      rw [e0] at hJ3
      have h1 := h s'' hJ3
      have e : n + piled (r :: us) = n + (r.length + 2) + piled us := by rw [piled_cons]; omega
      rw [e] at h1
      simpa using h1
theorem tuple_reprAtJ {R : Result → Shared → Prop} {a : Addr} {ts : List Str} {base : Nat} {s : Shared} {g : List Code} {o : Obj} {vs : List Value} {n : Nat} {id : String} {rest : List Value}
    (hcg : (Code.builtin id ⟨.ref a :: rest, []⟩).isGuard = true) (hg : A.guards = some g) (hca : Clear g a) (ha : s.heap.get? a = some o) (hd : o.data = .seq vs.toArray n) (hlen : vs.length = ts.length) (hsz : base + (tupleText ts).length ≤ sizeLine)
    (J : Nat → Shared → Prop) (j0 : J 0 s)
    (turn : ∀ (i : Nat) (t : Str) (x : Value) (s' : Shared) (n : Nat), J i s' → vs[i]? = some x → ts[i]? = some t → n + 1 + t.length ≤ sizeLine → wpAny (model prog w) (A.under (.builtin id ⟨.ref a :: rest, []⟩)) (pyReprUnder (n + 1) x) (fun r s'' => r = t ∧ J (i + 1) s'') (fun _ _ => False) s')
    (fin : ∀ s' u tk, J ts.length s' → R (.ok (.ret (.str (tupleText ts) u))) { s' with toks := tk }) :
    wpOwn (model prog w) A (.builtin id ⟨.ref a :: rest, []⟩) (Builtin.tupleReprAt base ⟨[.ref a], []⟩) (fun fin s' => match fin with | .done f => R (.ok f) s' | .again c' => c'.quiet = true ∧ codeAny (model prog w) A c' R s') (fun e s' => R (.error e) s') s := by
  have hp := piled_le_tupleText ts
  have hsz0 : (tupleText ts).length ≤ sizeLine := by omega
  rw [tuple_repr_tree, tupleReprUnderWay_eq]
  refine wpOwn_bind (wpOwn_stackTailAny hg (tupGuardF_off _) (tupGuardF_pos _) ?_)
  have hn : (g.any fun c => tupGuardF (.ref a) (c, default)) = false := by
    rw [List.any_eq_false]
    intro c hcm
    rw [tupGuardF_of_clear hca c hcm]
    exact Bool.false_ne_true
  rw [hn]
  refine wpOwn_of_wpAny ?_
  show wpAny _ _ (tupleReprRest base (.ref a)) _ _ s
  unfold tupleReprRest Builtin.Tuple.tupleItemsOf
  refine wpAny_bind (wpAny_bind (wpAny_seqItems ha hd (wpAny_pure ?_)))
  rw [← Array.forIn_toList]
  refine wpAny_bind (tup_foldJ (vs := vs) (ts := ts) J turn _ ts 0 _ _ _ _ (by simp) rfl (by simpa using hlen) (by omega) j0 fun s' hJ => ?_)
  refine wpAny_bind (wpAny_mkStr (wpAny_pure ?_) (by simpa [tupleText, hlen] using hsz0))
  have e0 : 0 + vs.toArray.toList.length = ts.length := by simp [hlen]
  rw [e0] at hJ
  have h1 := fin s' s'.toks (s'.toks + 1) hJ
  simpa [tupleText, hlen] using h1
/-- an own instance within something that is told -/
theorem inst_under {M : Model} {K : PySem.W.Frag} {x C f : Addr} {ox : Obj} {od : Option Obj} {b : Nat} {s : Shared} {Q : Value → Shared → Prop} (hu : A.units < cLine) (X : K.In s.heap) (I : InstAt s.heap x ox C od) (hs : findIn K (.ref C) "__repr__" = some (some (.ref f))) (hf : isFn K (.ref f) = true)
    (h : wpAny M A (call (.ref f) [.ref x]) (fun v s' => (∃ y t, v = .str y t) ∧ Q v s') E s) : wpAny M A (pyReprObjUnder b (.ref x)) Q E s := by
  unfold pyReprObjUnder pyReprObjBy
  refine wpAny_bind (wpAny_cRoomFor hu ?_)
  refine wpAny_bind (wpAny_bind (I.type.here ((looks_findIn X hs).here ?_)))
  show wpAny _ _ (if (some (Value.ref f)).isNone = true then _ else _) _ _ _
  rw [if_neg (by simp)]
  have fin : wpAny M A (call (.ref f) ([.ref x] ++ []) >>= fun v => pure (some v)) (fun r s' => ∃ v, r = some v ∧ (∃ y t, v = .str y t) ∧ Q v s') E s := wpAny_bind (wpAny_mono h (fun v s' h' => wpAny_pure ⟨v, rfl, h'⟩) fun _ _ h' => h')
  refine wpAny_bind (m := callSpecialIfBoundBy? _ (.ref x) (Str.ofString "__repr__")) (wpAny_mono (Q := fun r s' => ∃ v, r = some v ∧ (∃ y t, v = .str y t) ∧ Q v s') ?_ (fun r s' hr => ?_) fun _ _ y => y)
  · simp only [callSpecialIfBoundBy?, bindSpecialIfBound?]
    refine wpAny_holding (wpAny_bind (wpAny_bind (wpAny_bind (I.type.here ((looks_findIn X hs).here ?_)))))
    refine wpAny_bind (wpAny_askSetting (wpAny_ite ?_))
    split
    · exact wpAny_bind ((bind_fn X _ (beq_iff_eq.mp hf)).here (wpAny_pure (by exact fin)))
    · exact wpAny_tryCatch (wpAny_bind ((bind_fn X _ (beq_iff_eq.mp hf)).here (wpAny_pure (by exact fin))))
  · obtain ⟨v, rfl, ⟨y, t, rfl⟩, hq⟩ := hr
    refine wpAny_bind (wpAny_isInstance (typeIs_str _ _ _) isSubtype_str_str ?_)
    first
      | exact wpAny_pure hq
      | (rw [if_pos rfl]; exact wpAny_pure hq)
      | (simp only [if_true]; exact wpAny_pure hq)
end
end DI
end

section
set_option Elab.async false
set_option linter.all false
set_option maxRecDepth 100000
namespace DI
open PySem L2 PySem.Spec PyProof.Rows
/-- what the repr of a web shows -/
def insW : Nat → List Nat → List D → Option Str
  | 29, [5, 6, 7], [.tup x, .tup y, _] => if x.length < 300 ∧ y.length < 300 then some (sM (sL "Web of " ++ sL (intS x.length) ++ sL " places and " ++ sL (intS y.length) ++ sL " ties")) else none
  | _, _, _ => none
mutual
def shT : Nat → D → Option Str
  | _, .non => some "None"
  | _, .bl b => some (blS b)
  | _, .int i => if i.natAbs.log2 < 1920 then some (intS i) else none
  | _, .str s => if (reprText s).length ≤ sizeLine then some (reprText s) else none
  | _, .dct _ [] _ => some (dictText [])
  | _, .ins c ns vs => insW c ns vs
  | n + 1, .tup l => (shTs n l).map tupleText
  | n + 1, .lst l => (shTs n l).map listText
  | _, _ => none
def shTs : Nat → List D → Option (List Str)
  | _, [] => some []
  | n, d :: l => (shT n d).bind fun x => (shTs n l).map (x :: ·)
end
/-- what repr shows, own instances in it, too -/
def shownW (d : D) : Option Str := match shownD d with
  | some x => some x
  | none => match d with
    | .tup l => (shT 7 (.tup l)).bind fun x => if okS x = true then some x else none
    | .lst l => (shT 7 (.lst l)).bind fun x => if okS x = true then some x else none
    | .dct t [] vs => if okS (dictText []) = true then some (dictText []) else none
    | _ => none
/-- the own __repr__ of the instances that are shown -/
def ShwOk (T : Tab) : Prop := ∀ c ns vs x, insW c ns vs = some x → ∃ k f, T.P.cls c = some k ∧ k.spec.lookup 3 = some f ∧ ∀ μ, calF T.q.P (T.q.C 1) f [.ins c ns vs] [] [] μ = .ok (.str x) μ
/-- what the text's repr can do -/
def RepOk (T : Tab) : Prop := T.reprS = noR ∨ (T.quiet = false ∧ T.reprS = shownD) ∨ (T.quiet = false ∧ T.reprS = shownW ∧ ShwOk T)
theorem repOk_d {T : Tab} (h1 : T.quiet = false) (h2 : T.reprS = shownD) : RepOk T := .inr (.inl ⟨h1, h2⟩)
theorem shTs_get : ∀ {n : Nat} {l : List D} {ts : List Str}, shTs n l = some ts → l.length = ts.length ∧ ∀ (i : Nat) (t : Str), ts[i]? = some t → ∃ d : D, l[i]? = some d ∧ shT n d = some t
  | n, [], ts, h => by
    simp only [shTs] at h; cases h
    exact ⟨rfl, fun i t e => by simp at e⟩
  | n, d :: l, ts, h => by
    simp only [shTs] at h
    obtain ⟨x, e1, e2⟩ := Option.bind_eq_some_iff.mp h
    obtain ⟨r, e3, rfl⟩ := Option.map_eq_some_iff.mp e2
    obtain ⟨hl, hg⟩ := shTs_get e3
    refine ⟨by simp [hl], fun i t e => ?_⟩
    cases i with
    | zero => simp at e; subst e; exact ⟨d, by simp, e1⟩
    | succ i =>
      obtain ⟨d2, h1, h2⟩ := hg i t (by simpa using e)
      exact ⟨d2, by simpa using h1, h2⟩
mutual
def dep : D → Nat
  | .tup l => deps l + 1
  | .lst l => deps l + 1
  | _ => 0
def deps : List D → Nat
  | [] => 0
  | d :: l => max (dep d) (deps l)
end
theorem deps_get : ∀ {l : List D} {i : Nat} {d : D}, l[i]? = some d → dep d ≤ deps l
  | [], _, _, h => by simp at h
  | e :: l, 0, d, h => by simp at h; subst h; simp only [deps]; omega
  | e :: l, i + 1, d, h => by
    have := deps_get (l := l) (i := i) (d := d) (by simpa using h)
    simp only [deps]; omega
mutual
def Sees (h : Heap) : D → Value → Prop
  | .tup l, u => ∃ p o its n, u = .ref p ∧ h.get? p = some o ∧ o.cls = .type "tuple" ∧ o.data = .seq (List.toArray its) n ∧ SeesA h l its
  | .lst l, u => ∃ p o its n, u = .ref p ∧ h.get? p = some o ∧ o.cls = .type "list" ∧ o.data = .seq (List.toArray its) n ∧ SeesA h l its
  | .dct _ _ _, u => ∃ p o, u = .ref p ∧ h.get? p = some o ∧ o.cls = .type "dict"
  | .ins _ _ _, u => ∃ p o C, u = .ref p ∧ h.get? p = some o ∧ o.cls = .ref C
  | _, u => ∀ p, u ≠ .ref p
def SeesA (h : Heap) : List D → List Value → Prop
  | [], us => us = []
  | d :: l, us => ∃ u ws, us = u :: ws ∧ Sees h d u ∧ SeesA h l ws
end
mutual
theorem sees_dep {h : Heap} : ∀ (d d' : D) (u : Value), Sees h d u → Sees h d' u → dep d = dep d'
  | .tup l, d', u, s1, s2 => by
    simp only [Sees] at s1
    obtain ⟨p, o, its, n, rfl, ho, hc, hd, sa⟩ := s1
    cases d' <;> simp only [Sees] at s2 <;> first | exact absurd rfl (s2 p) | skip
    · obtain ⟨p', o', its', n', e, ho', hc', hd', sa'⟩ := s2
      cases e; rw [ho] at ho'; cases ho'; rw [hd] at hd'
      have e : its = its' := by have := (Data.seq.inj hd').1; simpa using this
      subst e
      simp only [dep, sees_deps l _ _ sa sa']
    · obtain ⟨p', o', its', n', e, ho', hc', hd', sa'⟩ := s2
      cases e; rw [ho] at ho'; cases ho'; rw [hc] at hc'; exact absurd (Value.type.inj hc') (by decide)
    · obtain ⟨p', o', e, ho', hc'⟩ := s2
      cases e; rw [ho] at ho'; cases ho'; rw [hc] at hc'; exact absurd (Value.type.inj hc') (by decide)
    · obtain ⟨p', o', C, e, ho', hc'⟩ := s2
      cases e; rw [ho] at ho'; cases ho'; rw [hc] at hc'; cases hc'
  | .lst l, d', u, s1, s2 => by
    simp only [Sees] at s1
    obtain ⟨p, o, its, n, rfl, ho, hc, hd, sa⟩ := s1
    cases d' <;> simp only [Sees] at s2 <;> first | exact absurd rfl (s2 p) | skip
    · obtain ⟨p', o', its', n', e, ho', hc', hd', sa'⟩ := s2
      cases e; rw [ho] at ho'; cases ho'; rw [hc] at hc'; exact absurd (Value.type.inj hc') (by decide)
    · obtain ⟨p', o', its', n', e, ho', hc', hd', sa'⟩ := s2
      cases e; rw [ho] at ho'; cases ho'; rw [hd] at hd'
      have e : its = its' := by have := (Data.seq.inj hd').1; simpa using this
      subst e
      simp only [dep, sees_deps l _ _ sa sa']
    · obtain ⟨p', o', e, ho', hc'⟩ := s2
      cases e; rw [ho] at ho'; cases ho'; rw [hc] at hc'; exact absurd (Value.type.inj hc') (by decide)
    · obtain ⟨p', o', C, e, ho', hc'⟩ := s2
      cases e; rw [ho] at ho'; cases ho'; rw [hc] at hc'; cases hc'
  | .dct t ks vs, d', u, s1, s2 => by
    simp only [Sees] at s1
    obtain ⟨p, o, rfl, ho, hc⟩ := s1
    cases d' <;> simp only [Sees] at s2 <;> first | exact absurd rfl (s2 p) | skip
    · obtain ⟨p', o', its', n', e, ho', hc', hd', sa'⟩ := s2
      cases e; rw [ho] at ho'; cases ho'; rw [hc] at hc'; exact absurd (Value.type.inj hc') (by decide)
    · obtain ⟨p', o', its', n', e, ho', hc', hd', sa'⟩ := s2
      cases e; rw [ho] at ho'; cases ho'; rw [hc] at hc'; exact absurd (Value.type.inj hc') (by decide)
    · rfl
    · rfl
  | .ins c ns vs, d', u, s1, s2 => by
    simp only [Sees] at s1
    obtain ⟨p, o, C, rfl, ho, hc⟩ := s1
    cases d' <;> simp only [Sees] at s2 <;> first | exact absurd rfl (s2 p) | skip
    · obtain ⟨p', o', its', n', e, ho', hc', hd', sa'⟩ := s2
      cases e; rw [ho] at ho'; cases ho'; rw [hc] at hc'; cases hc'
    · obtain ⟨p', o', its', n', e, ho', hc', hd', sa'⟩ := s2
      cases e; rw [ho] at ho'; cases ho'; rw [hc] at hc'; cases hc'
    · rfl
    · rfl
  | .non, d', u, s1, s2 => leaf_dep s1 s2 rfl
  | .bl _, d', u, s1, s2 => leaf_dep s1 s2 rfl
  | .int _, d', u, s1, s2 => leaf_dep s1 s2 rfl
  | .str _, d', u, s1, s2 => leaf_dep s1 s2 rfl
  | .key _, d', u, s1, s2 => leaf_dep s1 s2 rfl
  | .rol _, d', u, s1, s2 => leaf_dep s1 s2 rfl
  | .exc _ _ _, d', u, s1, s2 => leaf_dep s1 s2 rfl
  | .cls _, d', u, s1, s2 => leaf_dep s1 s2 rfl
  | .fn _, d', u, s1, s2 => leaf_dep s1 s2 rfl
  | .clo _ _, d', u, s1, s2 => leaf_dep s1 s2 rfl
  | .xv _ _ _, d', u, s1, s2 => leaf_dep s1 s2 rfl
  | .obj _, d', u, s1, s2 => leaf_dep s1 s2 rfl
theorem sees_deps {h : Heap} : ∀ (l l' : List D) (us : List Value), SeesA h l us → SeesA h l' us → deps l = deps l'
  | [], [], us, _, _ => rfl
  | [], d :: l, us, s1, s2 => by
    simp only [SeesA] at s1 s2
    obtain ⟨u, ws, e, _⟩ := s2
    rw [s1] at e; cases e
  | d :: l, [], us, s1, s2 => by
    simp only [SeesA] at s1 s2
    obtain ⟨u, ws, e, _⟩ := s1
    rw [s2] at e; cases e
  | d :: l, d' :: l', us, s1, s2 => by
    simp only [SeesA] at s1 s2
    obtain ⟨u, ws, rfl, a1, a2⟩ := s1
    obtain ⟨u', ws', e, b1, b2⟩ := s2
    cases e
    simp only [deps, sees_dep d d' _ a1 b1, sees_deps l l' _ a2 b2]
theorem leaf_dep {h : Heap} {d d' : D} {u : Value} (s1 : ∀ p, u ≠ .ref p) (s2 : Sees h d' u) (e : dep d = 0) : dep d = dep d' := by
  rw [e]
  cases d' <;> simp only [Sees] at s2 <;> first | rfl | skip
  · obtain ⟨p, o, its, n, rfl, _⟩ := s2; exact absurd rfl (s1 p)
  · obtain ⟨p, o, its, n, rfl, _⟩ := s2; exact absurd rfl (s1 p)
end
section
variable {T : Tab} {m : Nat} {X : Cx} {a b : Abs} {H : Hp} {μ : Mem} {pins : List (Addr × Obj)} {σ : L2.St} {s : Shared}
mutual
theorem rep_sees (I : L2.Inv X pins σ H s) (le : ∀ p o, a.G p = some o → H p = some o) : ∀ (n : Nat) (d : D) (v : V) (u : Value) (x : Str), shT n d = some x → Rep T X.K a d v → RelV v u → Sees s.heap d u
  | _, .non, v, u, _, _, r, ru => by simp only [Rep] at r; subst r; cases ru; simp only [Sees]; exact fun p e => nomatch e
  | _, .bl _, v, u, _, _, r, ru => by simp only [Rep] at r; subst r; cases ru; simp only [Sees]; exact fun p e => nomatch e
  | _, .int _, v, u, _, _, r, ru => by simp only [Rep] at r; subst r; obtain ⟨t, rfl⟩ := ru; simp only [Sees]; exact fun p e => nomatch e
  | _, .str _, v, u, _, _, r, ru => by simp only [Rep] at r; obtain ⟨rfl, _⟩ := r; obtain ⟨t, rfl⟩ := ru; simp only [Sees]; exact fun p e => nomatch e
  | n + 1, .tup l, v, u, x, h, r, ru => by
    simp only [Rep] at r
    obtain ⟨p, vs, rfl, sq, q⟩ := r
    cases ru
    obtain ⟨its, rv, ⟨o, ho, hc, k, hd⟩, _⟩ := I.tuple (SqT.up le sq.sq)
    simp only [shT] at h
    obtain ⟨ts, hts, _⟩ := Option.map_eq_some_iff.mp h
    simp only [Sees]
    exact ⟨p, o, its, k, rfl, ho, hc, hd, reps_sees I le n l vs its ts hts q rv⟩
  | n + 1, .lst l, v, u, x, h, r, ru => by
    simp only [Rep] at r
    obtain ⟨p, vs, rfl, sq, q⟩ := r
    cases ru
    obtain ⟨its, rv, ⟨o, k, ho, hc, _, hd⟩, _⟩ := I.list (SqL.of (le _ _ sq))
    simp only [shT] at h
    obtain ⟨ts, hts, _⟩ := Option.map_eq_some_iff.mp h
    simp only [Sees]
    exact ⟨p, o, its, k, rfl, ho, hc, hd, reps_sees I le n l vs its ts hts q rv⟩
  | n, .dct t [] vs, v, u, _, _, r, ru => by
    simp only [Rep] at r
    obtain ⟨p, ws, rfl, rs, hl, hd⟩ := r
    cases ru
    obtain rfl : ws = [] := List.eq_nil_of_length_eq_zero hl.symm
    simp only [Sees]
    cases t with
    | false =>
      obtain ⟨xs, g, hm⟩ := hd
      obtain ⟨_, _, vs, kv, o, es, ep, ho, ex, _⟩ := I.hok p _ (le _ _ g)
      exact ⟨p, o, rfl, ho, ex.1⟩
    | true =>
      obtain ⟨xs, g, hm⟩ := hd
      obtain ⟨_, _, ys, pr, o, es, ep, ho, ex, _⟩ := I.hok p _ (le _ _ g)
      exact ⟨p, o, rfl, ho, ex.1⟩
  | n, .ins c ns vs, v, u, _, _, r, ru => by
    simp only [Rep] at r
    obtain ⟨p, dx, ws, rfl, g, _⟩ := r
    cases ru
    obtain ⟨_, _, _, ho, _⟩ := I.hok p _ (le _ _ g)
    simp only [Sees]
    exact ⟨p, _, _, rfl, ho, rfl⟩
  | n, .dct _ (_ :: _) _, _, _, _, h, _, _ => by cases n <;> simp [shT] at h
  | 0, .tup _, _, _, _, h, _, _ => by simp [shT] at h
  | 0, .lst _, _, _, _, h, _, _ => by simp [shT] at h
  | n, .key _, _, _, _, h, _, _ => by cases n <;> simp [shT] at h
  | n, .rol _, _, _, _, h, _, _ => by cases n <;> simp [shT] at h
  | n, .exc _ _ _, _, _, _, h, _, _ => by cases n <;> simp [shT] at h
  | n, .cls _, _, _, _, h, _, _ => by cases n <;> simp [shT] at h
  | n, .fn _, _, _, _, h, _, _ => by cases n <;> simp [shT] at h
  | n, .clo _ _, _, _, _, h, _, _ => by cases n <;> simp [shT] at h
  | n, .xv _ _ _, _, _, _, h, _, _ => by cases n <;> simp [shT] at h
  | n, .obj _, _, _, _, h, _, _ => by cases n <;> simp [shT] at h
theorem reps_sees (I : L2.Inv X pins σ H s) (le : ∀ p o, a.G p = some o → H p = some o) : ∀ (n : Nat) (l : List D) (vs : List V) (us : List Value) (ts : List Str), shTs n l = some ts → Reps T X.K a l vs → Vals vs us → SeesA s.heap l us
  | _, [], vs, us, _, _, r, ru => by
    obtain rfl := r.inv0
    cases ru
    simp only [SeesA]
  | n, d :: l, vs, us, ts, h, r, ru => by
    simp only [shTs] at h
    obtain ⟨x, e1, e2⟩ := Option.bind_eq_some_iff.mp h
    obtain ⟨q, e3, rfl⟩ := Option.map_eq_some_iff.mp e2
    obtain ⟨v, ws, rfl, r1, r2⟩ := r.inv
    cases ru with
    | cons u1 u2 =>
      simp only [SeesA]
      exact ⟨_, _, rfl, rep_sees I le n d v _ x e1 r1 u1, reps_sees I le n l ws _ q e3 r2 u2⟩
end
mutual
theorem Rep.tq {K : PySem.W.Frag} : ∀ (d : D) (v : V), Rep T K a d v → Rep T.q K a d v
  | .non, _, x => by simpa only [Rep] using x
  | .bl _, _, x => by simpa only [Rep] using x
  | .int _, _, x => by simpa only [Rep] using x
  | .str _, _, x => by simpa only [Rep] using x
  | .tup l, _, x => by
    simp only [Rep] at x ⊢
    obtain ⟨p, vs, e, s, r⟩ := x
    exact ⟨p, vs, e, s, Reps.tq l vs r⟩
  | .key l, _, x => by
    simp only [Rep] at x ⊢
    obtain ⟨p, vs, e, s, r⟩ := x
    exact ⟨p, vs, e, s, Reps.tq l vs r⟩
  | .lst l, _, x => by
    simp only [Rep] at x ⊢
    obtain ⟨p, vs, e, s, r⟩ := x
    exact ⟨p, vs, e, s, Reps.tq l vs r⟩
  | .rol l, _, x => by
    simp only [Rep] at x ⊢
    obtain ⟨p, vs, e, s, r⟩ := x
    exact ⟨p, vs, e, s, Reps.tq l vs r⟩
  | .dct t ks vs, _, x => by
    simp only [Rep] at x ⊢
    obtain ⟨p, ws, e, r, hl, s⟩ := x
    exact ⟨p, ws, e, Reps.tq vs ws r, hl, s⟩
  | .ins c ns fs, _, x => by
    simp only [Rep] at x ⊢
    obtain ⟨p, dx, ws, e, g, g2, hl, r⟩ := x
    exact ⟨p, dx, ws, e, g, g2, hl, Reps.tq fs ws r⟩
  | .exc _ _ _, _, x => by simp only [Rep] at x
  | .cls _, _, x => by simpa only [Rep] using x
  | .fn _, _, x => by simpa only [Rep] using x
  | .clo _ _, _, x => by simp only [Rep] at x
  | .xv c ns fs, _, x => by
    simp only [Rep] at x ⊢
    obtain ⟨p, dd, ws, e, g, hl, hx, r⟩ := x
    exact ⟨p, dd, ws, e, g, hl, hx, Reps.tq fs ws r⟩
  | .obj n, _, x => by simpa only [Rep] using x
theorem Reps.tq {K : PySem.W.Frag} : ∀ (l : List D) (vs : List V), Reps T K a l vs → Reps T.q K a l vs
  | [], _, x => by simpa only [Reps] using x
  | d :: l, _, x => by
    simp only [Reps] at x ⊢
    obtain ⟨v, ws, e, r, rs⟩ := x
    exact ⟨v, ws, e, Rep.tq d v r, Reps.tq l ws rs⟩
end
mutual
theorem Rep.tqr {K : PySem.W.Frag} : ∀ (d : D) (v : V), Rep T.q K a d v → Rep T K a d v
  | .non, _, x => by simpa only [Rep] using x
  | .bl _, _, x => by simpa only [Rep] using x
  | .int _, _, x => by simpa only [Rep] using x
  | .str _, _, x => by simpa only [Rep] using x
  | .tup l, _, x => by
    simp only [Rep] at x ⊢
    obtain ⟨p, vs, e, s, r⟩ := x
    exact ⟨p, vs, e, s, Reps.tqr l vs r⟩
  | .key l, _, x => by
    simp only [Rep] at x ⊢
    obtain ⟨p, vs, e, s, r⟩ := x
    exact ⟨p, vs, e, s, Reps.tqr l vs r⟩
  | .lst l, _, x => by
    simp only [Rep] at x ⊢
    obtain ⟨p, vs, e, s, r⟩ := x
    exact ⟨p, vs, e, s, Reps.tqr l vs r⟩
  | .rol l, _, x => by
    simp only [Rep] at x ⊢
    obtain ⟨p, vs, e, s, r⟩ := x
    exact ⟨p, vs, e, s, Reps.tqr l vs r⟩
  | .dct t ks vs, _, x => by
    simp only [Rep] at x ⊢
    obtain ⟨p, ws, e, r, hl, s⟩ := x
    exact ⟨p, ws, e, Reps.tqr vs ws r, hl, s⟩
  | .ins c ns fs, _, x => by
    simp only [Rep] at x ⊢
    obtain ⟨p, dx, ws, e, g, g2, hl, r⟩ := x
    exact ⟨p, dx, ws, e, g, g2, hl, Reps.tqr fs ws r⟩
  | .exc _ _ _, _, x => by simp only [Rep] at x
  | .cls _, _, x => by simpa only [Rep] using x
  | .fn _, _, x => by simpa only [Rep] using x
  | .clo _ _, _, x => by simp only [Rep] at x
  | .xv c ns fs, _, x => by
    simp only [Rep] at x ⊢
    obtain ⟨p, dd, ws, e, g, hl, hx, r⟩ := x
    exact ⟨p, dd, ws, e, g, hl, hx, Reps.tqr fs ws r⟩
  | .obj n, _, x => by simpa only [Rep] using x
theorem Reps.tqr {K : PySem.W.Frag} : ∀ (l : List D) (vs : List V), Reps T.q K a l vs → Reps T K a l vs
  | [], _, x => by simpa only [Reps] using x
  | d :: l, _, x => by
    simp only [Reps] at x ⊢
    obtain ⟨v, ws, e, r, rs⟩ := x
    exact ⟨v, ws, e, Rep.tqr d v r, Reps.tqr l ws rs⟩
end
theorem HolM.tq {K : PySem.W.Frag} (h : HolM T K a μ H) : HolM T.q K a μ H :=
  ⟨h.le, h.len, h.nd, fun n p ob e1 e2 => let ⟨x, y⟩ := h.st n p ob e1 e2; ⟨x, by
    cases ob with
    | lst l => obtain ⟨vs, h, r⟩ := y; exact ⟨vs, h, Reps.tq l vs r⟩
    | dct t ks vs => obtain ⟨ws, r, hl, h⟩ := y; exact ⟨ws, Reps.tq vs ws r, hl, h⟩
    | ins c ns fs => obtain ⟨dx, ws, h1, h2, h3, h4, r⟩ := y; exact ⟨dx, ws, h1, h2, h3, h4, Reps.tq fs ws r⟩⟩, h.ow, h.tb, h.tb2⟩
theorem HolM.tqr {K : PySem.W.Frag} (h : HolM T.q K a μ H) : HolM T K a μ H :=
  ⟨h.le, h.len, h.nd, fun n p ob e1 e2 => let ⟨x, y⟩ := h.st n p ob e1 e2; ⟨x, by
    cases ob with
    | lst l => obtain ⟨vs, h, r⟩ := y; exact ⟨vs, h, Reps.tqr l vs r⟩
    | dct t ks vs => obtain ⟨ws, r, hl, h⟩ := y; exact ⟨ws, Reps.tqr vs ws r, hl, h⟩
    | ins c ns fs => obtain ⟨dx, ws, h1, h2, h3, h4, r⟩ := y; exact ⟨dx, ws, h1, h2, h3, h4, Reps.tqr fs ws r⟩⟩, h.ow, h.tb, h.tb2⟩
/-- a body while repr is telling -/
theorem Own.tq (O : Own T m X) (hq : T.quiet = false) : Own T.q 1 X where
  calm := O.calm
  room := O.room.mono (by have := Tab.kx_n hq; show 3 * 1 + 0 + 2 ≤ _; omega)
  gd := fun z => nomatch z
  fnA := O.fnQ hq
  thkA := fun _ j _ f hf => absurd hf (by simp)
  tab := ⟨O.tab.sysm, O.tab.an, O.tab.meth, O.tab.prop, O.tab.fld, O.tab.init, O.tab.xf, O.tab.spec, O.tab.nosp, O.tab.spx⟩
  tabs := O.tabs
  nex := rfl
  fnQ := fun z => nomatch z
/-- where something is told -/
structure Al (X : Cx) (A : Around) (n : Nat) : Prop where
  fr : A.frames = some X.stack
  hd : A.handled = X.A.handled
  dp : A.depth + n ≤ X.A.depth + 10
  un : A.units + 3 * n ≤ X.A.units + 40
theorem Al.under {X : Cx} {A A' : Around} {n : Nat} {c : Code} (h : Al X A (n + 1)) (u : Under c A A') : Al X A' n :=
  ⟨u.fr.trans h.fr, u.hd.trans h.hd, by have := h.dp; have := u.dp; omega, by have := h.un; have := u.un; omega⟩
theorem Al.env {A : Around} {n : Nat} (h : Al X A n) (I : L2.Inv X pins σ H s) : Env0 X.prog X.w X.K X.mg X.base A X.stack s H :=
  let e := I.env0
  ⟨h.fr, e.mod, e.bs, e.bsz, e.funs, e.frf, e.hok, e.bare⟩
/-- what is told of d goes on with k -/
def Nest (T : Tab) (X : Cx) (σ : L2.St) (μ : Mem) (n : Nat) : Prop := ∀ (d : D) (x : Str), shT n d = some x → ∀ (pins : List (Addr × Obj)) (s : Shared) (H : Hp) (a : Abs) (v : V) (u : Value) (base : Nat) (A : Around) (g : List Code) (Q : Str → Shared → Prop), L2.Inv X pins σ H s → HolM T X.K a μ H → Rep T X.K a d v → RelV v u → base + x.length ≤ sizeLine → Al X A n → A.guards = some g →
  (∀ pins' s' H' b, Stp a H b H' → HolM T X.K b μ H' → L2.Inv X pins' σ H' s' → ∀ p d', Sees s'.heap d' (.ref p) → dep d' ≤ dep d → Clear g p) →
  (∀ b H' s', Stp a H b H' → HolM T X.K b μ H' → L2.Inv X pins σ H' s' → Q x s') → wpAny (model X.prog X.w) A (pyReprUnder base u) Q (fun _ _ => False) s
/-- places behind the heap at hand -/
theorem inv_new (I : L2.Inv X pins σ H s) : ∀ b, s.heap.objs.size ≤ b → X.s_0.heap.objs.size ≤ b ∧ b ≠ X.env.locals ∧ (∀ x c, X.env.cells.lookup x = some c → c ≠ b) ∧ (∀ q ∈ X.pn ++ pins, q.1 ≠ b) ∧ b ∉ X.fs ∧ H b = none := fun b hb => by
  refine ⟨Nat.le_trans I.sz hb, fun z => ?_, fun x c e z => ?_, fun q hq z => ?_, I.nofs hb, I.hok.fresh hb⟩
  · have h1 := I.lt; rw [← z] at h1; exact Nat.lt_irrefl _ (Nat.lt_of_lt_of_le h1 hb)
  · obtain ⟨v, o, ho, _⟩ := I.cell x c e
    have := Heap.lt_size ho
    rw [z] at this
    exact Nat.lt_irrefl _ (Nat.lt_of_lt_of_le this hb)
  · have := Heap.lt_size (I.pin q hq).1
    rw [z] at this
    exact Nat.lt_irrefl _ (Nat.lt_of_lt_of_le this hb)
/-- a list told -/
theorem list_nest {n : Nat} (IH : Nest T X σ μ n) {l : List D} {ts : List Str} (hts : shTs n l = some ts) {p : Addr} {A : Around} {g : List Code} {base : Nat} {R : Result → Shared → Prop} {x0 : Value} {l0 : List Value} {oa : Obj} {na : Nat}
    (at_ : ∀ b H', Stp a H b H' → HolM T X.K b μ H' → ∃ vs, H' p = some (.lst vs) ∧ Reps T X.K b l vs)
    (I : L2.Inv X pins σ H s) (hm : HolM T X.K a μ H) (ha : s.heap.get? p = some oa) (hda : oa.data = .seq (x0 :: l0).toArray na) (al : Al X A (n + 1)) (hg : A.guards = some g) (hz : base + (listText ts).length ≤ sizeLine)
    (cl : ∀ pins' s' H' b, Stp a H b H' → HolM T X.K b μ H' → L2.Inv X pins' σ H' s' → ∀ p d', Sees s'.heap d' (.ref p) → dep d' ≤ deps l + 1 → Clear g p)
    (k : ∀ b H' s' u, Stp a H b H' → HolM T X.K b μ H' → L2.Inv X pins σ H' s' → R (.ok (.ret (.str (listText ts) u))) s') :
    wpAny (model X.prog X.w) A.in1 (Builtin.listReprAt base ⟨[.ref p], []⟩) (fun fin s' => match fin with | .done f => R (.ok f) s' | .again c' => c'.quiet = true ∧ codeAny (model X.prog X.w) A c' R s') (fun e s' => R (.error e) s') s := by
  have hS := inv_new I
  obtain ⟨hlen, hget⟩ := shTs_get hts
  have seen : ∀ (pins' : List (Addr × Obj)) (s' : Shared) (H' : Hp) (b : Abs), Stp a H b H' → HolM T X.K b μ H' → L2.Inv X pins' σ H' s' → Sees s'.heap (.lst l) (.ref p) := fun pins' s' H' b st m' I' => by
    obtain ⟨vs, hp, rs⟩ := at_ b H' st m'
    obtain ⟨its, rv, ⟨o, k, ho, hc, _, hd⟩, _⟩ := I'.list (SqL.of hp)
    simp only [Sees]
    exact ⟨p, o, its, k, rfl, ho, hc, hd, reps_sees I' m'.le n l vs its ts hts rs rv⟩
  let J : Nat → Shared → Prop := fun i s' => ∃ H' b, Stp a H b H' ∧ HolM T X.K b μ H' ∧ L2.Inv X pins σ H' s' ∧ H' s.heap.objs.size = none
  refine list_reprAtJ hg (cl pins s H a (Stp.refl _ _) hm I p (.lst l) (seen _ _ _ _ (Stp.refl _ _) hm I) (by simp only [dep]; omega)) ha hda hz J ?look ?turn ?j0 ?fin
  case look =>
    rintro i s' ⟨H', b, st, m', I', n1⟩
    obtain ⟨vs, hp, rs⟩ := at_ b H' st m'
    obtain ⟨its, rv, ⟨o, k, ho, hc, _, hd⟩, _⟩ := I'.list (SqL.of hp)
    exact ⟨o, k, its.toArray, ho, hd, by rw [List.size_toArray, ← rv.length, ← rs.length]; exact hlen⟩
  case j0 =>
    intro h' up hP
    exact ⟨H, a, Stp.refl _ _, hm, I.kept (t' := s.toks) up, I.hok.fresh (Nat.le_refl _)⟩
  case fin =>
    rintro s' u tk ⟨H', b, st, m', I', n1⟩
    exact k b H' _ u st m' (I'.tok tk)
  case turn =>
    rintro i t s' oa' items na' x acc c n' ⟨apos, akw⟩ ⟨H', b, st, m', I', n1⟩ ha' hda' hx ht hP hz' ⟨rest, rfl⟩ rfl
    obtain ⟨vs, hp, rs⟩ := at_ b H' st m'
    obtain ⟨its, rv, ⟨o, k', ho, hc, _, hd⟩, _⟩ := I'.list (SqL.of hp)
    rw [ho] at ha'; cases ha'
    rw [hd] at hda'
    obtain rfl : its.toArray = items := (Data.seq.inj hda').1
    obtain ⟨d, hld, hsd⟩ := hget i t ht
    obtain ⟨w, hw, rw1⟩ := rv_get rv (show its[i]? = some x by simpa using hx)
    obtain ⟨w', hw', rd1⟩ := rs.get hld
    rw [hw] at hw'; cases hw'
    have I2 : L2.Inv X ([(s.heap.objs.size, prt acc c)] ++ pins) σ H' s' := I'.pins_of fun q hq => by
      rcases List.mem_append.mp hq with hq | hq
      · rw [List.mem_singleton.mp hq]
        exact ⟨hP, n1, (hS _ (Nat.le_refl _)).2.1, (hS _ (Nat.le_refl _)).2.2.2.2.1, fun v z => by cases z⟩
      · exact I'.pin q (List.mem_append_right _ hq)
    have u0 := under_loop A ⟨.ref p :: rest, []⟩
    refine IH d t hsd _ s' H' b w x (n' + 1) _ _ _ I2 m' rd1 rw1 hz' (al.under u0) (u0.gd g hg) (fun pins3 s3 H3 b3 st3 m3 I3 p3 d3 se3 le3 => ?_) fun b2 H2 s2 st2 m2 I3 => ?_
    · have hd3 : dep d ≤ deps l := deps_get hld
      refine (cl pins3 s3 H3 b3 (st.trans st3) m3 I3 p3 d3 se3 (by omega)).cons fun e => ?_
      subst e
      have := sees_dep _ _ _ (seen pins3 s3 H3 b3 (st.trans st3) m3 I3) se3
      simp only [dep] at this
      omega
    · have p1 := I3.pin (s.heap.objs.size, prt acc c) (List.mem_append_right _ (by simp))
      refine ⟨rfl, p1.1, fun gg tk sg _ => ?_⟩
      have I4 : L2.Inv X pins σ H2 s2 := I3.pins_of fun q hq => I3.pin q (List.mem_append_right _ (List.mem_append_right _ hq))
      refine ⟨H2, b2, st.trans st2, m2, inv_edit (t' := tk) (ch := [s.heap.objs.size]) I4 (fun q hq => ?_) (fun q o hq e => (sg.2 q (by simpa using hq)).trans e), p1.2.1⟩
      rw [List.mem_singleton.mp hq]
      obtain ⟨a1, a2, a3, a4, a5, a6⟩ := hS _ (Nat.le_refl s.heap.objs.size)
      exact ⟨a1, a2, a3, a4, p1.2.1⟩
/-- a tuple told -/
theorem tuple_nest {n : Nat} (IH : Nest T X σ μ n) {l : List D} {ts : List Str} (hts : shTs n l = some ts) {p : Addr} {A : Around} {g : List Code} {base : Nat} {R : Result → Shared → Prop} {id : String} {rest : List Value}
    (hcg : (Code.builtin id ⟨.ref p :: rest, []⟩).isGuard = true) (un : Under (.builtin id ⟨.ref p :: rest, []⟩) A (A.under (.builtin id ⟨.ref p :: rest, []⟩)))
    (at_ : ∀ b H', Stp a H b H' → HolM T X.K b μ H' → ∃ vs, SqT X.K H' p vs ∧ Reps T X.K b l vs)
    (I : L2.Inv X pins σ H s) (hm : HolM T X.K a μ H) (al : Al X A (n + 1)) (hg : A.guards = some g) (hz : base + (tupleText ts).length ≤ sizeLine)
    (cl : ∀ pins' s' H' b, Stp a H b H' → HolM T X.K b μ H' → L2.Inv X pins' σ H' s' → ∀ p d', Sees s'.heap d' (.ref p) → dep d' ≤ deps l + 1 → Clear g p)
    (k : ∀ b H' s' u, Stp a H b H' → HolM T X.K b μ H' → L2.Inv X pins σ H' s' → R (.ok (.ret (.str (tupleText ts) u))) s') :
    wpOwn (model X.prog X.w) A (.builtin id ⟨.ref p :: rest, []⟩) (Builtin.tupleReprAt base ⟨[.ref p], []⟩) (fun fin s' => match fin with | .done f => R (.ok f) s' | .again c' => c'.quiet = true ∧ codeAny (model X.prog X.w) A c' R s') (fun e s' => R (.error e) s') s := by
  obtain ⟨hlen, hget⟩ := shTs_get hts
  have seen : ∀ (pins' : List (Addr × Obj)) (s' : Shared) (H' : Hp) (b : Abs), Stp a H b H' → HolM T X.K b μ H' → L2.Inv X pins' σ H' s' → Sees s'.heap (.tup l) (.ref p) := fun pins' s' H' b st m' I' => by
    obtain ⟨vs, hp, rs⟩ := at_ b H' st m'
    obtain ⟨its, rv, ⟨o, ho, hc, k, hd⟩, _⟩ := I'.tuple hp
    simp only [Sees]
    exact ⟨p, o, its, k, rfl, ho, hc, hd, reps_sees I' m'.le n l vs its ts hts rs rv⟩
  obtain ⟨vs, hp, rs⟩ := at_ a H (Stp.refl _ _) hm
  obtain ⟨its, rv, ⟨o, ho, hc, k', hd⟩, _⟩ := I.tuple hp
  let J : Nat → Shared → Prop := fun i s' => ∃ H' b, Stp a H b H' ∧ HolM T X.K b μ H' ∧ L2.Inv X pins σ H' s'
  refine tuple_reprAtJ hcg hg (cl pins s H a (Stp.refl _ _) hm I p (.tup l) (seen _ _ _ _ (Stp.refl _ _) hm I) (by simp only [dep]; omega)) ho hd (by rw [← rv.length, ← rs.length]; exact hlen) hz J ⟨H, a, Stp.refl _ _, hm, I⟩ ?turn ?fin
  case fin =>
    rintro s' u tk ⟨H', b, st, m', I'⟩
    exact k b H' _ u st m' (I'.tok tk)
  case turn =>
    rintro i t x s' n' ⟨H', b, st, m', I'⟩ hx ht hz'
    obtain ⟨d, hld, hsd⟩ := hget i t ht
    obtain ⟨w, hw, rw1⟩ := rv_get rv hx
    obtain ⟨w', hw', rd1⟩ := rs.get hld
    rw [hw] at hw'; cases hw'
    refine IH d t hsd _ s' H' b w x (n' + 1) _ _ _ I' m' (Rep.mono st.le _ _ rd1) rw1 hz' (al.under un) (un.gd g hg) (fun pins3 s3 H3 b3 st3 m3 I3 p3 d3 se3 le3 => ?_) fun b2 H2 s2 st2 m2 I3 => ⟨rfl, H2, b2, st.trans st2, m2, I3⟩
    have hd3 : dep d ≤ deps l := deps_get hld
    refine (cl pins3 s3 H3 b3 (st.trans st3) m3 I3 p3 d3 se3 (by omega)).cons fun e => ?_
    subst e
    have := sees_dep _ _ _ (seen pins3 s3 H3 b3 (st.trans st3) m3 I3) se3
    simp only [dep] at this
    omega
theorem under_tup (A : Around) (args : Args) : Under (.builtin "tuple.__repr__" args) A (A.under (.builtin "tuple.__repr__" args)) :=
  ⟨by simp [Around.under, Code.envs, Code.isFrame, pushEnvs], by first | rfl | simp [Around.under], by first | exact Nat.le_refl _ | simp [Around.under, Code.weight, Code.isCreation, Code.isGuard, Code.isCaller, Code.frames, Code.isFrame, guardIds], units_under_tuple_repr A args, fun g hg => guards_under_guard (isGuard_tuple_repr _) hg⟩
theorem under_tupU (A : Around) (args : Args) : Under (.builtin "tuple.__repr__.under" args) A (A.under (.builtin "tuple.__repr__.under" args)) :=
  ⟨by simp [Around.under, Code.envs, Code.isFrame, pushEnvs], by first | rfl | simp [Around.under], by first | exact Nat.le_refl _ | simp [Around.under, Code.weight, Code.isCreation, Code.isGuard, Code.isCaller, Code.frames, Code.isFrame, guardIds], units_under_tuple_repr_under A args, fun g hg => guards_under_guard (isGuard_tuple_repr_under _) hg⟩
/-- an own instance is told, the rest goes on with k -/
def InstN (T : Tab) (X : Cx) (σ : L2.St) (μ : Mem) : Prop := ∀ (n c : Nat) (ns : List Nat) (fs : List D) (x : Str), insW c ns fs = some x → ∀ (v : V) (u : Value) (base : Nat) (A : Around) (pins : List (Addr × Obj)) (s : Shared) (H : Hp) (a : Abs) (Q : Str → Shared → Prop),
  L2.Inv X pins σ H s → HolM T X.K a μ H → Rep T X.K a (.ins c ns fs) v → RelV v u → base + x.length ≤ sizeLine → Al X A n → (∀ b H' s', Stp a H b H' → HolM T X.K b μ H' → L2.Inv X pins σ H' s' → Q x s') → wpAny (model X.prog X.w) A (pyReprUnder base u) Q (fun _ _ => False) s
/-- an own instance told -/
theorem inst_nest (O : Own T m X) (SF : SpForm T) (hq : T.quiet = false) (sh : ShwOk T) {n : Nat} {c : Nat} {ns : List Nat} {fs : List D} {x : Str} (hx : insW c ns fs = some x) {v : V} {u : Value} {base : Nat} {A : Around} {Q : Str → Shared → Prop}
    (I : L2.Inv X pins σ H s) (hm : HolM T X.K a μ H) (r : Rep T X.K a (.ins c ns fs) v) (ru : RelV v u) (hz : base + x.length ≤ sizeLine) (al : Al X A n)
    (k : ∀ b H' s', Stp a H b H' → HolM T X.K b μ H' → L2.Inv X pins σ H' s' → Q x s') : wpAny (model X.prog X.w) A (pyReprUnder base u) Q (fun _ _ => False) s := by
  obtain ⟨kc, f, hk, hs, hrun⟩ := sh c ns fs x hx
  obtain ⟨t1, t2⟩ := O.tab.spec c kc 3 f hk hs
  have OQ := O.tq hq
  have hkx := Tab.kx_n hq
  have r' := r
  simp only [Rep] at r'
  obtain ⟨p, dx, ws, rfl, h1, h2, h3, h4⟩ := r'
  cases ru
  obtain ⟨ox, od, J⟩ := inst_at I (hm.le _ _ h1)
  have hA : Room (3 * 1 + T.q.kx) A := ⟨al.hd.trans O.room.hd, by have := al.dp; have := O.room.dp; show A.depth + 3 * (3 * 1 + 0) + 5 < _; omega, by have := al.un; have := O.room.un; show A.units + 16 * (3 * 1 + 0) + 200 < _; omega⟩
  refine wpAny_pyReprUnder_ref (by omega) (inst_under (by have := hA.un; omega) I.kIn J t1 t2 ?_)
  have z := run_d (E := fun _ _ _ => False) (E2 := fun _ _ => False) (Q := fun v H' => v = .str x ∧ ∃ b, Stp a H b H' ∧ HolM T X.K b μ H') (ix := []) (ks := []) (us := [.ref p]) (vs := [.ref p]) (args := [.ins c ns fs]) (ws := []) (zs := []) (kv := []) (μ := μ) OQ out_none hA (fun z => nomatch z) (al.env I) I (SF c kc 3 f hk hs) (.cons rfl .nil) .nil (Reps.cons (Rep.tq _ _ r) Reps.nil) Reps.nil rfl rfl hm.tq (by
    have e := hrun μ
    rw [e]
    intro b v H' st m' r2
    simp only [Rep] at r2
    exact ⟨r2.1, b, st, m'.tqr⟩)
  refine thn (wpAny_call z) fun w s' hw => ?_
  obtain ⟨v2, H2, I2, rv2, rfl, b, st, m'⟩ := hw
  obtain ⟨t, rfl⟩ := rv2
  exact ⟨⟨x, t, rfl⟩, x, t, rfl, k b H2 s' st m' I2⟩
theorem nest_all (hsy : (X.K.lookup sysModules).isSome = true) (hun : X.A.units + 120 < cLine) (hi : InstN T X σ μ) : ∀ n, n ≤ 7 → Nest T X σ μ n
  | n, hn, d, x, hd, pins, s, H, a, v, u, base, A, g, Q, I, hm, r, ru, hz, al, hg, cl, k => by
    have leafQ : ∀ tk, Q x { s with toks := tk } := fun tk => k a H _ (Stp.refl _ _) hm (I.tok tk)
    have hu : A.units + 40 < cLine := by have := al.un; omega
    have leaf : ReprIs X.prog X.w u x → wpAny (model X.prog X.w) A (pyReprUnder base u) Q (fun _ _ => False) s := fun h => h base hz A _ s Q leafQ
    cases d with
    | non => simp only [shT] at hd; cases hd; simp only [Rep] at r; subst r; cases ru; exact leaf ReprIs.none
    | bl b => simp only [shT] at hd; cases hd; simp only [Rep] at r; subst r; cases ru; exact leaf (ReprIs.bool b)
    | int i =>
      simp only [shT] at hd
      split at hd
      · rename_i h2; cases hd; simp only [Rep] at r; subst r; obtain ⟨t, rfl⟩ := ru; exact leaf (ReprIs.int t h2)
      · cases hd
    | str y =>
      simp only [shT] at hd
      split at hd
      · rename_i h2; cases hd; simp only [Rep] at r; obtain ⟨rfl, _⟩ := r; obtain ⟨t, rfl⟩ := ru; exact leaf (ReprIs.str y t h2)
      · cases hd
    | dct t ks vs =>
      cases ks with
      | cons a b => simp [shT] at hd
      | nil =>
        simp only [shT] at hd; cases hd
        have r' := r
        simp only [Rep] at r'
        obtain ⟨p, ws, rfl, rs, hl, hdc⟩ := r'
        cases ru
        obtain rfl : ws = [] := List.eq_nil_of_length_eq_zero hl.symm
        have cl0 := cl pins s H a (Stp.refl _ _) hm I p (.dct t [] vs) (rep_sees I hm.le 0 _ _ _ (dictText []) (by simp only [shT]) r rfl) (Nat.le_refl _)
        have fin : ∀ (o : Obj) (es : Array DictEntry) (ep : Nat), s.heap.get? p = some o → o.ExactDict → o.data = .dict es ep → es.toList = [] → H p = some (.dK []) ∨ H p = some (.dT []) → wpAny (model X.prog X.w) A (pyReprUnder base (.ref p)) Q (fun _ _ => False) s := fun o es ep ho ex hd he hp => by
          have hns : p ≠ sysModules := hp.elim (not_sys hsy I) (not_sys hsy I)
          have K := ReprK.dict (prog := X.prog) (w := X.w) (as := []) (d := 0) (ps := []) ho ex.1 hd (beq_eq_false_iff_ne.mpr hns) (by simp) (by rw [he]; exact .nil)
          exact K base hz A g _ s Q hg (fun b hb => by rw [List.mem_singleton.mp hb]; exact cl0) (by omega) (fun _ _ e => e) fun h' tk hk => k a H _ (Stp.refl _ _) hm (I.kept hk)
        cases t with
        | false =>
          obtain ⟨xs, g', hmm⟩ := hdc
          have hp := hm.le _ _ g'
          rw [List.zip_nil_right] at hp
          obtain ⟨_, _, vs, kv, o, es, ep, ho, ex, hd, _, pr, _⟩ := I.hok p _ hp
          cases kv
          have he : es.toList = [] := by
            generalize es.toList = l at pr
            cases l with
            | nil => rfl
            | cons e l => exact (nomatch pr)
          exact fin o es ep ho ex hd he (.inl hp)
        | true =>
          obtain ⟨xs, g', hmm⟩ := hdc
          have hp := hm.le _ _ g'
          rw [List.zip_nil_right] at hp
          obtain ⟨_, _, ys, pr, o, es, ep, ho, ex, hd, he, _⟩ := I.hok p _ hp
          cases pr
          exact fin o es ep ho ex hd (by simpa using he) (.inr hp)
    | ins c ns fs => exact hi n c ns fs x (by simpa only [shT] using hd) _ _ _ _ _ _ _ _ _ I hm r ru hz al k
    | tup l =>
      cases n with
      | zero => simp [shT] at hd
      | succ n =>
        simp only [shT] at hd
        obtain ⟨ts, hts, rfl⟩ := Option.map_eq_some_iff.mp hd
        have r' := r
        simp only [Rep] at r'
        obtain ⟨p, vs, rfl, sq, rs⟩ := r'
        cases ru
        obtain ⟨its, rv, ⟨o, ho, hc, k', hd'⟩, _⟩ := I.tuple (SqT.up hm.le sq.sq)
        refine wpAny_pyReprUnder_ref (by omega) (wpAny_pyReprObjUnder_twin (twin := "tuple.__repr__.under") ⟨o, ho, hc⟩ F.slot_tuple_repr rfl (by omega)
          (call_twin_own (F.quiet_tuple_repr_under _) F.entry_tuple_repr_under F.check_tuple_repr_under ⟨o, ho, hc⟩ F.slot_tuple_repr (F.args_tuple_repr_1 _)
            (tuple_nest (R := callEnd _ _) (nest_all hsy hun hi n (by omega)) hts (isGuard_tuple_repr_under _) (under_tupU _ _) (fun b H' st m' => ⟨vs, SqT.up m'.le (SqT.mono st.le sq.sq), Reps.mono st.le _ _ rs⟩) I hm al hg hz cl fun b H' s' w st m' I' => ?_)))
        exact ⟨⟨_, _, rfl⟩, _, _, rfl, k b H' s' st m' I'⟩
    | lst l =>
      cases n with
      | zero => simp [shT] at hd
      | succ n =>
        simp only [shT] at hd
        obtain ⟨ts, hts, rfl⟩ := Option.map_eq_some_iff.mp hd
        have r' := r
        simp only [Rep] at r'
        obtain ⟨p, vs, rfl, sq, rs⟩ := r'
        cases ru
        obtain ⟨its, rv, ⟨o, k', ho, hc, hsl, hd'⟩, _⟩ := I.list (SqL.of (hm.le _ _ sq))
        cases its with
        | nil =>
          have hl0 : l = [] := List.eq_nil_of_length_eq_zero (by rw [rs.length, rv.length]; rfl)
          subst hl0
          simp only [shTs] at hts; cases hts
          refine wpAny_pyReprUnder_ref (by omega) (wpAny_pyReprObjUnder_list_empty ⟨o, ho, hc⟩ (by omega) ho hd' ⟨_, _, rfl, ?_⟩)
          have := leafQ (s.toks + 1)
          simpa only [listText_nil] using this
        | cons x0 l0 =>
          refine wpAny_pyReprUnder_ref (by omega) (wpAny_pyReprObjUnder_twin (twin := "list.__repr__.under") ⟨o, ho, hc⟩ F.slot_list_repr.toG rfl (by omega)
            (call_twin_plain F.plain_list_repr_under F.entry_list_repr_under F.check_list_repr_under ⟨o, ho, hc⟩ F.slot_list_repr.toG (F.args_list_repr_1 _)
              (list_nest (R := callEnd _ _) (nest_all hsy hun hi n (by omega)) hts (fun b H' st m' => ⟨vs, m'.le _ _ (st.le.fr _ _ sq), Reps.mono st.le _ _ rs⟩) I hm ho hd' al hg hz cl fun b H' s' w st m' I' => ?_)))
          exact ⟨⟨_, _, rfl⟩, _, _, rfl, k b H' s' st m' I'⟩
    | _ => simp [shT] at hd
/-- repr of a tuple, a list at the top -/
theorem reprC_W0 (hsy : (X.K.lookup sysModules).isSome = true) (hun : X.A.units + 120 < cLine) (hg : X.A.guards = some []) (hi : ∀ σ μ, InstN T X σ μ) (hR : T.reprS = shownW) : ReprC T X := by
  intro pins s σ H a μ d v u x Q I hm r1 r0 e2 hni k
  have rv := rd_rep hm r1
  change T.reprS (rd μ d) = some x at e2
  rw [hR] at e2
  by_cases hs : shownD (rd μ d) = some x
  · exact reprC_D0 hsy hun hg pins s σ H a μ d v u x Q I hm r1 r0 hs hni k
  have hn : shownD (rd μ d) = none := by
    unfold shownW at e2
    split at e2
    · rename_i y h; rw [h] at hs; exact absurd e2 hs
    · assumption
  unfold shownW at e2
  rw [hn] at e2
  simp only [] at e2
  have hu : X.A.units + 60 < cLine := by omega
  have al7 : Al X X.A.in1 7 := ⟨I.env0.frames, rfl, by show X.A.depth + 7 ≤ _; omega, by show X.A.units + 1 + 3 * 7 ≤ _; omega⟩
  have clN : ∀ (p : Addr), Clear [] p := fun p => Clear.nil p
  generalize hgd : rd μ d = d' at *
  cases d' <;> first | (cases e2; done) | skip
  · rename_i l
    obtain ⟨y, e3, e4⟩ := Option.bind_eq_some_iff.mp e2
    split at e4
    · rename_i hok
      cases e4
      simp only [shT] at e3
      obtain ⟨ts, hts, rfl⟩ := Option.map_eq_some_iff.mp e3
      have hz := strG.len (okS_G hok)
      obtain ⟨p, ws, rfl, sq, rs⟩ := rv
      cases r0
      obtain ⟨its, rv2, ⟨o, ho, hc, k', hd'⟩, _⟩ := I.tuple sq
      refine call_repr_slot (by omega) ⟨o, ho, hc⟩ F.slot_tuple_repr
        (wpAny_call (codeAny_call_builtin_own (Code.quiet_builtin _ (by decide +kernel)) F.entry_tuple_repr (F.slot_tuple_repr.check _ _ _ _ _ _ _ _ ⟨o, ho, hc⟩ (F.args_tuple_repr_1 _)
          (tuple_nest (base := 0) (R := callEnd _ _) (nest_all hsy hun (hi σ μ) 6 (by omega)) hts (isGuard_tuple_repr _) (under_tup _ _) (fun b H' st m' => ?_) I hm al7 hg (by rw [Nat.zero_add, ← sL_length, ← sizeLn_eq]; exact hz) (fun _ _ _ _ _ _ _ p _ _ _ => clN p) fun b H' s' w st m' I' => ?_))))
      · have rv3 := rd_rep m' (Rep.mono st.le _ _ r1)
        rw [hgd] at rv3
        obtain ⟨p', ws', e, sq', rs'⟩ := rv3
        cases e
        exact ⟨ws', sq', rs'⟩
      · exact ⟨_, _, rfl, .str _, H', I', ⟨_, rfl⟩, k b H' st m' (okS_G hok)⟩
    · cases e4
  · rename_i l
    obtain ⟨y, e3, e4⟩ := Option.bind_eq_some_iff.mp e2
    split at e4
    · rename_i hok
      cases e4
      simp only [shT] at e3
      obtain ⟨ts, hts, rfl⟩ := Option.map_eq_some_iff.mp e3
      have hz := strG.len (okS_G hok)
      obtain ⟨p, ws, rfl, sq, rs⟩ := rv
      cases r0
      obtain ⟨its, rv2, ⟨o, k', ho, hc, hsl, hd'⟩, _⟩ := I.list (SqL.of sq)
      cases its with
      | nil =>
        have hl0 : l = [] := List.eq_nil_of_length_eq_zero (by rw [rs.length, rv2.length]; rfl)
        subst hl0
        simp only [shTs] at hts; cases hts
        refine call_repr_slot (by omega) ⟨o, ho, hc⟩ F.slot_list_repr.toG (call_list_repr_empty ⟨o, ho, hc⟩ ho hd' ?_)
        exact ⟨_, _, rfl, .str _, H, I.tok _, by rw [listText_nil]; exact ⟨_, rfl⟩, k a H (Stp.refl _ _) hm (okS_G hok)⟩
      | cons x0 l0 =>
        refine call_repr_slot (by omega) ⟨o, ho, hc⟩ F.slot_list_repr.toG
          (wpAny_call (codeAny_call_builtin F.slot_list_repr.plain F.entry_list_repr (F.slot_list_repr.check _ _ _ _ _ _ _ _ ⟨o, ho, hc⟩ (F.args_list_repr_1 _)
            (list_nest (base := 0) (R := callEnd _ _) (nest_all hsy hun (hi σ μ) 6 (by omega)) hts (fun b H' st m' => ?_) I hm ho hd' al7 hg (by rw [Nat.zero_add, ← sL_length, ← sizeLn_eq]; exact hz) (fun _ _ _ _ _ _ _ p _ _ _ => clN p) fun b H' s' w st m' I' => ?_))))
        · have rv3 := rd_rep m' (Rep.mono st.le _ _ r1)
          rw [hgd] at rv3
          obtain ⟨p', ws', e, sq', rs'⟩ := rv3
          cases e
          exact ⟨ws', sq', rs'⟩
        · exact ⟨_, _, rfl, .str _, H', I', ⟨_, rfl⟩, k b H' st m' (okS_G hok)⟩
    · cases e4
  · rename_i t ks ds
    cases ks with
    | cons a b => cases e2
    | nil =>
      change (if okS (dictText []) = true then some (dictText []) else none) = some x at e2
      split at e2
      · rename_i hok
        cases e2
        have hz := strG.len (okS_G hok)
        have hz' : (dictText []).length ≤ sizeLine := by rw [← sL_length, ← sizeLn_eq]; exact hz
        obtain ⟨p, ws, rfl, rs, hl, hdc⟩ := rv
        cases r0
        obtain rfl : ws = [] := List.eq_nil_of_length_eq_zero hl.symm
        have fin : ∀ (o : Obj) (es : Array DictEntry) (ep : Nat), s.heap.get? p = some o → o.ExactDict → o.data = .dict es ep → es.toList = [] → H p = some (.dK []) ∨ H p = some (.dT []) → wpAny (model X.prog X.w) X.A (call (.builtin "repr") [.ref p] []) (EP X pins σ Q) X.xe s := fun o es ep ho ex hd he hp => by
          have hns : p ≠ sysModules := hp.elim (not_sys hsy I) (not_sys hsy I)
          refine call_repr_slot (by omega) ⟨o, ho, ex.1⟩ F.slot_dict_repr (call_dict_reprK (as := []) (d := 0) (g := []) (ps := []) ho ex.1 hd (beq_eq_false_iff_ne.mpr hns) (by simp) (by rw [he]; exact .nil) hg (fun b _ => clN b) (by show X.A.units + 1 + (0 + 1) < _; omega) (fun _ _ e => e) (fun h' w tk hk => ?_) hz')
          exact ⟨_, _, rfl, .str _, H, I.kept hk, ⟨_, rfl⟩, k a H (Stp.refl _ _) hm (okS_G hok)⟩
        cases t with
        | false =>
          obtain ⟨xs, hp, hmm⟩ := hdc
          rw [List.zip_nil_right] at hp
          obtain ⟨_, _, vs, kv, o, es, ep, ho, ex, hd, _, pr, _⟩ := I.hok p _ hp
          cases kv
          have he : es.toList = [] := by
            generalize es.toList = l at pr
            cases l with
            | nil => rfl
            | cons e l => exact (nomatch pr)
          exact fin o es ep ho ex hd he (.inl hp)
        | true =>
          obtain ⟨xs, hp, hmm⟩ := hdc
          rw [List.zip_nil_right] at hp
          obtain ⟨_, _, ys, pr, o, es, ep, ho, ex, hd, he, _⟩ := I.hok p _ hp
          cases pr
          exact fin o es ep ho ex hd (by simpa using he) (.inr hp)
      · cases e2
theorem reprC_W {m : Nat} (O : Own T m X) (SF : SpForm T) (hq : T.quiet = false) (sh : ShwOk T) (hR : T.reprS = shownW) : ReprC T X :=
  reprC_W0 O.tab.sysm (by have := O.room.un; omega) (O.gd hq) (fun σ μ n c ns fs x hx v u base A pins s H a Q I hm r ru hz al k => inst_nest O SF hq sh hx I hm r ru hz al k) hR
theorem cb_repr {n : Nat} (O : Own T n X) (SF : SpForm T) (hR : RepOk T) : CallR X (.builtin "repr") (rB1 T X.K (reprV T.P (T.C n) T.reprS)) := by
  refine cb_reprG O SF ?_
  rcases hR with h | ⟨h1, h2⟩ | ⟨h1, h2, h3⟩
  · unfold ReprC
    rw [h]
    intro pins s σ H a μ d v u x Q I m r1 r0 e2 hni k
    cases e2
  · unfold ReprC
    rw [h2]
    exact reprC_D O (O.gd h1)
  · exact reprC_W O SF h1 h3 h2
end
end DI
end

section
set_option Elab.async false
set_option linter.all false
set_option maxRecDepth 100000
namespace DI
open PySem L2 PySem.Spec PyProof.Rows L2H
/-- an own __repr__, called where an exception is handled -/
structure RepH (T : Tab) (P : Program) (w : World) (K : PySem.W.Frag) (mg : Str → Option Value) (base : Heap) (f : Nat) : Prop where
  run : ∀ (A : Around) (outer : List PySem.Env) (s : Shared) (H : Hp) (Q : VK) (E : XK) (a : Abs) (p : Addr × Obj) (c : Nat) (ns : List Nat) (fs : List D) (v : V) (u : Value) (x : Str), RoomH 1 A → Hot1 A p → PinOk outer H s p → Env0 P w K mg base A outer s H → (∀ q o, a.G q = some o → H q = some o) →
    Rep T K a (.ins c ns fs) v → RelV v u → insW c ns fs = some x → Q (.str x) H → codeAny (model P w) A (.call (.ref (T.fa f)) ⟨[u], []⟩) (CR (L2N.CX P w) outer P w H s Q E) s
section
variable {T : Tab} {P : Program} {w : World} {K : PySem.W.Frag} {mg : Str → Option Value} {base : Heap}
theorem insW_inv {c : Nat} {ns : List Nat} {fs : List D} {x : Str} (h : insW c ns fs = some x) : c = 29 ∧ ns = [5, 6, 7] ∧ ∃ y z d, fs = [.tup y, .tup z, d] ∧ y.length < 300 ∧ z.length < 300 ∧ x = sM (sL "Web of " ++ sL (intS y.length) ++ sL " places and " ++ sL (intS z.length) ++ sL " ties") := by
  unfold insW at h
  split at h
  · split at h
    · rename_i hl
      cases h
      exact ⟨rfl, rfl, _, _, _, rfl, hl.1, hl.2, rfl⟩
    · cases h
  · cases h
end
section
variable {T : Tab} {n : Nat} {X : Cx} {W : WX} {pos : Pos} {clo : Option (Addr × Addr × Str × Nat × List (Option V))}
/-- own instances are told in a suite -/
theorem instN_hot {a : Addr} {oe : Obj} {pn : List (Addr × Obj)} {cls : Value} {dd : Option Addr} {ex : Option (Nat × Addr × Value × Option Addr)} (tab : TabOk T X.K) {k : DI.Cls} {f : Nat} (hk : T.P.cls 29 = some k) (h3 : k.spec.lookup 3 = some f) (RH : RepH T X.prog X.w X.K X.mg X.base f) (hr : RoomH 5 X.A)
    (hz : L2N.Zn cls dd oe) (hf : ∃ vs, oe.data = .fields vs) (σ : L2.St) (μ : Mem) : InstN (T.sp ex clo) (X.suite a ((a, oe) :: pn)) σ μ := by
  intro n c ns fs x hx v u base A pins s H b Q I hm r ru hlen al k'
  have hx0 := hx
  obtain ⟨rfl, rfl, _⟩ := insW_inv hx
  obtain ⟨t1, t2⟩ := tab.spec 29 k 3 f hk h3
  have r0 : Rep T X.K b (.ins 29 [5, 6, 7] fs) v := r.spr
  have r' := r0
  simp only [Rep] at r'
  obtain ⟨p, dx, ws, rfl, h1, h2, hl, rr⟩ := r'
  have ru0 := ru
  obtain rfl := ru
  obtain ⟨ox, od, J⟩ := inst_at I (hm.le _ _ h1)
  have hdp : A.depth + n ≤ X.A.depth + 10 := al.dp
  have hun : A.units + 3 * n ≤ X.A.units + 40 := al.un
  have g1 := hr.dp
  have g2 := hr.un
  obtain ⟨fv, hfv⟩ := hf
  have P1 := I.pin (a, oe) (List.mem_append_left _ List.mem_cons_self)
  have hpin : PinOk X.stack H s (a, oe) := ⟨P1.1, P1.2.1, fun hm => (List.mem_cons.mp (I.stkSub a hm)).elim P1.2.2.1 P1.2.2.2.1, P1.2.2.2.2⟩
  have hot : Hot1 A (a, oe) := ⟨al.hd, fv, hfv, hz.2.2 fv hfv⟩
  refine wpAny_pyReprUnder_ref (by omega) (inst_under (by omega) I.kIn J t1 t2 ?_)
  have z := RH.run A X.stack s H (fun v H' => v = .str x ∧ H' = H) (fun _ _ _ => False) b (a, oe) 29 [5, 6, 7] fs (.ref p) (.ref p) x ⟨by omega, by omega⟩ hot hpin (al.env I) hm.le r0 ru0 hx0 ⟨rfl, rfl⟩
  refine thn (wpAny_call (Q := EP (X.suite a ((a, oe) :: pn)) pins σ fun v H' => v = .str x ∧ H' = H) (E := fun _ _ => False) (codeAny_mono z fun r s' hq => CR.ep (X := X.suite a ((a, oe) :: pn)) (E2 := fun _ _ => False) I out_none hq)) fun w s' hw => ?_
  obtain ⟨v2, H2, I2, rv2, rfl, rfl⟩ := hw
  obtain ⟨t, rfl⟩ := rv2
  exact ⟨⟨x, t, rfl⟩, x, t, rfl, k' b H2 s' (Stp.refl _ _) hm I2⟩
/-- repr(x) of what is no own instance, in a suite -/
theorem cb_reprD (hC : ReprC T X) : CallR X (.builtin "repr") (rB1 T X.K fun μ d => R.of μ (reprDV T.reprS (rd μ d))) := by
  intro pins s σ H vs us Q I r h
  obtain ⟨a, μ, d, v, rfl, m, r1, q⟩ := h
  obtain ⟨z, e1, k⟩ := q.of
  unfold reprDV at e1
  split at e1
  · cases e1
  · rename_i hni
    obtain ⟨x, e2, rfl⟩ := Option.map_eq_some_iff.mp e1
    cases r with
    | cons r0 rn =>
      cases rn
      exact hC pins s σ H a μ d v _ x Q I m r1 r0 e2 (fun c ns fs e => hni c ns fs e) fun b H' st m' hx => k b _ H' st m' (rep_str hx)
theorem sf_reprX {a : Addr} {oe : Obj} {pn : List (Addr × Obj)} {cls : Value} {dd : Option Addr} {ex : Option (Nat × Addr × Value × Option Addr)} (tab : TabOk T X.K)
    (hR : T.reprS = shownD ∨ (T.reprS = shownW ∧ ∃ k f, T.P.cls 29 = some k ∧ k.spec.lookup 3 = some f ∧ RepH T X.prog X.w X.K X.mg X.base f)) (hr : RoomH 5 X.A) (hgd : X.A.guards = some [])
    (hz : L2N.Zn cls dd oe) (hf : ∃ vs, oe.data = .fields vs) {y : Expr} {e : E} {p : Pos} (h : SE (T.sp ex clo) n (X.suite a ((a, oe) :: pn)) W y e) (hg : Gl X "repr") (hm : X.mg "repr" = none) (hs : starEach [y] X.env = (false, eval y X.env) :: starEach [] X.env) :
    SF (T.sp ex clo) n (X.suite a ((a, oe) :: pn)) W (.Call (.Name "repr" p) [y] [] pos) (.bi .reprD (.c e .n)) := by
  have hun : (X.suite a ((a, oe) :: pn)).A.units + 120 < cLine := by have := hr.un; show X.A.units + 120 < _; omega
  have hC : ReprC (T.sp ex clo) (X.suite a ((a, oe) :: pn)) := by
    rcases hR with h | ⟨h, k, f, hk, h3, RH⟩
    · unfold ReprC
      rw [show (T.sp ex clo).reprS = shownD from h]
      exact reprC_D0 tab.sysm hun hgd
    · exact reprC_W0 tab.sysm hun hgd (fun σ μ => instN_hot tab hk h3 RH hr hz hf σ μ) h
  exact sf_b1 (fun _ _ => rfl) (fun h => pe_callB (X := X.suite a ((a, oe) :: pn)) (cb_reprD hC) hg hm boot_repr h (by decide) (by decide) hs) h hs
end
end DI
end

section
set_option Elab.async false
set_option linter.all false
set_option maxRecDepth 100000
namespace DI
open PySem L2 PySem.Spec PyProof.Rows
set_option maxHeartbeats 1000000
inductive Pth where
  | glo (x : Str) | meth (C m : Str) | prop (C m : Str) | cm (C m : Str)
def Pth.adr (K : PySem.W.Frag) : Pth → Addr
  | .glo x => He.ga K x
  | .meth C m => He.ma K (He.ga K C) m
  | .prop C m => He5.wf K (He.ga K C) "property" m
  | .cm C m => He5.wf K (He.ga K C) "classmethod" m
/-- the names of attributes by number -/
def anOf (l : List Str) (i : Nat) : Str := match l[i]? with
  | some x => x
  | none => sM (List.replicate (i + 100) 0)
theorem anOf_inj {l : List Str} (nd : l.Nodup) (sz : l.all (fun x => decide ((sL x).length < 100)) = true) (i j : Nat) (h : anOf l i = anOf l j) : i = j := by
  have short : ∀ {k : Nat} {x : Str}, l[k]? = some x → (sL x).length < 100 := fun {k x} e => by
    have := List.all_eq_true.mp sz x (List.mem_of_getElem? e)
    exact of_decide_eq_true this
  have long : ∀ k, (sL (sM (List.replicate (k + 100) 0))).length = k + 100 := fun k => by simp [sL, sM]
  unfold anOf at h
  cases ei : l[i]? with
  | some x =>
    cases ej : l[j]? with
    | some y =>
      rw [ei, ej] at h
      have h : x = y := h
      subst h
      obtain ⟨h1, h2⟩ := List.getElem?_eq_some_iff.mp ei
      obtain ⟨h3, h4⟩ := List.getElem?_eq_some_iff.mp ej
      exact (List.getElem_inj (h₀ := h1) (h₁ := h3) nd).mp (by rw [h2, h4])
    | none =>
      rw [ei, ej] at h
      have h : x = sM (List.replicate (j + 100) 0) := h
      have := short ei
      rw [h, long] at this; omega
  | none =>
    cases ej : l[j]? with
    | some y =>
      rw [ei, ej] at h
      have h : sM (List.replicate (i + 100) 0) = y := h
      have := short ej
      rw [← h, long] at this; omega
    | none =>
      rw [ei, ej] at h
      have h : sM (List.replicate (i + 100) 0) = sM (List.replicate (j + 100) 0) := h
      have h1 := long i
      rw [h, long] at h1; omega
/-- the text of an own exception's __init__ -/
structure XI where
  c : Nat
  qual : Str
  fs : List Str
  pps : List Pos
  sets : List (Pos × Pos × Pos × Pos)
  ps : Pos × Pos × Pos × Pos × Pos
/-- a def's code object and its table -/
def cpOf (K : PySem.W.Frag) (f : Addr) : Addr × Addr := match cdOf K f with
  | .ref c => (match K.lookup c with
    | some ⟨_, _, .fields vs, _⟩ => (match (vs[11]? : Option Value) with
      | some (.ref P) => (c, P)
      | _ => (0, 0))
    | _ => (0, 0))
  | _ => (0, 0)
structure LawT where
  fns : List (Nat × Fn)
  lams : List (Nat × Lam)
  cls : List (Nat × DI.Cls)
  gls : List (Nat × D)
  pth : List (Nat × Pth)
  cnm : List (Nat × Str)
  ann : List Str
  forms : List (Nat × List ((Nat × List Nat) × List Str))
  isc : List Nat
  /-- the module's names: constants, free names -/
  gnm : List (Str × Nat)
  free : List Str
  /-- classmethods: the class, the name, the def -/
  cms : List (Nat × Str × Nat)
  exs : Bool := false
  /-- the defs that make lambdas, their lambdas' qualified name -/
  mks : List (Nat × Str) := []
  thk : List Nat := []
  /-- exceptions with an own __init__, without one -/
  xis : List XI := []
  xns : List Nat := []
  /-- the classes that except clauses name -/
  xts : List Nat := []
  /-- the exceptions that are handed to a def, the types they are asked for there -/
  xcs : List Nat := []
  xit : List Ty := []
  /-- repr may be telling: nothing is shown; the defs that may be called then; own instances are shown within others -/
  quiet : Bool := false
  qfns : List (Nat × Fn) := []
  shw : Bool := false
  /-- live instances are compared -/
  ids : Bool := false
  /-- tables in the head: the name, the number -/
  gtb : List (Str × Nat) := []
  file : Str := ""
def LawT.prog (L : LawT) : Prog := { fns := fun n => L.fns.lookup n, lams := fun n => L.lams.lookup n, cls := fun n => L.cls.lookup n, gl := fun n => L.gls.lookup n, exs := L.exs, ids := L.ids }
/-- the same while repr is telling -/
def LawT.q (L : LawT) : LawT := { L with fns := L.qfns, thk := [], quiet := true }
/-- what is shown -/
def LawT.rp (L : LawT) : D → Option Str := cond L.quiet noR (cond L.shw shownW shownD)
def LawT.form (L : LawT) (f m : Nat) (ix : List Nat) : Option (List Str) := match L.forms.lookup f with
  | some l => l.lookup (m, ix)
  | none => none
def LawT.tab (L : LawT) (K : PySem.W.Frag) : Tab where
  P := L.prog
  reprS := L.rp
  fa := fun n => match L.pth.lookup n with
    | some p => p.adr K
    | none => 0
  ca := fun n => match L.cnm.lookup n with
    | some x => He.ga K x
    | none => 0
  an := anOf L.ann
  form := L.form
  isc := L.isc
  thk := L.thk
  cds := L.mks.map fun q => cpOf K (match L.pth.lookup q.1 with
    | some p => p.adr K
    | none => 0)
  tbs := L.mks.map fun q => ((cpOf K (match L.pth.lookup q.1 with
    | some p => p.adr K
    | none => 0)).2, q.2)
  quiet := L.quiet
  fq := fun n => L.qfns.lookup n
def gloB (K : PySem.W.Frag) (x : Str) : Bool := He.eqO (PySem.W.nsIn K mainGlobals x) (some (some (.ref (He.ga K x))))
def clsB (K : PySem.W.Frag) (C : Addr) : Bool := PySem.W.plainGet K C Str.empty && (PySem.W.hasDictIn K C && (PySem.W.plainOver K C && He.eqO (PySem.W.findIn K (.ref C) "__setattr__") (some (some (.builtin "object.__setattr__")))))
theorem clsB_ok {K : PySem.W.Frag} {C : Addr} (h : clsB K C = true) : L2.Cls K C := by
  unfold clsB at h
  simp only [Bool.and_eq_true] at h
  exact ⟨h.1, h.2.1, h.2.2.1, He.eqO_ok h.2.2.2⟩
section
variable (L : LawT) (K : PySem.W.Frag)
def clsC (c : Nat) (k : DI.Cls) : Bool :=
  let T := L.tab K
  let C := T.ca c
  (match k.init with
    | none => k.meths.isEmpty && (k.props.isEmpty && (k.spec.isEmpty && k.flds.isEmpty))
    | some f => clsB K C && (PySem.W.makesIn K C && (He.eqO (PySem.W.findIn K (.ref C) "__init__") (some (some (.ref (T.fa f)))) && (PySem.W.isFn K (.ref (T.fa f)) && (PySem.W.keepIn K (.ref C) &&
        (He.eqO (PySem.W.findIn K (.ref C) "__class__") (some (some (.builtin "object.__class__"))) && decide (PySem.W.mroIn K C (.type "object") = some true))))))) &&
  ([1, 4].all (fun j => (k.spec.lookup j).isSome || He.eqO (PySem.W.findIn K (.ref C) (spName j)) (some none))) &&
  ((k.meths.all fun q => He.eqO (PySem.W.findIn K (.ref C) (T.an q.1)) (some (some (.ref (T.fa q.2)))) && (PySem.W.isFn K (.ref (T.fa q.2)) && PySem.W.keepIn K (.ref (T.fa q.2)))) &&
  ((k.props.all fun q => He.eqO (PySem.W.findIn K (.ref C) (T.an q.1)) (some (some (.ref (He.ma K C (T.an q.1))))) && (He.eqO (PySem.W.specialIn K (.ref (He.ma K C (T.an q.1))) "__get__") (some (some (.builtin "property.__get__"))) &&
    (decide (PySem.W.takesIn K (.ref (He.ma K C (T.an q.1))) = some true) && (match PySem.W.recIn K (He.ma K C (T.an q.1)) "property" with
      | some (.ref g :: _) => decide (g = T.fa q.2)
      | _ => false)))) &&
  ((k.flds.all fun f => He.eqO (PySem.W.findIn K (.ref C) (T.an f)) (some none)) &&
  ((k.spec.all fun q => He.eqO (PySem.W.findIn K (.ref C) (spName q.1)) (some (some (.ref (T.fa q.2)))) && (PySem.W.isFn K (.ref (T.fa q.2)) && ((q.1 != 16 || PySem.W.fnIn K (T.fa q.2)) && (q.1 != 17 || PySem.W.noSeq K C)))) &&
  (k.xfl.isEmpty || (xfB K C && k.xfl.all fun f => He.eqO (PySem.W.findIn K (.ref C) (T.an f)) (some none)))))))
/-- an own exception class over a built-in one -/
def xbB (C : Addr) (B newId initId : String) (bmB : List Value) : Bool := PySem.W.excInitIn K C bmB newId && (PySem.W.excOver K C bmB && (decide (PySem.W.ks_superIn K C C "__init__" = some (some (.builtin initId))) && decide (PySem.W.subIn K (.ref C) (.type B) = some true)))
def bVE (f : String → String → String → List Value → Bool) : Bool := f "ValueError" "ValueError.__new__" "ValueError.__init__" [.type "ValueError", .type "Exception", .type "BaseException", .type "object"]
def bLE (f : String → String → String → List Value → Bool) : Bool := f "LookupError" "LookupError.__new__" "LookupError.__init__" [.type "LookupError", .type "Exception", .type "BaseException", .type "object"]
def bAE (f : String → String → String → List Value → Bool) : Bool := f "ArithmeticError" "ArithmeticError.__new__" "ArithmeticError.__init__" [.type "ArithmeticError", .type "Exception", .type "BaseException", .type "object"]
def xclB (C : Addr) : Bool := (bVE (xbB K C) || (bLE (xbB K C) || bAE (xbB K C))) && (decide (PySem.W.findIn K (.ref C) "__setattr__" = some (some (.builtin "object.__setattr__"))) && (PySem.W.hasDictIn K C && (decide (PySem.W.mroIn K C (.ref C) = some true) &&
  (PySem.W.keepIn K (.ref C) && (decide (PySem.W.subIn K (.ref C) (.type "BaseException") = some true) && decide (PySem.W.typeIn K (.ref C) = some (.type "type")))))))
def xn0B (C : Addr) : Bool := let f := fun (B newId initId : String) (bmB : List Value) => PySem.W.excInitIn K C bmB newId && decide (PySem.W.findIn K (.ref C) "__init__" = some (some (.builtin initId)))
  bVE f || (bLE f || bAE f)
/-- the exceptions, and what except clauses make of them -/
def xcB : Bool := let T := L.tab K
  (L.xis.all fun x => xclB K (T.ca x.c)) && ((L.xns.all fun c => xclB K (T.ca c) && xn0B K (T.ca c)) && (L.xts.all fun e => L.cls.all fun p => decide (PySem.W.exmOne K (.ref (T.ca p.1)) (.ref (T.ca e)) = some (p.2.sup.contains e))))
/-- the makers of lambdas -/
def bmB (P : Addr) : Bool := match PySem.W.nsIn K mainGlobals "__builtins__" with
  | some (some (.ref bm)) => decide (bm ≠ builtinsNs) && (decide (bm ≠ mainGlobals) && (decide (bm ≠ P) && (match K.lookup bm with
    | some ⟨.type m, some d, .plain, _⟩ => decide (m = "module") && decide (d = builtinsNs)
    | _ => false)))
  | _ => false
def mkB : Bool := let T := L.tab K
  L.mks.all fun q => let cp := cpOf K (T.fa q.1)
    decide (cdOf K (T.fa q.1) = .ref cp.1) && (PySem.W.codeHdIn K cp.1 cp.2 && ((K.lookup cp.2).isNone && (decide (mainGlobals ≠ cp.2) && (bmB K cp.2 && L.mks.all fun r => decide ((cpOf K (T.fa r.1)).2 ≠ cp.2) || decide (r.2 = q.2)))))
def tyL : List Nat := [0, 1, 2, 3, 4, 5, 15]
def isB : Bool :=
  let T := L.tab K
  He.eqO (PySem.W.specialIn K (.builtin "object.__class__") "__get__") (some (some (.builtin "getset_descriptor.__get__"))) && (decide (PySem.W.takesIn K (.builtin "object.__class__") = some true) &&
  ((L.isc.all fun c => tyL.all fun t => decide (PySem.W.kitOne K (.type (tyS t)) (.ref (T.ca c)) = some false)) &&
  (L.cls.all fun p => p.2.init.isNone || (([0, 1, 2, 3, 4, 5].all fun t => decide (PySem.W.kitOne K (.ref (T.ca p.1)) (.type (tyS t)) = some false)) &&
    L.isc.all fun e => decide (PySem.W.kitOne K (.ref (T.ca p.1)) (.ref (T.ca e)) = some (p.2.sup.contains e))))))
def glB : Bool := L.gnm.all fun q => match L.gls.lookup q.2 with
  | some (.int i) => (match PySem.W.nsIn K mainGlobals q.1 with
    | some (some (.int j _)) => decide (j = i)
    | _ => false)
  | some (.str s) => strG s && (match PySem.W.nsIn K mainGlobals q.1 with
    | some (some (.str y _)) => decide (y = s)
    | _ => false)
  | _ => false
def cmB : Bool := L.cms.all fun q => let C := (L.tab K).ca q.1
  He5.wrapB K C "classmethod" "classmethod.__get__" q.2.1 && (PySem.W.fnIn K (He5.wf K C "classmethod" q.2.1) && (decide ((L.tab K).fa q.2.2 = He5.wf K C "classmethod" q.2.1) && (PySem.W.readsIn K C (.type "type") &&
    He.eqO (PySem.W.specialIn K (.ref C) "__getattribute__") (some (some (.builtin "type.__getattribute__"))))))
/-- what isinstance says of an exception -/
def tyAns (k : DI.Cls) : Ty → Bool
  | .py n => k.py.contains n
  | .own e => k.sup.contains e
def exkB (C : Addr) : Bool := (PySem.W.clsIn K C).isSome && (He.eqO (PySem.W.findIn K (.ref C) "__getattribute__") (some (some (.builtin "BaseException.__getattribute__"))) && (He.eqO (PySem.W.findIn K (.ref C) "__getattr__") (some none) && (decide (PySem.W.subIn K (.ref C) (.type "BaseException") = some true) &&
  (He.eqO (PySem.W.findIn K (.ref C) "__class__") (some (some (.builtin "object.__class__"))) && decide (PySem.W.mroIn K C (.type "object") = some true)))))
def xisB : Bool := let T := L.tab K
  L.xcs.all fun c => match L.cls.lookup c with
    | some k => exkB K (T.ca c) && L.xit.all fun t => decide (PySem.W.kitOne K (.ref (T.ca c)) (tyXU T t) = some (tyAns k t))
    | none => false
/-- all that is told of a heap's part K -/
def idB : Bool := !L.ids || L.cls.all fun p => !p.2.live || ((p.2.spec.lookup 0).isSome || ((He.eqO (PySem.W.findIn K (.ref ((L.tab K).ca p.1)) "__eq__") (some (some (.builtin "object.__eq__"))) && (He.eqO (PySem.W.findIn K (.ref ((L.tab K).ca p.1)) "__ne__") (some (some (.builtin "object.__ne__"))) && (PySem.W.plainOver K ((L.tab K).ca p.1) && decide (PySem.W.mroIn K ((L.tab K).ca p.1) (.type "tuple") = some false)))) &&
  L.cls.all fun q => (q.2.spec.lookup 0).isNone || (decide ((L.tab K).ca q.1 ≠ (L.tab K).ca p.1) && decide (PySem.W.mroIn K ((L.tab K).ca q.1) (.ref ((L.tab K).ca p.1)) = some false))))
def gtB : Bool := L.gtb.all fun q => match L.gls.lookup q.2 with
  | some (.dct false ks vs) => (match tabL ks vs with
    | some l => (match PySem.W.nsIn K mainGlobals q.1 with
      | some (some (.ref p)) => tabK K p l
      | _ => false)
    | none => false)
  | _ => false
def neB : Bool := L.cls.all fun p => (p.2.spec.lookup 0).isNone || ((He.eqO (PySem.W.findIn K (.ref ((L.tab K).ca p.1)) "__ne__") (some (some (.builtin "object.__ne__"))) && PySem.W.plainOver K ((L.tab K).ca p.1)) &&
  ((tyL.all fun t => decide (PySem.W.mroIn K ((L.tab K).ca p.1) (.type (tyS t)) = some false)) && (L.cls.all fun q => q.2.init.isNone || (q.2.sup.contains p.1 || decide (PySem.W.mroIn K ((L.tab K).ca q.1) (.ref ((L.tab K).ca p.1)) = some false)))))
def chk : Bool := (L.pth.all fun q => (match q.2 with
    | .glo x => gloB K x
    | _ => true) && (PySem.W.isFn K (.ref (q.2.adr K)) && PySem.W.keepIn K (.ref (q.2.adr K)))) &&
  ((L.cnm.all fun q => gloB K q.2) && ((L.cls.all fun p => clsC L K p.1 p.2) && (isB L K && (glB L K && (cmB L K && ((L.free.all fun x => He.eqO (PySem.W.nsIn K mainGlobals x) (some none)) &&
  (decide L.ann.Nodup && (L.ann.all (fun x => decide ((sL x).length < 100)) && (xcB L K && (mkB L K && (neB L K && (xisB L K && (idB L K && (gtB L K && (K.lookup sysModules).isSome))))))))))))))
end
/-- what is known of the module's names and of the classes -/
structure Good (L : LawT) (K : PySem.W.Frag) (mg : Str → Option Value) : Prop where
  tab : TabOk (L.tab K) K
  is_ : IsOk (L.tab K) K
  fn : ∀ x f, L.pth.lookup f = some (.glo x) → mg x = some (.ref ((L.tab K).fa f))
  cl : ∀ x c, L.cnm.lookup c = some x → mg x = some (.ref ((L.tab K).ca c))
  free : ∀ x, L.free.contains x = true → mg x = none
  gl : ∀ x g d, L.gnm.lookup x = some g → L.gls.lookup g = some d → ∃ u v, mg x = some u ∧ RelV v u ∧ ∀ a, Rep (L.tab K) K a d v
  keepF : ∀ f p, L.pth.lookup f = some p → PySem.W.keepIn K (.ref ((L.tab K).fa f)) = true
  keepC : ∀ c k, L.cls.lookup c = some k → k.init.isSome = true → PySem.W.keepIn K (.ref ((L.tab K).ca c)) = true
  xc : ∀ c, (L.xis.any fun x => decide (x.c = c)) = true → XCls K ((L.tab K).ca c)
  xn : ∀ c, L.xns.contains c = true → XCls K ((L.tab K).ca c) ∧ ∃ B newId initId bmB, BaseX B newId initId bmB ∧ PySem.W.excInitIn K ((L.tab K).ca c) bmB newId = true ∧ PySem.W.findIn K (.ref ((L.tab K).ca c)) "__init__" = some (some (.builtin initId))
  xt : ∀ e c k, L.xts.contains e = true → L.cls.lookup c = some k → PySem.W.exmOne K (.ref ((L.tab K).ca c)) (.ref ((L.tab K).ca e)) = some (k.sup.contains e)
  mkr : ∀ f q, L.mks.lookup f = some q → ∃ c P, cdOf K ((L.tab K).fa f) = .ref c ∧ (c, P) ∈ (L.tab K).cds ∧ (P, q) ∈ (L.tab K).tbs ∧ ∀ p ∈ (L.tab K).tbs, p.1 = P → p.2 = q
  tabs : ∀ base : Heap, K.In base → base.Ns mainGlobals mg → ∀ q ∈ (L.tab K).cds, LamX.TabB base mg q.1 q.2
  cm : ∀ c m f, (c, m, f) ∈ L.cms → ClX.CRead K ((L.tab K).ca c) (.type "type") ∧ ∃ p, ClX.CMet K ((L.tab K).ca c) (.type "type") m p ((L.tab K).fa f)
  nea : NeA (L.tab K) K
  nei : NeI (L.tab K) K
  xis : XisOk (L.tab K) K L.xcs L.xit
  gtab : ∀ x g, L.gtb.lookup x = some g → ∃ p l, mg x = some (.ref p) ∧ L.gls.lookup g = some (tabO l) ∧ tabK K p l = true
theorem isTy_cls {P P' : Prog} {μ : Mem} {d : D} {t : Ty} (h : P.cls = P'.cls) : isTy P μ d t = isTy P' μ d t := by
  unfold isTy; rw [h]
theorem tab_q (L : LawT) (K : PySem.W.Frag) : (L.tab K).q = L.q.tab K := rfl
/-- .. also while repr is telling -/
theorem Good.q {L : LawT} {K : PySem.W.Frag} {mg : Str → Option Value} (G : Good L K mg) : Good L.q K mg :=
  ⟨⟨G.tab.sysm, G.tab.an, G.tab.meth, G.tab.prop, G.tab.fld, G.tab.init, G.tab.xf, G.tab.spec, G.tab.nosp, G.tab.spx⟩, ⟨G.is_.nam, G.is_.hn, G.is_.htk, G.is_.dat, G.is_.ipy, G.is_.iow⟩, G.fn, G.cl, G.free, fun x g d h1 h2 => let ⟨u, v, a1, a2, a3⟩ := G.gl x g d h1 h2; ⟨u, v, a1, a2, fun a => by rw [← tab_q]; exact Rep.tq _ _ (a3 a)⟩, G.keepF, G.keepC, G.xc, G.xn, G.xt, G.mkr, G.tabs, G.cm, G.nea, G.nei, ⟨G.xis.exc, fun c t h1 h2 μ ns vs b h => G.xis.one c t h1 h2 μ ns vs b (by rw [← h]; exact isTy_cls rfl)⟩, G.gtab⟩
theorem lookup_mem {α β : Type} [BEq α] [LawfulBEq α] {a : α} {b : β} : ∀ {l : List (α × β)}, l.lookup a = some b → (a, b) ∈ l
  | [], h => by cases h
  | (x, y) :: l, h => by
    rw [List.lookup_cons] at h
    split at h
    · rename_i e
      cases h
      rw [beq_iff_eq.mp e]; exact List.mem_cons_self ..
    · exact List.mem_cons_of_mem _ (lookup_mem h)
theorem tyL_mem {t : Nat} (h : t ≤ 5 ∨ t = 15) : t ∈ tyL := by
  unfold tyL
  have : t = 0 ∨ t = 1 ∨ t = 2 ∨ t = 3 ∨ t = 4 ∨ t = 5 ∨ t = 15 := by omega
  rcases this with rfl | rfl | rfl | rfl | rfl | rfl | rfl <;> decide
theorem ty5_mem {t : Nat} (h : t ≤ 5) : t ∈ [0, 1, 2, 3, 4, 5] := by
  have : t = 0 ∨ t = 1 ∨ t = 2 ∨ t = 3 ∨ t = 4 ∨ t = 5 := by omega
  rcases this with rfl | rfl | rfl | rfl | rfl | rfl <;> decide
theorem good_of {L : LawT} {K : PySem.W.Frag} {h : Heap} {mg : Str → Option Value} (X : K.In h) (G : h.Ns mainGlobals mg) (c : chk L K = true) : Good L K mg := by
  unfold chk at c
  simp only [Bool.and_eq_true] at c
  obtain ⟨c1, c2, c3, c4, c5, c6, c7, c8, c9, cx, ck, cne, cxi, cid, cgt, csm⟩ := c
  have cls : ∀ n k, L.cls.lookup n = some k → clsC L K n k = true := fun n k e => List.all_eq_true.mp c3 (n, k) (lookup_mem e)
  have init : ∀ n k f, L.cls.lookup n = some k → k.init = some f → _ := fun n k f e ei => by
    have := cls n k e
    unfold clsC at this
    simp only [ei, Bool.and_eq_true] at this
    exact this.1.1
  have noinit : ∀ n k, L.cls.lookup n = some k → k.init = none → k.meths = [] ∧ k.props = [] ∧ k.spec = [] ∧ k.flds = [] := fun n k e ei => by
    have := cls n k e
    unfold clsC at this
    simp only [ei, Bool.and_eq_true, List.isEmpty_iff] at this
    exact this.1.1
  have hasC : ∀ n k, L.cls.lookup n = some k → (k.meths ≠ [] ∨ k.props ≠ [] ∨ k.spec ≠ [] ∨ k.flds ≠ []) → L2.Cls K ((L.tab K).ca n) := fun n k e hne => by
    cases ei : k.init with
    | none => obtain ⟨h1, h2, h3, h4⟩ := noinit n k e ei; simp [h1, h2, h3, h4] at hne
    | some f => exact clsB_ok (init n k f e ei).1
  have rest : ∀ n k, L.cls.lookup n = some k → _ := fun n k e => by
    have := cls n k e
    unfold clsC at this
    simp only [Bool.and_eq_true] at this
    exact this.2
  have nosp : ∀ n k, L.cls.lookup n = some k → _ := fun n k e => by
    have := cls n k e
    unfold clsC at this
    simp only [Bool.and_eq_true] at this
    exact this.1.2
  have restX : ∀ n k, L.cls.lookup n = some k → _ := fun n k e => by
    have := (rest n k e).2.2.2.2
    simp only [Bool.or_eq_true, Bool.and_eq_true] at this
    exact this
  have base3 : ∀ f : String → String → String → List Value → Bool, (bVE f || (bLE f || bAE f)) = true → ∃ B newId initId bmB, BaseX B newId initId bmB ∧ f B newId initId bmB = true := fun f h => by
    simp only [Bool.or_eq_true] at h
    rcases h with h | h | h
    · exact ⟨_, _, _, _, baseVE, h⟩
    · exact ⟨_, _, _, _, baseLE, h⟩
    · exact ⟨_, _, _, _, baseAE, h⟩
  have xcl : ∀ C, xclB K C = true → XCls K C := fun C h => by
    unfold xclB at h
    rw [Bool.and_eq_true] at h
    obtain ⟨h0, h⟩ := h
    simp only [Bool.and_eq_true] at h
    obtain ⟨h1, h2, h3, h4, h5, h6⟩ := h
    obtain ⟨B, newId, initId, bmB, BX, h0⟩ := base3 _ h0
    unfold xbB at h0
    simp only [Bool.and_eq_true] at h0
    exact ⟨⟨B, newId, initId, bmB, BX, h0.1, h0.2.1, of_decide_eq_true h0.2.2.1, of_decide_eq_true h0.2.2.2⟩, of_decide_eq_true h1, h2, of_decide_eq_true h3, h4, of_decide_eq_true h5, of_decide_eq_true h6⟩
  have mkq : ∀ q ∈ L.mks, _ := fun q hq => by
    have := List.all_eq_true.mp ck q hq
    simp only [Bool.and_eq_true] at this
    exact this
  unfold xcB at cx
  simp only [Bool.and_eq_true] at cx
  obtain ⟨cx1, cx2, cx3⟩ := cx
  refine ⟨⟨csm, anOf_inj (of_decide_eq_true c8) c9, ?_, ?_, ?_, ?_, ?_, ?_, ?_, ?_⟩, ⟨?_, ?_, ?_, ?_, ?_, ?_⟩, ?_, ?_, ?_, ?_, ?_, ?_, ?_, ?_, ?_, ?_, ?_, ?_, ?_, ?_, ⟨?_, ?_⟩, ?_⟩
  · intro n k m f e1 e2
    have hm := lookup_mem e2
    have r := List.all_eq_true.mp (rest n k e1).1 (m, f) hm
    simp only [Bool.and_eq_true] at r
    exact ⟨hasC n k e1 (.inl (List.ne_nil_of_mem hm)), He.eqO_ok r.1, r.2.1, r.2.2⟩
  · intro n k m f e1 e2
    have hm := lookup_mem e2
    have r := List.all_eq_true.mp (rest n k e1).2.1 (m, f) hm
    simp only [Bool.and_eq_true] at r
    refine ⟨hasC n k e1 (.inr (.inl (List.ne_nil_of_mem hm))), _, ⟨He.eqO_ok r.1, He.eqO_ok r.2.1, of_decide_eq_true r.2.2.1, ?_⟩⟩
    have r2 := r.2.2.2
    split at r2
    · rename_i g l e
      rw [of_decide_eq_true r2] at e
      exact ⟨_, e⟩
    · cases r2
  · intro n k m e1 e2
    have hm : m ∈ k.flds := by simpa using e2
    have r := List.all_eq_true.mp (rest n k e1).2.2.1 m hm
    exact ⟨hasC n k e1 (.inr (.inr (.inr (List.ne_nil_of_mem hm)))), He.eqO_ok r⟩
  · intro n k f e1 e2
    have r := init n k f e1 e2
    exact ⟨r.2.1, He.eqO_ok r.2.2.1, r.2.2.2.1, r.2.2.2.2.1⟩
  · intro n k f e1 e2
    have hm : f ∈ k.xfl := by simpa using e2
    rcases restX n k e1 with r | r
    · rw [List.isEmpty_iff] at r; rw [r] at hm; cases hm
    · exact ⟨xfB_ok r.1, He.eqO_ok (List.all_eq_true.mp r.2 f hm)⟩
  · intro n k j f e1 e2
    have hm := lookup_mem e2
    have r := List.all_eq_true.mp (rest n k e1).2.2.2.1 (j, f) hm
    simp only [Bool.and_eq_true] at r
    exact ⟨He.eqO_ok r.1, r.2.1⟩
  · intro n k j e1 e2 hj
    have hm : j ∈ [1, 4] := by rcases hj with rfl | rfl <;> decide
    have r := List.all_eq_true.mp (nosp n k e1) j hm
    rw [e2] at r
    exact He.eqO_ok (by simpa using r)
  · intro n k f e1
    refine ⟨fun e2 => ?_, fun e2 => ?_⟩
    · have r := List.all_eq_true.mp (rest n k e1).2.2.2.1 (16, f) (lookup_mem e2)
      simp only [Bool.and_eq_true] at r
      have := r.2.2.1
      simpa using this
    · have r := List.all_eq_true.mp (rest n k e1).2.2.2.1 (17, f) (lookup_mem e2)
      simp only [Bool.and_eq_true] at r
      have := r.2.2.2
      simpa using this
  · intro n k e1 e2
    obtain ⟨f, ei⟩ := Option.isSome_iff_exists.mp e2
    have r := init n k f e1 ei
    exact ⟨clsB_ok r.1, He.eqO_ok r.2.2.2.2.2.1, of_decide_eq_true r.2.2.2.2.2.2⟩
  all_goals unfold isB at c4; simp only [Bool.and_eq_true] at c4; obtain ⟨i1, i2, i3, i4⟩ := c4
  · exact He.eqO_ok i1
  · exact of_decide_eq_true i2
  · intro t n ht hc
    have hm : n ∈ L.isc := by simpa [LawT.tab] using hc
    exact of_decide_eq_true (List.all_eq_true.mp (List.all_eq_true.mp i3 n hm) t (tyL_mem ht))
  · intro n k t e1 e2 ht
    have r := List.all_eq_true.mp i4 (n, k) (lookup_mem e1)
    have e3 : k.init.isNone = false := by cases hk : k.init <;> simp_all
    simp only [e3, Bool.false_or, Bool.and_eq_true] at r
    exact of_decide_eq_true (List.all_eq_true.mp r.1 t (ty5_mem ht))
  · intro n k e e1 e2 he
    have hm : e ∈ L.isc := by simpa [LawT.tab] using he
    have r := List.all_eq_true.mp i4 (n, k) (lookup_mem e1)
    have e3 : k.init.isNone = false := by cases hk : k.init <;> simp_all
    simp only [e3, Bool.false_or, Bool.and_eq_true] at r
    exact of_decide_eq_true (List.all_eq_true.mp r.2 e hm)
  · intro x f e
    have r := List.all_eq_true.mp c1 (f, .glo x) (lookup_mem e)
    simp only [Bool.and_eq_true] at r
    have e2 : (L.tab K).fa f = He.ga K x := by show (match L.pth.lookup f with | some p => p.adr K | none => 0) = _; rw [e]; rfl
    rw [e2]
    exact PySem.W.mg_of X G (He.eqO_ok r.1)
  · intro x n e
    have r := List.all_eq_true.mp c2 (n, x) (lookup_mem e)
    have e2 : (L.tab K).ca n = He.ga K x := by show (match L.cnm.lookup n with | some p => He.ga K p | none => 0) = _; rw [e]
    rw [e2]
    exact PySem.W.mg_of X G (He.eqO_ok r)
  · intro x hx
    have hm : x ∈ L.free := by simpa using hx
    exact PySem.W.mg_none_of X G (He.eqO_ok (List.all_eq_true.mp c7 x hm))
  · intro x g d e1 e2
    have r := List.all_eq_true.mp c5 (x, g) (lookup_mem e1)
    simp only [e2] at r
    split at r
    · rename_i i he
      cases he
      split at r
      · rename_i j t e
        refine ⟨_, .int i, PySem.W.mg_of X G e, ⟨t, by rw [of_decide_eq_true r]⟩, fun a => by simp only [Rep]⟩
      · cases r
    · rename_i y he
      cases he
      rw [Bool.and_eq_true] at r
      have r2 := r.2
      split at r2
      · rename_i j t e
        refine ⟨_, .str y, PySem.W.mg_of X G e, ⟨t, by rw [of_decide_eq_true r2]⟩, fun a => by simp only [Rep]; exact ⟨trivial, r.1⟩⟩
      · cases r2
    · cases r
  · intro f p e
    have r := List.all_eq_true.mp c1 (f, p) (lookup_mem e)
    simp only [Bool.and_eq_true] at r
    have e2 : (L.tab K).fa f = p.adr K := by show (match L.pth.lookup f with | some p => p.adr K | none => 0) = _; rw [e]
    rw [e2]; exact r.2.2
  · intro n k e1 e2
    obtain ⟨f, ei⟩ := Option.isSome_iff_exists.mp e2
    exact (init n k f e1 ei).2.2.2.2.1
  · intro c h
    obtain ⟨x, hx, e⟩ := List.any_eq_true.mp h
    have e := of_decide_eq_true e
    subst e
    exact xcl _ (List.all_eq_true.mp cx1 x hx)
  · intro c h
    have hm : c ∈ L.xns := by simpa using h
    have r := List.all_eq_true.mp cx2 c hm
    rw [Bool.and_eq_true] at r
    refine ⟨xcl _ r.1, ?_⟩
    obtain ⟨B, newId, initId, bmB, BX, h0⟩ := base3 _ r.2
    simp only [Bool.and_eq_true] at h0
    exact ⟨B, newId, initId, bmB, BX, h0.1, of_decide_eq_true h0.2⟩
  · intro e c k h1 h2
    have hm : e ∈ L.xts := by simpa using h1
    exact of_decide_eq_true (List.all_eq_true.mp (List.all_eq_true.mp cx3 e hm) (c, k) (lookup_mem h2))
  · intro f q e
    have hq := lookup_mem e
    obtain ⟨r1, r2, r3, r4, r5, r6⟩ := mkq _ hq
    refine ⟨_, _, of_decide_eq_true r1, List.mem_map.mpr ⟨_, hq, rfl⟩, List.mem_map.mpr ⟨_, hq, rfl⟩, fun p hp ep => ?_⟩
    obtain ⟨r, hr, rfl⟩ := List.mem_map.mp hp
    have z := List.all_eq_true.mp r6 r hr
    simp only [Bool.or_eq_true, decide_eq_true_eq] at z
    rcases z with z | z
    · exact (z ep).elim
    · exact z
  · intro base hK hG q hq
    obtain ⟨r, hr, rfl⟩ := List.mem_map.mp hq
    obtain ⟨r1, r2, r3, r4, r5, r6⟩ := mkq _ hr
    refine ⟨PySem.W.codeHd_of_K hK r2, ?_, of_decide_eq_true r4⟩
    unfold bmB at r5
    split at r5
    · rename_i bm hb
      simp only [Bool.and_eq_true] at r5
      obtain ⟨q1, q2, q3, q4⟩ := r5
      split at q4
      · rename_i m d sl hl
        simp only [Bool.and_eq_true, decide_eq_true_eq] at q4
        obtain ⟨rfl, rfl⟩ := q4
        exact ⟨bm, _, PySem.W.mg_of hK hG hb, of_decide_eq_true q1, of_decide_eq_true q2, of_decide_eq_true q3, hK _ _ hl, rfl, rfl, rfl⟩
      · cases q4
    · cases r5
  · intro n m f hm
    have r := List.all_eq_true.mp c6 (n, m, f) hm
    simp only [Bool.and_eq_true] at r
    obtain ⟨r1, r2, r3, r4, r5⟩ := r
    obtain ⟨h1, h2⟩ := He5.wrapB_ok r1
    rw [of_decide_eq_true r3]
    exact ⟨⟨r4, He.eqO_ok r5⟩, _, ⟨h1, h2, r2⟩⟩
  · intro c k f hk hs
    have r := List.all_eq_true.mp cne (c, k) (lookup_mem hk)
    simp only [hs, Option.isNone_some, Bool.false_or] at r
    obtain ⟨r0, r1⟩ := Bool.and_eq_true_iff.mp r
    obtain ⟨r2, r3⟩ := Bool.and_eq_true_iff.mp r1
    obtain ⟨r4, r5⟩ := Bool.and_eq_true_iff.mp r0
    refine ⟨He.eqO_ok r4, r5, fun t ht => of_decide_eq_true (List.all_eq_true.mp r2 t (tyL_mem ht)), fun c' k' hk' hi hn => ?_⟩
    have z := List.all_eq_true.mp r3 (c', k') (lookup_mem hk')
    have hi2 : k'.init.isNone = false := by cases hq : k'.init <;> simp_all
    simp only [hi2, hn, Bool.false_or] at z
    exact of_decide_eq_true z
  · intro hi c k hk hl hs
    have hi : L.ids = true := hi
    unfold idB at cid
    rw [hi] at cid
    simp only [Bool.not_true, Bool.false_or] at cid
    have r := List.all_eq_true.mp cid (c, k) (lookup_mem hk)
    simp only [hl, hs, Option.isSome_none, Bool.not_true, Bool.false_or, Bool.and_eq_true] at r
    obtain ⟨⟨r1, r2, r3, r4⟩, r5⟩ := r
    refine ⟨⟨He.eqO_ok r1, He.eqO_ok r2, r3, of_decide_eq_true r4⟩, fun c' k' f' hk' hs' => ?_⟩
    have z := List.all_eq_true.mp r5 (c', k') (lookup_mem hk')
    simp only [hs', Option.isNone_some, Bool.false_or, Bool.and_eq_true] at z
    exact ⟨of_decide_eq_true z.1, of_decide_eq_true z.2⟩
  · intro c hc
    have r := List.all_eq_true.mp cxi c (by simpa using hc)
    split at r
    · rw [Bool.and_eq_true] at r
      have r := r.1
      unfold exkB at r
      simp only [Bool.and_eq_true] at r
      obtain ⟨r1, r2, r3, r4, r5, r6⟩ := r
      exact ⟨r1, He.eqO_ok r2, He.eqO_ok r3, of_decide_eq_true r4, He.eqO_ok r5, of_decide_eq_true r6⟩
    · cases r
  · intro c t hc ht μ ns vs b hb
    have r := List.all_eq_true.mp cxi c (by simpa using hc)
    split at r
    · rename_i k hk
      rw [Bool.and_eq_true] at r
      have r := of_decide_eq_true (List.all_eq_true.mp r.2 t (by simpa using ht))
      have hk : (L.tab K).P.cls c = some k := hk
      rw [r]
      cases t with
      | py n =>
        by_cases h5 : n ≤ 5
        · simp [isTy, if_pos h5, rd, tyNo] at hb
        · simp only [isTy, if_neg h5, hk, Option.map_some] at hb
          exact hb
      | own e =>
        unfold isTy at hb
        simp only [rd, hk, Option.map_some] at hb
        exact hb
    · cases r
  · intro x g hx
    have r := List.all_eq_true.mp cgt (x, g) (lookup_mem hx)
    split at r
    · rename_i ks vs hg
      split at r
      · rename_i l hl
        split at r
        · rename_i p hp
          exact ⟨p, l, PySem.W.mg_of X G hp, by rw [hg, tabL_eq hl], r⟩
        · cases r
      · cases r
    · cases r
structure DefOk (T : Tab) (P : Program) (w : World) (K : PySem.W.Frag) (mg : Str → Option Value) (f : Nat) (F : Fn) : Prop where
  ex : ∃ (x qual : Str) (params : Arguments) (body : List Stmt) (scope : Scope) (dvs : List V) (fd : FuncData) (N ps : List Str), FunD K x qual params body scope dvs [] (T.fa f) fd ∧ FnScope N ps scope ∧ F.np = ps.length ∧ F.nn = N.length ∧ (∀ m ix ks, T.form f m ix = some ks → BindOk T K fd ps F m ix ks) ∧
    ∀ (base : Heap) (n : Nat), BodyOk T P w K mg base n N qual scope (T.fa f) body F.body
/-- a def that takes a lambda -/
structure DefOkT (T : Tab) (P : Program) (w : World) (K : PySem.W.Frag) (mg : Str → Option Value) (f : Nat) : Prop where
  ex : ∃ (x qual nm : Str) (params : Arguments) (body : List Stmt) (scope : Scope) (dvs : List V) (fd : FuncData) (N : List Str) (F : Fn), T.P.fns f = some F ∧ FunD K x qual params body scope dvs [] (T.fa f) fd ∧ FnScope N [nm] scope ∧ (∀ (s : Shared) (u : Value), K.In s.heap → BindsTo s fd ⟨[u], []⟩ ([nm].zip [u])) ∧
    (N[0]? = some nm ∧ Vis scope nm ∧ (nm == ("__debug__" : Str)) = false ∧ (nm == ("__classdict__" : Str)) = false) ∧ F.np = 1 ∧ F.nn = N.length ∧ ∀ (base : Heap) (n : Nat), BodyOkT T P w K mg base n N qual scope (T.fa f) nm body F.body
theorem fns_all {T : Tab} {P : Program} {w : World} {K : PySem.W.Frag} {mg : Str → Option Value} {base : Heap} (tab : TabOk T K) (tabs : ∀ q ∈ T.cds, LamX.TabB base mg q.1 q.2) (nex : T.ex = none) (fnQ : T.quiet = false → ∀ j, j ≤ 1 → FnsOk T.q P w K mg base j) (isf : ∀ f F, T.P.fns f = some F → PySem.W.isFn K (.ref (T.fa f)) = true) (h : ∀ f F, T.P.fns f = some F → DefOk T P w K mg f F) (ht : ∀ f, T.thk.contains f = true → DefOkT T P w K mg f) :
    ∀ n j, j ≤ n → FnsOk T P w K mg base j ∧ ∀ f, T.thk.contains f = true → ThkF T P w K mg base j f
  | n, 0, _ => by
    refine ⟨fun f F hF => ?_, fun f hf => ?_⟩
    · obtain ⟨x, qual, params, body, scope, dvs, fd, N, ps, Fd, S, h1, h2, h3, h4⟩ := (h f F hF).ex
      exact ⟨fd, ps, def_ok0 (x := x) (qual := qual) (params := params) (body := body) (scope := scope) (dvs := dvs) (kws := []), Fd.kp, isf f F hF, h3⟩
    · obtain ⟨x, qual, nm, params, body, scope, dvs, fd, N, F, hF, Fd, S, hb, ⟨hN, hv, hd, hcd⟩, h1, h2, h4⟩ := (ht f hf).ex
      exact thk_ok0 (qual := qual) hN hv hd hcd Fd.kp
  | 0, j + 1, hj => absurd hj (by omega)
  | n + 1, j + 1, hj => by
    have ih := fns_all (base := base) tab tabs nex fnQ isf h ht n
    have l1 : ∀ i, i ≤ j → FnsOk T P w K mg base i := fun i hi => (ih i (by omega)).1
    have l2 : T.clo = none → ∀ i, i ≤ j → ∀ f, T.thk.contains f = true → ThkF T P w K mg base i f := fun _ i hi => (ih i (by omega)).2
    refine ⟨fun f F hF => ?_, fun f hf => ?_⟩
    · obtain ⟨x, qual, params, body, scope, dvs, fd, N, ps, Fd, S, h1, h2, h3, h4⟩ := (h f F hF).ex
      exact ⟨fd, ps, def_ok hF Fd S h1 h2 tab tabs nex fnQ l1 l2 (h4 base j), Fd.kp, isf f F hF, h3⟩
    · obtain ⟨x, qual, nm, params, body, scope, dvs, fd, N, F, hF, Fd, S, hb, ⟨hN, hv, hd, hcd⟩, h1, h2, h4⟩ := (ht f hf).ex
      exact thk_ok hF Fd S hb hN hv hd hcd h1 h2 tab tabs fnQ l1 (h4 base j)
/-- every def stands at its place -/
def pthAll (L : LawT) : Bool := L.fns.all fun q => (L.pth.lookup q.1).isSome
theorem isf_of {L : LawT} {K : PySem.W.Frag} (c : chk L K = true) (h : pthAll L = true) {f : Nat} {F : Fn} (e : L.prog.fns f = some F) : PySem.W.isFn K (.ref ((L.tab K).fa f)) = true := by
  unfold chk at c
  simp only [Bool.and_eq_true] at c
  have q := List.all_eq_true.mp h (f, F) (lookup_mem e)
  obtain ⟨p, ep⟩ := Option.isSome_iff_exists.mp q
  have r := List.all_eq_true.mp c.1 (f, p) (lookup_mem ep)
  simp only [Bool.and_eq_true] at r
  have e2 : (L.tab K).fa f = p.adr K := by show (match L.pth.lookup f with | some p => p.adr K | none => 0) = _; rw [ep]
  rw [e2]; exact r.2.1
/-- the forms of a def's calls, one by one -/
theorem forms_all {L : LawT} {f : Nat} {l : List ((Nat × List Nat) × List Str)} {Q : Nat → List Nat → List Str → Prop} (e : L.forms.lookup f = some l) (h : ∀ z ∈ l, Q z.1.1 z.1.2 z.2) (m : Nat) (ix : List Nat) (ks : List Str) (g : L.form f m ix = some ks) : Q m ix ks := by
  unfold LawT.form at g
  rw [e] at g
  exact h _ (lookup_mem g)
theorem bindAll {L : LawT} {K : PySem.W.Frag} {fd : FuncData} {ps : List Str} {F : Fn} {f : Nat} {l : List ((Nat × List Nat) × List Str)} (e : L.forms.lookup f = some l) (h : ∀ z ∈ l, BindOk (L.tab K) K fd ps F z.1.1 z.1.2 z.2) (m : Nat) (ix : List Nat) (ks : List Str) (g : (L.tab K).form f m ix = some ks) : BindOk (L.tab K) K fd ps F m ix ks := forms_all (Q := fun m ix ks => BindOk (L.tab K) K fd ps F m ix ks) e h m ix ks g
theorem vals_script : ∀ {us : List Value} {zs : List Int}, IntsAre us zs → Vals (zs.map V.int) us
  | _, _, .nil => .nil
  | _, _, .cons z tk more => .cons ⟨tk, rfl⟩ (vals_script more)
/-- what is tracked at the start: the script and the tables, which are empty -/
def Sole (H : Hp) (a : Addr) (cs : List Addr) : Prop := ∀ b u, H b = some u → (b = a ∧ b ∉ cs ∧ ∃ o xs, u = .frz o (.lst xs)) ∨ (b ∈ cs ∧ u = .tbl #[])
section
variable {P : Program} {w : World} {K : PySem.W.Frag} {mg mb : Str → Option Value} {k : Nat} {fa a : Addr} {fd : FuncData} {x : Str} {sp : Sp} {t : Shared} {us : List Value} {zs : List Int} {cs : List Addr}
/-- the law's call over a heap in which the script and the tables alone may be tracked -/
theorem sole_call {qt : Bool} {H : Hp} (kin : K.In t.heap) (names : t.heap.Ns mainGlobals mg) (blt : t.heap.Ns builtinsNs mb) (boot : ∀ y : Str, y ≠ "__name__" → mb y = bootBuiltins y) (lim0 : t.heap.NoLimit) (gen0 : t.gens = #[])
    (tabs : ∀ p ∈ cs, t.heap.get? p = some { cls := .none, data := .fields #[] } ∧ K.lookup p = none ∧ isCodeTable t.heap p) (at_a : t.heap.get? a = some { cls := .type "list", data := .seq us.toArray }) (room : Room k callerA)
    (fun_ : ∀ base : Heap, K.In base → base.Ns mainGlobals mg → FnG P w K mg base qt k fa fd [x] sp) (bind : ∀ (s : Shared) (v : Value), BindsTo s fd ⟨[v], []⟩ [(x, v)])
    (sole : Sole H a cs) (all : ∀ p ∈ cs, H p = some (.tbl #[])) (free : H a ≠ none → K.lookup a = none) (good : HOk P w H t.heap) (want : sp [.ref a] H (fun v _ => v = .bl true) fun _ _ _ => False) :
    codeAny (model P w) callerA (.call (.ref fa) ⟨[.ref a], []⟩) (fun r t' => r = .ok (.ret (.bool true)) ∧ OldK t.heap t'.heap ∧ t'.os = t.os ∧ AllBare t'.gens) t := by
  have none_of : ∀ {b : Addr} {o : Obj}, t.heap.get? b = some o → (∀ vs n, o.data ≠ .seq vs n) → (∀ vs, o.data ≠ .fields vs) → H b = none := by
    intro b o g n1 n2
    cases hb : H b with
    | none => rfl
    | some u =>
      rcases sole b u hb with ⟨rfl, _, _⟩ | ⟨hc, _⟩
      · rw [at_a] at g; cases g; exact (n1 _ _ rfl).elim
      · rw [(tabs b hc).1] at g; cases g; exact (n2 _ rfl).elim
  have kept : ∀ {b : Addr} {m : Str → Option Value}, t.heap.Ns b m → (hidT t.heap H).Ns b m := by
    rintro b m ⟨o, es, e, g, d, r⟩
    exact ⟨o, es, e, hidT_get g (none_of g (fun vs n z => by rw [d] at z; cases z) fun vs z => by rw [d] at z; cases z), d, r⟩
  have kb : K.In (hidT t.heap H) := by
    intro b o e
    refine hidT_get (kin b o e) ?_
    cases hb : H b with
    | none => rfl
    | some u =>
      rcases sole b u hb with ⟨rfl, _, _⟩ | ⟨hc, _⟩
      · rw [free (by simp [hb])] at e; cases e
      · rw [(tabs b hc).2.1] at e; cases e
  have lim1 : (hidT t.heap H).NoLimit := by
    obtain ⟨m, g, q⟩ := lim0
    exact ⟨m, kept g, q⟩
  have env : Env0 P w K mg (hidT t.heap H) callerA [] t H := by
    refine ⟨rfl, ⟨kb, kept names, ⟨mb, kept blt, boot⟩, lim1⟩, fun b o e => of_hidT e, Nat.le_of_eq (hidT_size _ _), trivial, ?_, good, .of_eq gen0⟩
    intro b hb
    exact absurd (show b ∈ ([] : List Addr) from hb) List.not_mem_nil
  have run := (fun_ _ kb (kept names)).run callerA [] t H ⟨[.ref a], []⟩ [.ref a] [.ref a] _ _ room (fun _ => rfl) env (bind t (.ref a)) (.cons rfl .nil) want
  refine codeAny_mono run fun r t' h => ?_
  cases r with
  | error e =>
    obtain ⟨_, _, _, _, _, _, _, _, _, _, _, _, z⟩ := (show L2N.CX P w [] H t (fun _ _ _ => False) e t' from h)
    exact z.elim
  | ok fl =>
   cases fl with
   | next => exact False.elim h
   | brk => exact False.elim h
   | cont => exact False.elim h
   | ret u =>
    obtain ⟨v, H', os, bare, un, good', rv, ev⟩ := h
    have ev : v = .bl true := ev
    subst ev
    cases (show u = Value.bool true from rv)
    have grown : ∀ b ∈ cs, ∃ more : Array Value, t'.heap.get? b = some { cls := .none, data := .fields more } := fun b hb => by
      obtain ⟨more, z⟩ := un.tbls b #[] (all b hb)
      exact ⟨_, good' b _ z⟩
    have key : ∀ b o, b ∉ cs → t.heap.get? b = some o → t'.heap.get? b = some o := fun b o nb e => by
      cases hb : H b with
      | none => exact un.keep b o e hb (fun z => absurd (show b ∈ ([] : List Addr) from z) List.not_mem_nil) (by simp)
      | some u =>
        rcases sole b u hb with ⟨rfl, _, o2, xs, rfl⟩ | ⟨hc, _⟩
        · obtain ⟨q1, _⟩ := good b _ hb
          obtain ⟨q2, _⟩ := good' b _ (un.frzs b o2 _ hb)
          rw [e] at q1
          cases q1
          exact q2
        · exact absurd hc nb
    refine ⟨rfl, ⟨fun b o e => ?_, fun b o e => ?_⟩, os, bare⟩
    · by_cases hb : b ∈ cs
      · obtain ⟨more, hm⟩ := grown b hb
        rw [(tabs b hb).1] at e
        cases e
        exact .inr (.inl ⟨(tabs b hb).2.2, rfl, #[], more, rfl, by rw [Array.empty_append]; exact hm⟩)
      · exact .inl (key b o hb e)
    · by_cases hb : b ∈ cs
      · obtain ⟨more, hm⟩ := grown b hb
        exact ⟨_, hm⟩
      · exact ⟨o, key b o hb e⟩
/-- the law's call, by what the small interpreter makes of it -/
theorem law_run {qt : Bool} {T : Tab} {n f : Nat} {μ : Mem} (kin : K.In t.heap) (names : t.heap.Ns mainGlobals mg) (blt : t.heap.Ns builtinsNs mb) (boot : ∀ y : Str, y ≠ "__name__" → mb y = bootBuiltins y) (lim0 : t.heap.NoLimit) (gen0 : t.gens = #[])
    (tabs : ∀ p ∈ T.tbs.map (·.1), t.heap.get? p = some { cls := .none, data := .fields #[] } ∧ K.lookup p = none ∧ isCodeTable t.heap p)
    (at_a : t.heap.get? a = some { cls := .type "list", data := .seq us.toArray }) (intsH : IntsAre us zs) (few : zs.length ≤ sizeLine) (room : Room k callerA) (fun_ : ∀ base : Heap, K.In base → base.Ns mainGlobals mg → FnG P w K mg base qt k fa fd [x] (spD T K n f)) (bind : ∀ (s : Shared) (v : Value), BindsTo s fd ⟨[v], []⟩ [(x, v)])
    (ans : calD T.P T.reprS n f [.rol (zs.map D.int)] [] = .ok (.bl true) μ) :
    codeAny (model P w) callerA (.call (.ref fa) ⟨[.ref a], []⟩) (fun r t' => r = .ok (.ret (.bool true)) ∧ OldK t.heap t'.heap ∧ t'.os = t.os ∧ AllBare t'.gens) t := by
  have rv := vals_script intsH
  have len := intsH.length
  have reps : ∀ b : Abs, ∀ l : List Int, Reps T K b (l.map D.int) (l.map V.int) := by
    intro b l
    induction l with
    | nil => exact Reps.nil
    | cons z l ih => exact Reps.cons (by simp only [Rep]) ih
  have aT : a ∉ T.tbs.map (·.1) := fun z => by
    have q := (tabs a z).1
    rw [at_a] at q
    cases q
  have want : ∀ (H : Hp) (G : Hp), (∀ p o, G p = some o → H p = some o) → (∀ p ∈ T.tbs.map (·.1), G p = none) → (∀ q p, H q ≠ some (.own p)) → (∀ p ∈ T.tbs.map (·.1), H p = some (.tbl #[])) → SqL K G a (zs.map V.int) → spD T K n f [.ref a] H (fun v _ => v = .bl true) fun _ _ _ => False := by
    intro H G le gt ow al sq
    refine ⟨⟨[], G⟩, [], [.rol (zs.map D.int)], ⟨le, rfl, List.nodup_nil, fun i p ob e => ?_, fun q p e => (ow q p e).elim, fun p hp => ?_, fun p hp => gt _ (List.mem_map.mpr ⟨p, hp, rfl⟩)⟩, Reps.cons ?_ Reps.nil, ?_⟩
    · exact absurd e (by simp)
    · exact LamX.TabS.nil (al _ (List.mem_map.mpr ⟨p, hp, rfl⟩))
    · simp only [Rep]
      exact ⟨a, _, rfl, sq, reps _ zs⟩
    · show WpR (calD T.P T.reprS n f [.rol (zs.map D.int)] []) _ _
      rw [ans]
      intro b v H' st hm r
      simpa only [Rep] using r
  have tok : ∀ {H : Hp} {b : Addr} {u : HO}, b ∈ T.tbs.map (·.1) → u = .tbl #[] → ObjOk P w H t.heap b u := fun hb e => by
    subst e
    exact (tabs _ hb).1
  cases hk : K.lookup a with
  | some o =>
    have e := kin a o hk
    rw [at_a] at e
    cases e
    let H0 : Hp := fun b => if b ∈ T.tbs.map (·.1) then some (.tbl #[]) else none
    have inv : ∀ {b u}, H0 b = some u → b ∈ T.tbs.map (·.1) ∧ u = .tbl #[] := fun {b u} z => by
      by_cases hb : b ∈ T.tbs.map (·.1)
      · exact ⟨hb, (Option.some.inj ((if_pos hb).symm.trans z)).symm⟩
      · exact absurd ((if_neg hb).symm.trans z) (by simp)
    exact sole_call (H := H0) kin names blt boot lim0 gen0 tabs at_a room fun_ bind (fun b u z => .inr (inv z)) (fun p hp => if_pos hp) (fun z => absurd (if_neg aT) z) (fun b u z => tok (inv z).1 (inv z).2)
      (want H0 (fun _ => none) (fun p o z => by cases z) (fun _ _ => rfl) (fun q p z => by cases (inv z).2) (fun p hp => if_pos hp) (.inr ⟨_, us.toArray, _, hk, rfl, rfl, rfl, by rw [List.size_toArray, len]; exact few, by simpa using rv⟩))
  | none =>
    let o0 : Obj := { cls := .type "list", data := .seq us.toArray }
    let G0 : Hp := fun b => if b = a then some (.frz o0 (.lst (zs.map V.int))) else none
    let H0 : Hp := fun b => if b ∈ T.tbs.map (·.1) then some (.tbl #[]) else G0 b
    have invG : ∀ {b u}, G0 b = some u → b = a ∧ u = .frz o0 (.lst (zs.map V.int)) := fun {b u} z => by
      by_cases hb : b = a
      · exact ⟨hb, (Option.some.inj ((if_pos hb).symm.trans z)).symm⟩
      · exact absurd ((if_neg hb).symm.trans z) (by simp)
    have inv : ∀ {b u}, H0 b = some u → (b ∈ T.tbs.map (·.1) ∧ u = .tbl #[]) ∨ (b = a ∧ u = .frz o0 (.lst (zs.map V.int))) := fun {b u} z => by
      by_cases hb : b ∈ T.tbs.map (·.1)
      · exact .inl ⟨hb, (Option.some.inj ((if_pos hb).symm.trans z)).symm⟩
      · exact .inr (invG ((if_neg hb).symm.trans z))
    refine sole_call (H := H0) kin names blt boot lim0 gen0 tabs at_a room fun_ bind (fun b u z => ?_) (fun p hp => if_pos hp) (fun _ => hk) (fun b u z => ?_)
      (want H0 G0 (fun p o z => ?_) (fun p hp => if_neg (show ¬ p = a from fun z => aT (by rw [← z]; exact hp))) (fun q p z => ?_) (fun p hp => if_pos hp) (.inl (.inr ⟨o0, if_pos rfl⟩)))
    · rcases inv z with h | ⟨rfl, rfl⟩
      · exact .inr h
      · exact .inl ⟨rfl, aT, _, _, rfl⟩
    · rcases inv z with h | ⟨rfl, rfl⟩
      · exact tok h.1 h.2
      · exact ⟨at_a, by rw [List.length_map]; exact few, us, _, rv, at_a⟩
    · obtain ⟨rfl, rfl⟩ := invG z
      exact (if_neg aT).trans z
    · rcases inv z with h | h
      · cases h.2
      · cases h.2
end
/-- where an exception's __init__ stands; its text -/
def XI.at_ (x : XI) (L : LawT) (K : PySem.W.Frag) : Addr := He.ma K ((L.tab K).ca x.c) "__init__"
def XI.params (x : XI) : Arguments := xiA ((("self" : Str) :: x.fs).zip x.pps)
def XI.body (x : XI) : List Stmt := xiSup x.ps.1 x.ps.2.1 x.ps.2.2.1 x.ps.2.2.2.1 x.ps.2.2.2.2 :: (x.fs.zip x.sets).map fun q => xiSet q.1 q.2.1 q.2.2.1 q.2.2.2.1 q.2.2.2.2
def XI.val (x : XI) : He.FnW := some ("__init__", x.qual, x.params, .stmts x.body, xiS x.fs, mainGlobals, [], builtinsNs)
def XI.obs (x : XI) (L : LawT) (K : PySem.W.Frag) : He.FnW := match K.lookup (x.at_ L K) with
  | some ⟨_, _, .func fd, _⟩ => some (fd.name, fd.qualname, fd.params, fd.body, fd.scope, fd.globals, [], fd.builtins)
  | _ => none
def XI.okF (x : XI) (L : LawT) (K : PySem.W.Frag) (fd : FuncData) : Bool :=
  (match fd.closure with
    | [(nm, cc)] => decide (nm = "__class__") && (match K.lookup cc with
      | some ⟨_, _, .cell (some (.ref C)), _⟩ => decide (C = (L.tab K).ca x.c)
      | _ => false)
    | _ => false) && (decide (fd.defaults = .none) && (decide (fd.kwdefaults = .none) && (match fd.code with
    | .ref cda => PySem.W.codeIn K (.ref cda) x.qual && (match K.lookup cda with
      | some ⟨_, _, .fields vs, _⟩ => (match (vs[2]? : Option Value) with
        | some (.str file _) => decide (file = L.file)
        | _ => false)
      | _ => false)
    | _ => false)))
def XI.ok (x : XI) (L : LawT) (K : PySem.W.Frag) : Bool := let C := (L.tab K).ca x.c
  (match K.lookup (x.at_ L K) with
    | some ⟨_, _, .func fd, _⟩ => x.okF L K fd
    | _ => false) && (He.eqO (PySem.W.findIn K (.ref C) "__init__") (some (some (.ref (x.at_ L K)))) && (PySem.W.isFn K (.ref (x.at_ L K)) && ((x.fs.all fun f => He.eqO (PySem.W.findIn K (.ref C) f) (some none)) &&
    (He.eqO (PySem.W.nsIn K cStatics "thirdparty.any") (some none) && He.eqO (PySem.W.nsIn K mainGlobals "super") (some none)))))
/-- what is not looked up in the heap -/
def XI.pure_ (x : XI) : Bool := let sc := (xiS x.fs).names
  decide (x.pps.length = x.fs.length + 1) && (decide (x.sets.length = x.fs.length) && (decide (sc.lookup ("super" : Str) = some .globalImplicit) && (decide (sc.lookup ("__class__" : Str) = some .free) && (decide (sc.lookup ("self" : Str) = some .local) &&
  ((x.fs.all fun f => decide (sc.lookup f = some .local) && (!(f == ("__debug__" : Str)) && decide (f ≠ ("self" : Str)))) && (decide x.fs.Nodup && sc.all fun y => decide (y.2 ≠ .cell)))))))
/-- what is left to be shown of the text of an __init__ -/
structure XI.Txt (x : XI) : Prop where
  sup : SupOk x.qual (xiS x.fs) x.ps.1 x.ps.2.1 x.ps.2.2.1 x.ps.2.2.2.1
  bind : ∀ (doc pm ct cda : Value) (an : Option Addr) (cc : Addr) (us : List Value), us.length = x.fs.length + 1 → bindArgs (PySem.W.ksFn "__init__" x.qual x.params x.body (xiS x.fs) .none .none doc pm an cda ct cc) ⟨us, []⟩ = pure ((("self" : Str) :: x.fs).zip us)
open He5 in
def obsDI (L : LawT) (fn : List DefA) (ex : PySem.W.Frag → Bool) (K : PySem.W.Frag) : He.AlD := (chk L K && (ex K && ((fn.all fun d => d.ok K) && L.xis.all fun x => x.ok L K)), (fn.map fun d => fnA K (d.at_ K)) ++ L.xis.map fun x => x.obs L K)
open He5 in
def valDI (L : LawT) (fn : List DefA) : He.AlD := (true, fn.map DefA.val ++ L.xis.map XI.val)
/-- the part of the heap that is looked at: all but the lambda makers' tables -/
def frL (L : LawT) (g : Addr → Option Obj) (as : List Addr) : PySem.W.Frag :=
  if L.mks.isEmpty then He.frG g as else He.frG g (as.filter fun a => !((L.tab (He.frG g as)).tbs.map (·.1)).contains a)
theorem frL_in {L : LawT} {h : Heap} {as : List Addr} : (frL L h.get? as).In h := by
  unfold frL
  split <;> exact He.frG_in
def tabE (g : Addr → Option Obj) (p : Addr) : Bool := match g p with
  | some ⟨.none, none, .fields vs, sl⟩ => vs.isEmpty && sl.isEmpty
  | _ => false
theorem tabE_ok {h : Heap} {p : Addr} (e : tabE h.get? p = true) : h.get? p = some { cls := .none, data := .fields #[] } := by
  unfold tabE at e
  split at e
  · rename_i vs sl q
    rw [Bool.and_eq_true, Array.isEmpty_iff, Array.isEmpty_iff] at e
    obtain ⟨rfl, rfl⟩ := e
    exact q
  · cases e
section
open He5
variable {L : LawT} {fn : List DefA} {ex : PySem.W.Frag → Bool} {K : PySem.W.Frag}
theorem says_1 (c : obsDI L fn ex K = valDI L fn) : chk L K = true ∧ ex K = true ∧ (fn.all fun d => d.ok K) = true ∧ (L.xis.all fun x => x.ok L K) = true := by
  have c1 : (chk L K && (ex K && ((fn.all fun d => d.ok K) && L.xis.all fun x => x.ok L K))) = true := congrArg (fun z : He.AlD => z.1) c
  simp only [Bool.and_eq_true] at c1
  exact c1
theorem says_chk (c : obsDI L fn ex K = valDI L fn) : chk L K = true ∧ ex K = true := ⟨(says_1 c).1, (says_1 c).2.1⟩
theorem says_2 (c : obsDI L fn ex K = valDI L fn) : (fn.map fun d => fnA K (d.at_ K)) = fn.map DefA.val ∧ (L.xis.map fun x => x.obs L K) = L.xis.map XI.val := by
  have e : (fn.map fun d => fnA K (d.at_ K)) ++ (L.xis.map fun x => x.obs L K) = fn.map DefA.val ++ L.xis.map XI.val := congrArg (fun z : He.AlD => z.2) c
  exact List.append_inj e (by simp)
theorem says_def (c : obsDI L fn ex K = valDI L fn) (i : Nat) {d : DefA} (h : fn[i]? = some d := by rfl) : ∃ fd, FunD K d.name d.qual d.params d.body d.scope (d.dvs K) (d.kws K) (d.at_ K) fd := by
  obtain ⟨_, _, c1, _⟩ := says_1 c
  have e2 : (fn.map fun d => fnA K (d.at_ K))[i]? = (fn.map DefA.val)[i]? := by rw [(says_2 c).1]
  rw [List.getElem?_map, List.getElem?_map, h] at e2
  exact DefA.funD (Option.some.inj e2) (List.all_eq_true.mp c1 d (List.mem_of_getElem? h))
/-- an exception's __init__ -/
theorem says_xi {P : Program} (c : obsDI L fn ex K = valDI L fn) (hp : L.xis.all XI.pure_ = true) (ht : ∀ x ∈ L.xis, x.Txt) (top : (P.main.scope.names.lookup ("super" : Str)).isSome = false) (file : ((P.main.file : Str) == L.file) = true) : ∀ x ∈ L.xis, XIni P K ((L.tab K).ca x.c) (x.at_ L K) x.fs := by
  intro x hx
  obtain ⟨_, _, _, c1⟩ := says_1 c
  have k := List.all_eq_true.mp c1 x hx
  have p := List.all_eq_true.mp hp x hx
  have t := ht x hx
  have e : x.obs L K = x.val := List.map_inj_left.mp (says_2 c).2 x hx
  unfold XI.ok at k
  unfold XI.pure_ at p
  simp only [Bool.and_eq_true, decide_eq_true_eq] at k p
  obtain ⟨k0, k1, k2, k3, k4, k5⟩ := k
  obtain ⟨p1, p2, p3, p4, p5, p6, p7, p8⟩ := p
  refine ⟨He.eqO_ok k1, k2, fun f hf => He.eqO_ok (List.all_eq_true.mp k3 f hf), He.eqO_ok k4, He.eqO_ok k5, top, ⟨p3, p4, p5, fun f hf => ?_, p7, fun y hy => of_decide_eq_true (List.all_eq_true.mp p8 y hy)⟩, ?_⟩
  · have z := List.all_eq_true.mp p6 f hf
    simp only [Bool.and_eq_true, decide_eq_true_eq, Bool.not_eq_true'] at z
    exact z
  · unfold XI.obs at e
    cases q : K.lookup (x.at_ L K) with
    | none => rw [q] at k0; cases k0
    | some o =>
      obtain ⟨oc, od, dt, osl⟩ := o
      rw [q] at k0 e
      cases dt with
      | func fd =>
        obtain ⟨n1, n2, n3, n4, n5, n6, n7, n8, n9, n10, n11, n12, n13, n14, n15⟩ := fd
        have e2 : (some (n1, n2, n3, n4, n5, n6, [], n15) : He.FnW) = some (("__init__" : Str), x.qual, x.params, FuncBody.stmts x.body, xiS x.fs, mainGlobals, [], builtinsNs) := e
        simp only [Option.some.injEq, Prod.mk.injEq] at e2
        obtain ⟨h1, h2, h3, h4, h5, h6, _, h8⟩ := e2
        have k0 : x.okF L K ⟨n1, n2, n3, n4, n5, n6, n7, n8, n9, n10, n11, n12, n13, n14, n15⟩ = true := k0
        subst h1 h2 h3 h4 h5 h6 h8
        unfold XI.okF at k0
        simp only [Bool.and_eq_true, decide_eq_true_eq] at k0
        obtain ⟨a1, a2, a3, a4⟩ := k0
        cases a2; cases a3
        split at a1
        · rename_i nm cc
          simp only [Bool.and_eq_true, decide_eq_true_eq] at a1
          obtain ⟨rfl, a1⟩ := a1
          split at a1
          · rename_i cl cld C csl hcell
            have a1 := of_decide_eq_true a1
            subst a1
            split at a4
            · rename_i cda
              simp only [Bool.and_eq_true] at a4
              obtain ⟨a5, a4⟩ := a4
              split at a4
              · rename_i ccl cdd vs ccs hcode
                split at a4
                · rename_i fl tf hv
                  have a4 := of_decide_eq_true a4
                  subst a4
                  exact ⟨x.qual, x.pps, x.sets, x.ps.1, x.ps.2.1, x.ps.2.2.1, x.ps.2.2.2.1, x.ps.2.2.2.2, n10, n11, n14, oc, ccl, cl, n12, od, cdd, cld, osl, ccs, csl, cda, cc, vs, _, tf, p1, p2, rfl, a5, hcode, hv, file, hcell, t.sup, fun oc us hu => t.bind _ _ _ _ _ _ us hu, fun q hq L f cd cc => rfl⟩
                · cases a4
              · cases a4
            · cases a4
          · cases a1
        · cases a1
      | _ => cases k0
end
/-- the makers' tables -/
theorem tabs_of {L : LawT} {K : PySem.W.Frag} {h : Heap} (kin : K.In h) (ck : chk L K = true) (tb : ∀ p ∈ (L.tab K).tbs, h.get? p.1 = some { cls := .none, data := .fields #[] }) : ∀ p ∈ (L.tab K).tbs.map (·.1), h.get? p = some { cls := .none, data := .fields #[] } ∧ K.lookup p = none ∧ isCodeTable h p := by
  intro p hp
  obtain ⟨q, hq, rfl⟩ := List.mem_map.mp hp
  obtain ⟨r, hr, rfl⟩ := List.mem_map.mp hq
  unfold chk at ck
  simp only [Bool.and_eq_true] at ck
  obtain ⟨_, _, _, _, _, _, _, _, _, _, mk, _, _⟩ := ck
  have z := List.all_eq_true.mp mk r hr
  simp only [Bool.and_eq_true] at z
  refine ⟨tb _ hq, ?_, ((PySem.W.codeHd_of_K kin z.2.1).tab (tb _ hq)).isCodeTable⟩
  exact Option.isNone_iff_eq_none.mp z.2.2.1
/-- the goal that the head leaves, from the small interpreter's answer -/
theorem walk_di {l : PySem.W.OpenLaw} {L : LawT} {q : Program} {loose : List Str} {XP : (Str → Option Value) → Heap → Prop} {YP : World → Heap → Prop} {d : DefRec} {x : Str} {n f : Nat}
    (most : l.most = some 63) (dfl : d.params.defaults = []) (room : Room (3 * n + 8) callerA)
    (facts : ∀ (w : World) (mg : Str → Option Value) (fa : Addr) (h : Heap), YP w h → h.Ns mainGlobals mg → mg d.name = some (.ref fa) →
      ∃ (K : PySem.W.Frag) (fd : FuncData), K.In h ∧ chk L K = true ∧ (∀ p ∈ (L.tab K).tbs, h.get? p.1 = some { cls := .none, data := .fields #[] }) ∧ (∀ (s : Shared) (v : Value), BindsTo s fd ⟨[v], []⟩ [(x, v)]) ∧ ∀ base : Heap, K.In base → base.Ns mainGlobals mg → FnG l.prog w K mg base (L.tab K).quiet (3 * n + (L.tab K).kx) fa fd [x] (spD (L.tab K) K n f))
    (ans : ∀ zs : List Int, zs.length ≤ 63 → (∀ z ∈ zs, Builtin.Int.intBits z ≤ 1048576) → ∃ μ, calD L.prog L.rp n f [.rol (zs.map D.int)] [] = .ok (.bl true) μ) :
    PySem.W.WalkO q loose XP YP l.row.toRowW d [] (fun f vs => PySem.call f vs) := by
  refine Att.attach_callB most dfl fun w s₀ t mg mb fa o pm cd doc a us zs G Y ho hd hcd hmg at_a intsH few bits gen0 => ?_
  obtain ⟨K, fd, kin, ck, tb, bind, fun_⟩ := facts w mg fa _ Y G.T.g hmg
  obtain ⟨μ, ans⟩ := ans zs few bits
  exact law_run (T := L.tab K) kin G.T.g G.T.b G.T.builtins G.T.nolimit gen0 (tabs_of kin ck tb) at_a intsH (Nat.le_trans few (by decide)) (room.mono (by have := Tab.kx_le (L.tab K); omega)) fun_ bind ans
end DI
end

section
set_option Elab.async false
set_option linter.all false
set_option maxRecDepth 100000
namespace DI
open PySem L2 PySem.Spec PyProof.Rows
/-- the own special methods of operators -/
structure OwnAll (T : Tab) (n : Nat) (X : Cx) : Prop where
  eq : EqOwn T n X
  inn : InOwn T n X
  set : SetOwn T n X
  idx : ∀ W, IdxOwn T n X W
/-- what is known in a body -/
structure Bd (L : LawT) (n : Nat) (X : Cx) (W : WX) : Prop where
  O : Own (L.tab X.K) n X
  g : Good L X.K X.mg
  sf : SpForm (L.tab X.K)
  ow : ∀ (n : Nat) (Y : Cx), Own (L.tab Y.K) n Y → Good L Y.K Y.mg → OwnAll (L.tab Y.K) n Y
  tk : Takes X W
  po : PassesOwn (model X.prog X.w) X.A X.env X.xe
  xi : ∀ x ∈ L.xis, XIni X.prog X.K ((L.tab X.K).ca x.c) (x.at_ L X.K) x.fs
  rp : RepOk (L.tab X.K)
theorem takes_never {X : Cx} : Takes X Wn := fun u s' x => by
  obtain ⟨_, _, _, _, _, _, _, _, _, _, _, _, _, _, _, _, z⟩ := x
  exact z.elim
theorem Own.blk {T : Tab} {n : Nat} {X : Cx} (O : Own T n X) {s : Shared} {H : Hp} {scope : Scope} {ce : PySem.Env} {fp : List Addr} : Own T n (X.blk s H scope ce fp) := ⟨O.calm, O.room, O.gd, O.fnA, O.thkA, O.tab, O.tabs, O.nex, O.fnQ⟩
theorem Bd.blk {L : LawT} {n : Nat} {X : Cx} {W : WX} (B : Bd L n X W) {s : Shared} {H : Hp} {scope : Scope} {ce : PySem.Env} {fp : List Addr} : Bd L n (X.blk s H scope ce fp) Wn := ⟨B.O.blk, B.g, B.sf, B.ow, takes_never, PassesOwn.never, B.xi, B.rp⟩
theorem Bd.cmp {L : LawT} {n : Nat} {X : Cx} {W : WX} (B : Bd L n X W) : CmpOk (L.tab X.K) n X := ⟨by have := B.O.room.un; omega, (B.ow n X B.O B.g).eq, (B.ow n X B.O B.g).inn⟩
theorem Bd.units (B : Bd L n X W) : X.A.units + 65 < cLine := by have := B.O.room.un; omega
/-- no class has the special method j -/
def noSp (L : LawT) (j : Nat) : Bool := L.cls.all fun p => (p.2.spec.lookup j).isNone
theorem noSp_of {L : LawT} {j : Nat} (h : noSp L j = true) (c : Nat) : specOf L.prog c j = none := by
  unfold specOf
  cases e : L.prog.cls c with
  | none => rfl
  | some k =>
    have := List.all_eq_true.mp h (c, k) (lookup_mem e)
    simpa using this
theorem noSp_at {L : LawT} {j : Nat} (h : noSp L j = true) (μ : Mem) (d : D) : special L.prog μ d j = none := by
  unfold special
  cases clsAt μ d with
  | none => rfl
  | some c => exact noSp_of h c
theorem live_no {P : Prog} (h : P.ids = false) {μ : Mem} {a : D} : liveNo P μ a = false := by
  unfold liveNo
  split
  · split
    · split
      · rw [h]; rfl
      · rfl
    · rfl
  · rfl
theorem idV_no {P : Prog} (h : P.ids = false) {μ : Mem} {a b : D} : idV P μ a b = none := by
  unfold idV
  split
  · split
    · split
      · rw [h]; simp
      · rfl
    · rfl
  · rw [live_no h]; rfl
  · rfl
/-- a program without such methods -/
theorem own_none {L : LawT} {n : Nat} (h : (!L.ids && (noSp L 0 && (noSp L 5 && (noSp L 6 && noSp L 7)))) = true) (Y : Cx) : OwnAll (L.tab Y.K) n Y := by
  simp only [Bool.and_eq_true, Bool.not_eq_true'] at h
  obtain ⟨hid, h0, h5, h6, h7⟩ := h
  refine ⟨?_, ?_, ?_, ?_⟩
  · rintro neg pins s σ H x y v u Q I rx ry ⟨a, μ, d, e, m, r1, r2, hs, hn, q⟩
    unfold eqV at q
    rw [hs, hn] at q
    have e1 : special (L.tab Y.K).P μ d 0 = none := noSp_at h0 μ d
    have e2 : special (L.tab Y.K).P μ e 0 = none := noSp_at h0 μ e
    simp only [e1, e2, Bool.false_eq_true, if_false] at q
    rw [idV_no (show (L.tab Y.K).P.ids = false from hid)] at q
    exact q.elim
  · rintro neg pins s σ H x y v u Q I rx ry ⟨a, μ, d, e, c, ns, fs, m, r1, r2, hr, q⟩
    unfold inV at q
    have e1 : specOf (L.tab Y.K).P c 5 = none := noSp_of h5 c
    simp only [hr, e1] at q
    exact q.elim
  · rintro pins s σ H o i v ov iv u Q I ro ri rv ⟨a, μ, x, y, z, c, ns, fs, f, m, r1, r2, r3, hr, hf, q⟩
    have e1 : specOf (L.tab Y.K).P c 7 = none := noSp_of h7 c
    rw [e1] at hf; cases hf
  · intro W value slice pins s σ H x y v u Q a ρ μ d e c ns fs I rx ry hp ho r1 r2 hr q
    unfold idxV at q
    have e1 : specOf (L.tab Y.K).P c 6 = none := noSp_of h6 c
    simp only [hr, e1] at q
    exact q.elim
def spB (L : LawT) : Bool := L.cls.all fun p => p.2.spec.all fun q => decide (L.form q.2 (spAr q.1) [] = some [])
theorem sp_form {L : LawT} {K : PySem.W.Frag} (h : spB L = true) : SpForm (L.tab K) := by
  intro c k j f e1 e2
  have r := List.all_eq_true.mp (List.all_eq_true.mp h (c, k) (lookup_mem e1)) (j, f) (lookup_mem e2)
  exact of_decide_eq_true r
section
variable {L : LawT} {T : Tab} {n : Nat} {X : Cx} {W : WX} {pos : Pos}
theorem v_ (i : Nat) {x : Str} (hN : X.N[i]? = some x := by rfl) (hv : Vis X.env.scope x := by first | exact Or.inl rfl | exact Or.inr (Or.inl rfl) | exact Or.inr (Or.inr rfl)) (hd : (x == ("__debug__" : Str)) = false := by decide) (hcd : (x == ("__classdict__" : Str)) = false := by decide) : SE T n X W (.Name x pos) (.v i) := se_v hN hv hd hcd
theorem st_ {s : Str} {j : Nat} (h : strG s = true := by decide +kernel) : SE T n X W (.Constant (.str s) j pos) (.k (.str s)) := se_str h
theorem c_ {x : Expr} {xs : List Expr} {e : E} {es : Es} (h : SE T n X W x e) (hs : SA T n X W xs es) (hst : starEach (x :: xs) X.env = (false, eval x X.env) :: starEach xs X.env := by rfl) : SA T n X W (x :: xs) (.c e es) := sa_cons h hs hst
theorem tup_ {xs : List Expr} {es : Es} {k : Nat} (h : SA T n X W xs es) (hp : es.plain = true := by rfl) : SE T n X W (.Tuple xs k pos) (.tup es) := se_tup hp h
theorem lst_ {xs : List Expr} {es : Es} (h : SA T n X W xs es) (hp : es.plain = true := by rfl) : SF T n X W (.List xs pos) (.lst es) := sf_lst hp h
theorem cmp_ (B : Bd L n X W) {x y : Expr} {d e : E} (o : Cop) (h1 : SE (L.tab X.K) n X W x d) (h2 : SE (L.tab X.K) n X W y e) (hm : behindInMarks (toCmp o) y = false := by rfl) : SE (L.tab X.K) n X W (.Compare x [toCmp o] [y] pos) (.cmp o d e) := se_cmp o B.cmp hm h1 h2
theorem tcmp_ (B : Bd L n X W) {x y : Expr} {d e : E} (o : Cop) (h1 : SE (L.tab X.K) n X W x d) (h2 : SE (L.tab X.K) n X W y e) (hm : behindInMarks (toCmp o) y = false := by rfl) : ST (L.tab X.K) n X W (.Compare x [toCmp o] [y] pos) (.cmp o d e) := st_cmp o B.cmp hm h1 h2
theorem cmp2_ (B : Bd L n X W) {x y z : Expr} {d e f : E} (o p : Cop) (h1 : SE (L.tab X.K) n X W x d) (h2 : SE (L.tab X.K) n X W y e) (h3 : SE (L.tab X.K) n X W z f) (hm : lastMarks [toCmp o, toCmp p] [y, z] = false := by rfl) : SE (L.tab X.K) n X W (.Compare x [toCmp o, toCmp p] [y, z] pos) (.cmp2 o p d e f) := se_cmp2 o p B.cmp hm h1 h2 h3
theorem tv_ {x : Expr} {d : E} (h : SE T n X W x d) (he : ∀ whole, isTrue x X.env whole = (do let v ← whole; standAt x.pos; holding [v] (truthy v)) := by intro _; rfl) : ST T n X W x d := st_val he h
theorem sva1_ {op : BoolOp} {x : Expr} {d : E} (h : SE T n X W x d) : SV T n X W (.BoolOp op [x] pos) (evAnd T.P (T.C n) T.reprS (.c d .n)) := sv_one h (by intro _ _; simp only [evAnd])
theorem idx_ (B : Bd L n X W) {x y : Expr} {d e : E} (h1 : SE (L.tab X.K) n X W x d) (h2 : SE (L.tab X.K) n X W y e) (hs : PlainIx y := by intro _ _; rfl) : SE (L.tab X.K) n X W (.Subscript x y pos) (.idx d e) := se_idx (by have := B.units; omega) ((B.ow n X B.O B.g).idx W) hs h1 h2
theorem g_ (B : Bd L n X W) (i : Nat) {x : Str} {p : Pos} {d : D} (h1 : L.gnm.lookup x = some i := by rfl) (h2 : L.gls.lookup i = some d := by rfl) (hg : Gl X x := by rfl) (hd : (x == ("__debug__" : Str)) = false := by decide) : SE (L.tab X.K) n X W (.Name x p) (.g i) := by
  obtain ⟨u, v, e1, e2, e3⟩ := B.g.gl x i d h1 h2
  exact se_g hg e1 e2 hd h2 e3
theorem cal_ (B : Bd L n X W) (f : Nat) {x : Str} {p : Pos} {y : Expr} {ys : List Expr} {es : Es} (ha : SA (L.tab X.K) n X W (y :: ys) es) (hf : L.form f (es.len) [] = some [] := by rfl) (h1 : L.pth.lookup f = some (.glo x) := by rfl) (hg : Gl X x := by rfl) (hdb : (x == ("__debug__" : Str)) = false := by decide)
    (he : starEach (y :: ys) X.env = (false, eval y X.env) :: starEach ys X.env := by rfl) (hpl : (backTo pos (starEach ys X.env)).any (·.1) = false := by rfl) : SE (L.tab X.K) n X W (.Call (.Name x p) (y :: ys) [] pos) (.cal f es) := se_cal B.O B.tk hf hg (B.g.fn x f h1) (B.g.keepF f _ h1) ha hdb he hpl
theorem b_len (B : Bd L n X W) {p : Pos} {y : Expr} {e : E} (h : SE (L.tab X.K) n X W y e) (hm : L.free.contains "len" = true := by rfl) (hg : Gl X "len" := by rfl) (hs : starEach [y] X.env = (false, eval y X.env) :: starEach [] X.env := by rfl) : SF (L.tab X.K) n X W (.Call (.Name "len" p) [y] [] pos) (.bi .len (.c e .n)) :=
  sf_b1 (fun _ _ => rfl) (fun h => pe_callB (cb_len (own_len B.O B.sf)) hg (B.g.free _ hm) boot_len h (by decide) (by decide) hs) h hs
theorem b_fn (B : Bd L n X W) (b : Bi) {x : Str} {id : String} {g : Mem → D → R D} {p : Pos} {y : Expr} {e : E} (hc : CallR X (.builtin id) (rB1 (L.tab X.K) X.K g)) (h : SE (L.tab X.K) n X W y e) (hb : ∀ μ d, bi1V (L.tab X.K).P ((L.tab X.K).C n) (L.tab X.K).reprS μ b d = g μ d := by intro _ _; rfl) (hm : L.free.contains x = true := by rfl) (hg : Gl X x := by rfl) (hv : bootBuiltins x = some (.builtin id) := by rfl) (hn : x ≠ "__name__" := by decide) (hdb : (x == ("__debug__" : Str)) = false := by decide)
    (hs : starEach [y] X.env = (false, eval y X.env) :: starEach [] X.env := by rfl) : SF (L.tab X.K) n X W (.Call (.Name x p) [y] [] pos) (.bi b (.c e .n)) :=
  sf_b1 hb (fun h => pe_callB hc hg (B.g.free _ hm) hv h hn hdb hs) h hs
theorem b_ty (B : Bd L n X W) (b : Bi) {x : Str} {id : String} {g : Mem → D → R D} {p : Pos} {y : Expr} {e : E} (hc : CallR X (.type id) (rB1 (L.tab X.K) X.K g)) (h : SE (L.tab X.K) n X W y e) (hb : ∀ μ d, bi1V (L.tab X.K).P ((L.tab X.K).C n) (L.tab X.K).reprS μ b d = g μ d := by intro _ _; rfl) (hm : L.free.contains x = true := by rfl) (hg : Gl X x := by rfl) (hv : bootBuiltins x = some (.type id) := by rfl) (hn : x ≠ "__name__" := by decide) (hdb : (x == ("__debug__" : Str)) = false := by decide)
    (hs : starEach [y] X.env = (false, eval y X.env) :: starEach [] X.env := by rfl) : SF (L.tab X.K) n X W (.Call (.Name x p) [y] [] pos) (.bi b (.c e .n)) :=
  sf_b1 hb (fun h => pe_callTy hc hg (B.g.free _ hm) hv h hn hdb hs) h hs
theorem bm_ {o e : Expr} {es : List Expr} {y : E} {ys : Es} {name : Str} {apos cpos : Pos} {Ty id : String} (bm : Bm) (hT : tyOf bm Ty) (pa : PlainAttrs Ty) (slot : Slot Ty name id) (hty : typeOf (.builtin id) = pure (.type "method_descriptor")) (hm : MtR X id (rBm T X.K bm)) (ho : SE T n X W o y) (ha : SA T n X W (e :: es) ys)
    (hbase : attributeBase o name X.env (eval o X.env) = eval o X.env := by rfl)
    (hfew : ((backTo cpos (starEach (e :: es) X.env)).all (fun x => !x.1) && (backToKw cpos (keywordEach [] X.env)).all (fun x => x.1.isSome)
      && decide ((e :: es).length + ([] : List Keyword).length + (if ([] : List Keyword).isEmpty then 0 else 1) < 30)) = true := by rfl)
    (hline : (apos.endLine == cpos.line) = true := by rfl) (hs : starEach (e :: es) X.env = (false, eval e X.env) :: starEach es X.env := by rfl) (hplain : (backTo cpos (starEach es X.env)).any (·.1) = false := by rfl) : SF T n X W (.Call (.Attribute o name apos) (e :: es) [] cpos) (.bm bm y ys) := sf_bm hT pa slot hty hm ho ha hbase hfew hline hs hplain
theorem gv_ (i : Nat) {x : Str} (hN : X.N.Nodup) (hi : X.N[i]? = some x := by rfl) (hx : Loc X.env.scope x := by first | exact Or.inl rfl | exact Or.inr rfl) (hf : X.fn x = true ∨ X.env.scope.names.lookup x = some .local := by first | exact Or.inr rfl | exact Or.inl rfl) : SG T n X W (.Name x pos) (.v i) := sg_v hN hi hx hf
theorem r1_ (B : Bd L n X W) {tg x : Expr} {es : Es} {p : Pos} (h : SA (L.tab X.K) n X W [x] es) (hm : L.free.contains "range" = true := by rfl) (hg : Gl X "range" := by rfl) (hs : starEach [x] X.env = [(false, eval x X.env)] := by rfl) (hl : es.len = 1 := by rfl) : SI (L.tab X.K) n X W tg (.Call (.Name "range" p) [x] [] pos) (.rng es) := si_rng1 hg (B.g.free _ hm) h hs hl
theorem lc_ (B : Bd L n X W) (own : List (Str × Nat)) (N : List Str) (sc : Scope) (hN : X.N.Nodup) {x tg y : Expr} {ifs : List Expr} {scope : Scope} {t : DI.T} {it : DI.It} {c e : E} {vs : List Nat} (hi : SI (L.tab X.K) n X W tg y it) (hg : AllB X scope fun X => SG (L.tab X.K) n X Wn tg t) (ht : AllB X scope fun X => SPs (L.tab X.K) n X Wn ifs c) (he : AllB X scope fun X => SE (L.tab X.K) n X Wn x e)
    (hv : own.map (·.2) = vs := by rfl) (hvs : ∀ i ∈ t.vars, i ∈ vs := by decide) (hNN : X.N = N := by rfl) (hsc : X.env.scope = sc := by rfl) (hbl : blkC N sc scope own = true := by first | decide +kernel | rfl) (hs : ∀ v, foldedSetIterable y X.env v = pure v := by intro _; rfl) : SF (L.tab X.K) n X W (.ListComp x [⟨tg, y, ifs, 0⟩] scope pos) (.lc vs t it c e) := by subst hNN hsc; exact sf_lc hv hvs B.O.calm hN hi (blkOk_by hbl) hg ht he hs
theorem slc_ (B : Bd L n X W) (i : Nat) (own : List (Str × Nat)) (N : List Str) (sc : Scope) (hN : X.N.Nodup) {z : Str} {py spos : Pos} {x tg y : Expr} {ifs : List Expr} {scope : Scope} {t : DI.T} {it : DI.It} {c e : E} {vs : List Nat} (hi : SI (L.tab X.K) n X W tg y it) (hg : AllB X scope fun X => SG (L.tab X.K) n X Wn tg t) (ht : AllB X scope fun X => SPs (L.tab X.K) n X Wn ifs c) (he : AllB X scope fun X => SE (L.tab X.K) n X Wn x e)
    (hv : own.map (·.2) = vs := by rfl) (hvs : ∀ i ∈ t.vars, i ∈ vs := by decide) (hy : X.N[i]? = some z := by rfl) (hyl : X.env.scope.names.lookup z = some .local := by rfl) (hsw : swapsWith (.ListComp x [⟨tg, y, ifs, 0⟩] scope pos) (some (.Name z py)) spos.line X.env = pure true := by exact sw_true rfl rfl rfl (by decide +kernel)) (hNN : X.N = N := by rfl) (hsc : X.env.scope = sc := by rfl) (hbl : blkC N sc scope own = true := by first | decide +kernel | rfl) (hs : ∀ v, foldedSetIterable y X.env v = pure v := by intro _; rfl) : SS (L.tab X.K) n X W (.Assign [.Name z py] (.ListComp x [⟨tg, y, ifs, 0⟩] scope pos) spos) (.asg (.v i) (.lc vs t it c e)) := by subst hNN hsc; exact ss_setLc hv hvs B.O.calm hN hy hyl hsw hi (blkOk_by hbl) hg ht he hs
theorem ex_ {x : Expr} {e : E} (h : SE T n X W x e) (hs : swapsWith x none pos.line X.env = pure false := by rfl) : SS T n X W (.Expr x pos) (.ex e) := ss_ex h hs
theorem set_ (i : Nat) (hN : X.N.Nodup) {x : Str} {px : Pos} {y : Expr} {e : E} (he : SE T n X W y e) (hi : X.N[i]? = some x := by rfl) (hx : Loc X.env.scope x := by first | exact Or.inl rfl | exact Or.inr rfl) (hs : swapsWith y (some (.Name x px)) pos.line X.env = pure false := by rfl) (hf : X.fn x = true ∨ X.env.scope.names.lookup x = some .local := by first | exact Or.inr rfl | exact Or.inl rfl) : SS T n X W (.Assign [.Name x px] y pos) (.asg (.v i) e) := ss_set hN hi hx he hs hf
theorem par2_ (B : Bd L n X W) (i j : Nat) (hN : X.N.Nodup) {x y : Str} {u v : Expr} {es : Es} {px py pt : Pos} {kt k2 pt2} (ha : SA (L.tab X.K) n X W [u, v] es) (hi : X.N[i]? = some x := by rfl) (hj : X.N[j]? = some y := by rfl) (hij : i ≠ j := by decide) (hx : X.env.scope.names.lookup x = some .local := by rfl) (hy : X.env.scope.names.lookup y = some .local := by rfl)
    (hw : swappedStores [.Tuple [.Name x px, .Name y py] kt pt] (.Tuple [u, v] k2 pt2) X.env = pure (some [x, y]) := by rfl) (hs : swapsWithSole [.Tuple [.Name x px, .Name y py] kt pt] (.Tuple [u, v] k2 pt2) pos.line X.env = pure false := by rfl) : SS (L.tab X.K) n X W (.Assign [.Tuple [.Name x px, .Name y py] kt pt] (.Tuple [u, v] k2 pt2) pos) (.par (.c (.v i) (.c (.v j) .n)) es) := ss_par2 B.O.calm hN hi hj hij hx hy ha hw hs
end
section
variable {L : LawT} {T : Tab} {n : Nat} {X : Cx} {W : WX} {pos : Pos}
theorem for_ (B : Bd L n X W) {x y : Expr} {body : List Stmt} {t : DI.T} {it : DI.It} {s : Ss} (hi : SI (L.tab X.K) n X W x y it) (hg : SG (L.tab X.K) n X W x t) (hb : SSs (L.tab X.K) n X W body s) (hs : ∀ v, foldedSetIterable y X.env v = pure v := by intro _; rfl) : SS (L.tab X.K) n X W (.For x y body [] pos) (.for t it s) := ss_for B.po B.O.calm hi hg hb hs
/-- the body's own context -/
theorem Bd.of {L : LawT} {n : Nat} {P : Program} {w : World} {K : PySem.W.Frag} {mg : Str → Option Value} {base : Heap} {N : List Str} {qual : Str} {scope : Scope} {f : Addr} {cd : Value} {A : Around} {outer : List PySem.Env} {s : Shared} {H : Hp} {E : XK} {W : WX} (O : Own (L.tab K) n (cxOf (L2N.CX P w) P w K mg base N qual scope f cd A outer s H E)) (g : Good L K mg) (sf : SpForm (L.tab K))
    (ow : ∀ (n : Nat) (Y : Cx), Own (L.tab Y.K) n Y → Good L Y.K Y.mg → OwnAll (L.tab Y.K) n Y) (tk : Takes (cxOf (L2N.CX P w) P w K mg base N qual scope f cd A outer s H E) W) (xi : ∀ x ∈ L.xis, XIni P K ((L.tab K).ca x.c) (x.at_ L K) x.fs) (rp : RepOk (L.tab K) := by exact repOk_d rfl rfl) : Bd L n (cxOf (L2N.CX P w) P w K mg base N qual scope f cd A outer s H E) W :=
  ⟨O, g, sf, ow, tk, PassesOwn.leaving, xi, rp⟩
theorem Bd.tr (B : Bd L n X W) {pn : List (Addr × Obj)} {xe : Value → Shared → Prop} {W' : WX} (tk : Takes (X.tr pn xe) W') (po : PassesOwn (model X.prog X.w) X.A X.env xe) : Bd L n (X.tr pn xe) W' :=
  ⟨⟨B.O.calm, B.O.room, B.O.gd, B.O.fnA, B.O.thkA, B.O.tab, B.O.tabs, B.O.nex, B.O.fnQ⟩, B.g, B.sf, B.ow, tk, po, B.xi, B.rp⟩
theorem Bd.lam (B : Bd L n X W) {j : Nat} {A : Around} {outer : List PySem.Env} {s : Shared} {H : Hp} {E : XK} {scope : Scope} {f c' : Addr} {W0 : WX} (O : Own (L.tab X.K) j (lamCxN X A outer s H E scope f c')) (tk : Takes (lamCxN X A outer s H E scope f c') W0) : Bd L j (lamCxN X A outer s H E scope f c') W0 :=
  ⟨O, B.g, B.sf, B.ow, tk, PassesOwn.leaving, B.xi, B.rp⟩
theorem nm_ (g : Good L X.K X.mg) (c : Nat) {x : Str} (h1 : L.cnm.lookup c = some x := by rfl) (hg : Gl X x := by rfl) (hd : (x == ("__debug__" : Str)) = false := by decide) : Names X x (.ref ((L.tab X.K).ca c)) := ⟨hg, hd, .inl (g.cl x c h1)⟩
theorem tys_ {K : PySem.W.Frag} {mg : Str → Option Value} {e : Option (Nat × Addr × Value × Option Addr)} {clo : Option (Addr × Addr × Str × Nat × List (Option V))} (g : Good L K mg) (cs : List Nat) (h : (cs.all fun c => L.xts.contains c) = true := by rfl) : TyOk ((L.tab K).sp e clo) K (cs.map Ty.own) (cs.map fun c => .ref ((L.tab K).ca c)) := fun c' ns vs μ b e1 => by
  have e1 : isTys L.prog μ (.exc c' ns vs) (cs.map Ty.own) = some b := e1
  cases hk : L.cls.lookup c' with
  | none =>
    cases cs with
    | nil => cases e1; rfl
    | cons c r =>
      have z : isTy L.prog μ (.exc c' ns vs) (.own c) = none := by
        show (L.cls.lookup c').map _ = none
        rw [hk]; rfl
      simp only [List.map_cons, isTys, z] at e1
      cases e1
  | some k =>
    have z : ∀ c, isTy L.prog μ (.exc c' ns vs) (.own c) = some (k.sup.contains c) := fun c => by
      show (L.cls.lookup c').map _ = _
      rw [hk]; rfl
    have key : ∀ cs : List Nat, (cs.all fun c => L.xts.contains c) = true → isTys L.prog μ (.exc c' ns vs) (cs.map Ty.own) = some (cs.any fun c => k.sup.contains c) ∧ PySem.W.exmAny K (.ref ((L.tab K).ca c')) (cs.map fun c => .ref ((L.tab K).ca c)) = some (cs.any fun c => k.sup.contains c) := by
      intro cs h
      induction cs with
      | nil => exact ⟨rfl, rfl⟩
      | cons c r ih =>
        rw [List.all_cons, Bool.and_eq_true] at h
        obtain ⟨i1, i2⟩ := ih h.2
        have x1 := g.xt c c' k h.1 hk
        simp only [List.map_cons, isTys, z, PySem.W.exmAny, x1, i1, i2, List.any_cons]
        cases k.sup.contains c <;> simp
    obtain ⟨k1, k2⟩ := key cs h
    rw [k1] at e1
    cases e1
    exact k2
theorem tysN_ {K : PySem.W.Frag} {mg : Str → Option Value} (g : Good L K mg) (cs : List Nat) (h : (cs.all fun c => L.xts.contains c) = true := by rfl) : TyOk (L.tab K) K (cs.map Ty.own) (cs.map fun c => .ref ((L.tab K).ca c)) := tys_ (e := none) (clo := none) g cs h
theorem xat_ {a : Addr} {oe : Obj} {cls : Value} {dd : Option Addr} {pn : List (Addr × Obj)} (tab : TabOk T X.K) (hz : L2N.Zn cls dd oe) (hf : ∃ vs, oe.data = .fields vs) (i f : Nat) {x nm : Str} {p : Pos} (hn : nm = T.an f := by rfl)
    (hi : X.N[i]? = some x := by rfl) (hv : Vis X.env.scope x := by first | exact Or.inl rfl | exact Or.inr (Or.inl rfl) | exact Or.inr (Or.inr rfl)) (hd : (x == ("__debug__" : Str)) = false := by decide) (hcd : (x == ("__classdict__" : Str)) = false := by decide)
    (hb : attributeBase (.Name x p) nm X.env (eval (.Name x p) X.env) = eval (.Name x p) X.env := by rfl) :
    SE (T.sp (some (i, a, cls, dd)) T.clo) n (X.suite a ((a, oe) :: pn)) W (.Attribute (.Name x p) nm pos) (.xat i f) := se_xat tab hn hz hf hi hv hd hcd hb
theorem rai1_ (B : Bd L n X W) (i c m : Nat) {x0 : XI} {x f : Str} {e : Expr} {p cpos : Pos} {d : E} (he : SE (L.tab X.K) n X W e d) (hx : L.xis[i]? = some x0 := by rfl) (hc : x0.c = c := by rfl) (hf : x0.fs = [f] := by rfl) (hm : f = anOf L.ann m := by rfl) (h1 : L.cnm.lookup c = some x := by rfl) (hsup : L.free.contains "super" = true := by rfl) (hg : Gl X x := by rfl) (hdb : (x == ("__debug__" : Str)) = false := by decide)
    (hst : starEach [e] X.env = (false, eval e X.env) :: starEach [] X.env := by rfl) (hpl : (backTo cpos (starEach [] X.env)).any (·.1) = false := by rfl) : SS (L.tab X.K) n X W (.Raise (some (.Call (.Name x p) [e] [] cpos)) none pos) (.rai (.exc c [m] (.c d .n))) := by
  subst hc
  have hmem := List.mem_of_getElem? hx
  have xi := B.xi x0 hmem
  rw [hf] at xi
  have xc := B.g.xc x0.c (List.any_eq_true.mpr ⟨x0, hmem, decide_eq_true rfl⟩)
  refine ss_rai B.O.calm B.tk (fs := [f]) (by rw [hm]; rfl) (pmk_x1 xc xi (B.g.free _ hsup) (B.O.room.mono (Nat.zero_le _)) hg (B.g.cl x _ h1) hdb (sa_cons he sa_nil hst) hst hpl)
theorem rai2_ (B : Bd L n X W) (i c m m2 : Nat) {x0 : XI} {x f g : Str} {e e2 : Expr} {p cpos : Pos} {d d2 : E} (he : SE (L.tab X.K) n X W e d) (he2 : SE (L.tab X.K) n X W e2 d2) (hx : L.xis[i]? = some x0 := by rfl) (hc : x0.c = c := by rfl) (hf : x0.fs = [f, g] := by rfl) (hm : f = anOf L.ann m := by rfl) (hm2 : g = anOf L.ann m2 := by rfl) (hfg : f ≠ g := by decide) (h1 : L.cnm.lookup c = some x := by rfl) (hsup : L.free.contains "super" = true := by rfl) (hg : Gl X x := by rfl) (hdb : (x == ("__debug__" : Str)) = false := by decide)
    (hst : starEach [e, e2] X.env = (false, eval e X.env) :: starEach [e2] X.env := by rfl) (hst2 : starEach [e2] X.env = (false, eval e2 X.env) :: starEach [] X.env := by rfl) (hpl : (backTo cpos (starEach [e2] X.env)).any (·.1) = false := by rfl) : SS (L.tab X.K) n X W (.Raise (some (.Call (.Name x p) [e, e2] [] cpos)) none pos) (.rai (.exc c [m, m2] (.c d (.c d2 .n)))) := by
  subst hc
  have hmem := List.mem_of_getElem? hx
  have xi := B.xi x0 hmem
  rw [hf] at xi
  have xc := B.g.xc x0.c (List.any_eq_true.mpr ⟨x0, hmem, decide_eq_true rfl⟩)
  refine ss_rai B.O.calm B.tk (fs := [f, g]) (by rw [hm, hm2]; rfl) (pmk_x2 hfg xc xi (B.g.free _ hsup) (B.O.room.mono (Nat.zero_le _)) hg (B.g.cl x _ h1) hdb (sa_cons he (sa_cons he2 sa_nil hst2) hst) hst hpl)
theorem sxo_ (g : Good L X.K X.mg) (c : Nat) {x : Str} {p : Pos} (h1 : L.cnm.lookup c = some x := by rfl) (hg : Gl X x := by rfl) (hd : (x == ("__debug__" : Str)) = false := by decide) : SClsX (L.tab X.K) X (.Name x p) (.own c) := sclsX_own hg (g.cl x c h1) hd
theorem sxp_ (g : Good L X.K X.mg) (m : Nat) {x : Str} {p : Pos} (hm : L.free.contains x = true := by rfl) (hg : Gl X x := by rfl) (hv : bootBuiltins x = some (.type (tyX m)) := by rfl) (hn : x ≠ "__name__" := by decide) (hd : (x == ("__debug__" : Str)) = false := by decide) : SClsX (L.tab X.K) X (.Name x p) (.py m) := sclsX_py hg (g.free _ hm) hv hn hd
theorem reprXD_ (g : Good L X.K X.mg) (hr : Room 5 X.A) (hgd : X.A.guards = some []) {T' : Tab} {a : Addr} {oe : Obj} {cls : Value} {dd : Option Addr} {pn : List (Addr × Obj)}
    (hz : L2N.Zn cls dd oe) (hf : ∃ vs, oe.data = .fields vs) {y : Expr} {e : E} {p : Pos} (h : SE T' n (X.suite a ((a, oe) :: pn)) W y e) (hT : ∃ ex clo, T' = (L.tab X.K).sp ex clo := by exact ⟨_, _, rfl⟩) (hR : (L.tab X.K).reprS = shownD := by rfl)
    (hm : L.free.contains "repr" = true := by rfl) (hg : Gl X "repr" := by rfl) (hs : starEach [y] X.env = (false, eval y X.env) :: starEach [] X.env := by rfl) :
    SF T' n (X.suite a ((a, oe) :: pn)) W (.Call (.Name "repr" p) [y] [] pos) (.bi .reprD (.c e .n)) := by
  obtain ⟨ex, clo, rfl⟩ := hT
  exact sf_reprX g.tab (.inl hR) (L2H.roomH_of hr) hgd hz hf h hg (g.free _ hm) hs
end
end DI
namespace DI
open PySem L2 PySem.Spec PyProof.Rows
def xiSetP : Stmt → Pos × Pos × Pos × Pos
  | .Assign [.Attribute (.Name _ p0) _ p1] (.Name _ p2) p3 => (p0, p1, p2, p3)
  | _ => default
def xiSupP : List Stmt → Pos × Pos × Pos × Pos × Pos
  | .Expr (.Call (.Attribute (.Call (.Name _ p0) _ _ p1) _ p2) _ _ p3) p4 :: _ => (p0, p1, p2, p3, p4)
  | _ => default
def xiOf (c : Nat) (qual : Str) (s : Stmt) : XI where
  c := c
  qual := qual
  fs := ((defArgs s).args.drop 1).map (·.arg)
  pps := (defArgs s).args.map (·.pos)
  sets := ((defBody s).drop 1).map xiSetP
  ps := xiSupP (defBody s)
end DI
end

section
set_option Elab.async false
set_option linter.all false
set_option maxRecDepth 100000
namespace DI
open PySem L2 PySem.Spec PyProof.Rows
section
variable {T : Tab} {n : Nat} {X : Cx} {W : WX} {pos : Pos}
end
section
variable {L : LawT} {T : Tab} {n : Nat} {X : Cx} {W : WX} {pos : Pos}
end
end DI
end

section
set_option Elab.async false
set_option linter.all false
namespace DI
open PySem L2
section
variable {T : Tab} {n : Nat} {X : Cx} {W : WX} {pos : Pos}
end
end DI
end

section
set_option Elab.async false
set_option linter.all false
set_option maxRecDepth 100000
namespace DI
open PySem L2 PySem.Spec PyProof.Rows
section
variable {L : LawT} {n : Nat} {X : Cx} {W : WX} {pos : Pos}
end
end DI
end

section
set_option Elab.async false
set_option linter.all false
namespace DI
open PySem
section
variable {X : Type} {o : Option X}
/-- the first part of what is checked of a law's table -/
def chk1 (L : LawT) (K : PySem.W.Frag) : Bool := L.pth.all fun q => (match q.2 with | .glo x => gloB K x | _ => true) && (PySem.W.isFn K (.ref (q.2.adr K)) && PySem.W.keepIn K (.ref (q.2.adr K)))
def chk2 (L : LawT) (K : PySem.W.Frag) : Bool := (L.cnm.all fun q => gloB K q.2) && ((L.cls.all fun p => clsC L K p.1 p.2) && (isB L K && (glB L K && (cmB L K && ((L.free.all fun x => He.eqO (PySem.W.nsIn K mainGlobals x) (some none)) && (decide L.ann.Nodup && ((L.ann.all fun x => decide ((sL x).length < 100)) && (xcB L K && (mkB L K && (neB L K && (xisB L K && (idB L K && (gtB L K && (K.lookup sysModules).isSome)))))))))))))
theorem run_join {σ : Type} {A : X → Bool} {S : X → σ} {good : σ} {ob : X → He.AlD} {tb c1 c2 ex dk xk : X → Bool} {F G : X → List He.FnW} {f g : List He.FnW} (ho : ∀ s, ob s = (tb s && ((c1 s && c2 s) && (ex s && (dk s && xk s))), F s ++ G s))
    (h0 : o.map (fun s => (A s, S s)) = some (true, good)) (h1 : o.map (fun s => tb s && c1 s) = some true) (h2 : o.map (fun s => (c2 s && (ex s && xk s), G s)) = some (true, g)) (h3 : o.map (fun s => (dk s, F s)) = some (true, f)) :
    o.map (fun s => (A s, S s, ob s)) = some (true, good, ((true, f ++ g) : He.AlD)) := by
  cases o with
  | none => cases h0
  | some s =>
    simp only [Option.map_some, Option.some.injEq, Prod.mk.injEq, Bool.and_eq_true, ho] at h0 h1 h2 h3 ⊢
    obtain ⟨a1, a2⟩ := h0
    obtain ⟨b1, b2⟩ := h1
    obtain ⟨⟨c1, c2, c3⟩, c4⟩ := h2
    obtain ⟨d1, d2⟩ := h3
    exact ⟨a1, a2, ⟨b1, ⟨b2, c1⟩, c2, d1, c3⟩, by rw [d2, c4]⟩
end
def obsA (as : List Addr) (L : LawT) (fn : List He5.DefA) (ex : PySem.W.Frag → Bool) (g : Addr → Option Obj) : He.AlD :=
  ((L.tab (frL L g as)).tbs.all (fun p => tabE g p.1) && (obsDI L fn ex (frL L g as)).1, (obsDI L fn ex (frL L g as)).2)
def hookA (as : List Addr) (L : LawT) (fn : List He5.DefA) (ex : PySem.W.Frag → Bool) : PySem.W.Hook where
  α := He.AlD
  obs := fun s => obsA as L fn ex s.heap.get?
  val := fun _ => valDI L fn
  says := fun _ h => ∃ K : PySem.W.Frag, K.In h ∧ (∀ p ∈ (L.tab K).tbs, h.get? p.1 = some { cls := .none, data := .fields #[] }) ∧ obsDI L fn ex K = valDI L fn
  of := fun _ s e => by
    have e1 : ((L.tab (frL L s.heap.get? as)).tbs.all (fun p => tabE s.heap.get? p.1) && (obsDI L fn ex (frL L s.heap.get? as)).1) = true := congrArg Prod.fst e
    have e2 : (obsDI L fn ex (frL L s.heap.get? as)).2 = (valDI L fn).2 := by
      have z := congrArg (fun z : He.AlD => z.2) e
      exact z
    rw [Bool.and_eq_true] at e1
    exact ⟨_, frL_in, fun p hp => tabE_ok (List.all_eq_true.mp e1.1 p hp), Prod.ext e1.2 e2⟩
  keeps := fun _ _ _ ⟨K, hK, t, c⟩ more => ⟨K, PySem.W.Frag.In.keeps hK more, fun p hp => more _ _ (t p hp), c⟩
end DI
end

section
set_option Elab.async false
set_option linter.all false
namespace DI
open PySem
/-- a run's equation from its parts -/
theorem runEq_of {r : PySem.W.OpenRow} {q : Program} {as : List Addr} {L : LawT} {fn : List He5.DefA} {ex : PySem.W.Frag → Bool} {M : Nat} {loose : List Str} {w : World}
    (h0 : ∀ os : OsState, (HandSHeadRun.endF (HandSHeadRun.stepQ (HandSHeadRun.denQ HandSHeadRun.tabQ) r.prog w) M r.prog w os).map (fun s => (HandSHeadRun.looksF r.prog (PySem.W.boot_heap w.params) s.abs, HandSHeadRun.seenQ q loose (importedModules r.prog.main.body) (fun s => PySem.W.xlAt q [] s && PySem.W.recOk r.toRowW.records s) s.abs)) = some (true, PySem.W.openGood q loose))
    (h1 : ∀ os : OsState, (HandSHeadRun.endF (HandSHeadRun.stepQ (HandSHeadRun.denQ HandSHeadRun.tabQ) r.prog w) M r.prog w os).map (fun s => (L.tab (frL L (HandSHeadRun.getT s) as)).tbs.all (fun p => tabE (HandSHeadRun.getT s) p.1) && chk1 L (frL L (HandSHeadRun.getT s) as)) = some true)
    (h2 : ∀ os : OsState, (HandSHeadRun.endF (HandSHeadRun.stepQ (HandSHeadRun.denQ HandSHeadRun.tabQ) r.prog w) M r.prog w os).map (fun s => (chk2 L (frL L (HandSHeadRun.getT s) as) && (ex (frL L (HandSHeadRun.getT s) as) && L.xis.all fun x => x.ok L (frL L (HandSHeadRun.getT s) as)), L.xis.map fun x => x.obs L (frL L (HandSHeadRun.getT s) as))) = some (true, L.xis.map XI.val))
    (h3 : ∀ os : OsState, (HandSHeadRun.endF (HandSHeadRun.stepQ (HandSHeadRun.denQ HandSHeadRun.tabQ) r.prog w) M r.prog w os).map (fun s => (fn.all fun d => d.ok (frL L (HandSHeadRun.getT s) as), fn.map fun d => He5.fnA (frL L (HandSHeadRun.getT s) as) (d.at_ (frL L (HandSHeadRun.getT s) as)))) = some (true, fn.map He5.DefA.val)) :
    HandSHeadRun.RunEq r q (hookA as L fn ex) (fun s => obsA as L fn ex (HandSHeadRun.getT s)) M loose w := fun os =>
  run_join (o := HandSHeadRun.endF (HandSHeadRun.stepQ (HandSHeadRun.denQ HandSHeadRun.tabQ) r.prog w) M r.prog w os) (ob := fun s => obsA as L fn ex (HandSHeadRun.getT s)) (good := PySem.W.openGood q loose)
    (tb := fun s => (L.tab (frL L (HandSHeadRun.getT s) as)).tbs.all (fun p => tabE (HandSHeadRun.getT s) p.1)) (c1 := fun s => chk1 L (frL L (HandSHeadRun.getT s) as)) (c2 := fun s => chk2 L (frL L (HandSHeadRun.getT s) as)) (ex := fun s => ex (frL L (HandSHeadRun.getT s) as))
    (dk := fun s => fn.all fun d => d.ok (frL L (HandSHeadRun.getT s) as)) (xk := fun s => L.xis.all fun x => x.ok L (frL L (HandSHeadRun.getT s) as)) (F := fun s => fn.map fun d => He5.fnA (frL L (HandSHeadRun.getT s) as) (d.at_ (frL L (HandSHeadRun.getT s) as))) (G := fun s => L.xis.map fun x => x.obs L (frL L (HandSHeadRun.getT s) as))
    (fun s => rfl) (h0 os) (h1 os) (h2 os) (h3 os)
end DI
end

section
set_option Elab.async false
set_option linter.all false
set_option maxRecDepth 100000
namespace DI
open PySem L2 PySem.Spec PyProof.Rows LamX
section
variable {T : Tab} {n : Nat} {X : Cx} {W : WX} {pos : Pos}
end
end DI
end

section
set_option Elab.async false
set_option linter.all false
set_option maxRecDepth 100000
namespace DI
open PySem L2 PySem.Spec PyProof.Rows
section
variable {T : Tab} {n : Nat} {X : Cx} {W : WX} {pos : Pos}
end
end DI
end

section
set_option Elab.async false
set_option linter.all false
set_option maxRecDepth 100000
namespace DI
open PySem L2 PySem.Spec PyProof.Rows
section
variable {L : LawT} {n : Nat} {X : Cx} {W : WX} {pos : Pos}
end
end DI
end

section
set_option Elab.async false
set_option linter.all false
set_option maxRecDepth 100000
namespace DI
open PySem L2 PySem.Spec PyProof.Rows
section
variable {prog : Program} {w : World} {K : Type} [DecidableEq K] {knd : KeyKind prog w K} {A : Around} {E : Value → Shared → Prop} {s : Shared}
end
end DI
end

section
set_option Elab.async false
set_option linter.all false
set_option maxRecDepth 100000
namespace DI
open PySem L2 PySem.Spec PyProof.Rows
section
variable {prog : Program} {w : World} {A : Around} {E : Value → Shared → Prop} {s : Shared}
end
section
variable {T : Tab} {K : PySem.W.Frag} {b : Abs} {μ : Mem}
end
section
variable {T : Tab} {n : Nat} {X : Cx} {W : WX} {pos : Pos}
end
end DI
end

section
set_option Elab.async false
set_option linter.all false
set_option maxRecDepth 100000
namespace DI
open PySem L2 PySem.Spec PyProof.Rows
section
variable {T : Tab} {n : Nat} {X : Cx} {W : WX} {pos : Pos}
theorem Own.keepF (O : Own T n X) {f : Nat} (h : (T.P.fns f).isSome = true) : PySem.W.keepIn X.K (.ref (T.fa f)) = true := by
  cases hF : T.P.fns f with
  | none => rw [hF] at h; cases h
  | some F =>
    obtain ⟨fd, ps, Fo, kp, fn, hB⟩ := (O.fns f F hF).ex
    exact kp
end
end DI
end

section
set_option Elab.async false
set_option linter.all false
set_option maxRecDepth 100000
namespace DI
namespace Ts
open PySem L2 PySem.Spec PyProof.Rows
/-- a round's places, as bits -/
def bitsOf (m : Nat) : Nat → Nat → Nat → Nat
  | 0, _, acc => acc
  | z + 1, s, acc => bitsOf m z ((s * 5 + 1) % (m + 1)) (acc ||| 2 ^ s)
theorem bitsOf_at (m : Nat) : ∀ (z k acc : Nat), (∀ j, acc.testBit j = true → ∃ b, b < k + z ∧ lcgN m b = j) → ∀ j, (bitsOf m z (lcgN m k) acc).testBit j = true → ∃ b, b < k + z ∧ lcgN m b = j
  | 0, _, _, h, j, e => h j e
  | z + 1, k, acc, h, j, e => by
    have := bitsOf_at m z (k + 1) (acc ||| 2 ^ lcgN m k) (fun j hj => by
      rw [Nat.testBit_or, Bool.or_eq_true, Nat.testBit_two_pow, decide_eq_true_eq] at hj
      rcases hj with hj | hj
      · obtain ⟨b, h1, h2⟩ := h j hj
        exact ⟨b, by omega, h2⟩
      · exact ⟨k, by omega, hj⟩) j e
    obtain ⟨b, h1, h2⟩ := this
    exact ⟨b, by omega, h2⟩
/-- a mask whose round meets every slot -/
structure Full (m : Nat) : Prop where
  all : ∀ j, j ≤ m → ∃ b, b ≤ m ∧ lcgN m b = j
  rnd : lcgN m (m + 1) = 0
  odd : m % 2 = 1
  few : m ≤ 511
theorem full_of {m : Nat} (h1 : bitsOf m (m + 1) 0 0 = 2 ^ (m + 1) - 1) (h2 : lcgN m (m + 1) = 0) (h3 : m % 2 = 1) (h4 : m ≤ 511) : Full m where
  all := fun j hj => by
    have e : (bitsOf m (m + 1) (lcgN m 0) 0).testBit j = true := by
      show (bitsOf m (m + 1) 0 0).testBit j = true
      rw [h1, Nat.testBit_two_pow_sub_one, decide_eq_true_eq]
      omega
    obtain ⟨b, b1, b2⟩ := bitsOf_at m (m + 1) 0 0 (fun j hj => by rw [Nat.zero_testBit] at hj; exact nomatch hj) j e
    exact ⟨b, by omega, b2⟩
  rnd := h2
  odd := h3
  few := h4
theorem full7 : Full 7 := full_of (by decide +kernel) (by decide +kernel) rfl (by omega)
theorem full31 : Full 31 := full_of (by decide +kernel) (by decide +kernel) rfl (by omega)
theorem full127 : Full 127 := full_of (by decide +kernel) (by decide +kernel) rfl (by omega)
theorem full511 : Full 511 := full_of (by decide +kernel) (by decide +kernel) rfl (by omega)
/-- the masks of tables with up to 512 slots -/
def MaskX (m : Nat) : Prop := m = 7 ∨ m = 31 ∨ m = 127 ∨ m = 511
theorem MaskX.full {m : Nat} (h : MaskX m) : Full m := by
  rcases h with rfl | rfl | rfl | rfl
  · exact full7
  · exact full31
  · exact full127
  · exact full511
section
variable {m : Nat} (F : Full m)
include F
theorem lcg_per : ∀ k, lcgN m (m + 1 + k) = lcgN m k
  | 0 => F.rnd
  | k + 1 => by
    show (lcgN m (m + 1 + k) * 5 + 1) % (m + 1) = _
    rw [lcg_per k]; rfl
theorem lcg_to {i j : Nat} (hi : i ≤ m) (hj : j ≤ m) : ∃ k, k ≤ m ∧ lcgI m i k = j := by
  obtain ⟨x, hx, rfl⟩ := F.all i hi
  obtain ⟨y, hy, rfl⟩ := F.all j hj
  by_cases c : x ≤ y
  · exact ⟨y - x, by omega, by rw [lcgN_add, Nat.add_sub_cancel' c]⟩
  · refine ⟨m + 1 + y - x, by omega, ?_⟩
    rw [lcgN_add, show x + (m + 1 + y - x) = m + 1 + y by omega, lcg_per F]
theorem run_to (h : Int) {j : Nat} (hj : j ≤ m) : ∃ n, n ≤ m + 12 ∧ runI m (SetTable.bits h) n = j := by
  obtain ⟨k, hk, e⟩ := lcg_to F (runI_le m (SetTable.bits h) 12) hj
  exact ⟨12 + k, by omega, (runI_tail (bits_lt h) k).trans e⟩
theorem way_to (h : Int) {j : Nat} (hj : j ≤ m) : ∃ k, k < 10 * SetTable.turns m ∧ way m h k = j := by
  obtain ⟨n, hn, e⟩ := run_to F h hj
  obtain ⟨k, hk, e2⟩ := run_nth m (SetTable.bits h) n
  refine ⟨k, by unfold SetTable.turns; omega, ?_⟩
  show (nth m _ k).j = j
  rw [e2]; exact e
end
theorem way_in (m : Nat) (h : Int) (k : Nat) : way m h k ≤ m := by
  have hi : SetTable.bits h % (m + 1) ≤ m := Nat.le_of_lt_succ (Nat.mod_lt _ (Nat.succ_pos _))
  have r := runEnd_bd hi
  have := nth_in (m := m) k (runAt m (SetTable.bits h % (m + 1)) (SetTable.bits h)) (by
    show SetTable.bits h % (m + 1) + (SetTable.runEnd m (SetTable.bits h % (m + 1)) - SetTable.bits h % (m + 1)) ≤ m
    omega)
  show (nth m (runAt m (SetTable.bits h % (m + 1)) (SetTable.bits h)) k).j ≤ m
  omega
/-- a table in which every entry is found again -/
structure TabX (t : SetTable) (hs : List Int) : Prop where
  ris : Ris t.place.toList
  dm : t.dummies = #[]
  sz : t.place.size = hs.length
  full : Full t.mask
  bd : ∀ x ∈ t.place.toList, x ≤ t.mask
  reach : ∀ (i : Nat) (h : Int) (j : Nat), hs[i]? = some h → t.place.toList[i]? = some j → ∃ k, way t.mask h k = j ∧ ∀ c, c < k → way t.mask h c ∈ t.place.toList
section
variable {t : SetTable} {hs : List Int} (T : TabX t hs)
include T
theorem TabX.len : t.place.toList.length = hs.length := by rw [Array.length_toList, T.sz]
theorem TabX.first (few : hs.length ≤ t.mask) (h : Int) : ∃ N, N < 10 * SetTable.turns t.mask ∧ way t.mask h N ∉ t.place.toList ∧ ∀ k, k < N → way t.mask h k ∈ t.place.toList := by
  obtain ⟨j, j1, j2⟩ := st_missing t.place.toList (t.mask + 1) (by have := T.len; omega)
  obtain ⟨k, k1, rfl⟩ := way_to T.full h (Nat.le_of_lt_succ j1)
  obtain ⟨N, n1, n2, n3⟩ := st_least (p := fun k => way t.mask h k ∉ t.place.toList) k j2
  exact ⟨N, by omega, n2, fun c hc => Classical.byContradiction fun z => n3 c hc z⟩
theorem TabX.before {h : Int} {N i j : Nat} (free : way t.mask h N ∉ t.place.toList) (hi : hs[i]? = some h) (hj : t.place.toList[i]? = some j) : ∃ k, k < N ∧ way t.mask h k = j := by
  obtain ⟨k, e, b⟩ := T.reach i h j hi hj
  refine ⟨k, Nat.lt_of_not_le fun c => ?_, e⟩
  rcases Nat.lt_or_eq_of_le c with c | rfl
  · exact free (b N c)
  · exact free (e ▸ List.mem_of_getElem? hj)
theorem TabX.put {h : Int} {N : Nat} (free : way t.mask h N ∉ t.place.toList) (busy : ∀ k, k < N → way t.mask h k ∈ t.place.toList) :
    (t.put (way t.mask h N)).2 = SetTable.below t.place (way t.mask h N) ∧ TabX (t.put (way t.mask h N)).1 (hs.take (SetTable.below t.place (way t.mask h N)) ++ h :: hs.drop (SetTable.below t.place (way t.mask h N))) ∧ (t.put (way t.mask h N)).1.mask = t.mask ∧ (t.put (way t.mask h N)).1.led = t.led ∧ (t.put (way t.mask h N)).1.fill = hs.length + 1 := by
  have jm := way_in t.mask h N
  generalize ej : way t.mask h N = j at free jm
  obtain ⟨c1, _, _⟩ := below_cut T.ris j
  have lp : SetTable.below t.place j ≤ t.place.toList.length := by rw [Array.length_toList]; exact c1
  have lh : SetTable.below t.place j ≤ hs.length := by rw [← T.len]; exact lp
  have off : t.place[SetTable.below t.place j]? ≠ some j := fun e => free (List.mem_of_getElem? (by rw [Array.getElem?_toList]; exact e))
  have pl := put_place t j
  have sz : (t.put j).1.place.size = hs.length + 1 := by rw [← Array.length_toList, pl, len_ins _ lp, T.len]
  have up : ∀ {x : Nat}, x ∈ t.place.toList → x ∈ (t.put j).1.place.toList := fun hx => by rw [pl]; exact mem_ins.2 (.inr hx)
  refine ⟨rfl, ⟨ris_insert T.ris off, put_dm T.dm j, by rw [len_ins _ lh]; exact sz, T.full, fun x hx => ?_, fun i g c h1 h2 => ?_⟩, rfl, rfl, ?_⟩
  · rw [pl] at hx
    exact (mem_ins.1 hx).elim (fun e => e ▸ jm) (T.bd x)
  · rw [tins_get hs lh] at h1
    rw [pl, tins_get _ lp] at h2
    suffices z : ∃ k, way t.mask g k = c ∧ ∀ q, q < k → way t.mask g q ∈ t.place.toList from let ⟨k, e, b⟩ := z; ⟨k, e, fun q hq => up (b q hq)⟩
    rcases Nat.lt_trichotomy i (SetTable.below t.place j) with z | z | z
    · rw [if_pos z] at h1 h2
      exact T.reach i g c h1 h2
    · rw [if_neg (by omega), if_pos z] at h1 h2
      cases h1; cases h2
      exact ⟨N, ej, busy⟩
    · rw [if_neg (by omega), if_neg (by omega)] at h1 h2
      exact T.reach (i - 1) g c h1 h2
  · show (t.put j).1.place.size + (t.put j).1.dummies.size = _
    rw [sz, put_dm T.dm j]; rfl
end
section
variable {m : Nat} (F : Full m)
include F
theorem free_at (owner : Array (Option Nat)) (h : Int) {j : Nat} (hj : j ≤ m) (hf : oAt owner j = none) :
    ∃ N, SetTable.layClean.free m owner (SetTable.turns m) (SetTable.bits h % (m + 1)) (SetTable.bits h) = some (way m h N) ∧ oAt owner (way m h N) = none ∧ ∀ k, k < N → oAt owner (way m h k) ≠ none := by
  obtain ⟨n, hn, e⟩ := run_to F h hj
  have at_ : way m h (off m (SetTable.bits h % (m + 1)) (SetTable.bits h) n) = j := by
    show (nth m (runAt m _ _) (off m _ _ n)).j = j
    rw [nth_off, itL_run]; exact e
  obtain ⟨N, n1, n2, n3⟩ := st_least (p := fun k => oAt owner (way m h k) = none) _ (show oAt owner (way m h (off m (SetTable.bits h % (m + 1)) (SetTable.bits h) n)) = none by rw [at_]; exact hf)
  refine ⟨N, free_spec m owner (SetTable.turns m) n _ _ N (by unfold SetTable.turns; omega) n1 (fun k hk => ?_) (Option.isNone_iff_eq_none.mpr n2), n2, n3⟩
  exact Bool.eq_false_iff.mpr fun z => n3 k hk (Option.isNone_iff_eq_none.mp z)
theorem own_more {done : List Int} {owner : Array (Option Nat)} (W : L2.Own m done owner) (few : done.length ≤ m) (h : Int) :
    ∃ j, SetTable.layClean.free m owner (SetTable.turns m) (SetTable.bits h % (m + 1)) (SetTable.bits h) = some j ∧ L2.Own m (done ++ [h]) (owner.setIfInBounds j (some done.length)) := by
  obtain ⟨ps, pl, pin⟩ := W.ps
  obtain ⟨j0, l0, n0⟩ := st_missing ps (m + 1) (by omega)
  have z0 : oAt owner j0 = none := Classical.byContradiction fun z => n0 (pin j0 (Nat.le_of_lt_succ l0) z)
  obtain ⟨N, e1, e2, e3⟩ := free_at F owner h (Nat.le_of_lt_succ l0) z0
  have wl := way_in m h N
  have ws : way m h N < owner.size := by rw [W.sz]; omega
  have me := oAt_set_self (some done.length) ws
  have old : ∀ {i : Nat}, i ≠ way m h N → oAt (owner.setIfInBounds (way m h N) (some done.length)) i = oAt owner i := fun hi => oAt_set_ne _ hi
  have keep : ∀ {i : Nat}, oAt owner i ≠ none → oAt (owner.setIfInBounds (way m h N) (some done.length)) i ≠ none := fun {i} hi => by
    rw [old fun e => hi (by rw [e]; exact e2)]; exact hi
  refine ⟨_, e1, by rw [Array.size_setIfInBounds]; exact W.sz, fun j k hj e => ?_, fun k hk => ?_, way m h N :: ps, by rw [List.length_cons, pl, List.length_append]; rfl, fun j hj e => ?_⟩
  · by_cases c : j = way m h N
    · subst c
      rw [me] at e
      cases e
      exact ⟨h, N, by simp, rfl, fun c hc => keep (e3 c hc)⟩
    · rw [old c] at e
      obtain ⟨g, k2, a1, a2, a3⟩ := W.at_ j k hj e
      exact ⟨g, k2, by rw [List.getElem?_append_left (List.getElem?_eq_some_iff.mp a1).1]; exact a1, a2, fun c hc => keep (a3 c hc)⟩
  · rw [List.length_append, List.length_singleton] at hk
    rcases Nat.lt_or_eq_of_le (Nat.le_of_lt_succ hk) with c | rfl
    · obtain ⟨j, j1, j2⟩ := W.all k c
      exact ⟨j, j1, by rw [old fun e => by rw [e, e2] at j2; cases j2]; exact j2⟩
    · exact ⟨_, wl, me⟩
  · by_cases c : j = way m h N
    · rw [c]; exact List.mem_cons_self
    · rw [old c] at e
      exact List.mem_cons_of_mem _ (pin j hj e)
theorem own_all : ∀ (rest done : List Int) (owner : Array (Option Nat)), L2.Own m done owner → done.length + rest.length ≤ m →
    ∃ o2, rest.foldl (stepF m) (some (owner, done.length)) = some (o2, (done ++ rest).length) ∧ L2.Own m (done ++ rest) o2
  | [], done, owner, W, _ => ⟨owner, by rw [List.append_nil]; rfl, by rw [List.append_nil]; exact W⟩
  | h :: rest, done, owner, W, le => by
    rw [List.length_cons] at le
    obtain ⟨j, e, W2⟩ := own_more F W (by omega) h
    obtain ⟨o2, f, W3⟩ := own_all rest (done ++ [h]) _ W2 (by rw [List.length_append, List.length_singleton]; omega)
    rw [List.append_assoc, List.length_append (as := done) (bs := [h])] at f
    rw [List.append_assoc] at W3
    exact ⟨o2, by rw [List.foldl_cons, stepF_some e]; exact f, W3⟩
theorem lay_clean {hs : Array Int} (few : hs.size ≤ m) : ∃ owner, SetTable.layClean m hs = some owner ∧ L2.Own m hs.toList owner := by
  obtain ⟨o2, f, W⟩ := own_all F hs.toList [] _ (L2.Own.init m) (by rw [Array.length_toList]; exact (Nat.zero_add _).symm ▸ few)
  refine ⟨o2, ?_, W⟩
  rw [layClean_eq, show hs.toList.foldl (stepF m) (some (Array.replicate (m + 1) none, 0)) = _ from f]
  rfl
theorem laid (t : SetTable) {hs : Array Int} {wanted : Nat} (hw : SetTable.sizeAbove wanted - 1 = m) (few : hs.size ≤ m) :
    ∃ t2 od, t.relaid hs wanted = some (t2, od) ∧ od.toList.Perm (List.range hs.size) ∧ TabX t2 (od.toList.map fun i => hs.getD i 0) ∧ t2.mask = m ∧ t2.led = t.led := by
  obtain ⟨owner, e, W⟩ := lay_clean F few
  have rr := ris_live (fun j => owner.getD j none) (List.range (m + 1)) (by unfold Ris; first | exact List.pairwise_lt_range | exact List.pairwise_lt_range _)
  have r1 : Ris ((liveOf m owner).map (·.1)) := rr.1
  have r2 : ∀ x ∈ (liveOf m owner).map (·.1), x ∈ List.range (m + 1) := rr.2
  have len : (liveOf m owner).length = hs.size := by
    obtain ⟨ps, p1, p2⟩ := W.ps
    have nd : ((liveOf m owner).map (·.1)).Nodup := r1.imp fun h => Nat.ne_of_lt h
    have le := nat_nodup_len ((liveOf m owner).map (·.1)) ps nd fun x hx => by
      obtain ⟨⟨y, k⟩, hq, rfl⟩ := List.mem_map.mp hx
      obtain ⟨b1, b2⟩ := (mem_live W.sz).1 hq
      exact p2 y b1 (by rw [b2]; exact fun z => nomatch z)
    have ge := nat_nodup_len (List.range hs.size) ((liveOf m owner).map (·.2)) List.nodup_range fun k hk => by
      obtain ⟨j, b1, b2⟩ := W.all k (List.mem_range.mp hk)
      exact List.mem_map.mpr ⟨(j, k), (mem_live W.sz).2 ⟨b1, b2⟩, rfl⟩
    rw [List.length_map, p1] at le
    rw [List.length_map, List.length_range] at ge
    have : hs.toList.length = hs.size := rfl
    omega
  refine ⟨tabOf t m owner, ((liveOf m owner).map (·.2)).toArray, by rw [relaid_eq, hw, e]; rfl, perm_range hs.size _ (by show ((liveOf m owner).map (·.2)).length = _; rw [List.length_map, len]) fun k hk => ?_, ⟨r1, rfl, ?_, F, fun x hx => Nat.le_of_lt_succ (List.mem_range.mp (r2 x hx)), fun i h j h1 h2 => ?_⟩, rfl, rfl⟩
  · obtain ⟨j, b1, b2⟩ := W.all k hk
    exact List.mem_map.mpr ⟨(j, k), (mem_live W.sz).2 ⟨b1, b2⟩, rfl⟩
  · show ((liveOf m owner).map (·.1)).toArray.size = (((liveOf m owner).map (·.2)).map fun i => hs.getD i 0).length
    simp only [List.size_toArray, List.length_map]
  · have h1 : (((liveOf m owner).map (·.2)).map fun i => hs.getD i 0)[i]? = some h := h1
    have h2 : ((liveOf m owner).map (·.1))[i]? = some j := h2
    rw [List.getElem?_map, List.getElem?_map] at h1
    rw [List.getElem?_map] at h2
    cases eq : (liveOf m owner)[i]? with
    | none => rw [eq] at h2; cases h2
    | some q =>
      obtain ⟨y, k⟩ := q
      rw [eq] at h1 h2
      cases h2
      have e1 : hs.getD k 0 = h := Option.some.inj h1
      obtain ⟨b1, b2⟩ := (mem_live W.sz).1 (List.mem_of_getElem? eq)
      obtain ⟨g, N, a1, a2, a3⟩ := W.at_ y k b1 b2
      have e2 : hs.getD k 0 = g := by rw [Array.getD_eq_getD_getElem?, ← Array.getElem?_toList, a1]; rfl
      obtain rfl : g = h := e2.symm.trans e1
      refine ⟨N, a2, fun c hc => ?_⟩
      show way m g c ∈ (liveOf m owner).map (·.1)
      obtain ⟨k2, z⟩ := Option.ne_none_iff_exists'.mp (a3 c hc)
      exact List.mem_map.mpr ⟨(_, k2), (mem_live W.sz).2 ⟨way_in m g c, z⟩, rfl⟩
end
theorem size_308 : SetTable.sizeAbove (SetTable.grown 77) = 512 := by decide +kernel
end Ts
end DI
end

section
set_option Elab.async false
set_option linter.all false
set_option maxRecDepth 100000
namespace DI
namespace Ts
open PySem L2 PySem.Spec PyProof.Rows
section
variable {P : Program} {w : World} {K : Type} [DecidableEq K] (knd : KeyKind P w K)
/-- what is asked of the items -/
structure Itm : Prop where
  cls : ∀ (k : K) (v : Value) (n : Nat), knd.is k v = true → ofAClassStatement n v = pure false
  hv : ∀ (k : K) (v : Value), knd.is k v = true → ∃ b, ∀ n, hashByValue n v = pure b
def hsh (k : List K) : Int := tupleKeyHash knd k
abbrev AtT (h : Heap) (k : List K) (b : Addr) : Prop := IsTupleKey knd h k b
def ent (L : List (Addr × List K)) : List (Int × Value) := L.map fun q => (hsh knd q.2, Value.ref q.1)
/-- the set at a, with a table whose every entry is found again -/
structure SetT (h : Heap) (a : Addr) (L : List (Addr × List K)) (es : Array (Int × Value)) (ep : Nat) (t : SetTable) : Prop where
  here : ∃ ob, h.get? a = some ob ∧ ob.ExactSet ∧ ob.data = .set es ep t
  ents : es.toList = ent knd L
  tab : TabX t (L.map fun q => hsh knd q.2)
  msk : MaskX t.mask
  dif : (L.map Prod.snd).Nodup
  each : ∀ q ∈ L, AtT knd h q.2 q.1
  led : w.params.followText "set-order" = true ∨ t.led = true
  fit : 5 * L.length < 3 * t.mask
variable {knd}
theorem items_in {k : List K} {vs : List Value} (h : PySem.ItemsAre knd k vs) : ∀ v ∈ vs, ∃ x, knd.is x v = true := by
  induction h with
  | nil => exact fun v hv => nomatch hv
  | cons h1 _ ih => exact fun v hv => (List.mem_cons.mp hv).elim (fun e => ⟨_, e ▸ h1⟩) (ih v)
section
variable {A : Around} {E : Value → Shared → Prop} {s : Shared} {k : List K} {b : Addr}
theorem cls_no (it : Itm knd) {Q : Bool → Shared → Prop} (tb : AtT knd s.heap k b) (q : Q false s) : wpAny (model P w) A (ofAClassStatement 8 (.ref b)) Q E s := by
  have ty := tb.typeIs
  obtain ⟨ob, its, c, g, _, dat, im⟩ := tb
  unfold ofAClassStatement
  refine wpAny_bind (wpAny_typeOf ty ?_)
  simp only [beq_self_eq_true, if_true, Bool.not_true, Bool.false_eq_true, if_false, pure_bind]
  refine wpAny_bind (wpAny_seqItems g dat ?_)
  dsimp only
  refine wpAny_bind ?_
  rw [← Array.forIn_toList]
  refine wpAny_forIn_list _ (fun r z u => z.1 = none ∧ u = s ∧ ∀ v ∈ r, ∃ x, knd.is x v = true) _ (fun v r z u hz => ?_) (fun z u hz => ?_) _ _ ⟨rfl, rfl, items_in im⟩
  · obtain ⟨z1, rfl, al⟩ := hz
    obtain ⟨x, hx⟩ := al v (List.mem_cons_self ..)
    rw [it.cls x v _ hx]
    simp only [pure_bind, Bool.false_eq_true, if_false]
    exact wpAny_pure ⟨rfl, rfl, fun y hy => al y (List.mem_cons_of_mem _ hy)⟩
  · obtain ⟨z1, rfl, _⟩ := hz
    obtain ⟨z0, z2⟩ := z
    obtain rfl : z0 = none := z1
    exact wpAny_pure q
theorem hash_by (it : Itm knd) {Q : Bool → Shared → Prop} (tb : AtT knd s.heap k b) (q : ∀ c, Q c s) : wpAny (model P w) A (hashByValue 8 (.ref b)) Q E s := by
  have ty := tb.typeIs
  obtain ⟨ob, its, c, g, _, dat, im⟩ := tb
  unfold hashByValue
  refine wpAny_bind (wpAny_specialOf ty F.slot_tuple_hash.lookup ?_)
  show wpAny _ _ (seqItems? (.ref b) >>= _) _ _ s
  refine wpAny_bind (wpAny_seqItems g dat ?_)
  refine wpAny_bind ?_
  show wpAny _ _ (forIn its _ _) _ _ s
  rw [← Array.forIn_toList]
  refine wpAny_forIn_list _ (fun r z u => z.1 = none ∧ u = s ∧ ∀ v ∈ r, ∃ x, knd.is x v = true) _ (fun v r z u hz => ?_) (fun z u hz => ?_) _ _ ⟨rfl, rfl, items_in im⟩
  · obtain ⟨z1, rfl, al⟩ := hz
    obtain ⟨x, hx⟩ := al v (List.mem_cons_self ..)
    obtain ⟨c, hc⟩ := it.hv x v hx
    rw [hc]
    simp only [pure_bind]
    cases c with
    | true =>
      simp only [Bool.not_true, Bool.false_eq_true, if_false]
      exact wpAny_pure ⟨rfl, rfl, fun y hy => al y (List.mem_cons_of_mem _ hy)⟩
    | false =>
      simp only [Bool.not_false, if_true]
      exact wpAny_pure (wpAny_pure (q false))
  · obtain ⟨z1, rfl, _⟩ := hz
    obtain ⟨z0, z2⟩ := z
    obtain rfl : z0 = none := z1
    exact wpAny_pure (q true)
/-- looking among tuples cannot be seen -/
theorem unseen (it : Itm knd) {Q : Bool → Shared → Prop} (tb : AtT knd s.heap k b) {ys : List Value} (hy : ∀ y ∈ ys, ∃ k2 c, y = Value.ref c ∧ AtT knd s.heap k2 c) (q : Q false s) : wpAny (model P w) A (searchCouldBeSeen (.ref b) ys) Q E s := by
  unfold searchCouldBeSeen
  refine wpAny_bind ?_
  refine wpAny_forIn_list _ (fun r z u => z.1 = none ∧ u = s ∧ ∀ y ∈ r, ∃ k2 c, y = Value.ref c ∧ AtT knd s.heap k2 c) _ (fun v r z u hz => ?_) (fun z u hz => ?_) _ _ ⟨rfl, rfl, hy⟩
  · obtain ⟨z1, rfl, al⟩ := hz
    obtain ⟨k2, c, rfl, tc⟩ := al v (List.mem_cons_self ..)
    have more := fun y (hy : y ∈ r) => al y (List.mem_cons_of_mem _ hy)
    dsimp only
    by_cases same : (b == c || (carriedByValue (.ref b) && carriedByValue (.ref c))) = true
    · exact wp_if_pos same (wpAny_pure ⟨rfl, rfl, more⟩)
    · refine wp_if_neg same (wpAny_bind (wpAny_eqIsQuiet_tuple tb ?_))
      simp only [Bool.not_true, Bool.false_eq_true, if_false]
      refine wpAny_bind (wpAny_eqIsQuiet_tuple tc ?_)
      simp only [Bool.not_true, Bool.false_eq_true, if_false]
      refine wpAny_bind (cls_no it tb ?_)
      simp only [Bool.false_eq_true, if_false]
      refine wpAny_bind (cls_no it tc ?_)
      simp only [Bool.false_eq_true, if_false]
      exact wpAny_pure ⟨rfl, rfl, more⟩
  · obtain ⟨z1, rfl, _⟩ := hz
    obtain ⟨z0, z2⟩ := z
    obtain rfl : z0 = none := z1
    exact wpAny_pure q
end
section
variable {A : Around} {E : Value → Shared → Prop} {s : Shared} {a : Addr} {L : List (Addr × List K)} {es : Array (Int × Value)} {ep : Nat} {t : SetTable} {h : Heap}
theorem SetT.many (R : SetT knd h a L es ep t) : es.size = L.length := by
  rw [← Array.length_toList, R.ents, ent, List.length_map]
theorem SetT.ok (R : SetT knd h a L es ep t) : t.fits es.size = true := by
  have e1 := R.tab.sz
  have e2 := R.many
  have e3 := R.fit
  rw [List.length_map] at e1
  unfold SetTable.fits SetTable.fill
  rw [R.tab.dm, Bool.and_eq_true, beq_iff_eq, decide_eq_true_eq]
  refine ⟨by omega, ?_⟩
  show t.place.size + 0 ≤ t.mask
  omega
theorem SetT.nth (R : SetT knd h a L es ep t) {i : Nat} {q : Addr × List K} (e : L[i]? = some q) : es[i]? = some (hsh knd q.2, Value.ref q.1) := by
  rw [← Array.getElem?_toList, R.ents, ent, List.getElem?_map, e]
  rfl
theorem SetT.stays (R : SetT knd h a L es ep t) : ¬ t.gaveWay = true := by
  unfold SetTable.gaveWay
  rw [R.tab.full.odd]
  decide
/-- the n-th step of a key's way -/
abbrev stp (t : SetTable) (v : Int) (n : Nat) : SetTable.Probe := L2.nth t.mask (runAt t.mask (SetTable.bits v % (t.mask + 1)) (SetTable.bits v)) n
theorem stp_more (t : SetTable) (v : Int) (c n : Nat) : L2.nth t.mask (stp t v c) n = stp t v (c + n) := (nth_add t.mask c _ n).symm
theorem stp_clean (t : SetTable) (v : Int) (n : Nat) : (stp t v n).dummy = none := by
  have go : ∀ (n : Nat) (p : SetTable.Probe), p.dummy = none → (L2.nth t.mask p n).dummy = none := by
    intro n
    induction n with
    | zero => exact fun p hp => hp
    | succ n ih => exact fun p hp => ih _ (by unfold adv; split <;> exact hp)
  exact go n _ rfl
/-- THE LOOK: from the m0-th step of the way on -/
theorem look_from (it : Itm knd) (R : SetT knd s.heap a L es ep t) {x : Addr} {k : List K} (tx : AtT knd s.heap k x) (hu : A.units < cLine) {N : Nat} (lt : N < 10 * SetTable.turns t.mask)
    (free : way t.mask (hsh knd k) N ∉ t.place.toList) (busy : ∀ m0, m0 < N → way t.mask (hsh knd k) m0 ∈ t.place.toList) {Q : SetFound → Shared → Prop} (yes : k ∈ L.map Prod.snd → Q (.there none) s) (no : k ∉ L.map Prod.snd → Q (.free (way t.mask (hsh knd k) N) false) s) :
    ∀ (f m0 : Nat) (st : Option SetTable.Probe), st.getD (t.probeStart (hsh knd k)) = stp t (hsh knd k) m0 → m0 ≤ N → N - m0 < f → (∀ (i : Nat) q, L[i]? = some q → q.2 = k → ∃ c2, m0 ≤ c2 ∧ c2 < N ∧ t.place.toList[i]? = some (way t.mask (hsh knd k) c2)) →
      wpAny (model P w) A (setSearchFrom a (.ref x) (hsh knd k) true f st) Q E s
  | 0, _, _, _, _, z, _ => absurd z (Nat.not_lt_zero _)
  | f + 1, m0, st, est, le, z, again => by
    obtain ⟨ob, g, ex, dat⟩ := R.here
    rw [setSearchFrom_succ]
    refine wpAny_bind (wpAny_setState_of g dat R.ok (wp_if_neg R.stays ?_))
    try refine wpAny_bind (wpAny_pure ?_)
    have at_ : ∀ n, (L2.nth t.mask (stp t (hsh knd k) m0) n).j = way t.mask (hsh knd k) (m0 + n) := fun n => by rw [stp_more]
    have told : ∀ (i : Nat) q, L[i]? = some q → (fun i => (es[i]?.map (·.1)).getD 0) i = hsh knd q.2 := fun i q e => by
      show (es[i]?.map (·.1)).getD 0 = _
      rw [R.nth e]
      rfl
    have sum : m0 + (N - m0) = N := by omega
    rcases go_spec t R.tab.ris R.tab.dm (fun i => (es[i]?.map (·.1)).getD 0) (hsh knd k) (10 * SetTable.turns t.mask) (N - m0) (stp t (hsh knd k) m0) (stp_clean t _ m0) (by omega) (fun n hn => by rw [at_]; exact busy _ (by omega)) (by rw [at_, sum]; exact free) with ⟨n, i, hn, hi, _, first, pr⟩ | ⟨none_, pr⟩
    · rw [est, show t.probe (fun i => (es[i]?.map (·.1)).getD 0) (hsh knd k) (stp t (hsh knd k) m0) = _ from pr]
      dsimp only
      rw [at_] at hi
      have il : i < L.length := by
        have e1 := (List.getElem?_eq_some_iff.mp hi).1
        have e2 := R.tab.sz
        rw [List.length_map] at e2
        rw [Array.length_toList] at e1
        omega
      obtain ⟨q, eq⟩ : ∃ q, L[i]? = some q := ⟨_, List.getElem?_eq_getElem il⟩
      have qm := List.mem_of_getElem? eq
      have tq := R.each q qm
      have slot : t.slot (way t.mask (hsh knd k) (m0 + n)) = .live i := slot_live R.tab.ris hi
      have after : wpAny (model P w) A (searchRest a (.ref x) (hsh knd k) true f es t (way t.mask (hsh knd k) (m0 + n)) i (stp t (hsh knd k) (m0 + (n + 1)))) Q E s := by
        unfold searchRest
        rw [R.nth eq]
        dsimp only
        refine wpAny_bind (wpAny_holding (wpAny_eqBool_tuple hu tq tx (wpAny_bind (wpAny_setState_of g dat R.ok ?_))))
        dsimp only
        by_cases same : q.2 = k
        · exact wp_if_pos (by simp [same]) (wpAny_pure (yes (List.mem_map.mpr ⟨q, qm, same⟩)))
        · refine wp_if_neg (by simp [same]) ?_
          try refine wpAny_bind (wpAny_pure ?_)
          rw [L2.sameMem]
          dsimp only
          simp only [if_true, slot, R.nth eq]
          refine wpAny_bind (wpAny_isSame_ref_self (wpAny_bind (wpAny_pure ?_)))
          simp only [if_true]
          refine wp_if_neg (by simp [same]) (look_from it R tx hu lt free busy yes no f (m0 + (n + 1)) _ rfl (by omega) (by omega) fun i2 q2 e2 k2 => ?_)
          obtain ⟨c2, h1, h2, h3⟩ := again i2 q2 e2 k2
          suffices far : ¬ c2 ≤ m0 + n from ⟨c2, by omega, h2, h3⟩
          intro le2
          rcases Nat.lt_or_eq_of_le le2 with lt2 | e3
          · exact first (c2 - m0) i2 (by omega) (by rw [at_, show m0 + (c2 - m0) = c2 by omega]; exact h3) ((told i2 q2 e2).trans (by rw [k2]))
          · rw [e3] at h3
            have s2 := slot_live R.tab.ris h3
            rw [slot] at s2
            injection s2 with s2
            rw [← s2, eq] at e2
            exact same ((congrArg Prod.snd (Option.some.inj e2)).trans k2)
      rw [at_, stp_more t (hsh knd k) m0 (n + 1)]
      by_cases led : t.led = true
      · refine wp_if_neg (by simp [led]) ?_
        try refine wpAny_bind (wpAny_pure ?_)
        exact after
      · refine wp_if_pos (by simp [led]) (wpAny_bind (unseen it tx (fun y hy => ?_) ?_))
        · obtain ⟨e, he, rfl⟩ := List.mem_map.mp hy
          have he2 : e ∈ es.toList := by
            have := (show e ∈ es ∧ e.1 = hsh knd k by simpa using he).1
            simpa using this
          rw [R.ents] at he2
          obtain ⟨q2, m2, rfl⟩ := List.mem_map.mp he2
          exact ⟨q2.2, q2.1, rfl, R.each q2 m2⟩
        · refine wp_if_neg (by decide) ?_
          try refine wpAny_bind (wpAny_pure ?_)
          exact after
    · rw [est, show t.probe (fun i => (es[i]?.map (·.1)).getD 0) (hsh knd k) (stp t (hsh knd k) m0) = _ from pr, at_, sum]
      dsimp only
      refine wpAny_pure (no fun mem => ?_)
      obtain ⟨q, qm, qk⟩ := List.mem_map.mp mem
      obtain ⟨i, il, ei⟩ := List.getElem_of_mem qm
      have eq : L[i]? = some q := by rw [List.getElem?_eq_getElem il, ei]
      obtain ⟨c2, h1, h2, h3⟩ := again i q eq qk
      exact none_ (c2 - m0) i (by omega) (by rw [at_, show m0 + (c2 - m0) = c2 by omega]; exact h3) ((told i q eq).trans (by rw [qk]))
theorem look (it : Itm knd) (R : SetT knd s.heap a L es ep t) {x : Addr} {k : List K} (tx : AtT knd s.heap k x) (hu : A.units < cLine) {Q : SetFound → Shared → Prop} (yes : k ∈ L.map Prod.snd → Q (.there none) s)
    (no : ∀ N, k ∉ L.map Prod.snd → way t.mask (hsh knd k) N ∉ t.place.toList → (∀ c, c < N → way t.mask (hsh knd k) c ∈ t.place.toList) → Q (.free (way t.mask (hsh knd k) N) false) s) : wpAny (model P w) A (setSearch a (.ref x) (hsh knd k) true) Q E s := by
  have room := R.fit
  obtain ⟨N, lt, free, busy⟩ := R.tab.first (by rw [List.length_map]; omega) (hsh knd k)
  have small : N < 100000 := by
    refine Nat.lt_of_lt_of_le lt ?_
    unfold SetTable.turns
    rcases R.msk with e | e | e | e <;> rw [e] <;> decide
  unfold setSearch
  refine look_from it R tx hu lt free busy yes (fun n => no N n free busy) 100000 0 none rfl (Nat.zero_le _) (by omega) fun i q eq qk => ?_
  have il := (List.getElem?_eq_some_iff.mp eq).1
  have e2 := R.tab.sz
  rw [List.length_map] at e2
  have pj := List.getElem?_eq_getElem (show i < t.place.toList.length by rw [Array.length_toList]; omega)
  obtain ⟨c, lt2, e⟩ := R.tab.before free (i := i) (h := hsh knd k) (by rw [List.getElem?_map, eq, ← qk]; rfl) pj
  exact ⟨c, Nat.zero_le _, lt2, by rw [pj, e]⟩
/-- a tuple is not the set -/
theorem apart {h h2 : Heap} {k : List K} {a b : Addr} {ob : Obj} (tb : AtT knd h k b) (g : h.get? a = some ob) (dat : ob.data = .set es ep t) (but : Heap.SameBut a h h2) : AtT knd h2 k b := by
  obtain ⟨o2, its, c, g2, cl, dat2, im⟩ := tb
  refine ⟨o2, its, c, (but.2 b fun e => ?_).trans g2, cl, dat2, im⟩
  subst e
  rw [g] at g2
  obtain rfl := Option.some.inj g2
  rw [dat] at dat2
  cases dat2
theorem ent_put (L : List (Addr × List K)) (p : Nat) (x : Addr) (k : List K) : ent knd (L.take p ++ (x, k) :: L.drop p) = (ent knd L).take p ++ (hsh knd k, Value.ref x) :: (ent knd L).drop p := by
  simp only [ent, List.map_append, List.map_cons, List.map_take, List.map_drop]
theorem put_pm {α : Type} (L : List α) (p : Nat) (x : α) : (L.take p ++ x :: L.drop p).Perm (x :: L) := by
  refine List.perm_middle.trans ?_
  rw [List.take_append_drop]
theorem all_at {α : Type} : ∀ L : List α, (List.range L.length).filterMap (fun i => L[i]?) = L
  | [] => rfl
  | x :: L => by
    rw [List.length_cons, List.range_succ_eq_map, List.filterMap_cons]
    simp [List.filterMap_map, Function.comp_def, all_at L]
theorem fm_congr {α β : Type} {f g : α → Option β} : ∀ {l : List α}, (∀ x ∈ l, f x = g x) → l.filterMap f = l.filterMap g
  | [], _ => rfl
  | x :: l, e => by rw [List.filterMap_cons, List.filterMap_cons, e x (List.mem_cons_self ..), fm_congr fun y hy => e y (List.mem_cons_of_mem _ hy)]
/-- the entries in another order -/
theorem in_order (L : List (Addr × List K)) (es : Array (Int × Value)) (od : Array Nat) (er : es.toList = ent knd L) (pm : od.toList.Perm (List.range L.length)) :
    ∃ M, (od.filterMap (es[·]?)).toList = ent knd M ∧ M.Perm L ∧ (M.map fun q => hsh knd q.2) = od.toList.map fun i => (es.map (·.1)).getD i 0 := by
  have at_ : ∀ i, es[i]? = (L[i]?).map fun q : Addr × List K => (hsh knd q.2, Value.ref q.1) := fun i => by
    rw [← Array.getElem?_toList, er, ent, List.getElem?_map]
  refine ⟨od.toList.filterMap fun i => L[i]?, ?_, ?_, ?_⟩
  · rw [Array.toList_filterMap, ent, List.map_filterMap]
    exact fm_congr fun i _ => at_ i
  · have := pm.filterMap fun i => L[i]?
    rwa [all_at] at this
  · rw [List.map_filterMap, ← List.filterMap_eq_map]
    refine fm_congr fun i hi => ?_
    have il := List.mem_range.mp (pm.mem_iff.mp hi)
    have e1 : (es.map (·.1))[i]? = some (hsh knd (L[i]).2) := by
      rw [Array.getElem?_map, at_, List.getElem?_eq_getElem il]
      rfl
    rw [List.getElem?_eq_getElem il]
    show some (hsh knd (L[i]).2) = some ((es.map (·.1)).getD i 0)
    rw [Array.getD_eq_getD_getElem?, e1]
    rfl
/-- the table laid anew -/
theorem relay {ob : Obj} (g : s.heap.get? a = some ob) (ex : ob.ExactSet) (dat : ob.data = .set es ep t) (er : es.toList = ent knd L) (sz : t.place.size = es.size) (dm : t.dummies = #[]) (le : es.size ≤ t.mask) (dif : (L.map Prod.snd).Nodup) (each : ∀ q ∈ L, AtT knd s.heap q.2 q.1)
    (led : w.params.followText "set-order" = true ∨ t.led = true) {wanted M : Nat} (ew : SetTable.sizeAbove wanted - 1 = M) (mk : MaskX M) (w128 : SetTable.sizeAbove wanted ≤ 512) (room : 5 * L.length < 3 * M) {Q : Unit → Shared → Prop}
    (done : ∀ h2 L2 es2 ep2 t2, Heap.SameBut a s.heap h2 → SetT knd h2 a L2 es2 ep2 t2 → L2.Perm L → Q () { s with heap := h2 }) : wpAny (model P w) A (setRelay a wanted) Q E s := by
  have len : es.size = L.length := by rw [← Array.length_toList, er, ent, List.length_map]
  have fits : t.fits es.size = true := by
    unfold SetTable.fits SetTable.fill
    rw [dm, Bool.and_eq_true, beq_iff_eq, decide_eq_true_eq]
    exact ⟨sz, by show t.place.size + 0 ≤ t.mask; omega⟩
  obtain ⟨t2, od, e, pm, tab, em, el⟩ := laid mk.full t (hs := es.map (·.1)) (wanted := wanted) ew (by rw [Array.size_map, len]; omega)
  rw [Array.size_map, len] at pm
  obtain ⟨L2, r1, r2, r3⟩ := in_order L es od er pm
  rw [← r3] at tab
  have len2 : (od.filterMap (es[·]?)).size = es.size := by rw [← Array.length_toList, r1, ent, List.length_map, r2.length_eq, len]
  rw [setRelay_eq]
  refine wpAny_bind (wpAny_setState_of g dat fits (wp_if_neg (by rw [sizeLine_eq]; omega) ?_))
  try refine wpAny_bind (wpAny_pure ?_)
  rw [e]
  dsimp only
  refine wpAny_bind (wp_if_neg (by rw [len2]; simp) ?_)
  try refine wpAny_bind (wpAny_pure ?_)
  refine wpAny_pure (wpAny_storeSet_of g dat ?_ (by rw [len2, len, sizeLine_eq]; omega))
  have but : Heap.SameBut a s.heap (s.heap.update a (Obj.putSet (od.filterMap (es[·]?)) t2)) := Heap.SameBut.update ..
  refine done _ L2 _ (ep + 1) t2 but ⟨⟨_, store_at g dat, ⟨ex.1, ex.2.1, ex.2.2⟩, rfl⟩, r1, tab, by rw [em]; exact mk, (r2.map Prod.snd).nodup_iff.mpr dif, fun q hq => apart (each q (r2.mem_iff.mp hq)) g dat but, by rw [el]; exact led, by rw [r2.length_eq, em]; exact room⟩ r2
/-- ONE MORE -/
theorem add (it : Itm knd) (R : SetT knd s.heap a L es ep t) {x : Addr} {k : List K} (tx : AtT knd s.heap k x) (hu : A.units < cLine) (few : L.length < 306) {Q : Bool → Shared → Prop}
    (done : ∀ b h2 L2 es2 ep2 t2, Heap.SameBut a s.heap h2 → SetT knd h2 a L2 es2 ep2 t2 → (k ∈ L.map Prod.snd → L2 = L) → (k ∉ L.map Prod.snd → L2.Perm ((x, k) :: L)) → Q b { s with heap := h2 }) : wpAny (model P w) A (setAddHashed a (.ref x) (hsh knd k)) Q E s := by
  obtain ⟨ob, g, ex, dat⟩ := R.here
  have many := R.many
  have fit := R.fit
  unfold setAddHashed
  refine wpAny_holding ?_
  rw [show (100000 : Nat) = 99999 + 1 from rfl, setAddHashedIn_succ]
  refine wpAny_bind (wpAny_setState_of g dat R.ok (wp_if_neg (by simp [byScan, Value.scannable]) ?_))
  try refine wpAny_bind (wpAny_pure ?_)
  refine wpAny_bind (look it R tx hu (fun mem => ?_) fun N nm free busy => ?_)
  · exact wpAny_pure (done false s.heap L es ep t (Heap.SameBut.refl a s.heap) R (fun _ => rfl) fun z => absurd mem z)
  · dsimp only
    refine wpAny_bind (wpAny_setState_of g dat R.ok ?_)
    dsimp only
    obtain ⟨p1, p3, p4, p5, p9⟩ := R.tab.put free busy
    generalize ept : t.put (way t.mask (hsh knd k) N) = pt at p1 p3 p4 p5 p9 ⊢
    obtain ⟨t1, p⟩ := pt
    dsimp only at p1 p3 p4 p5 p9 ⊢
    subst p1
    have e1 : (SetTable.insertAt es (SetTable.below t.place (way t.mask (hsh knd k) N)) (hsh knd k, Value.ref x)).toList = ent knd (L.take (SetTable.below t.place (way t.mask (hsh knd k) N)) ++ (x, k) :: L.drop (SetTable.below t.place (way t.mask (hsh knd k) N))) := by
      rw [SetTable.toList_insertAt, ent_put, R.ents]
    generalize SetTable.below t.place (way t.mask (hsh knd k) N) = p at p3 e1 ⊢
    have pm := put_pm L p (x, k)
    have len : (L.take p ++ (x, k) :: L.drop p).length = L.length + 1 := pm.length_eq
    have eh : (L.take p ++ (x, k) :: L.drop p).map (fun q => hsh knd q.2) = (L.map fun q => hsh knd q.2).take p ++ hsh knd k :: (L.map fun q => hsh knd q.2).drop p := by
      simp only [List.map_append, List.map_cons, List.map_take, List.map_drop]
    rw [← eh] at p3
    have dif : ((L.take p ++ (x, k) :: L.drop p).map Prod.snd).Nodup := (pm.map Prod.snd).nodup_iff.mpr (List.nodup_cons.mpr ⟨nm, R.dif⟩)
    have es1 : (SetTable.insertAt es p (hsh knd k, Value.ref x)).size = L.length + 1 := by rw [← Array.length_toList, e1, ent, List.length_map, len]
    generalize SetTable.insertAt es p (hsh knd k, Value.ref x) = es2 at e1 es1 ⊢
    generalize L.take p ++ (x, k) :: L.drop p = L1 at pm len p3 dif e1
    rw [List.length_map] at p9
    have go : ∀ t3 : SetTable, TabX t3 (L1.map fun q => hsh knd q.2) → t3.mask = t.mask → t3.led = t.led → t3.fill = L.length + 1 →
        wpAny (model P w) A (storeSet a es2 t3 >>= fun _ => if (!false && t3.tooFull) = true then (do setRelay a (SetTable.grown (es.size + 1)); pure true) else pure true) Q E s := fun t3 T3 m3 l3 f3 => by
      refine wpAny_bind (wpAny_storeSet_of g dat ?_ (by rw [es1, sizeLine_eq]; omega))
      have but : Heap.SameBut a s.heap (s.heap.update a (Obj.putSet es2 t3)) := Heap.SameBut.update ..
      have g1 := store_at (es' := es2) (t' := t3) g dat
      generalize s.heap.update a (Obj.putSet es2 t3) = h1 at but g1 ⊢
      have each : ∀ q ∈ L1, AtT knd h1 q.2 q.1 := fun q hq => by
        rcases List.mem_cons.mp (pm.mem_iff.mp hq) with e | hq
        · rw [e]; exact apart tx g dat but
        · exact apart (R.each q hq) g dat but
      have led3 : w.params.followText "set-order" = true ∨ t3.led = true := by rw [l3]; exact R.led
      by_cases full : t3.tooFull = true
      · refine wp_if_pos (by simp [full]) (wpAny_bind ?_)
        have over : (L.length + 1) * 5 ≥ t3.mask * 3 := by
          have := full
          unfold SetTable.tooFull at this
          rw [decide_eq_true_eq, f3] at this
          exact this
        have sz3 : t3.place.size = es2.size := by
          have := T3.sz
          rw [List.length_map, len] at this
          rw [this, es1]
        rw [many]
        have two : (t.mask = 7 ∧ L.length = 4) ∨ (t.mask = 31 ∧ L.length = 18) ∨ (t.mask = 127 ∧ L.length = 76) := by
          rw [m3] at over
          rcases R.msk with e | e | e | e <;> rw [e] at over fit
          · exact .inl ⟨e, by omega⟩
          · exact .inr (.inl ⟨e, by omega⟩)
          · exact .inr (.inr ⟨e, by omega⟩)
          · omega
        have lay : ∀ M, SetTable.sizeAbove (SetTable.grown (L.length + 1)) - 1 = M → MaskX M → SetTable.sizeAbove (SetTable.grown (L.length + 1)) ≤ 512 → 5 * (L.length + 1) < 3 * M →
            wpAny (model P w) A (setRelay a (SetTable.grown (L.length + 1))) (fun _ u => wpAny (model P w) A (pure true) Q E u) E { s with heap := h1 } := fun M m1 m2 m4 m5 => by
          refine relay (s := { s with heap := h1 }) g1 ⟨ex.1, ex.2.1, ex.2.2⟩ rfl e1 sz3 T3.dm (by rw [es1, m3]; omega) dif each led3 m1 m2 m4 (by rw [len]; exact m5) fun h2 L2 es3 ep3 t4 but2 R2 pm2 => ?_
          exact wpAny_pure (done true h2 L2 es3 ep3 t4 (but.trans but2) R2 (fun z => absurd z nm) fun _ => pm2.trans pm)
        rcases two with ⟨_, e⟩ | ⟨_, e⟩ | ⟨_, e⟩
        · exact lay 31 (by rw [e, size_20]) (.inr (.inl rfl)) (by rw [e, size_20]; decide) (by omega)
        · exact lay 127 (by rw [e, size_76]) (.inr (.inr (.inl rfl))) (by rw [e, size_76]; decide) (by omega)
        · exact lay 511 (by rw [e, size_308]) (.inr (.inr (.inr rfl))) (by rw [e, size_308]; decide) (by omega)
      · refine wp_if_neg (by simp [full]) (wpAny_pure ?_)
        refine done true h1 L1 es2 (ep + 1) t3 but ⟨⟨_, g1, ⟨ex.1, ex.2.1, ex.2.2⟩, rfl⟩, e1, T3, by rw [m3]; exact R.msk, dif, each, led3, ?_⟩ (fun z => absurd z nm) fun _ => pm
        have := full
        unfold SetTable.tooFull at this
        rw [decide_eq_true_eq, f3] at this
        rw [len]
        omega
    have both : ∀ c : Bool, wpAny (model P w) A (storeSet a es2 (if c = true then t1 else { t1 with plain := false }) >>= fun _ => if (!false && (if c = true then t1 else { t1 with plain := false }).tooFull) = true then (do setRelay a (SetTable.grown (es.size + 1)); pure true) else pure true) Q E s := fun c => by
      cases c with
      | true => exact go t1 p3 p4 p5 p9
      | false => exact go { t1 with plain := false } ⟨p3.ris, p3.dm, p3.sz, p3.full, p3.bd, p3.reach⟩ p4 p5 p9
    by_cases pl : t1.plain = true
    · exact wp_if_pos pl (wpAny_bind (hash_by it tx both))
    · exact wp_if_neg pl (wpAny_bind (wpAny_pure (both true)))
end
/-- what the set has of the first i rows -/
def Part (knd : KeyKind P w K) (h : Heap) (a : Addr) (ks : List (Addr × List K)) (i : Nat) : Prop :=
  ∃ L es ep t, SetT knd h a L es ep t ∧ (∀ q ∈ L, q ∈ ks) ∧ (∀ x, x ∈ L.map Prod.snd ↔ x ∈ (ks.take i).map Prod.snd) ∧ L.length ≤ i
theorem SetT.up {h h2 : Heap} {a : Addr} {L : List (Addr × List K)} {es : Array (Int × Value)} {ep : Nat} {t : SetTable} (R : SetT knd h a L es ep t) (ha : ∀ o, h.get? a = some o → h2.get? a = some o) (hL : ∀ q ∈ L, AtT knd h2 q.2 q.1) : SetT knd h2 a L es ep t :=
  ⟨let ⟨ob, g, r⟩ := R.here; ⟨ob, ha ob g, r⟩, R.ents, R.tab, R.msk, R.dif, hL, R.led, R.fit⟩
theorem atT_up {h h2 : Heap} {k : List K} {b : Addr} (tb : AtT knd h k b) (up : ∀ p o, h.get? p = some o → h2.get? p = some o) : AtT knd h2 k b :=
  let ⟨o, its, n0, g, r⟩ := tb; ⟨o, its, n0, up _ _ g, r⟩
section
variable {A : Around} {E : Value → Shared → Prop} {s : Shared}
theorem turns (it : Itm knd) {R : Result → Shared → Prop} {J : Addr} {fp wr : List Addr} {G : Array GenState → Array GenState → Prop} {m : Nat} {Pv : Nat → Value → Prop} {St : Nat → Shared → Prop} (W : WalksS P w A.in1 J fp wr G m Pv St) {a : Addr} (ha : a ∉ fp) {ks : List (Addr × List K)} (hy : ks.length = m) (few : m ≤ 306)
    (hv : ∀ i u, Pv i u → ∃ q, ks[i]? = some q ∧ u = .ref q.1) {h0 : Heap} (hk : ∀ q ∈ ks, AtT knd h0 q.2 q.1) (a0 : h0.get? a = none) (w0 : ∀ b ∈ wr, h0.get? b = none) (hu : A.in1.units < cLine) :
    ∀ (k i : Nat) (s : Shared), m - i = k → i ≤ m → St i s → (∀ p o, h0.get? p = some o → s.heap.get? p = some o) → Part knd s.heap a ks i → (∀ z, Moved (a :: wr) G s z → Part knd z.heap a ks m → R (.ok (.ret .none)) z) → codeAny (model P w) A (.builtin "set.update.loop" ⟨[.ref a, .ref J], []⟩) R s := by
  have haw : a ∉ wr := fun h => ha (W.sub _ h)
  have up : ∀ b ∈ wr, b ∈ a :: wr := fun b hb => List.mem_cons_of_mem _ hb
  have old : ∀ {u z : Shared}, Moved wr G u z → (∀ p o, h0.get? p = some o → u.heap.get? p = some o) → ∀ p o, h0.get? p = some o → z.heap.get? p = some o := fun hm k0 p o e =>
    hm.heap p o (fun hb => by rw [w0 p hb] at e; cases e) (k0 p o e)
  have part : ∀ {u z : Shared} {i : Nat}, Moved wr G u z → (∀ p o, h0.get? p = some o → z.heap.get? p = some o) → Part knd u.heap a ks i → Part knd z.heap a ks i := fun hm k0 ⟨L, es, ep, t, S, p1, p2, p3⟩ =>
    ⟨L, es, ep, t, S.up (fun o e => hm.heap a _ haw e) fun q hq => atT_up (hk q (p1 q hq)) k0, p1, p2, p3⟩
  intro k
  induction k with
  | zero =>
    intro i s e1 e2 hst k0 hS hR
    have e3 : i = m := by omega
    subst e3
    refine codeAny_builtin PyProof.Rows.F.entry_set_update_loop ?_
    rw [Around.under_plainId PyProof.Rows.F.plain_set_update_loop _]
    show wpAny _ A.in1 (pyNext (.ref J) >>= _) _ _ s
    refine wpAny_bind (W.done s _ _ hst fun z hz => ?_)
    show wpAny _ A.in1 (ret Value.none) _ _ z
    exact wpAny_pure (hR z (hz.mono up) (part hz (old hz k0) hS))
  | succ k ih =>
    intro i s e1 e2 hst k0 hS hR
    have lt : i < m := by omega
    refine codeAny_builtin PyProof.Rows.F.entry_set_update_loop ?_
    rw [Around.under_plainId PyProof.Rows.F.plain_set_update_loop _]
    show wpAny _ A.in1 (pyNext (.ref J) >>= _) _ _ s
    refine wpAny_bind (W.item i s _ _ lt hst fun u z hP hz hm => ?_)
    obtain ⟨q, eq, rfl⟩ := hv i u hP
    have k1 := old hm k0
    obtain ⟨L, es, ep, t, S, p1, p2, p3⟩ := part hm k1 hS
    have tq : AtT knd z.heap q.2 q.1 := atT_up (hk q (List.mem_of_getElem? eq)) k1
    show wpAny _ A.in1 (holding [Value.ref q.1] (setAdd a (.ref q.1)) >>= _) _ _ z
    refine wpAny_bind (wpAny_holding ?_)
    unfold setAdd
    refine wpAny_holding (wpAny_bind (wpAny_pyHash_tuple hu tq ?_))
    refine add (s := { z with toks := z.toks + (q.2.length + 1) }) it S tq hu (by omega) fun b h2 L2 es2 ep2 t2 but S2 c1 c2 => ?_
    have et : ks.take (i + 1) = ks.take i ++ [q] := by rw [List.take_succ, eq]; rfl
    have hS3 : Part knd h2 a ks (i + 1) := by
      refine ⟨L2, es2, ep2, t2, S2, ?_⟩
      by_cases mem : q.2 ∈ L.map Prod.snd
      · rw [c1 mem]
        refine ⟨p1, fun x => ?_, by omega⟩
        rw [et, List.map_append, List.mem_append, ← p2]
        refine ⟨.inl, fun h => h.elim id fun h => ?_⟩
        rw [List.mem_singleton.mp (show x ∈ [q.2] from h)]; exact mem
      · have pm := c2 mem
        refine ⟨fun y hy => ?_, fun x => ?_, by rw [pm.length_eq, List.length_cons]; omega⟩
        · rcases List.mem_cons.mp (pm.mem_iff.mp hy) with e | hy
          · rw [e]; exact List.mem_of_getElem? eq
          · exact p1 y hy
        · rw [(pm.map Prod.snd).mem_iff, et, List.map_append, List.mem_append, List.map_cons, List.mem_cons, ← p2]
          exact ⟨fun h => h.elim (fun e => .inr (List.mem_singleton.mpr e)) .inl, fun h => h.elim .inr fun e => .inl (List.mem_singleton.mp e)⟩
    have k2 : ∀ p o, h0.get? p = some o → h2.get? p = some o := fun p o e => (but.2 p (fun z => by rw [z, a0] at e; cases e)).trans (k1 p o e)
    refine wpAny_pure ⟨plainId_quiet PyProof.Rows.F.plain_set_update_loop _, ih (i + 1) _ (by omega) lt (W.frame _ z _ _ hz (Nat.le_add_right _ _) fun b hb o e => ?_) k2 hS3 fun y hy2 hS4 => ?_⟩
    · rw [but.2 b (fun h : b = a => ha (by rw [← h]; exact hb))]; exact e
    · refine hR y (Moved.trans W.gtrans ((hm.mono up).then_heap (Nat.le_add_right _ _) fun b o hb e => ?_) hy2) hS4
      rw [but.2 b (fun h : b = a => hb (by rw [h]; exact List.mem_cons_self))]; exact e
theorem fresh {h : Heap} {a : Addr} (c : Bool) (hc : w.params.followText "set-order" = true ∨ c = true) (g : h.get? a = some (setNil c)) : SetT knd h a [] #[] 0 (.fresh 0 0 c) where
  here := ⟨_, g, ⟨rfl, rfl, rfl⟩, rfl⟩
  ents := rfl
  tab := ⟨List.Pairwise.nil, rfl, rfl, full7, fun x hx => (nomatch hx), fun i v j hi => by simp at hi⟩
  msk := .inl rfl
  dif := List.nodup_nil
  each := fun q hq => nomatch hq
  led := hc
  fit := by show 5 * 0 < 3 * 7; decide
set_option maxHeartbeats 3200000 in
/-- set(rows) -/
theorem call_rows (it : Itm knd) {l : Addr} {ty : String} {its : Array Value} {ks : List (Addr × List K)} {itO : Obj} {IsX : Bool → Nat → Heap → Prop} {Q : Value → Shared → Prop} (hA : A.handled = none) (hl : ∃ o, s.heap.get? l = some o ∧ o.cls = .type ty)
    (g8 : isSubtype (.type ty) (.type "set") = pure false) (g9 : isSubtype (.type ty) (.type "frozenset") = pure false) (ne : (Value.type ty == Value.type "dict") = false)
    (iter : ∀ (b : Bool) {B : Around} {Ei : Value → Shared → Prop} {Qi : Value → Shared → Prop}, Qi (.ref (s.heap.push (setNil b)).objs.size) { s with heap := (s.heap.push (setNil b)).push itO } → wpAny (model P w) B (pyIter (.ref l)) Qi Ei { s with heap := s.heap.push (setNil b) })
    (wk : ∀ (b : Bool) {B : Around}, B.handled = none → l ≠ (s.heap.push (setNil b)).objs.size → PySem.Walks P w B (s.heap.push (setNil b)).objs.size [(s.heap.push (setNil b)).objs.size, l] [(s.heap.push (setNil b)).objs.size] its.size (fun i v => its[i]? = some v) (IsX b)) (ini : ∀ b : Bool, IsX b 0 ((s.heap.push (setNil b)).push itO))
    (hi : its.toList = ks.map fun q => Value.ref q.1) (hk : ∀ q ∈ ks, AtT knd s.heap q.2 q.1) (few : ks.length ≤ 306) (hu : A.units + 3 < cLine)
    (fin : ∀ (h2 : Heap) (tk : Nat), Part knd h2 s.heap.objs.size ks ks.length → (∀ b o, b < s.heap.objs.size → s.heap.get? b = some o → h2.get? b = some o) → Q (.ref s.heap.objs.size) { s with heap := h2, toks := tk }) :
    wpAny (model P w) A (call (.type "set") [.ref l]) Q E s := by
  obtain ⟨k0, k1, hmro⟩ := PySem.F.called_set.mro
  have g1 := PySem.F.called_set.made; have g2 := PySem.F.called_set.sub
  refine wpAny_call (codeAny_of_tree ?_)
  show wpAny _ _ (callAny (.type "set") _) _ _ _
  refine wpAny_pure ⟨Code.quiet_builtin _ (by decide +kernel), codeAny_builtin PySem.F.entry_type_call ?_⟩
  rw [Around.under_plain (weight_type_call_type "set" [.ref l] []) rfl]
  have g3 := PySem.F.called_set.notType; have g4 := PySem.F.called_set.canCreate; have g5 := PySem.F.typeCall_set_1 (.ref l)
  repeat (any_goals (first | assumption | wp_step))
  refine codeAny_mono (code_set_led1 (.ref l) (E := E) (Q₁ := fun u z => ∃ b : Bool, (w.params.followText "set-order" = true ∨ b = true) ∧ u = .ref s.heap.objs.size ∧ z = { s with heap := s.heap.push (setNil b) }) ⟨_, (by cases w.params.followText "set-order" <;> simp), rfl, rfl⟩) fun r z hr => ?_
  rcases r with e | fl
  · exact hr
  cases fl with
  | ret u =>
    obtain ⟨b, hb, rfl, rfl⟩ := hr
    have at0 : (s.heap.push (setNil b)).get? s.heap.objs.size = some (setNil b) := Heap.get?_push_size _ rfl
    have ty0 : Shared.TypeIs { s with heap := s.heap.push (setNil b) } (.ref s.heap.objs.size) "set" := ⟨_, at0, rfl⟩
    have g6 := PySem.F.called_set.init.lookup; have g7 := PySem.F.called_set.init.bind (.ref s.heap.objs.size)
    repeat (any_goals (first | assumption | wp_step))
    refine codeAny_mono (codeAny_call_builtin (R := wants (fun r z => r = .none ∧ ∃ h2 tk, z = { s with heap := h2, toks := tk } ∧ Part knd h2 s.heap.objs.size ks ks.length ∧ (∀ b o, b < s.heap.objs.size → s.heap.get? b = some o → h2.get? b = some o)) E) PySem.F.called_set.init.plain PySem.F.entry_set_init (check_set_init_1 ty0 ?_)) fun r z hr => ?_
    · obtain ⟨⟨oc, od, da, os⟩, hol, hc⟩ := hl
      simp only at hc; subst hc
      have at1 : (s.heap.push (setNil b)).get? l = some { cls := .type ty, dict := od, data := da, slots := os } := Heap.get?_push_of_some _ hol
      unfold Builtin.«set.__init__» noKeywords Builtin.Frozenset.updateFrom
      generalize hPI : pyIter = PI
      wp_walk
      subst hPI
      refine iter b (wpAny_bind (wpAny_runValue ?_))
      have low : l < s.heap.objs.size := Heap.lt_size hol
      have hA3 : A.in1.in1.in1.handled = none := by simp [hA]
      have ne2 : l ≠ (s.heap.push (setNil b)).objs.size := by rw [Heap.size_push]; exact Nat.ne_of_lt (Nat.lt_succ_of_lt low)
      have out : s.heap.objs.size ∉ [(s.heap.push (setNil b)).objs.size, l] := by
        rw [Heap.size_push]; simp only [List.mem_cons, List.not_mem_nil, or_false, not_or]
        exact ⟨Nat.ne_of_lt (Nat.lt_succ_self _), Nat.ne_of_gt low⟩
      have hsz : ks.length = its.size := by rw [← Array.length_toList, hi, List.length_map]
      have hv : ∀ (i : Nat) (u : Value), its[i]? = some u → ∃ q, ks[i]? = some q ∧ u = .ref q.1 := fun i u hu => by
        have e : its.toList[i]? = some u := by rw [Array.getElem?_toList]; exact hu
        rw [hi, List.getElem?_map] at e
        obtain ⟨q, e1, e2⟩ := Option.map_eq_some_iff.mp e
        exact ⟨q, e1, e2.symm⟩
      have none_of : ∀ p, s.heap.objs.size ≤ p → s.heap.get? p = none := fun p hp => by
        cases e : s.heap.get? p with
        | none => rfl
        | some o => exact absurd (Heap.lt_size e) (Nat.not_lt.mpr hp)
      refine turns it (ks := ks) ((wk b hA3 ne2).toS) (a := s.heap.objs.size) out hsz (by rw [← hsz]; exact few) hv hk (none_of _ (Nat.le_refl _)) (fun p hp => none_of p (by rw [List.mem_singleton.mp hp, Heap.size_push]; exact Nat.le_succ _)) hu (its.size - 0) 0 _ (by omega) (Nat.zero_le _) (ini b) (fun p o e => Heap.get?_push_of_some _ (Heap.get?_push_of_some _ e)) ?_ ?_
      · have at2 : ((s.heap.push (setNil b)).push itO).get? s.heap.objs.size = some (setNil b) := Heap.get?_push_of_some _ at0
        exact ⟨[], _, _, _, fresh b hb at2, fun q hq => (nomatch hq), fun x => by simp, Nat.le_refl _⟩
      · intro z hm hS
        obtain ⟨hp, g, d, tk, os2⟩ := z
        obtain rfl : g = s.gens := hm.gens
        obtain rfl : d = s.drawn := hm.drawn
        obtain rfl : os2 = s.os := hm.os
        show wpAny _ _ _ _ _ _
        refine wpAny_pure ?_
        show wpAny _ _ (ret Value.none) _ _ _
        rw [← hsz] at hS
        refine wpAny_pure ⟨rfl, hp, tk, rfl, hS, fun p o hc e => ?_⟩
        refine hm.heap p o ?_ (Heap.get?_push_of_some _ (Heap.get?_push_of_some _ e))
        simp only [List.mem_cons, List.not_mem_nil, or_false, not_or]
        exact ⟨Nat.ne_of_lt hc, by rw [Heap.size_push]; exact Nat.ne_of_lt (Nat.lt_succ_of_lt hc)⟩
    · rcases r with e | f2
      · exact hr
      cases f2 with
      | ret u =>
        obtain ⟨rfl, h2, tk, rfl, hS, hk⟩ := hr
        repeat (any_goals (first | assumption | wp_step))
        exact fin _ _ hS hk
      | _ => exact hr.elim
  | _ => exact hr.elim
end
end
end Ts
end DI
end

section
set_option Elab.async false
set_option linter.all false
namespace DI
open PySem
end DI
end

section
set_option Elab.async false
set_option linter.all false
set_option maxRecDepth 100000
namespace DI
open PySem L2 PySem.Spec PyProof.Rows PpSet
section
variable {T : Tab} {K : PySem.W.Frag} {a : Abs} {P : Program} {w : World}
end
section
variable {T : Tab} {n : Nat} {X : Cx} {W : WX} {pos : Pos}
end
end DI
end

section
set_option Elab.async false
set_option linter.all false
set_option maxRecDepth 100000
namespace DI
open PySem PySem.Spec PyProof.Rows
section
variable {prog : Program} {w : World} {A : Around} {E : Value → Shared → Prop} {s : Shared}
end
end DI
namespace DI
open PySem L2 PySem.Spec PyProof.Rows
section
variable {T : Tab} {n : Nat} {X : Cx} {W : WX} {pos : Pos}
end
section
variable {L : LawT} {n : Nat} {X : Cx} {W : WX} {pos : Pos}
end
end DI
end

section
set_option Elab.async false
set_option linter.all false
set_option maxRecDepth 100000
namespace DI
open PySem L2 PySem.Spec PyProof.Rows
section
variable {T : Tab} {n : Nat} {X : Cx} {W : WX} {pos : Pos}
end
section
variable {L : LawT} {n : Nat} {X : Cx} {W : WX} {pos : Pos}
end
end DI
end

section
set_option Elab.async false
set_option linter.all false
set_option maxRecDepth 100000
namespace DI
namespace Z
open PySem PySem.Spec PyProof.Rows L2
end Z
open PySem L2 PySem.Spec PyProof.Rows
section
variable {T : Tab} {n : Nat} {X : Cx} {W : WX} {pos : Pos} {a : Abs}
end
section
variable {L : LawT} {n : Nat} {X : Cx} {W : WX} {pos : Pos}
end
end DI
end

section
set_option Elab.async false
set_option linter.all false
set_option maxRecDepth 100000
namespace DI
open PySem L2 PySem.Spec PyProof.Rows
section
variable {L : LawT} {n : Nat} {X : Cx} {W : WX} {pos : Pos}
end
end DI
end

section
set_option Elab.async false
set_option linter.all false
set_option maxRecDepth 100000
namespace DI
open PySem L2 PySem.Spec PyProof.Rows
theorem xo_ok {P : Program} {w : World} {H : Hp} {h : Heap} {a : Addr} {cls : Value} {dd : Option Addr} {oe : Obj} {vs : Array Value} (e : h.get? a = some oe) (z : L2.Zc cls dd oe) (d : oe.data = .fields vs) : ObjOk P w H h a (XO cls dd a) :=
  ⟨⟨oe, vs, e, z.1, z.2, d⟩, ⟨oe, e⟩, fun _ _ ⟨o, v, q, r⟩ k => ⟨o, v, k o q, r⟩⟩
theorem xo_own {cls : Value} {dd : Option Addr} {a : Addr} : ∀ q, XO cls dd a ≠ .own q := fun q z => by
  have z' : HO.ext _ = HO.own q := z
  cases z'
/-- what makes an exception gives it as a value -/
theorem pe_of_pmk {X : Cx} {e : Expr} {t : L2.St → Hp → XK → Prop} (pm : L2N.PMk X e t) : PE X e (fun σ H Q => t σ H fun cls dd H1 => ∀ a, H1 a = none → Q (.ref a) (upd H1 a (XO cls dd a))) := by
  refine ⟨fun pins s σ H Q I h => ?_⟩
  refine wpAny_mono (pm pins s σ H _ I h) (fun u s1 hu => ?_) fun _ _ x => x
  obtain ⟨a, oe, vs, sI, H', cls, d, rfl, J, k, hne, ha, hz, hd, h1, na, os, ag, r, q⟩ := hu
  exact ⟨.ref a, upd H' a (XO cls d a), J.call' (ch := []) os (Un.laidN k hne na) (J.hok.laidN k na (xo_ok ha hz.zc hd)) ag (fun b z => absurd z (by simp)), rfl, q a na⟩
section
variable {X : Cx} {C fI : Addr}
/-- C(f = e) -/
theorem pmk_x1k {x f : Str} {kws : List Keyword} {tk : TA} {p pos : Pos} {k : Nat} (bx : ∀ (y : Addr) (v : Value), BindsX [f] ⟨[.ref y], [f].zip [v]⟩ [.ref y, v]) (C' : XCls X.K C) (T : XIni X.prog X.K C fI [f]) (hm0 : X.mg "super" = none) (hr : Room k X.A) (hg : Gl X x) (hm : X.mg x = some (.ref C)) (hdb : (x == ("__debug__" : Str)) = false) (hkw : PK X kws tk)
    (hall : (backToKw pos (keywordEach kws X.env)).all (·.1.isSome) = true) (hks : (backToKw pos (keywordEach kws X.env)).filterMap (·.1) = [f])
    (hpl : ((backTo pos (starEach [] X.env)).any (·.1) || (backToKw pos (keywordEach kws X.env)).any (·.1.isNone)) = false) : L2N.PMk X (.Call (.Name x p) [] kws pos) (tMkX C [f] tk) := by
  intro pins s σ H Q I h
  refine wpAny_Call_Name_kw (ld_glob I hg hm ?_ hdb)
  refine PySem.W.callWith_KW0 (h₀ := X.base) I.ok.mod.kin C'.kC hall (thn (hkw.run pos pins s σ H _ I h) fun us s1 hh => ?_) hpl
  obtain ⟨vs, H1, I1, r1, el, q1⟩ := hh
  refine ⟨I1.kIn, ?_⟩
  rw [hks]
  match vs, el, r1, q1 with
  | [v], _, .cons rv .nil, q1 =>
    rename_i u
    have hlim := I1.nolimit
    obtain ⟨mb, hb, hbb⟩ := I1.mod.blt
    have hg1 := I1.mod.glob.keeps I1.bk
    have hb1 := hb.keeps I1.bk
    obtain ⟨hp, g, dr, tk, os⟩ := s1
    refine wpAny_call (xi_make C' T (initsK1 (fun y => bx y _) C' T hm0) I1.kIn hlim hg1 hb1 hbb (by have := hr.dp; omega) (by show 0 ≤ sizeLine; exact Nat.zero_le _) fun h' tk' e d M => ?_)
    exact mk_made C' I1 M (relO_1 rv) (q1 d (I1.hok.fresh M.dbig))
/-- C(g = e, f = e') -/
def tMkR (C : Addr) (f g : Str) (ta : TA) : L2.St → Hp → XK → Prop := fun σ H Q => ta σ H fun vs H1 => ∃ u v, vs = [u, v] ∧ ∀ d, H1 d = none → Q (.ref C) (some d) (upd H1 d (.xd [(f, v), (g, u)]))
theorem pmk_x2k {x f g : Str} {kws : List Keyword} {tk : TA} {p pos : Pos} {k : Nat} (hfg : f ≠ g) (bx : ∀ (y : Addr) (v u : Value), BindsX [f, g] ⟨[.ref y], [g, f].zip [u, v]⟩ [.ref y, v, u]) (C' : XCls X.K C) (T : XIni X.prog X.K C fI [f, g]) (hm0 : X.mg "super" = none) (hr : Room k X.A) (hg : Gl X x) (hm : X.mg x = some (.ref C)) (hdb : (x == ("__debug__" : Str)) = false) (hkw : PK X kws tk)
    (hall : (backToKw pos (keywordEach kws X.env)).all (·.1.isSome) = true) (hks : (backToKw pos (keywordEach kws X.env)).filterMap (·.1) = [g, f])
    (hpl : ((backTo pos (starEach [] X.env)).any (·.1) || (backToKw pos (keywordEach kws X.env)).any (·.1.isNone)) = false) : L2N.PMk X (.Call (.Name x p) [] kws pos) (tMkR C f g tk) := by
  intro pins s σ H Q I h
  refine wpAny_Call_Name_kw (ld_glob I hg hm ?_ hdb)
  refine PySem.W.callWith_KW0 (h₀ := X.base) I.ok.mod.kin C'.kC hall (thn (hkw.run pos pins s σ H _ I h) fun us s1 hh => ?_) hpl
  obtain ⟨vs, H1, I1, r1, u, v, rfl, q1⟩ := hh
  refine ⟨I1.kIn, ?_⟩
  rw [hks]
  match us, r1 with
  | [u', v'], .cons ru (.cons rv .nil) =>
    have hlim := I1.nolimit
    obtain ⟨mb, hb, hbb⟩ := I1.mod.blt
    have hg1 := I1.mod.glob.keeps I1.bk
    have hb1 := hb.keeps I1.bk
    obtain ⟨hp, gg, dr, tk, os⟩ := s1
    refine wpAny_call (xi_make C' T (initsK2 (fun y => bx y v' u') C' T hm0) I1.kIn hlim hg1 hb1 hbb (by have := hr.dp; omega) (by show 0 ≤ sizeLine; exact Nat.zero_le _) fun h' tk' e d M => ?_)
    exact mk_made C' I1 M (relO_2 hfg rv ru) (q1 d (I1.hok.fresh M.dbig))
end
section
variable {T : Tab} {n : Nat} {X : Cx} {W : WX} {pos : Pos}
theorem rep_xv {a : Abs} {ρ : Env} {μ : Mem} {σ : L2.St} {H : Hp} {c : Nat} {ns : List Nat} {l : List D} {vs : List V} {d e : Addr} (ho : Hol T X.K a ρ μ σ H) (r : Reps T X.K a l vs) (hl : ns.length = vs.length) (hd : H d = none) (he : upd H d (.xd ((ns.map T.an).zip vs)) e = none) :
    ∃ b, Stp a H b (upd (upd H d (.xd ((ns.map T.an).zip vs))) e (XO (.ref (T.ca c)) (some d) e)) ∧ Hol T X.K b ρ μ σ (upd (upd H d (.xd ((ns.map T.an).zip vs))) e (XO (.ref (T.ca c)) (some d) e)) ∧ Rep T X.K b (.xv c ns l) (.ref e) := by
  obtain ⟨ho2, st2⟩ := ho.freeze (o := .xd ((ns.map T.an).zip vs)) hd
  obtain ⟨ho3, st3⟩ := ho2.freeze (o := XO (.ref (T.ca c)) (some d) e) he xo_own
  refine ⟨_, st2.trans st3, ho3, ?_⟩
  simp only [Rep]
  have ne : d ≠ e := fun z => by rw [z, upd_same] at he; cases he
  exact ⟨e, some d, vs, rfl, upd_same, hl, .inl ⟨d, rfl, (upd_ne ne).trans upd_same⟩, Reps.mono (st2.trans st3).le _ _ r⟩
theorem se_xvn {x : Expr} {c : Nat} {ns : List Nat} {es : Es} {fs : List Str} (hf : fs = ns.map T.an) (pm : L2N.PMk X x (tMkX (T.ca c) fs (tEs T n X.K W es))) : SE T n X W x (.xvn c ns es) := by
  subst hf
  refine PE.imp (pe_of_pmk pm) fun σ H Q q => ?_
  obtain ⟨a, ρ, μ, ho, q⟩ := q
  simp only [evE] at q
  refine ⟨a, ρ, μ, ho, q.bind.mono (fun l μ1 q1 b vs H1 st ho1 r => ?_) fun _ _ k => k⟩
  split at q1
  · rename_i hl
    refine ⟨by rw [← r.length, hl, List.length_map], fun d hd e he => ?_⟩
    obtain ⟨b2, st2, ho2, r2⟩ := rep_xv (c := c) ho1 r (by rw [← hl, r.length]) hd he
    exact q1 b2 (.ref e) _ (st.trans st2) ho2 r2
  · exact q1.elim
theorem se_xvn0 {x : Expr} {c : Nat} (pm : L2N.PMk X x (fun _ H Q => Q (.ref (T.ca c)) none H)) : SE T n X W x (.xvn c [] .n) := by
  refine PE.imp (pe_of_pmk pm) fun σ H Q q => ?_
  obtain ⟨a, ρ, μ, ho, q⟩ := q
  simp only [evE, evEs, R.bind_ok, List.length_nil, if_true] at q
  intro e he
  obtain ⟨ho3, st3⟩ := ho.freeze (o := XO (.ref (T.ca c)) none e) he xo_own
  refine q _ (.ref e) _ st3 ho3 ?_
  simp only [Rep]
  exact ⟨e, none, [], rfl, upd_same, rfl, .inr ⟨rfl, rfl⟩, Reps.nil⟩
theorem evE_xvk1 {P : Prog} {C : Cal} {r : D → Option Str} {c m : Nat} {d : E} {ρ : Env} {μ : Mem} : evE P C r (.xvk c [m] [0] (.c d .n)) ρ μ = evE P C r (.xvn c [m] (.c d .n)) ρ μ := by
  simp only [evE, evEs]
  cases evE P C r d ρ μ <;> rfl
theorem se_xvk1 {x : Expr} {c m : Nat} {d : E} {f : Str} (hf : f = T.an m) (pm : L2N.PMk X x (tMkX (T.ca c) [f] (tEs T n X.K W (.c d .n)))) : SE T n X W x (.xvk c [m] [0] (.c d .n)) := by
  refine PE.imp (se_xvn (T := T) (n := n) (W := W) (c := c) (ns := [m]) (by rw [hf]; rfl) pm) fun σ H Q q => ?_
  obtain ⟨a, ρ, μ, ho, q⟩ := q
  rw [evE_xvk1] at q
  exact ⟨a, ρ, μ, ho, q⟩
theorem se_xvk2 {x : Expr} {c m m2 : Nat} {d d2 : E} {f g : Str} (hf : f = T.an m) (hg : g = T.an m2) (pm : L2N.PMk X x (tMkR (T.ca c) f g (tEs T n X.K W (.c d2 (.c d .n))))) : SE T n X W x (.xvk c [m, m2] [1, 0] (.c d2 (.c d .n))) := by
  refine PE.imp (pe_of_pmk pm) fun σ H Q q => ?_
  obtain ⟨a, ρ, μ, ho, q⟩ := q
  simp only [evE, evEs] at q
  refine ⟨a, ρ, μ, ho, ?_⟩
  simp only [evEs]
  cases h : evE T.P (T.C n) T.reprS d2 ρ μ with
  | no => rw [h] at q; exact q
  | ex x μ => rw [h] at q; exact q
  | ok y μ2 =>
    rw [h] at q
    simp only [R.bind_ok] at q ⊢
    cases h2 : evE T.P (T.C n) T.reprS d ρ μ2 with
    | no => rw [h2] at q; exact q
    | ex x μ => rw [h2] at q; exact q
    | ok z μ3 =>
      rw [h2] at q
      simp only [R.bind_ok] at q ⊢
      have q : ∀ b v H', Stp a H b H' → Hol T X.K b ρ μ3 σ H' → Rep T X.K b (.xv c [m, m2] [z, y]) v → Q v H' := q
      intro b vs H1 st ho1 r
      obtain ⟨u, ws, rfl, r1, r⟩ := r.inv
      obtain ⟨v, ws, rfl, r2, r⟩ := r.inv
      obtain rfl := r.inv0
      refine ⟨u, v, rfl, fun d hd e he => ?_⟩
      subst hf hg
      obtain ⟨b2, st2, ho2, r3⟩ := rep_xv (c := c) (ns := [m, m2]) (vs := [v, u]) ho1 (Reps.cons r2 (Reps.cons r1 Reps.nil)) rfl hd he
      exact q b2 (.ref e) _ (st.trans st2) ho2 r3
def tXva (K : PySem.W.Frag) (nm : Str) (te : TE) : TE := fun σ H Q => te σ H fun x H1 => ∃ (p C dd : Addr) (fs : List (Str × V)) (v : V), x = .ref p ∧ H1 p = some (XO (.ref C) (some dd) p) ∧ H1 dd = some (.xd fs) ∧ fs.lookup nm = some v ∧ XfC K C ∧ PySem.W.findIn K (.ref C) nm = some none ∧ Q v H1
theorem xo_at {P : Program} {w : World} {H : Hp} {h : Heap} {p : Addr} {cls : Value} {dd : Option Addr} (hok : HOk P w H h) (he : H p = some (XO cls dd p)) : ∃ (oe : Obj) (vs : Array Value), h.get? p = some oe ∧ oe.cls = cls ∧ oe.dict = dd ∧ oe.data = .fields vs := by
  have x : ObjOk P w H h p (.ext fun h => ∃ (oe : Obj) (vs : Array Value), h.get? p = some oe ∧ oe.cls = cls ∧ oe.dict = dd ∧ oe.data = .fields vs) := hok p _ he
  exact x.1
theorem pe_xva {e : Expr} {te : TE} {nm : Str} (he : PE X e te) (hb : attributeBase e nm X.env (eval e X.env) = eval e X.env) : PE X (.Attribute e nm pos) (tXva X.K nm te) := by
  refine ⟨fun pins s σ H Q I h => ?_⟩
  refine attr_of hb (thn (he.run pins s σ H _ I h) fun u s1 hh => ?_)
  obtain ⟨x, H1, I1, rx, p, C, dd, fs, v, ex, ep, ed, l, F, hno, q⟩ := hh
  subst ex
  obtain rfl : u = Value.ref p := rx
  obtain ⟨oe, vs, ha, hc, hdi, hdat⟩ := xo_at I1.hok ep
  have hx : ObjOk X.prog X.w H1 s1.heap dd (.xd fs) := I1.hok dd _ ed
  obtain ⟨mA, hns, hr⟩ := hx
  obtain ⟨od, ho, hl⟩ := lookIn_ns hns
  obtain ⟨u, hu, ru⟩ := RelO.some_of (v := v) (o := mA nm) (by rw [← l]; exact hr nm)
  have J : PySem.W.InstAt s1.heap p oe C (some od) := ⟨ha, hc, by unfold PySem.W.notCls; rw [hdat] <;> rfl, by rw [hdi]; exact ho⟩
  exact HandSPX.exc_get I1.kIn J F.ga F.gg F.exC (PySem.W.findObj_own F.hdC hno rfl (by rw [hl, hu])) (handed_of ru) ⟨v, H1, I1.tok _, ru, q⟩
theorem se_xva {e : Expr} {d : E} {nm : Str} {f : Nat} (tab : TabOk T X.K) (hn : nm = T.an f) (he : SE T n X W e d) (hb : attributeBase e nm X.env (eval e X.env) = eval e X.env) : SE T n X W (.Attribute e nm pos) (.xva d f) := by
  subst hn
  refine PE.imp (pe_xva he hb) fun σ H Q q => ?_
  obtain ⟨a, ρ, μ, ho, q⟩ := q
  simp only [evE] at q
  refine ⟨a, ρ, μ, ho, q.bind.mono (fun d1 μ1 q1 b v H1 st ho1 r => ?_) fun _ _ k => k⟩
  obtain ⟨d2, hd, kk⟩ := q1.of
  split at hd
  · rename_i c ns vs
    obtain ⟨k, hk, hd⟩ := Option.bind_eq_some_iff.mp hd
    split at hd
    · rename_i hfl
      obtain ⟨xf, nof⟩ := tab.xf c k f hk hfl
      simp only [Rep] at r
      obtain ⟨p, dd, ws, rfl, g, hl, hx, rr⟩ := r
      obtain ⟨w, hw, rw'⟩ := fget_zip (T := T) (X := X) tab.an hl rr hd
      rcases hx with ⟨q', rfl, hq⟩ | ⟨rfl, rfl⟩
      · exact ⟨p, T.ca c, q', _, w, rfl, ho1.m.le _ _ g, ho1.m.le _ _ hq, hw, xf, nof, kk b w H1 st ho1 rw'⟩
      · simp [fget] at hd
    · cases hd
  · cases hd
def rIsV (K : PySem.W.Frag) : List V → Hp → VK → Prop := fun xs H Q => ∃ (p C : Addr) (dd : Option Addr) (c : V) (cv : Value) (b : Bool), xs = [.ref p, c] ∧ H p = some (XO (.ref C) dd p) ∧ ExcK K C ∧ (dd = none ∨ ∃ q fs, dd = some q ∧ H q = some (.xd fs)) ∧ (∀ u, RelV c u → u = cv) ∧ PySem.W.kitOne K (.ref C) cv = some b ∧ Q (.bl b) H
theorem call_isV (hn : PySem.W.specialIn X.K (.builtin "object.__class__") "__get__" = some (some (.builtin "getset_descriptor.__get__"))) (htk : PySem.W.takesIn X.K (.builtin "object.__class__") = some true) :
    CallR X (.builtin "isinstance") (rIsV X.K) := by
  intro pins s σ H xs us Q I r h
  obtain ⟨p, C, dd, c, cv, b, rfl, ep, E, hd, hcv, e, q⟩ := h
  cases r with
  | cons rx rr =>
    cases rr with
    | cons rt rr =>
      cases rr
      cases rx
      have ec := hcv _ rt
      subst ec
      obtain ⟨oe, vs, hget, hc, hdi, hv⟩ := xo_at I.hok ep
      have J : ∃ od, PySem.W.InstAt s.heap p oe C od := by
        rcases hd with rfl | ⟨q, fs, rfl, hq⟩
        · refine ⟨none, hget, hc, by unfold PySem.W.notCls; rw [hv] <;> rfl, ?_⟩
          rw [hdi]; trivial
        · have hx : ObjOk X.prog X.w H s.heap q (.xd fs) := I.hok q _ hq
          obtain ⟨mA, hns, hr⟩ := hx
          obtain ⟨od, ho, hl⟩ := lookIn_ns hns
          exact ⟨some od, hget, hc, by unfold PySem.W.notCls; rw [hv] <;> rfl, by rw [hdi]; exact ho⟩
      obtain ⟨od, J⟩ := J
      exact PySem.W.kia_one (PySem.W.kitx_exc E.cl E.ga E.gg E.sub E.ca hn htk E.mr) I.kIn J e (fun z => nomatch z) fun tk => ⟨.bl b, H, I.kept (t' := tk) fun _ _ z => z, rfl, q⟩
theorem se_xvi {cs : List Nat} {ts : List Ty} (S : XisOk T X.K cs ts) (S2 : IsOk T X.K) {x z : Expr} {d : E} {t : Ty} {p : Pos}
    (ht : ts.contains t = true) (he : SE T n X W x d) (hg : Gl X "isinstance") (hm : X.mg "isinstance" = none) (hcl : SClsX T X z t)
    (hs : starEach [x, z] X.env = (false, eval x X.env) :: starEach [z] X.env) (hs2 : starEach [z] X.env = (false, eval z X.env) :: starEach [] X.env) (hpl : (backTo pos (starEach [z] X.env)).any (·.1) = false) :
    SE T n X W (.Call (.Name "isinstance" p) [x, z] [] pos) (.xvi d cs t) := by
  refine PE.imp (pe_callB (call_isV S2.hn S2.htk) hg hm (by rfl) (pa_cons he (pa_cons hcl pa_nil hs2) hs) (by decide) (by decide) hs hpl) fun σ H Q q => ?_
  obtain ⟨a, ρ, μ, ho, q⟩ := q
  simp only [evE] at q
  refine ⟨a, ρ, μ, ho, q.bind.mono (fun d1 μ1 q1 b v H1 st ho1 r => ?_) fun _ _ k => k⟩
  split at q1
  · rename_i c ns vs
    split at q1
    · rename_i hc
      obtain ⟨w, e3, k⟩ := q1.of
      obtain ⟨b1, e4, rfl⟩ := Option.map_eq_some_iff.mp e3
      simp only [Rep] at r
      obtain ⟨p, dd, ws, rfl, g, hl, hx, rr⟩ := r
      refine ⟨p, T.ca c, dd, tyXV T t, tyXU T t, b1, rfl, ho1.m.le _ _ g, S.exc c hc, ?_, fun u hu => (clsX_of t).eq hu, S.one c t hc ht μ1 ns vs b1 e4, k b _ H1 st ho1 rep_bl⟩
      rcases hx with ⟨q', rfl, hq⟩ | ⟨rfl, rfl⟩
      · exact .inr ⟨q', _, rfl, ho1.m.le _ _ hq⟩
      · exact .inl rfl
    · exact q1.elim
  · exact q1.elim
end
end DI
end

section
set_option Elab.async false
set_option linter.all false
set_option maxRecDepth 100000
namespace DI
open PySem L2 PySem.Spec PyProof.Rows
section
variable {L : LawT} {n : Nat} {X : Cx} {W : WX} {pos : Pos}
theorem xvn1_ (B : Bd L n X W) (i c m : Nat) {x0 : XI} {x f : Str} {e : Expr} {p cpos : Pos} {d : E} (he : SE (L.tab X.K) n X W e d) (hx : L.xis[i]? = some x0 := by rfl) (hc : x0.c = c := by rfl) (hf : x0.fs = [f] := by rfl) (hm : f = anOf L.ann m := by rfl) (h1 : L.cnm.lookup c = some x := by rfl) (hsup : L.free.contains "super" = true := by rfl) (hg : Gl X x := by rfl) (hdb : (x == ("__debug__" : Str)) = false := by decide)
    (hst : starEach [e] X.env = (false, eval e X.env) :: starEach [] X.env := by rfl) (hpl : (backTo cpos (starEach [] X.env)).any (·.1) = false := by rfl) : SE (L.tab X.K) n X W (.Call (.Name x p) [e] [] cpos) (.xvn c [m] (.c d .n)) := by
  subst hc
  have hmem := List.mem_of_getElem? hx
  have xi := B.xi x0 hmem
  rw [hf] at xi
  have xc := B.g.xc x0.c (List.any_eq_true.mpr ⟨x0, hmem, decide_eq_true rfl⟩)
  exact se_xvn (fs := [f]) (by rw [hm]; rfl) (pmk_x1 xc xi (B.g.free _ hsup) (B.O.room.mono (Nat.zero_le _)) hg (B.g.cl x _ h1) hdb (sa_cons he sa_nil hst) hst hpl)
theorem xvn2_ (B : Bd L n X W) (i c m m2 : Nat) {x0 : XI} {x f g : Str} {e e2 : Expr} {p cpos : Pos} {d d2 : E} (he : SE (L.tab X.K) n X W e d) (he2 : SE (L.tab X.K) n X W e2 d2) (hx : L.xis[i]? = some x0 := by rfl) (hc : x0.c = c := by rfl) (hf : x0.fs = [f, g] := by rfl) (hm : f = anOf L.ann m := by rfl) (hm2 : g = anOf L.ann m2 := by rfl) (hfg : f ≠ g := by decide) (h1 : L.cnm.lookup c = some x := by rfl) (hsup : L.free.contains "super" = true := by rfl) (hg : Gl X x := by rfl) (hdb : (x == ("__debug__" : Str)) = false := by decide)
    (hst : starEach [e, e2] X.env = (false, eval e X.env) :: starEach [e2] X.env := by rfl) (hst2 : starEach [e2] X.env = (false, eval e2 X.env) :: starEach [] X.env := by rfl) (hpl : (backTo cpos (starEach [e2] X.env)).any (·.1) = false := by rfl) : SE (L.tab X.K) n X W (.Call (.Name x p) [e, e2] [] cpos) (.xvn c [m, m2] (.c d (.c d2 .n))) := by
  subst hc
  have hmem := List.mem_of_getElem? hx
  have xi := B.xi x0 hmem
  rw [hf] at xi
  have xc := B.g.xc x0.c (List.any_eq_true.mpr ⟨x0, hmem, decide_eq_true rfl⟩)
  exact se_xvn (fs := [f, g]) (by rw [hm, hm2]; rfl) (pmk_x2 hfg xc xi (B.g.free _ hsup) (B.O.room.mono (Nat.zero_le _)) hg (B.g.cl x _ h1) hdb (sa_cons he (sa_cons he2 sa_nil hst2) hst) hst hpl)
theorem xvn0_ (B : Bd L n X W) (c : Nat) {x : Str} {p cpos : Pos} (hc : L.xns.contains c = true := by rfl) (h1 : L.cnm.lookup c = some x := by rfl) (hg : Gl X x := by rfl) (hdb : (x == ("__debug__" : Str)) = false := by decide) : SE (L.tab X.K) n X W (.Call (.Name x p) [] [] cpos) (.xvn c [] .n) := by
  obtain ⟨xc, x0⟩ := B.g.xn c hc
  exact se_xvn0 (pmk_x0 xc x0 hg (B.g.cl x c h1) hdb)
theorem xvk1_ (B : Bd L n X W) (i c m : Nat) {x0 : XI} {x f : Str} {e : Expr} {p cpos kp : Pos} {d : E} (he : SE (L.tab X.K) n X W e d) (hx : L.xis[i]? = some x0 := by rfl) (hc : x0.c = c := by rfl) (hf : x0.fs = [f] := by rfl) (hm : f = anOf L.ann m := by rfl) (h1 : L.cnm.lookup c = some x := by rfl) (bx : ∀ (y : Addr) (v : Value), BindsX [f] ⟨[.ref y], [f].zip [v]⟩ [.ref y, v] := by intro y v qual pps body doc pm an cda cc ct hl _; match pps, hl with | [pa, pb], _ => rfl) (hsup : L.free.contains "super" = true := by rfl) (hg : Gl X x := by rfl) (hdb : (x == ("__debug__" : Str)) = false := by decide)
    (hall : (backToKw cpos (keywordEach [⟨some f, e, kp⟩] X.env)).all (·.1.isSome) = true := by rfl) (hks : (backToKw cpos (keywordEach [⟨some f, e, kp⟩] X.env)).filterMap (·.1) = [f] := by rfl) (hpl : ((backTo cpos (starEach [] X.env)).any (·.1) || (backToKw cpos (keywordEach [⟨some f, e, kp⟩] X.env)).any (·.1.isNone)) = false := by rfl) : SE (L.tab X.K) n X W (.Call (.Name x p) [] [⟨some f, e, kp⟩] cpos) (.xvk c [m] [0] (.c d .n)) := by
  subst hc
  have hmem := List.mem_of_getElem? hx
  have xi := B.xi x0 hmem
  rw [hf] at xi
  have xc := B.g.xc x0.c (List.any_eq_true.mpr ⟨x0, hmem, decide_eq_true rfl⟩)
  exact se_xvk1 hm (pmk_x1k bx xc xi (B.g.free _ hsup) (B.O.room.mono (Nat.zero_le _)) hg (B.g.cl x _ h1) hdb (sk_cons he sk_nil) hall hks hpl)
theorem xvk2_ (B : Bd L n X W) (i c m m2 : Nat) {x0 : XI} {x f g : Str} {e e2 : Expr} {p cpos kp kp2 : Pos} {d d2 : E} (he2 : SE (L.tab X.K) n X W e2 d2) (he : SE (L.tab X.K) n X W e d) (hx : L.xis[i]? = some x0 := by rfl) (hc : x0.c = c := by rfl) (hf : x0.fs = [f, g] := by rfl) (hm : f = anOf L.ann m := by rfl) (hm2 : g = anOf L.ann m2 := by rfl) (hfg : f ≠ g := by decide) (h1 : L.cnm.lookup c = some x := by rfl) (bx : ∀ (y : Addr) (v u : Value), BindsX [f, g] ⟨[.ref y], [g, f].zip [u, v]⟩ [.ref y, v, u] := by intro y v u qual pps body doc pm an cda cc ct hl _; match pps, hl with | [pa, pb, pc], _ => rfl) (hsup : L.free.contains "super" = true := by rfl) (hg : Gl X x := by rfl) (hdb : (x == ("__debug__" : Str)) = false := by decide)
    (hall : (backToKw cpos (keywordEach [⟨some g, e2, kp⟩, ⟨some f, e, kp2⟩] X.env)).all (·.1.isSome) = true := by rfl) (hks : (backToKw cpos (keywordEach [⟨some g, e2, kp⟩, ⟨some f, e, kp2⟩] X.env)).filterMap (·.1) = [g, f] := by rfl) (hpl : ((backTo cpos (starEach [] X.env)).any (·.1) || (backToKw cpos (keywordEach [⟨some g, e2, kp⟩, ⟨some f, e, kp2⟩] X.env)).any (·.1.isNone)) = false := by rfl) : SE (L.tab X.K) n X W (.Call (.Name x p) [] [⟨some g, e2, kp⟩, ⟨some f, e, kp2⟩] cpos) (.xvk c [m, m2] [1, 0] (.c d2 (.c d .n))) := by
  subst hc
  have hmem := List.mem_of_getElem? hx
  have xi := B.xi x0 hmem
  rw [hf] at xi
  have xc := B.g.xc x0.c (List.any_eq_true.mpr ⟨x0, hmem, decide_eq_true rfl⟩)
  exact se_xvk2 hm hm2 (pmk_x2k hfg bx xc xi (B.g.free _ hsup) (B.O.room.mono (Nat.zero_le _)) hg (B.g.cl x _ h1) hdb (sk_cons he2 (sk_cons he sk_nil)) hall hks hpl)
theorem xva_ (B : Bd L n X W) (f : Nat) {e : Expr} {d : E} {nm : Str} (he : SE (L.tab X.K) n X W e d) (hn : nm = (L.tab X.K).an f := by rfl) (hb : attributeBase e nm X.env (eval e X.env) = eval e X.env := by rfl) : SE (L.tab X.K) n X W (.Attribute e nm pos) (.xva d f) := se_xva B.O.tab hn he hb
theorem xvi_ (B : Bd L n X W) (cs : List Nat) {x z : Expr} {d : E} {t : Ty} {p : Pos} (hcl : SClsX (L.tab X.K) X z t) (he : SE (L.tab X.K) n X W x d) (hcs : L.xcs = cs := by rfl) (ht : L.xit.contains t = true := by rfl) (hg : Gl X "isinstance" := by rfl) (hm : L.free.contains "isinstance" = true := by rfl)
    (hs : starEach [x, z] X.env = (false, eval x X.env) :: starEach [z] X.env := by rfl) (hs2 : starEach [z] X.env = (false, eval z X.env) :: starEach [] X.env := by rfl) (hpl : (backTo pos (starEach [z] X.env)).any (·.1) = false := by rfl) : SE (L.tab X.K) n X W (.Call (.Name "isinstance" p) [x, z] [] pos) (.xvi d cs t) := by
  subst hcs
  exact se_xvi B.g.xis B.g.is_ ht he hg (B.g.free _ hm) hcl hs hs2 hpl
end
end DI
end

section
set_option linter.all false
set_option maxRecDepth 100000
open PySem
namespace DI
/-- _law_due -/
def f3 : Fn := { np := 1, nn := 4, dflt := [], keep := false, body := (.c (.par (.c (.v 1) (.c (.v 2) .n)) (.c (.cmp .lt (.v 0) (.k (.int 17))) (.c (.cmp2 .lt .lt (.k (.int 16)) (.v 0) (.k (.int 20))) .n))) (.c (.asg (.v 3) (.and (.c (.not (.v 1)) (.c (.not (.v 2)) .n)))) (.c (.ret (.bin .add (.bin .mul (.lst (.c (.v 1) (.c (.v 2) (.c (.v 3) .n)))) (.k (.int 2))) (.bin .mul (.lst (.c (.k (.bl false)) .n)) (.k (.int 3))))) .n))) }
/-- _law_raised_right -/
def f5 : Fn := { np := 1, nn := 3, dflt := [], keep := false, body := (.c (.asg (.v 1) (.lay (.lst .n))) (.c (.try (.c (.rai (.exc 0 [0] (.c (.v 0) .n))) .n) (.c [.own 26] (some 2) (.c (.ex (.bm .append (.v 1) (.c (.bi .reprD (.c (.xat 2 0) .n)) .n))) .n) .n)) (.c (.try (.c (.rai (.exc 18 [0] (.c (.v 0) .n))) .n) (.c [.own 27] (some 2) (.c (.ex (.bm .append (.v 1) (.c (.bi .reprD (.c (.xat 2 0) .n)) .n))) .n) .n)) (.c (.try (.c (.rai (.exc 25 [1, 4] (.c (.v 0) (.c (.k (.int 3)) .n)))) .n) (.c [.own 28] (some 2) (.c (.ex (.bm .append (.v 1) (.c (.bi .reprD (.c (.xat 2 1) .n)) .n))) .n) .n)) (.c (.ret (.cmp .eq (.v 1) (.bin .mul (.lst (.c (.bi .repr (.c (.v 0) .n)) .n)) (.k (.int 3))))) .n))))) }
def l0 : Lam := { ps := [], body := (.new 29 (.c (.v 6) .n)) }
def l1 : Lam := { ps := [], body := (.new 29 (.c (.v 6) (.c (.k .non) .n))) }
def l2 : Lam := { ps := [], body := (.nwk 29 .n [2, 1] (.c (.k (.int 5)) (.c (.v 6) .n))) }
def l3 : Lam := { ps := [], body := (.new 29 (.c (.v 9) .n)) }
def l4 : Lam := { ps := [], body := (.new 29 (.c (.v 9) (.c (.tup (.c (.tup (.c (.k (.int 1)) (.c (.k (.int 2)) .n))) .n)) .n))) }
def gls : List (Nat × D) := [(0, (.int 8)), (1, (.int 12)), (2, (.int 5)), (3, (.str "abcdefghijklmnopqrstuvwxyz")), (4, (.int 3)), (5, (.dct false [(.str "even"), (.str "plus"), (.str "same"), (.str "many")] [(.int 2), (.int 2), (.int 3), (.int 2)])), (6, (.dct false [(.str "even"), (.str "odd"), (.str "plus"), (.str "minus"), (.str "same"), (.str "unlike")] [(.int 3), (.int 3), (.int 3), (.int 3), (.int 4), (.int 4)])), (7, (.tup [(.str "put NAME TEXT")])), (8, (.str "0123456789")), (9, (.tup [(.str "remove NAME"), (.str "claim plus NAME NAME"), (.str "claim same NAME NAME NAME"), (.str "claim many NAME N"), (.str "lift N"), (.str "undo"), (.str "count NAME"), (.str "rings NAME"), (.str "plus NAME"), (.str "keys NAME"), (.str "names"), (.str "show NAME")])), (10, (.dct false [(.str "even"), (.str "plus"), (.str "same"), (.str "many")] [(.int 2), (.int 2), (.int 3), (.int 2)])), (11, (.dct false [(.str "even"), (.str "odd"), (.str "plus"), (.str "minus"), (.str "same"), (.str "unlike")] [(.int 3), (.int 3), (.int 3), (.int 3), (.int 4), (.int 4)]))]
end DI
end

section
set_option linter.all false
set_option maxRecDepth 100000
open PySem
namespace DI
/-- _law_given -/
def f583 : Fn := { np := 1, nn := 3, dflt := [], keep := false, body := (.c (.asg (.v 1) (.lst (.c (.xvn 0 [0] (.c (.v 0) .n)) (.c (.xvn 1 [0] (.c (.v 0) .n)) (.c (.xvn 2 [0] (.c (.v 0) .n)) (.c (.xvn 3 [0] (.c (.v 0) .n)) .n)))))) (.c (.asg (.v 1) (.bin .add (.v 1) (.lst (.c (.xvn 4 [0] (.c (.v 0) .n)) (.c (.xvn 5 [0] (.c (.v 0) .n)) (.c (.xvn 6 [0] (.c (.v 0) .n)) (.c (.xvn 7 [0] (.c (.v 0) .n)) .n))))))) (.c (.asg (.v 1) (.bin .add (.v 1) (.lst (.c (.xvn 8 [0] (.c (.v 0) .n)) (.c (.xvn 9 [0] (.c (.v 0) .n)) (.c (.xvn 10 [1] (.c (.v 0) .n)) (.c (.xvn 11 [1] (.c (.v 0) .n)) .n))))))) (.c (.asg (.v 1) (.bin .add (.v 1) (.lst (.c (.xvn 12 [1] (.c (.v 0) .n)) (.c (.xvn 13 [1] (.c (.v 0) .n)) (.c (.xvn 14 [1] (.c (.v 0) .n)) (.c (.xvn 15 [1] (.c (.v 0) .n)) .n))))))) (.c (.asg (.v 1) (.bin .add (.v 1) (.lst (.c (.xvn 16 [1] (.c (.v 0) .n)) (.c (.xvn 17 [0] (.c (.v 0) .n)) (.c (.xvn 18 [0] (.c (.v 0) .n)) (.c (.xvn 19 [1] (.c (.v 0) .n)) (.c (.xvn 20 [2] (.c (.v 0) .n)) .n)))))))) (.c (.asg (.v 1) (.bin .add (.v 1) (.lst (.c (.xvn 21 [] .n) (.c (.xvn 22 [] .n) (.c (.xvn 23 [3] (.c (.v 0) .n)) (.c (.xvn 24 [] .n) (.c (.xvn 25 [1, 4] (.c (.v 0) (.c (.k (.int 7)) .n))) .n)))))))) (.c (.asg (.v 2) (.lst (.c (.xvk 0 [0] [0] (.c (.v 0) .n)) (.c (.xvk 1 [0] [0] (.c (.v 0) .n)) (.c (.xvk 2 [0] [0] (.c (.v 0) .n)) .n))))) (.c (.asg (.v 2) (.bin .add (.v 2) (.lst (.c (.xvk 3 [0] [0] (.c (.v 0) .n)) (.c (.xvk 4 [0] [0] (.c (.v 0) .n)) (.c (.xvk 5 [0] [0] (.c (.v 0) .n)) .n)))))) (.c (.asg (.v 2) (.bin .add (.v 2) (.lst (.c (.xvk 6 [0] [0] (.c (.v 0) .n)) (.c (.xvk 7 [0] [0] (.c (.v 0) .n)) (.c (.xvk 8 [0] [0] (.c (.v 0) .n)) .n)))))) (.c (.asg (.v 2) (.bin .add (.v 2) (.lst (.c (.xvk 9 [0] [0] (.c (.v 0) .n)) (.c (.xvk 10 [1] [0] (.c (.v 0) .n)) (.c (.xvk 11 [1] [0] (.c (.v 0) .n)) .n)))))) (.c (.asg (.v 2) (.bin .add (.v 2) (.lst (.c (.xvk 12 [1] [0] (.c (.v 0) .n)) (.c (.xvk 13 [1] [0] (.c (.v 0) .n)) (.c (.xvk 14 [1] [0] (.c (.v 0) .n)) .n)))))) (.c (.asg (.v 2) (.bin .add (.v 2) (.lst (.c (.xvk 15 [1] [0] (.c (.v 0) .n)) (.c (.xvk 16 [1] [0] (.c (.v 0) .n)) (.c (.xvk 17 [0] [0] (.c (.v 0) .n)) .n)))))) (.c (.asg (.v 2) (.bin .add (.v 2) (.lst (.c (.xvk 18 [0] [0] (.c (.v 0) .n)) (.c (.xvk 19 [1] [0] (.c (.v 0) .n)) (.c (.xvk 20 [2] [0] (.c (.v 0) .n)) (.c (.xvn 21 [] .n) .n))))))) (.c (.asg (.v 2) (.bin .add (.v 2) (.lst (.c (.xvn 22 [] .n) (.c (.xvk 23 [3] [0] (.c (.v 0) .n)) (.c (.xvn 24 [] .n) (.c (.xvk 25 [1, 4] [1, 0] (.c (.k (.int 7)) (.c (.v 0) .n))) .n))))))) (.c (.ret (.lst (.c (.v 1) (.c (.v 2) .n)))) .n))))))))))))))) }
/-- _law_sorts -/
def f584 : Fn := { np := 1, nn := 2, dflt := [], keep := false, body := (.c (.asg (.v 1) (.lst (.c (.xvi (.v 0) [0, 1, 2, 3, 4, 5, 6, 7, 8, 9, 10, 11, 12, 13, 14, 15, 16, 17, 18, 19, 20, 21, 22, 23, 24, 25] (.own 0)) (.c (.xvi (.v 0) [0, 1, 2, 3, 4, 5, 6, 7, 8, 9, 10, 11, 12, 13, 14, 15, 16, 17, 18, 19, 20, 21, 22, 23, 24, 25] (.own 1)) (.c (.xvi (.v 0) [0, 1, 2, 3, 4, 5, 6, 7, 8, 9, 10, 11, 12, 13, 14, 15, 16, 17, 18, 19, 20, 21, 22, 23, 24, 25] (.own 2)) .n))))) (.c (.asg (.v 1) (.bin .add (.v 1) (.lst (.c (.xvi (.v 0) [0, 1, 2, 3, 4, 5, 6, 7, 8, 9, 10, 11, 12, 13, 14, 15, 16, 17, 18, 19, 20, 21, 22, 23, 24, 25] (.own 3)) (.c (.xvi (.v 0) [0, 1, 2, 3, 4, 5, 6, 7, 8, 9, 10, 11, 12, 13, 14, 15, 16, 17, 18, 19, 20, 21, 22, 23, 24, 25] (.own 4)) (.c (.xvi (.v 0) [0, 1, 2, 3, 4, 5, 6, 7, 8, 9, 10, 11, 12, 13, 14, 15, 16, 17, 18, 19, 20, 21, 22, 23, 24, 25] (.own 5)) .n)))))) (.c (.asg (.v 1) (.bin .add (.v 1) (.lst (.c (.xvi (.v 0) [0, 1, 2, 3, 4, 5, 6, 7, 8, 9, 10, 11, 12, 13, 14, 15, 16, 17, 18, 19, 20, 21, 22, 23, 24, 25] (.own 6)) (.c (.xvi (.v 0) [0, 1, 2, 3, 4, 5, 6, 7, 8, 9, 10, 11, 12, 13, 14, 15, 16, 17, 18, 19, 20, 21, 22, 23, 24, 25] (.own 7)) (.c (.xvi (.v 0) [0, 1, 2, 3, 4, 5, 6, 7, 8, 9, 10, 11, 12, 13, 14, 15, 16, 17, 18, 19, 20, 21, 22, 23, 24, 25] (.own 8)) .n)))))) (.c (.asg (.v 1) (.bin .add (.v 1) (.lst (.c (.xvi (.v 0) [0, 1, 2, 3, 4, 5, 6, 7, 8, 9, 10, 11, 12, 13, 14, 15, 16, 17, 18, 19, 20, 21, 22, 23, 24, 25] (.own 9)) (.c (.xvi (.v 0) [0, 1, 2, 3, 4, 5, 6, 7, 8, 9, 10, 11, 12, 13, 14, 15, 16, 17, 18, 19, 20, 21, 22, 23, 24, 25] (.own 10)) (.c (.xvi (.v 0) [0, 1, 2, 3, 4, 5, 6, 7, 8, 9, 10, 11, 12, 13, 14, 15, 16, 17, 18, 19, 20, 21, 22, 23, 24, 25] (.own 11)) .n)))))) (.c (.asg (.v 1) (.bin .add (.v 1) (.lst (.c (.xvi (.v 0) [0, 1, 2, 3, 4, 5, 6, 7, 8, 9, 10, 11, 12, 13, 14, 15, 16, 17, 18, 19, 20, 21, 22, 23, 24, 25] (.own 12)) (.c (.xvi (.v 0) [0, 1, 2, 3, 4, 5, 6, 7, 8, 9, 10, 11, 12, 13, 14, 15, 16, 17, 18, 19, 20, 21, 22, 23, 24, 25] (.own 13)) (.c (.xvi (.v 0) [0, 1, 2, 3, 4, 5, 6, 7, 8, 9, 10, 11, 12, 13, 14, 15, 16, 17, 18, 19, 20, 21, 22, 23, 24, 25] (.own 14)) .n)))))) (.c (.asg (.v 1) (.bin .add (.v 1) (.lst (.c (.xvi (.v 0) [0, 1, 2, 3, 4, 5, 6, 7, 8, 9, 10, 11, 12, 13, 14, 15, 16, 17, 18, 19, 20, 21, 22, 23, 24, 25] (.own 15)) (.c (.xvi (.v 0) [0, 1, 2, 3, 4, 5, 6, 7, 8, 9, 10, 11, 12, 13, 14, 15, 16, 17, 18, 19, 20, 21, 22, 23, 24, 25] (.own 16)) (.c (.xvi (.v 0) [0, 1, 2, 3, 4, 5, 6, 7, 8, 9, 10, 11, 12, 13, 14, 15, 16, 17, 18, 19, 20, 21, 22, 23, 24, 25] (.own 17)) .n)))))) (.c (.asg (.v 1) (.bin .add (.v 1) (.lst (.c (.xvi (.v 0) [0, 1, 2, 3, 4, 5, 6, 7, 8, 9, 10, 11, 12, 13, 14, 15, 16, 17, 18, 19, 20, 21, 22, 23, 24, 25] (.own 18)) (.c (.xvi (.v 0) [0, 1, 2, 3, 4, 5, 6, 7, 8, 9, 10, 11, 12, 13, 14, 15, 16, 17, 18, 19, 20, 21, 22, 23, 24, 25] (.own 19)) (.c (.xvi (.v 0) [0, 1, 2, 3, 4, 5, 6, 7, 8, 9, 10, 11, 12, 13, 14, 15, 16, 17, 18, 19, 20, 21, 22, 23, 24, 25] (.own 20)) .n)))))) (.c (.asg (.v 1) (.bin .add (.v 1) (.lst (.c (.xvi (.v 0) [0, 1, 2, 3, 4, 5, 6, 7, 8, 9, 10, 11, 12, 13, 14, 15, 16, 17, 18, 19, 20, 21, 22, 23, 24, 25] (.own 21)) (.c (.xvi (.v 0) [0, 1, 2, 3, 4, 5, 6, 7, 8, 9, 10, 11, 12, 13, 14, 15, 16, 17, 18, 19, 20, 21, 22, 23, 24, 25] (.own 22)) (.c (.xvi (.v 0) [0, 1, 2, 3, 4, 5, 6, 7, 8, 9, 10, 11, 12, 13, 14, 15, 16, 17, 18, 19, 20, 21, 22, 23, 24, 25] (.own 23)) .n)))))) (.c (.asg (.v 1) (.bin .add (.v 1) (.lst (.c (.xvi (.v 0) [0, 1, 2, 3, 4, 5, 6, 7, 8, 9, 10, 11, 12, 13, 14, 15, 16, 17, 18, 19, 20, 21, 22, 23, 24, 25] (.own 24)) (.c (.xvi (.v 0) [0, 1, 2, 3, 4, 5, 6, 7, 8, 9, 10, 11, 12, 13, 14, 15, 16, 17, 18, 19, 20, 21, 22, 23, 24, 25] (.own 25)) .n))))) (.c (.ret (.v 1)) .n)))))))))) }
/-- _law_bases -/
def f585 : Fn := { np := 1, nn := 2, dflt := [], keep := false, body := (.c (.asg (.v 1) (.lst (.c (.xvi (.v 0) [0, 1, 2, 3, 4, 5, 6, 7, 8, 9, 10, 11, 12, 13, 14, 15, 16, 17, 18, 19, 20, 21, 22, 23, 24, 25] (.own 26)) (.c (.xvi (.v 0) [0, 1, 2, 3, 4, 5, 6, 7, 8, 9, 10, 11, 12, 13, 14, 15, 16, 17, 18, 19, 20, 21, 22, 23, 24, 25] (.own 27)) (.c (.xvi (.v 0) [0, 1, 2, 3, 4, 5, 6, 7, 8, 9, 10, 11, 12, 13, 14, 15, 16, 17, 18, 19, 20, 21, 22, 23, 24, 25] (.own 28)) .n))))) (.c (.asg (.v 1) (.bin .add (.v 1) (.lst (.c (.xvi (.v 0) [0, 1, 2, 3, 4, 5, 6, 7, 8, 9, 10, 11, 12, 13, 14, 15, 16, 17, 18, 19, 20, 21, 22, 23, 24, 25] (.py 6)) (.c (.xvi (.v 0) [0, 1, 2, 3, 4, 5, 6, 7, 8, 9, 10, 11, 12, 13, 14, 15, 16, 17, 18, 19, 20, 21, 22, 23, 24, 25] (.py 7)) (.c (.xvi (.v 0) [0, 1, 2, 3, 4, 5, 6, 7, 8, 9, 10, 11, 12, 13, 14, 15, 16, 17, 18, 19, 20, 21, 22, 23, 24, 25] (.py 8)) .n)))))) (.c (.ret (.bin .add (.v 1) (.lst (.c (.xvi (.v 0) [0, 1, 2, 3, 4, 5, 6, 7, 8, 9, 10, 11, 12, 13, 14, 15, 16, 17, 18, 19, 20, 21, 22, 23, 24, 25] (.py 9)) (.c (.xvi (.v 0) [0, 1, 2, 3, 4, 5, 6, 7, 8, 9, 10, 11, 12, 13, 14, 15, 16, 17, 18, 19, 20, 21, 22, 23, 24, 25] (.py 10)) (.c (.xvi (.v 0) [0, 1, 2, 3, 4, 5, 6, 7, 8, 9, 10, 11, 12, 13, 14, 15, 16, 17, 18, 19, 20, 21, 22, 23, 24, 25] (.py 11)) .n)))))) .n))) }
/-- _law_kept_right -/
def f586 : Fn := { np := 2, nn := 5, dflt := [], keep := false, body := (.c (.asg (.v 2) (.lc [3] (.v 3) (.e (.lst (.c (.k (.int 0)) (.c (.k (.int 1)) (.c (.k (.int 2)) (.c (.k (.int 3)) (.c (.k (.int 4)) (.c (.k (.int 5)) (.c (.k (.int 6)) (.c (.k (.int 7)) (.c (.k (.int 8)) (.c (.k (.int 9)) (.c (.k (.int 17)) (.c (.k (.int 18)) .n)))))))))))))) (.k (.bl true)) (.xva (.idx (.v 0) (.v 3)) 0))) (.c (.asg (.v 2) (.bin .add (.v 2) (.lc [3] (.v 3) (.e (.lst (.c (.k (.int 10)) (.c (.k (.int 11)) (.c (.k (.int 12)) (.c (.k (.int 13)) (.c (.k (.int 14)) (.c (.k (.int 15)) (.c (.k (.int 16)) (.c (.k (.int 19)) .n)))))))))) (.k (.bl true)) (.xva (.idx (.v 0) (.v 3)) 1)))) (.c (.asg (.v 2) (.bin .add (.v 2) (.lst (.c (.xva (.idx (.v 0) (.k (.int 20))) 2) (.c (.xva (.idx (.v 0) (.k (.int 23))) 3) .n))))) (.c (.asg (.v 4) (.idx (.v 0) (.k (.int 25)))) (.c (.ret (.and (.c (.cmp .eq (.bi .repr (.c (.v 2) .n)) (.bi .repr (.c (.bin .mul (.lst (.c (.v 1) .n)) (.bi .len (.c (.v 2) .n))) .n))) (.c (.cmp .eq (.bi .repr (.c (.lst (.c (.xva (.v 4) 1) (.c (.xva (.v 4) 4) .n))) .n)) (.bi .repr (.c (.lst (.c (.v 1) (.c (.k (.int 7)) .n))) .n))) .n)))) .n))))) }
/-- _law_right -/
def f587 : Fn := { np := 1, nn := 5, dflt := [], keep := false, body := (.c (.for (.v 1) (.e (.cal 583 (.c (.v 0) .n))) (.c (.for (.v 2) (.rng (.c (.bi .len (.c (.v 1) .n)) .n)) (.c (.asg (.v 3) (.lc [4] (.v 4) (.rng (.c (.bi .len (.c (.v 1) .n)) .n)) (.k (.bl true)) (.cmp .eq (.v 4) (.v 2)))) (.c (.ite (.or (.c (.cmp .ne (.cal 584 (.c (.idx (.v 1) (.v 2)) .n)) (.v 3)) (.c (.cmp .ne (.cal 585 (.c (.idx (.v 1) (.v 2)) .n)) (.cal 3 (.c (.v 2) .n))) .n))) (.c (.ret (.k (.bl false))) .n) .n) .n))) (.c (.ite (.not (.cal 586 (.c (.v 1) (.c (.v 0) .n)))) (.c (.ret (.k (.bl false))) .n) .n) .n))) (.c (.ret (.cal 5 (.c (.v 0) .n))) .n)) }
/-- law -/
def f588 : Fn := { np := 1, nn := 5, dflt := [], keep := false, body := (.c (.asg (.v 1) (.lst (.c (.g 0) (.c (.g 1) (.c (.g 2) .n))))) (.c (.ite (.cmp .ne (.v 1) (.lst (.c (.k (.int 8)) (.c (.k (.int 12)) (.c (.k (.int 5)) .n))))) (.c (.ret (.k (.bl false))) .n) .n) (.c (.asg (.v 2) (.bin .add (.lst (.c (.k .non) (.c (.k (.str "a")) (.c (.tup (.c (.k (.int 1)) (.c (.k (.str "x")) .n))) (.c (.k (.bl true)) (.c (.neg (.k (.int 3))) .n)))))) (.lc [3] (.v 3) (.e (.sli (.v 0) .n (.s (.k (.int 3))))) (.k (.bl true)) (.bin .mod (.bi .int (.c (.v 3) .n)) (.bin .pow (.k (.int 10)) (.k (.int 12))))))) (.c (.ret (.cmp .eq (.lc [4] (.v 4) (.e (.v 2)) (.not (.cal 587 (.c (.v 4) .n))) (.v 4)) (.lst .n))) .n)))) }
end DI
end

section
set_option Elab.async false
set_option linter.all false
set_option maxRecDepth 100000
set_option maxHeartbeats 1000000
namespace DI
namespace Wk01
open PySem L2 PySem.Spec PyProof.Rows
def top (i : Nat) : Stmt := PySem.Challenge.pw_markedrings_k01_limits_and_errors.main.body.getD i (.Pass ⟨0, 0, 0, 0⟩)
abbrev s583 : Stmt := top 37
def n583 : List Str := ["_law_thing", "_law_found", "_law_named"]
theorem sc583 : FnScope n583 ["_law_thing"] (defScope s583) := ⟨rfl, rfl, rfl, by decide +kernel, rfl, by decide +kernel, by decide +kernel⟩
abbrev s584 : Stmt := top 34
def n584 : List Str := ["_law_e", "_law_found"]
theorem sc584 : FnScope n584 ["_law_e"] (defScope s584) := ⟨rfl, rfl, rfl, by decide +kernel, rfl, by decide +kernel, by decide +kernel⟩
abbrev s585 : Stmt := top 35
def n585 : List Str := ["_law_e", "_law_found"]
theorem sc585 : FnScope n585 ["_law_e"] (defScope s585) := ⟨rfl, rfl, rfl, by decide +kernel, rfl, by decide +kernel, by decide +kernel⟩
abbrev s3 : Stmt := top 36
def n3 : List Str := ["_law_k", "_law_head", "_law_middle", "_law_end"]
theorem sc3 : FnScope n3 ["_law_k"] (defScope s3) := ⟨rfl, rfl, rfl, by decide +kernel, rfl, by decide +kernel, by decide +kernel⟩
abbrev s586 : Stmt := top 38
def n586 : List Str := ["_law_found", "_law_thing", "_law_some", "_law_k", "_law_last"]
theorem sc586 : FnScope n586 ["_law_found", "_law_thing"] (defScope s586) := ⟨rfl, rfl, rfl, by decide +kernel, rfl, by decide +kernel, by decide +kernel⟩
abbrev s5 : Stmt := top 39
def n5 : List Str := ["_law_thing", "_law_seen", "_law_e"]
theorem sc5 : FnScope n5 ["_law_thing"] (defScope s5) := ⟨rfl, rfl, rfl, by decide +kernel, rfl, by decide +kernel, by decide +kernel⟩
abbrev s587 : Stmt := top 40
def n587 : List Str := ["_law_thing", "_law_found", "_law_k", "_law_due_here", "_law_at"]
theorem sc587 : FnScope n587 ["_law_thing"] (defScope s587) := ⟨rfl, rfl, rfl, by decide +kernel, rfl, by decide +kernel, by decide +kernel⟩
abbrev s588 : Stmt := top 41
def n588 : List Str := ["_law_cells", "_law_limits_here", "_law_things", "_law_cell", "_law_thing"]
theorem sc588 : FnScope n588 ["_law_cells"] (defScope s588) := ⟨rfl, rfl, rfl, by decide +kernel, rfl, by decide +kernel, by decide +kernel⟩
def xi0 : XI := xiOf 0 "InvalidText.__init__" (inClass (top 2) 0)
def xi1 : XI := xiOf 1 "InvalidTie.__init__" (inClass (top 3) 0)
def xi2 : XI := xiOf 2 "InvalidRing.__init__" (inClass (top 4) 0)
def xi3 : XI := xiOf 3 "InvalidNumber.__init__" (inClass (top 5) 0)
def xi4 : XI := xiOf 4 "InvalidName.__init__" (inClass (top 6) 0)
def xi5 : XI := xiOf 5 "InvalidWish.__init__" (inClass (top 7) 0)
def xi6 : XI := xiOf 6 "InvalidClaim.__init__" (inClass (top 8) 0)
def xi7 : XI := xiOf 7 "InvalidPlace.__init__" (inClass (top 9) 0)
def xi8 : XI := xiOf 8 "NotAWeb.__init__" (inClass (top 10) 0)
def xi9 : XI := xiOf 9 "NotNotes.__init__" (inClass (top 11) 0)
def xi10 : XI := xiOf 10 "InvalidPlaces.__init__" (inClass (top 12) 0)
def xi11 : XI := xiOf 11 "InvalidTies.__init__" (inClass (top 13) 0)
def xi12 : XI := xiOf 12 "InvalidMarking.__init__" (inClass (top 14) 0)
def xi13 : XI := xiOf 13 "InvalidForest.__init__" (inClass (top 15) 0)
def xi14 : XI := xiOf 14 "InvalidTold.__init__" (inClass (top 16) 0)
def xi15 : XI := xiOf 15 "InvalidWishes.__init__" (inClass (top 17) 0)
def xi16 : XI := xiOf 16 "InvalidChanges.__init__" (inClass (top 18) 0)
def xi17 : XI := xiOf 17 "UnknownPlace.__init__" (inClass (top 20) 0)
def xi18 : XI := xiOf 18 "UnknownName.__init__" (inClass (top 21) 0)
def xi19 : XI := xiOf 19 "InUse.__init__" (inClass (top 22) 0)
def xi20 : XI := xiOf 20 "Odd.__init__" (inClass (top 24) 0)
def xi23 : XI := xiOf 23 "TooMany.__init__" (inClass (top 27) 0)
def xi25 : XI := xiOf 25 "Broken.__init__" (inClass (top 29) 0)
def T : LawT where
  fns := [(583, f583), (584, f584), (585, f585), (3, f3), (586, f586), (5, f5), (587, f587), (588, f588)]
  lams := []
  cls := [(26, ⟨[26], [6, 13, 14], none, [], [], [], [], false, []⟩), (0, ⟨[0, 26], [6, 13, 14], none, [], [], [], [], false, [0]⟩), (1, ⟨[1, 26], [6, 13, 14], none, [], [], [], [], false, [0]⟩), (2, ⟨[2, 26], [6, 13, 14], none, [], [], [], [], false, [0]⟩), (3, ⟨[3, 26], [6, 13, 14], none, [], [], [], [], false, [0]⟩), (4, ⟨[4, 26], [6, 13, 14], none, [], [], [], [], false, [0]⟩), (5, ⟨[5, 26], [6, 13, 14], none, [], [], [], [], false, [0]⟩), (6, ⟨[6, 26], [6, 13, 14], none, [], [], [], [], false, [0]⟩), (7, ⟨[7, 26], [6, 13, 14], none, [], [], [], [], false, [0]⟩), (8, ⟨[8, 26], [6, 13, 14], none, [], [], [], [], false, [0]⟩), (9, ⟨[9, 26], [6, 13, 14], none, [], [], [], [], false, [0]⟩), (10, ⟨[10, 26], [6, 13, 14], none, [], [], [], [], false, [1]⟩), (11, ⟨[11, 26], [6, 13, 14], none, [], [], [], [], false, [1]⟩), (12, ⟨[12, 26], [6, 13, 14], none, [], [], [], [], false, [1]⟩), (13, ⟨[13, 26], [6, 13, 14], none, [], [], [], [], false, [1]⟩), (14, ⟨[14, 26], [6, 13, 14], none, [], [], [], [], false, [1]⟩), (15, ⟨[15, 26], [6, 13, 14], none, [], [], [], [], false, [1]⟩), (16, ⟨[16, 26], [6, 13, 14], none, [], [], [], [], false, [1]⟩), (27, ⟨[27], [7, 13, 14], none, [], [], [], [], false, []⟩), (17, ⟨[17, 27], [7, 13, 14], none, [], [], [], [], false, [0]⟩), (18, ⟨[18, 27], [7, 13, 14], none, [], [], [], [], false, [0]⟩), (19, ⟨[19, 27], [7, 13, 14], none, [], [], [], [], false, [1]⟩), (28, ⟨[28], [8, 13, 14], none, [], [], [], [], false, []⟩), (20, ⟨[20, 28], [8, 13, 14], none, [], [], [], [], false, [2]⟩), (21, ⟨[21, 28], [8, 13, 14], none, [], [], [], [], false, []⟩), (22, ⟨[22, 28], [8, 13, 14], none, [], [], [], [], false, []⟩), (23, ⟨[23, 28], [8, 13, 14], none, [], [], [], [], false, [3]⟩), (24, ⟨[24, 28], [8, 13, 14], none, [], [], [], [], false, []⟩), (25, ⟨[25, 28], [8, 13, 14], none, [], [], [], [], false, [1, 4]⟩)]
  gls := gls
  pth := [(583, .glo "_law_given"), (584, .glo "_law_sorts"), (585, .glo "_law_bases"), (3, .glo "_law_due"), (586, .glo "_law_kept_right"), (5, .glo "_law_raised_right"), (587, .glo "_law_right"), (588, .glo "law")]
  cnm := ([(26, "NotRight"), (0, "InvalidText"), (1, "InvalidTie"), (2, "InvalidRing"), (3, "InvalidNumber"), (4, "InvalidName"), (5, "InvalidWish"), (6, "InvalidClaim"), (7, "InvalidPlace"), (8, "NotAWeb"), (9, "NotNotes"), (10, "InvalidPlaces"), (11, "InvalidTies"), (12, "InvalidMarking"), (13, "InvalidForest"), (14, "InvalidTold"), (15, "InvalidWishes"), (16, "InvalidChanges"), (27, "NotThere"), (17, "UnknownPlace"), (18, "UnknownName"), (19, "InUse"), (28, "CannotBe"), (20, "Odd"), (21, "Impossible")] : List (Nat × Str)) ++ ([(22, "OtherPlaces"), (23, "TooMany"), (24, "NothingToUndo"), (25, "Broken")] : List (Nat × Str))
  ann := (["given", "index", "ring", "most", "shown", "spots", "knots", "sides", "places", "ties", "has_tie", "with_tie", "without_tie", "without", "near", "chain", "web", "marking", "changes", "sign"] : List Str) ++ (["become", "put", "strike", "turn", "close", "undo", "ground", "pairs", "told", "with_mark", "state", "table", "claims", "remove", "claim", "lift", "names", "desk", "ask", "carry"] : List Str) ++ (["respond", "respond_or_fault", "say"] : List Str)
  forms := [(583, [((1, []), [])]), (584, [((1, []), [])]), (585, [((1, []), [])]), (3, [((1, []), [])]), (586, [((2, []), [])]), (5, [((1, []), [])]), (587, [((1, []), [])]), (588, [((1, []), [])])]
  isc := []
  gnm := [("MOST_CHANGES", 2), ("MOST_PLACES", 0), ("MOST_TIES", 1)]
  free := ["ArithmeticError", "IndexError", "KeyError", "LookupError", "ValueError", "ZeroDivisionError", "int", "isinstance", "len", "range", "repr", "super"]
  cms := []
  exs := true
  mks := []
  thk := []
  xis := [xi0, xi1, xi2, xi3, xi4, xi5, xi6, xi7, xi8, xi9, xi10, xi11, xi12, xi13, xi14, xi15, xi16, xi17, xi18, xi19, xi20, xi23, xi25]
  xns := [21, 22, 24]
  xts := [26, 27, 28]
  xcs := [0, 1, 2, 3, 4, 5, 6, 7, 8, 9, 10, 11, 12, 13, 14, 15, 16, 17, 18, 19, 20, 21, 22, 23, 24, 25]
  xit := [(.own 0), (.own 1), (.own 10), (.own 11), (.own 12), (.own 13), (.own 14), (.own 15), (.own 16), (.own 17), (.own 18), (.own 19), (.own 2), (.own 20), (.own 21), (.own 22), (.own 23), (.own 24), (.own 25), (.own 26), (.own 27), (.own 28), (.own 3), (.own 4), (.own 5), (.own 6), (.own 7), (.own 8), (.own 9), (.py 10), (.py 11), (.py 6), (.py 7), (.py 8), (.py 9)]
  file := (PySem.Challenge.pw_markedrings_k01_limits_and_errors.main.file : Str)
section
variable {P : Program} {w : World} {K : PySem.W.Frag} {mg : Str → Option Value} {base : Heap} {n : Nat}
def OwA : Prop := ∀ (n : Nat) (Y : Cx), Own (T.tab Y.K) n Y → Good T Y.K Y.mg → OwnAll (T.tab Y.K) n Y
theorem spOk : SpForm (T.tab K) := sp_form (by decide +kernel)
def XiA (P : Program) (K : PySem.W.Frag) : Prop := ∀ x ∈ T.xis, XIni P K ((T.tab K).ca x.c) (x.at_ T K) x.fs
theorem xt0 : xi0.Txt := ⟨fun _ _ _ _ => ⟨_, rfl⟩, fun _ _ _ _ _ _ us h => match us, h with | [_, _], _ => rfl⟩
theorem xt1 : xi1.Txt := ⟨fun _ _ _ _ => ⟨_, rfl⟩, fun _ _ _ _ _ _ us h => match us, h with | [_, _], _ => rfl⟩
theorem xt2 : xi2.Txt := ⟨fun _ _ _ _ => ⟨_, rfl⟩, fun _ _ _ _ _ _ us h => match us, h with | [_, _], _ => rfl⟩
theorem xt3 : xi3.Txt := ⟨fun _ _ _ _ => ⟨_, rfl⟩, fun _ _ _ _ _ _ us h => match us, h with | [_, _], _ => rfl⟩
theorem xt4 : xi4.Txt := ⟨fun _ _ _ _ => ⟨_, rfl⟩, fun _ _ _ _ _ _ us h => match us, h with | [_, _], _ => rfl⟩
theorem xt5 : xi5.Txt := ⟨fun _ _ _ _ => ⟨_, rfl⟩, fun _ _ _ _ _ _ us h => match us, h with | [_, _], _ => rfl⟩
theorem xt6 : xi6.Txt := ⟨fun _ _ _ _ => ⟨_, rfl⟩, fun _ _ _ _ _ _ us h => match us, h with | [_, _], _ => rfl⟩
theorem xt7 : xi7.Txt := ⟨fun _ _ _ _ => ⟨_, rfl⟩, fun _ _ _ _ _ _ us h => match us, h with | [_, _], _ => rfl⟩
theorem xt8 : xi8.Txt := ⟨fun _ _ _ _ => ⟨_, rfl⟩, fun _ _ _ _ _ _ us h => match us, h with | [_, _], _ => rfl⟩
theorem xt9 : xi9.Txt := ⟨fun _ _ _ _ => ⟨_, rfl⟩, fun _ _ _ _ _ _ us h => match us, h with | [_, _], _ => rfl⟩
theorem xt10 : xi10.Txt := ⟨fun _ _ _ _ => ⟨_, rfl⟩, fun _ _ _ _ _ _ us h => match us, h with | [_, _], _ => rfl⟩
theorem xt11 : xi11.Txt := ⟨fun _ _ _ _ => ⟨_, rfl⟩, fun _ _ _ _ _ _ us h => match us, h with | [_, _], _ => rfl⟩
theorem xt12 : xi12.Txt := ⟨fun _ _ _ _ => ⟨_, rfl⟩, fun _ _ _ _ _ _ us h => match us, h with | [_, _], _ => rfl⟩
theorem xt13 : xi13.Txt := ⟨fun _ _ _ _ => ⟨_, rfl⟩, fun _ _ _ _ _ _ us h => match us, h with | [_, _], _ => rfl⟩
theorem xt14 : xi14.Txt := ⟨fun _ _ _ _ => ⟨_, rfl⟩, fun _ _ _ _ _ _ us h => match us, h with | [_, _], _ => rfl⟩
theorem xt15 : xi15.Txt := ⟨fun _ _ _ _ => ⟨_, rfl⟩, fun _ _ _ _ _ _ us h => match us, h with | [_, _], _ => rfl⟩
theorem xt16 : xi16.Txt := ⟨fun _ _ _ _ => ⟨_, rfl⟩, fun _ _ _ _ _ _ us h => match us, h with | [_, _], _ => rfl⟩
theorem xt17 : xi17.Txt := ⟨fun _ _ _ _ => ⟨_, rfl⟩, fun _ _ _ _ _ _ us h => match us, h with | [_, _], _ => rfl⟩
theorem xt18 : xi18.Txt := ⟨fun _ _ _ _ => ⟨_, rfl⟩, fun _ _ _ _ _ _ us h => match us, h with | [_, _], _ => rfl⟩
theorem xt19 : xi19.Txt := ⟨fun _ _ _ _ => ⟨_, rfl⟩, fun _ _ _ _ _ _ us h => match us, h with | [_, _], _ => rfl⟩
theorem xt20 : xi20.Txt := ⟨fun _ _ _ _ => ⟨_, rfl⟩, fun _ _ _ _ _ _ us h => match us, h with | [_, _], _ => rfl⟩
theorem xt23 : xi23.Txt := ⟨fun _ _ _ _ => ⟨_, rfl⟩, fun _ _ _ _ _ _ us h => match us, h with | [_, _], _ => rfl⟩
theorem xt25 : xi25.Txt := ⟨fun _ _ _ _ => ⟨_, rfl⟩, fun _ _ _ _ _ _ us h => match us, h with | [_, _, _], _ => rfl⟩
theorem xtA : ∀ x ∈ T.xis, x.Txt := List.forall_mem_cons.mpr ⟨xt0, List.forall_mem_cons.mpr ⟨xt1, List.forall_mem_cons.mpr ⟨xt2, List.forall_mem_cons.mpr ⟨xt3, List.forall_mem_cons.mpr ⟨xt4, List.forall_mem_cons.mpr ⟨xt5, List.forall_mem_cons.mpr ⟨xt6, List.forall_mem_cons.mpr ⟨xt7, List.forall_mem_cons.mpr ⟨xt8, List.forall_mem_cons.mpr ⟨xt9, List.forall_mem_cons.mpr ⟨xt10, List.forall_mem_cons.mpr ⟨xt11, List.forall_mem_cons.mpr ⟨xt12, List.forall_mem_cons.mpr ⟨xt13, List.forall_mem_cons.mpr ⟨xt14, List.forall_mem_cons.mpr ⟨xt15, List.forall_mem_cons.mpr ⟨xt16, List.forall_mem_cons.mpr ⟨xt17, List.forall_mem_cons.mpr ⟨xt18, List.forall_mem_cons.mpr ⟨xt19, List.forall_mem_cons.mpr ⟨xt20, List.forall_mem_cons.mpr ⟨xt23, List.forall_mem_cons.mpr ⟨xt25, fun _ h => nomatch h⟩⟩⟩⟩⟩⟩⟩⟩⟩⟩⟩⟩⟩⟩⟩⟩⟩⟩⟩⟩⟩⟩⟩
/-- _law_given -/
theorem b583 (G : Good T K mg) (ow : OwA) (xi : XiA P K) : BodyOk (T.tab K) P w K mg base n n583 "_law_given" (defScope s583) ((T.tab K).fa 583) (defBody s583) f583.body := by
  intro A outer s H E W O tk
  have B : Bd T n (cxOf (L2N.CX P w) P w K mg base n583 "_law_given" (defScope s583) ((T.tab K).fa 583) (cdOf K ((T.tab K).fa 583)) A outer s H E) W := Bd.of O G spOk (fun n Y => ow n Y) tk xi
  have nd := sc583.nd
  exact (sss_cons (set_ 1 nd (lst_ (c_ (xvn1_ B 0 0 0 (v_ 0)) (c_ (xvn1_ B 1 1 0 (v_ 0)) (c_ (xvn1_ B 2 2 0 (v_ 0)) (c_ (xvn1_ B 3 3 0 (v_ 0)) sa_nil))))).se)
  (sss_cons (set_ 1 nd (sf_bin .add (v_ 1) (lst_ (c_ (xvn1_ B 4 4 0 (v_ 0)) (c_ (xvn1_ B 5 5 0 (v_ 0)) (c_ (xvn1_ B 6 6 0 (v_ 0)) (c_ (xvn1_ B 7 7 0 (v_ 0)) sa_nil))))).se).se)
  (sss_cons (set_ 1 nd (sf_bin .add (v_ 1) (lst_ (c_ (xvn1_ B 8 8 0 (v_ 0)) (c_ (xvn1_ B 9 9 0 (v_ 0)) (c_ (xvn1_ B 10 10 1 (v_ 0)) (c_ (xvn1_ B 11 11 1 (v_ 0)) sa_nil))))).se).se)
  (sss_cons (set_ 1 nd (sf_bin .add (v_ 1) (lst_ (c_ (xvn1_ B 12 12 1 (v_ 0)) (c_ (xvn1_ B 13 13 1 (v_ 0)) (c_ (xvn1_ B 14 14 1 (v_ 0)) (c_ (xvn1_ B 15 15 1 (v_ 0)) sa_nil))))).se).se)
  (sss_cons (set_ 1 nd (sf_bin .add (v_ 1) (lst_ (c_ (xvn1_ B 16 16 1 (v_ 0)) (c_ (xvn1_ B 17 17 0 (v_ 0)) (c_ (xvn1_ B 18 18 0 (v_ 0)) (c_ (xvn1_ B 19 19 1 (v_ 0)) (c_ (xvn1_ B 20 20 2 (v_ 0)) sa_nil)))))).se).se)
  (sss_cons (set_ 1 nd (sf_bin .add (v_ 1) (lst_ (c_ (xvn0_ B 21) (c_ (xvn0_ B 22) (c_ (xvn1_ B 21 23 3 (v_ 0)) (c_ (xvn0_ B 24) (c_ (xvn2_ B 22 25 1 4 (v_ 0) se_int) sa_nil)))))).se).se)
  (sss_cons (set_ 2 nd (lst_ (c_ (xvk1_ B 0 0 0 (v_ 0)) (c_ (xvk1_ B 1 1 0 (v_ 0)) (c_ (xvk1_ B 2 2 0 (v_ 0)) sa_nil)))).se)
  (sss_cons (set_ 2 nd (sf_bin .add (v_ 2) (lst_ (c_ (xvk1_ B 3 3 0 (v_ 0)) (c_ (xvk1_ B 4 4 0 (v_ 0)) (c_ (xvk1_ B 5 5 0 (v_ 0)) sa_nil)))).se).se)
  (sss_cons (set_ 2 nd (sf_bin .add (v_ 2) (lst_ (c_ (xvk1_ B 6 6 0 (v_ 0)) (c_ (xvk1_ B 7 7 0 (v_ 0)) (c_ (xvk1_ B 8 8 0 (v_ 0)) sa_nil)))).se).se)
  (sss_cons (set_ 2 nd (sf_bin .add (v_ 2) (lst_ (c_ (xvk1_ B 9 9 0 (v_ 0)) (c_ (xvk1_ B 10 10 1 (v_ 0)) (c_ (xvk1_ B 11 11 1 (v_ 0)) sa_nil)))).se).se)
  (sss_cons (set_ 2 nd (sf_bin .add (v_ 2) (lst_ (c_ (xvk1_ B 12 12 1 (v_ 0)) (c_ (xvk1_ B 13 13 1 (v_ 0)) (c_ (xvk1_ B 14 14 1 (v_ 0)) sa_nil)))).se).se)
  (sss_cons (set_ 2 nd (sf_bin .add (v_ 2) (lst_ (c_ (xvk1_ B 15 15 1 (v_ 0)) (c_ (xvk1_ B 16 16 1 (v_ 0)) (c_ (xvk1_ B 17 17 0 (v_ 0)) sa_nil)))).se).se)
  (sss_cons (set_ 2 nd (sf_bin .add (v_ 2) (lst_ (c_ (xvk1_ B 18 18 0 (v_ 0)) (c_ (xvk1_ B 19 19 1 (v_ 0)) (c_ (xvk1_ B 20 20 2 (v_ 0)) (c_ (xvn0_ B 21) sa_nil))))).se).se)
  (sss_cons (set_ 2 nd (sf_bin .add (v_ 2) (lst_ (c_ (xvn0_ B 22) (c_ (xvk1_ B 21 23 3 (v_ 0)) (c_ (xvn0_ B 24) (c_ (xvk2_ B 22 25 1 4 se_int (v_ 0)) sa_nil))))).se).se)
  (sss_cons (ss_ret (lst_ (c_ (v_ 1) (c_ (v_ 2) sa_nil))).se)
  sss_nil)))))))))))))))
/-- _law_sorts -/
theorem b584 (G : Good T K mg) (ow : OwA) (xi : XiA P K) : BodyOk (T.tab K) P w K mg base n n584 "_law_sorts" (defScope s584) ((T.tab K).fa 584) (defBody s584) f584.body := by
  intro A outer s H E W O tk
  have B : Bd T n (cxOf (L2N.CX P w) P w K mg base n584 "_law_sorts" (defScope s584) ((T.tab K).fa 584) (cdOf K ((T.tab K).fa 584)) A outer s H E) W := Bd.of O G spOk (fun n Y => ow n Y) tk xi
  have nd := sc584.nd
  exact (sss_cons (set_ 1 nd (lst_ (c_ (xvi_ B [0, 1, 2, 3, 4, 5, 6, 7, 8, 9, 10, 11, 12, 13, 14, 15, 16, 17, 18, 19, 20, 21, 22, 23, 24, 25] (sxo_ B.g 0) (v_ 0)) (c_ (xvi_ B [0, 1, 2, 3, 4, 5, 6, 7, 8, 9, 10, 11, 12, 13, 14, 15, 16, 17, 18, 19, 20, 21, 22, 23, 24, 25] (sxo_ B.g 1) (v_ 0)) (c_ (xvi_ B [0, 1, 2, 3, 4, 5, 6, 7, 8, 9, 10, 11, 12, 13, 14, 15, 16, 17, 18, 19, 20, 21, 22, 23, 24, 25] (sxo_ B.g 2) (v_ 0)) sa_nil)))).se)
  (sss_cons (set_ 1 nd (sf_bin .add (v_ 1) (lst_ (c_ (xvi_ B [0, 1, 2, 3, 4, 5, 6, 7, 8, 9, 10, 11, 12, 13, 14, 15, 16, 17, 18, 19, 20, 21, 22, 23, 24, 25] (sxo_ B.g 3) (v_ 0)) (c_ (xvi_ B [0, 1, 2, 3, 4, 5, 6, 7, 8, 9, 10, 11, 12, 13, 14, 15, 16, 17, 18, 19, 20, 21, 22, 23, 24, 25] (sxo_ B.g 4) (v_ 0)) (c_ (xvi_ B [0, 1, 2, 3, 4, 5, 6, 7, 8, 9, 10, 11, 12, 13, 14, 15, 16, 17, 18, 19, 20, 21, 22, 23, 24, 25] (sxo_ B.g 5) (v_ 0)) sa_nil)))).se).se)
  (sss_cons (set_ 1 nd (sf_bin .add (v_ 1) (lst_ (c_ (xvi_ B [0, 1, 2, 3, 4, 5, 6, 7, 8, 9, 10, 11, 12, 13, 14, 15, 16, 17, 18, 19, 20, 21, 22, 23, 24, 25] (sxo_ B.g 6) (v_ 0)) (c_ (xvi_ B [0, 1, 2, 3, 4, 5, 6, 7, 8, 9, 10, 11, 12, 13, 14, 15, 16, 17, 18, 19, 20, 21, 22, 23, 24, 25] (sxo_ B.g 7) (v_ 0)) (c_ (xvi_ B [0, 1, 2, 3, 4, 5, 6, 7, 8, 9, 10, 11, 12, 13, 14, 15, 16, 17, 18, 19, 20, 21, 22, 23, 24, 25] (sxo_ B.g 8) (v_ 0)) sa_nil)))).se).se)
  (sss_cons (set_ 1 nd (sf_bin .add (v_ 1) (lst_ (c_ (xvi_ B [0, 1, 2, 3, 4, 5, 6, 7, 8, 9, 10, 11, 12, 13, 14, 15, 16, 17, 18, 19, 20, 21, 22, 23, 24, 25] (sxo_ B.g 9) (v_ 0)) (c_ (xvi_ B [0, 1, 2, 3, 4, 5, 6, 7, 8, 9, 10, 11, 12, 13, 14, 15, 16, 17, 18, 19, 20, 21, 22, 23, 24, 25] (sxo_ B.g 10) (v_ 0)) (c_ (xvi_ B [0, 1, 2, 3, 4, 5, 6, 7, 8, 9, 10, 11, 12, 13, 14, 15, 16, 17, 18, 19, 20, 21, 22, 23, 24, 25] (sxo_ B.g 11) (v_ 0)) sa_nil)))).se).se)
  (sss_cons (set_ 1 nd (sf_bin .add (v_ 1) (lst_ (c_ (xvi_ B [0, 1, 2, 3, 4, 5, 6, 7, 8, 9, 10, 11, 12, 13, 14, 15, 16, 17, 18, 19, 20, 21, 22, 23, 24, 25] (sxo_ B.g 12) (v_ 0)) (c_ (xvi_ B [0, 1, 2, 3, 4, 5, 6, 7, 8, 9, 10, 11, 12, 13, 14, 15, 16, 17, 18, 19, 20, 21, 22, 23, 24, 25] (sxo_ B.g 13) (v_ 0)) (c_ (xvi_ B [0, 1, 2, 3, 4, 5, 6, 7, 8, 9, 10, 11, 12, 13, 14, 15, 16, 17, 18, 19, 20, 21, 22, 23, 24, 25] (sxo_ B.g 14) (v_ 0)) sa_nil)))).se).se)
  (sss_cons (set_ 1 nd (sf_bin .add (v_ 1) (lst_ (c_ (xvi_ B [0, 1, 2, 3, 4, 5, 6, 7, 8, 9, 10, 11, 12, 13, 14, 15, 16, 17, 18, 19, 20, 21, 22, 23, 24, 25] (sxo_ B.g 15) (v_ 0)) (c_ (xvi_ B [0, 1, 2, 3, 4, 5, 6, 7, 8, 9, 10, 11, 12, 13, 14, 15, 16, 17, 18, 19, 20, 21, 22, 23, 24, 25] (sxo_ B.g 16) (v_ 0)) (c_ (xvi_ B [0, 1, 2, 3, 4, 5, 6, 7, 8, 9, 10, 11, 12, 13, 14, 15, 16, 17, 18, 19, 20, 21, 22, 23, 24, 25] (sxo_ B.g 17) (v_ 0)) sa_nil)))).se).se)
  (sss_cons (set_ 1 nd (sf_bin .add (v_ 1) (lst_ (c_ (xvi_ B [0, 1, 2, 3, 4, 5, 6, 7, 8, 9, 10, 11, 12, 13, 14, 15, 16, 17, 18, 19, 20, 21, 22, 23, 24, 25] (sxo_ B.g 18) (v_ 0)) (c_ (xvi_ B [0, 1, 2, 3, 4, 5, 6, 7, 8, 9, 10, 11, 12, 13, 14, 15, 16, 17, 18, 19, 20, 21, 22, 23, 24, 25] (sxo_ B.g 19) (v_ 0)) (c_ (xvi_ B [0, 1, 2, 3, 4, 5, 6, 7, 8, 9, 10, 11, 12, 13, 14, 15, 16, 17, 18, 19, 20, 21, 22, 23, 24, 25] (sxo_ B.g 20) (v_ 0)) sa_nil)))).se).se)
  (sss_cons (set_ 1 nd (sf_bin .add (v_ 1) (lst_ (c_ (xvi_ B [0, 1, 2, 3, 4, 5, 6, 7, 8, 9, 10, 11, 12, 13, 14, 15, 16, 17, 18, 19, 20, 21, 22, 23, 24, 25] (sxo_ B.g 21) (v_ 0)) (c_ (xvi_ B [0, 1, 2, 3, 4, 5, 6, 7, 8, 9, 10, 11, 12, 13, 14, 15, 16, 17, 18, 19, 20, 21, 22, 23, 24, 25] (sxo_ B.g 22) (v_ 0)) (c_ (xvi_ B [0, 1, 2, 3, 4, 5, 6, 7, 8, 9, 10, 11, 12, 13, 14, 15, 16, 17, 18, 19, 20, 21, 22, 23, 24, 25] (sxo_ B.g 23) (v_ 0)) sa_nil)))).se).se)
  (sss_cons (set_ 1 nd (sf_bin .add (v_ 1) (lst_ (c_ (xvi_ B [0, 1, 2, 3, 4, 5, 6, 7, 8, 9, 10, 11, 12, 13, 14, 15, 16, 17, 18, 19, 20, 21, 22, 23, 24, 25] (sxo_ B.g 24) (v_ 0)) (c_ (xvi_ B [0, 1, 2, 3, 4, 5, 6, 7, 8, 9, 10, 11, 12, 13, 14, 15, 16, 17, 18, 19, 20, 21, 22, 23, 24, 25] (sxo_ B.g 25) (v_ 0)) sa_nil))).se).se)
  (sss_cons (ss_ret (v_ 1))
  sss_nil))))))))))
/-- _law_bases -/
theorem b585 (G : Good T K mg) (ow : OwA) (xi : XiA P K) : BodyOk (T.tab K) P w K mg base n n585 "_law_bases" (defScope s585) ((T.tab K).fa 585) (defBody s585) f585.body := by
  intro A outer s H E W O tk
  have B : Bd T n (cxOf (L2N.CX P w) P w K mg base n585 "_law_bases" (defScope s585) ((T.tab K).fa 585) (cdOf K ((T.tab K).fa 585)) A outer s H E) W := Bd.of O G spOk (fun n Y => ow n Y) tk xi
  have nd := sc585.nd
  exact (sss_cons (set_ 1 nd (lst_ (c_ (xvi_ B [0, 1, 2, 3, 4, 5, 6, 7, 8, 9, 10, 11, 12, 13, 14, 15, 16, 17, 18, 19, 20, 21, 22, 23, 24, 25] (sxo_ B.g 26) (v_ 0)) (c_ (xvi_ B [0, 1, 2, 3, 4, 5, 6, 7, 8, 9, 10, 11, 12, 13, 14, 15, 16, 17, 18, 19, 20, 21, 22, 23, 24, 25] (sxo_ B.g 27) (v_ 0)) (c_ (xvi_ B [0, 1, 2, 3, 4, 5, 6, 7, 8, 9, 10, 11, 12, 13, 14, 15, 16, 17, 18, 19, 20, 21, 22, 23, 24, 25] (sxo_ B.g 28) (v_ 0)) sa_nil)))).se)
  (sss_cons (set_ 1 nd (sf_bin .add (v_ 1) (lst_ (c_ (xvi_ B [0, 1, 2, 3, 4, 5, 6, 7, 8, 9, 10, 11, 12, 13, 14, 15, 16, 17, 18, 19, 20, 21, 22, 23, 24, 25] (sxp_ B.g 6) (v_ 0)) (c_ (xvi_ B [0, 1, 2, 3, 4, 5, 6, 7, 8, 9, 10, 11, 12, 13, 14, 15, 16, 17, 18, 19, 20, 21, 22, 23, 24, 25] (sxp_ B.g 7) (v_ 0)) (c_ (xvi_ B [0, 1, 2, 3, 4, 5, 6, 7, 8, 9, 10, 11, 12, 13, 14, 15, 16, 17, 18, 19, 20, 21, 22, 23, 24, 25] (sxp_ B.g 8) (v_ 0)) sa_nil)))).se).se)
  (sss_cons (ss_ret (sf_bin .add (v_ 1) (lst_ (c_ (xvi_ B [0, 1, 2, 3, 4, 5, 6, 7, 8, 9, 10, 11, 12, 13, 14, 15, 16, 17, 18, 19, 20, 21, 22, 23, 24, 25] (sxp_ B.g 9) (v_ 0)) (c_ (xvi_ B [0, 1, 2, 3, 4, 5, 6, 7, 8, 9, 10, 11, 12, 13, 14, 15, 16, 17, 18, 19, 20, 21, 22, 23, 24, 25] (sxp_ B.g 10) (v_ 0)) (c_ (xvi_ B [0, 1, 2, 3, 4, 5, 6, 7, 8, 9, 10, 11, 12, 13, 14, 15, 16, 17, 18, 19, 20, 21, 22, 23, 24, 25] (sxp_ B.g 11) (v_ 0)) sa_nil)))).se).se)
  sss_nil)))
/-- _law_due -/
theorem b3 (G : Good T K mg) (ow : OwA) (xi : XiA P K) : BodyOk (T.tab K) P w K mg base n n3 "_law_due" (defScope s3) ((T.tab K).fa 3) (defBody s3) f3.body := by
  intro A outer s H E W O tk
  have B : Bd T n (cxOf (L2N.CX P w) P w K mg base n3 "_law_due" (defScope s3) ((T.tab K).fa 3) (cdOf K ((T.tab K).fa 3)) A outer s H E) W := Bd.of O G spOk (fun n Y => ow n Y) tk xi
  have nd := sc3.nd
  exact (sss_cons (par2_ B 1 2 nd (c_ (cmp_ B .lt (v_ 0) se_int) (c_ (cmp2_ B .lt .lt se_int (v_ 0) se_int) sa_nil)))
  (sss_cons (set_ 3 nd (se_and (sv_and (se_not (v_ 1)) (sva1_ (se_not (v_ 2))))))
  (sss_cons (ss_ret (sf_bin .add (sf_bin .mul (lst_ (c_ (v_ 1) (c_ (v_ 2) (c_ (v_ 3) sa_nil)))).se se_int).se (sf_bin .mul (lst_ (c_ se_bl sa_nil)).se se_int).se).se)
  sss_nil)))
/-- _law_kept_right -/
theorem b586 (G : Good T K mg) (ow : OwA) (xi : XiA P K) : BodyOk (T.tab K) P w K mg base n n586 "_law_kept_right" (defScope s586) ((T.tab K).fa 586) (defBody s586) f586.body := by
  intro A outer s H E W O tk
  have B : Bd T n (cxOf (L2N.CX P w) P w K mg base n586 "_law_kept_right" (defScope s586) ((T.tab K).fa 586) (cdOf K ((T.tab K).fa 586)) A outer s H E) W := Bd.of O G spOk (fun n Y => ow n Y) tk xi
  have nd := sc586.nd
  exact (sss_cons (slc_ B 2 [("_law_k", 3)] n586 (defScope s586) nd (si_seq (lst_ (c_ se_int (c_ se_int (c_ se_int (c_ se_int (c_ se_int (c_ se_int (c_ se_int (c_ se_int (c_ se_int (c_ se_int (c_ se_int (c_ se_int sa_nil))))))))))))).se) (fun _ _ _ _ _ => (gv_ 3 nd)) (fun _ _ _ _ _ => sps_nil) (fun _ _ _ _ _ => (xva_ (Bd.blk B) 0 (idx_ (Bd.blk B) (v_ 0) (v_ 3)))))
  (sss_cons (set_ 2 nd (sf_bin .add (v_ 2) (lc_ B [("_law_k", 3)] n586 (defScope s586) nd (si_seq (lst_ (c_ se_int (c_ se_int (c_ se_int (c_ se_int (c_ se_int (c_ se_int (c_ se_int (c_ se_int sa_nil))))))))).se) (fun _ _ _ _ _ => (gv_ 3 nd)) (fun _ _ _ _ _ => sps_nil) (fun _ _ _ _ _ => (xva_ (Bd.blk B) 1 (idx_ (Bd.blk B) (v_ 0) (v_ 3))))).se).se)
  (sss_cons (set_ 2 nd (sf_bin .add (v_ 2) (lst_ (c_ (xva_ B 2 (idx_ B (v_ 0) se_int)) (c_ (xva_ B 3 (idx_ B (v_ 0) se_int)) sa_nil))).se).se)
  (sss_cons (set_ 4 nd (idx_ B (v_ 0) se_int))
  (sss_cons (ss_ret (se_and (sv_and (cmp_ B .eq (b_fn B .repr (cb_repr B.O B.sf B.rp) (v_ 2)).se (b_fn B .repr (cb_repr B.O B.sf B.rp) (sf_bin .mul (lst_ (c_ (v_ 1) sa_nil)).se (b_len B (v_ 2)).se).se).se) (sva1_ (cmp_ B .eq (b_fn B .repr (cb_repr B.O B.sf B.rp) (lst_ (c_ (xva_ B 1 (v_ 4)) (c_ (xva_ B 4 (v_ 4)) sa_nil))).se).se (b_fn B .repr (cb_repr B.O B.sf B.rp) (lst_ (c_ (v_ 1) (c_ se_int sa_nil))).se).se)))))
  sss_nil)))))
/-- _law_raised_right -/
theorem b5 (G : Good T K mg) (ow : OwA) (xi : XiA P K) : BodyOk (T.tab K) P w K mg base n n5 "_law_raised_right" (defScope s5) ((T.tab K).fa 5) (defBody s5) f5.body := by
  intro A outer s H E W O tk
  have B : Bd T n (cxOf (L2N.CX P w) P w K mg base n5 "_law_raised_right" (defScope s5) ((T.tab K).fa 5) (cdOf K ((T.tab K).fa 5)) A outer s H E) W := Bd.of O G spOk (fun n Y => ow n Y) tk xi
  have nd := sc5.nd
  exact (sss_cons (set_ 1 nd (se_lay (lst_ sa_nil)))
  (sss_cons (ss_try B.O.nex rfl rfl nd B.tk (fun W' pn xe tk' po' => (sss_cons (rai1_ (Bd.tr B tk' po') 0 0 0 (v_ 0))
  sss_nil))
  (HdsS.consAs (i := 2) rfl rfl (.one (nm_ B.g 26)) (tysN_ B.g [26]) (fun a oe cls d pn hz hf => (sss_cons (ex_ (SF.se (bm_ .append tyOf_append PySem.F.plainAttrs_list PySem.F.slot_list_append PySem.F.type_list_append bm_append (v_ 1) (c_ (SF.se (reprXD_ G (B.O.room.mono (show 5 ≤ 3 * n + 8 + 2 by omega)) (B.O.gd rfl) hz hf (xat_ B.O.tab hz hf 2 0))) sa_nil))))
  sss_nil))
  HdsS.nil))
  (sss_cons (ss_try B.O.nex rfl rfl nd B.tk (fun W' pn xe tk' po' => (sss_cons (rai1_ (Bd.tr B tk' po') 18 18 0 (v_ 0))
  sss_nil))
  (HdsS.consAs (i := 2) rfl rfl (.one (nm_ B.g 27)) (tysN_ B.g [27]) (fun a oe cls d pn hz hf => (sss_cons (ex_ (SF.se (bm_ .append tyOf_append PySem.F.plainAttrs_list PySem.F.slot_list_append PySem.F.type_list_append bm_append (v_ 1) (c_ (SF.se (reprXD_ G (B.O.room.mono (show 5 ≤ 3 * n + 8 + 2 by omega)) (B.O.gd rfl) hz hf (xat_ B.O.tab hz hf 2 0))) sa_nil))))
  sss_nil))
  HdsS.nil))
  (sss_cons (ss_try B.O.nex rfl rfl nd B.tk (fun W' pn xe tk' po' => (sss_cons (rai2_ (Bd.tr B tk' po') 22 25 1 4 (v_ 0) se_int)
  sss_nil))
  (HdsS.consAs (i := 2) rfl rfl (.one (nm_ B.g 28)) (tysN_ B.g [28]) (fun a oe cls d pn hz hf => (sss_cons (ex_ (SF.se (bm_ .append tyOf_append PySem.F.plainAttrs_list PySem.F.slot_list_append PySem.F.type_list_append bm_append (v_ 1) (c_ (SF.se (reprXD_ G (B.O.room.mono (show 5 ≤ 3 * n + 8 + 2 by omega)) (B.O.gd rfl) hz hf (xat_ B.O.tab hz hf 2 1))) sa_nil))))
  sss_nil))
  HdsS.nil))
  (sss_cons (ss_ret (cmp_ B .eq (v_ 1) (sf_bin .mul (lst_ (c_ (b_fn B .repr (cb_repr B.O B.sf B.rp) (v_ 0)).se sa_nil)).se se_int).se))
  sss_nil)))))
/-- _law_right -/
theorem b587 (G : Good T K mg) (ow : OwA) (xi : XiA P K) : BodyOk (T.tab K) P w K mg base n n587 "_law_right" (defScope s587) ((T.tab K).fa 587) (defBody s587) f587.body := by
  intro A outer s H E W O tk
  have B : Bd T n (cxOf (L2N.CX P w) P w K mg base n587 "_law_right" (defScope s587) ((T.tab K).fa 587) (cdOf K ((T.tab K).fa 587)) A outer s H E) W := Bd.of O G spOk (fun n Y => ow n Y) tk xi
  have nd := sc587.nd
  exact (sss_cons (for_ B (si_seq (cal_ B 583 (c_ (v_ 0) sa_nil))) (gv_ 1 nd) (sss_cons (for_ B (r1_ B (c_ (b_len B (v_ 1)).se sa_nil)) (gv_ 2 nd) (sss_cons (slc_ B 3 [("_law_at", 4)] n587 (defScope s587) nd (r1_ B (c_ (b_len B (v_ 1)).se sa_nil)) (fun _ _ _ _ _ => (gv_ 4 nd)) (fun _ _ _ _ _ => sps_nil) (fun _ _ _ _ _ => (cmp_ (Bd.blk B) .eq (v_ 4) (v_ 2))))
  (sss_cons (ss_if (st_or (sw_or (tcmp_ B .ne (cal_ B 584 (c_ (idx_ B (v_ 1) (v_ 2)) sa_nil)) (v_ 3)) (sw_or1 (tcmp_ B .ne (cal_ B 585 (c_ (idx_ B (v_ 1) (v_ 2)) sa_nil)) (cal_ B 3 (c_ (v_ 2) sa_nil)))))) (sss_cons (ss_ret se_bl)
  sss_nil) sss_nil)
  sss_nil)))
  (sss_cons (ss_if (st_not (tv_ (cal_ B 586 (c_ (v_ 1) (c_ (v_ 0) sa_nil))))) (sss_cons (ss_ret se_bl)
  sss_nil) sss_nil)
  sss_nil)))
  (sss_cons (ss_ret (cal_ B 5 (c_ (v_ 0) sa_nil)))
  sss_nil))
/-- law -/
theorem b588 (G : Good T K mg) (ow : OwA) (xi : XiA P K) : BodyOk (T.tab K) P w K mg base n n588 "law" (defScope s588) ((T.tab K).fa 588) (defBody s588) f588.body := by
  intro A outer s H E W O tk
  have B : Bd T n (cxOf (L2N.CX P w) P w K mg base n588 "law" (defScope s588) ((T.tab K).fa 588) (cdOf K ((T.tab K).fa 588)) A outer s H E) W := Bd.of O G spOk (fun n Y => ow n Y) tk xi
  have nd := sc588.nd
  exact (sss_cons (set_ 1 nd (lst_ (c_ (g_ B 0) (c_ (g_ B 1) (c_ (g_ B 2) sa_nil)))).se)
  (sss_cons (ss_if (tcmp_ B .ne (v_ 1) (lst_ (c_ se_int (c_ se_int (c_ se_int sa_nil)))).se) (sss_cons (ss_ret se_bl)
  sss_nil) sss_nil)
  (sss_cons (set_ 2 nd (sf_bin .add (lst_ (c_ se_non (c_ st_ (c_ (tup_ (c_ se_int (c_ st_ sa_nil))) (c_ se_bl (c_ (se_neg se_int) sa_nil)))))).se (lc_ B [("_law_cell", 3)] n588 (defScope s588) nd (si_seq (sf_sli (v_ 0) so_none (so_some se_int)).se) (fun _ _ _ _ _ => (gv_ 3 nd)) (fun _ _ _ _ _ => sps_nil) (fun _ _ _ _ _ => (sf_bin .mod (b_ty (Bd.blk B) .int cb_int (v_ 3)).se (sf_bin .pow se_int se_int).se).se)).se).se)
  (sss_cons (ss_ret (cmp_ B .eq (lc_ B [("_law_thing", 4)] n588 (defScope s588) nd (si_seq (v_ 2)) (fun _ _ _ _ _ => (gv_ 4 nd)) (fun _ _ _ _ _ => (sps_one (st_not (tv_ (cal_ (Bd.blk B) 587 (c_ (v_ 4) sa_nil)))))) (fun _ _ _ _ _ => (v_ 4))).se (lst_ sa_nil).se))
  sss_nil))))
end
end Wk01
end DI
end

section
set_option Elab.async false
set_option linter.all false
set_option maxRecDepth 100000
set_option maxHeartbeats 1000000
namespace DI
namespace Wk01
open PySem L2 PySem.Spec PyProof.Rows
def da583 : He5.DefA := ⟨fun K => Pth.adr K (.glo "_law_given"), "_law_given", "_law_given", defArgs s583, defBody s583, defScope s583, [], []⟩
def da584 : He5.DefA := ⟨fun K => Pth.adr K (.glo "_law_sorts"), "_law_sorts", "_law_sorts", defArgs s584, defBody s584, defScope s584, [], []⟩
def da585 : He5.DefA := ⟨fun K => Pth.adr K (.glo "_law_bases"), "_law_bases", "_law_bases", defArgs s585, defBody s585, defScope s585, [], []⟩
def da3 : He5.DefA := ⟨fun K => Pth.adr K (.glo "_law_due"), "_law_due", "_law_due", defArgs s3, defBody s3, defScope s3, [], []⟩
def da586 : He5.DefA := ⟨fun K => Pth.adr K (.glo "_law_kept_right"), "_law_kept_right", "_law_kept_right", defArgs s586, defBody s586, defScope s586, [], []⟩
def da5 : He5.DefA := ⟨fun K => Pth.adr K (.glo "_law_raised_right"), "_law_raised_right", "_law_raised_right", defArgs s5, defBody s5, defScope s5, [], []⟩
def da587 : He5.DefA := ⟨fun K => Pth.adr K (.glo "_law_right"), "_law_right", "_law_right", defArgs s587, defBody s587, defScope s587, [], []⟩
def da588 : He5.DefA := ⟨fun K => Pth.adr K (.glo "law"), "law", "law", defArgs s588, defBody s588, defScope s588, [], []⟩
def das_0 : List He5.DefA := [da583, da584, da585, da3, da586, da5, da587, da588]
def das : List He5.DefA := das_0
def ex (K : PySem.W.Frag) : Bool := true
section
variable {P : Program} {w : World} {K : PySem.W.Frag} {mg : Str → Option Value}
theorem d583 (G : Good T K mg) (ow : OwA) (xi : XiA P K) (c : obsDI T das ex K = valDI T das) : DefOk (T.tab K) P w K mg 583 f583 := by
  obtain ⟨fd, F⟩ := says_def c 0 (d := da583) rfl
  refine ⟨⟨_, _, _, _, _, _, fd, n583, ["_law_thing"], F, sc583, rfl, rfl, bindAll (L := T) (l := [((1, []), [])]) rfl ?_, fun base n => b583 G ow xi⟩⟩
  exact List.forall_mem_cons.mpr ⟨bind_n F rfl rfl fun _ _ _ _ _ _ us ws h1 h2 => match us, h1, ws, h2 with | [_], _, [], _ => rfl, fun _ h => nomatch h⟩
theorem d584 (G : Good T K mg) (ow : OwA) (xi : XiA P K) (c : obsDI T das ex K = valDI T das) : DefOk (T.tab K) P w K mg 584 f584 := by
  obtain ⟨fd, F⟩ := says_def c 1 (d := da584) rfl
  refine ⟨⟨_, _, _, _, _, _, fd, n584, ["_law_e"], F, sc584, rfl, rfl, bindAll (L := T) (l := [((1, []), [])]) rfl ?_, fun base n => b584 G ow xi⟩⟩
  exact List.forall_mem_cons.mpr ⟨bind_n F rfl rfl fun _ _ _ _ _ _ us ws h1 h2 => match us, h1, ws, h2 with | [_], _, [], _ => rfl, fun _ h => nomatch h⟩
theorem d585 (G : Good T K mg) (ow : OwA) (xi : XiA P K) (c : obsDI T das ex K = valDI T das) : DefOk (T.tab K) P w K mg 585 f585 := by
  obtain ⟨fd, F⟩ := says_def c 2 (d := da585) rfl
  refine ⟨⟨_, _, _, _, _, _, fd, n585, ["_law_e"], F, sc585, rfl, rfl, bindAll (L := T) (l := [((1, []), [])]) rfl ?_, fun base n => b585 G ow xi⟩⟩
  exact List.forall_mem_cons.mpr ⟨bind_n F rfl rfl fun _ _ _ _ _ _ us ws h1 h2 => match us, h1, ws, h2 with | [_], _, [], _ => rfl, fun _ h => nomatch h⟩
theorem d3 (G : Good T K mg) (ow : OwA) (xi : XiA P K) (c : obsDI T das ex K = valDI T das) : DefOk (T.tab K) P w K mg 3 f3 := by
  obtain ⟨fd, F⟩ := says_def c 3 (d := da3) rfl
  refine ⟨⟨_, _, _, _, _, _, fd, n3, ["_law_k"], F, sc3, rfl, rfl, bindAll (L := T) (l := [((1, []), [])]) rfl ?_, fun base n => b3 G ow xi⟩⟩
  exact List.forall_mem_cons.mpr ⟨bind_n F rfl rfl fun _ _ _ _ _ _ us ws h1 h2 => match us, h1, ws, h2 with | [_], _, [], _ => rfl, fun _ h => nomatch h⟩
theorem d586 (G : Good T K mg) (ow : OwA) (xi : XiA P K) (c : obsDI T das ex K = valDI T das) : DefOk (T.tab K) P w K mg 586 f586 := by
  obtain ⟨fd, F⟩ := says_def c 4 (d := da586) rfl
  refine ⟨⟨_, _, _, _, _, _, fd, n586, ["_law_found", "_law_thing"], F, sc586, rfl, rfl, bindAll (L := T) (l := [((2, []), [])]) rfl ?_, fun base n => b586 G ow xi⟩⟩
  exact List.forall_mem_cons.mpr ⟨bind_n F rfl rfl fun _ _ _ _ _ _ us ws h1 h2 => match us, h1, ws, h2 with | [_, _], _, [], _ => rfl, fun _ h => nomatch h⟩
theorem d5 (G : Good T K mg) (ow : OwA) (xi : XiA P K) (c : obsDI T das ex K = valDI T das) : DefOk (T.tab K) P w K mg 5 f5 := by
  obtain ⟨fd, F⟩ := says_def c 5 (d := da5) rfl
  refine ⟨⟨_, _, _, _, _, _, fd, n5, ["_law_thing"], F, sc5, rfl, rfl, bindAll (L := T) (l := [((1, []), [])]) rfl ?_, fun base n => b5 G ow xi⟩⟩
  exact List.forall_mem_cons.mpr ⟨bind_n F rfl rfl fun _ _ _ _ _ _ us ws h1 h2 => match us, h1, ws, h2 with | [_], _, [], _ => rfl, fun _ h => nomatch h⟩
theorem d587 (G : Good T K mg) (ow : OwA) (xi : XiA P K) (c : obsDI T das ex K = valDI T das) : DefOk (T.tab K) P w K mg 587 f587 := by
  obtain ⟨fd, F⟩ := says_def c 6 (d := da587) rfl
  refine ⟨⟨_, _, _, _, _, _, fd, n587, ["_law_thing"], F, sc587, rfl, rfl, bindAll (L := T) (l := [((1, []), [])]) rfl ?_, fun base n => b587 G ow xi⟩⟩
  exact List.forall_mem_cons.mpr ⟨bind_n F rfl rfl fun _ _ _ _ _ _ us ws h1 h2 => match us, h1, ws, h2 with | [_], _, [], _ => rfl, fun _ h => nomatch h⟩
theorem d588 (G : Good T K mg) (ow : OwA) (xi : XiA P K) (c : obsDI T das ex K = valDI T das) : DefOk (T.tab K) P w K mg 588 f588 := by
  obtain ⟨fd, F⟩ := says_def c 7 (d := da588) rfl
  refine ⟨⟨_, _, _, _, _, _, fd, n588, ["_law_cells"], F, sc588, rfl, rfl, bindAll (L := T) (l := [((1, []), [])]) rfl ?_, fun base n => b588 G ow xi⟩⟩
  exact List.forall_mem_cons.mpr ⟨bind_n F rfl rfl fun _ _ _ _ _ _ us ws h1 h2 => match us, h1, ws, h2 with | [_], _, [], _ => rfl, fun _ h => nomatch h⟩
theorem defs (G : Good T K mg) (ow : OwA) (xi : XiA P K) (c : obsDI T das ex K = valDI T das) : ∀ f F, (T.tab K).P.fns f = some F → DefOk (T.tab K) P w K mg f F := by
  intro f F h
  have h : (f, F) ∈ T.fns := lookup_mem h
  have all : ∀ z ∈ T.fns, DefOk (T.tab K) P w K mg z.1 z.2 := List.forall_mem_cons.mpr ⟨d583 G ow xi c, List.forall_mem_cons.mpr ⟨d584 G ow xi c, List.forall_mem_cons.mpr ⟨d585 G ow xi c, List.forall_mem_cons.mpr ⟨d3 G ow xi c, List.forall_mem_cons.mpr ⟨d586 G ow xi c, List.forall_mem_cons.mpr ⟨d5 G ow xi c, List.forall_mem_cons.mpr ⟨d587 G ow xi c, List.forall_mem_cons.mpr ⟨d588 G ow xi c, fun _ h => nomatch h⟩⟩⟩⟩⟩⟩⟩⟩
  exact all _ h
theorem tks (G : Good T K mg) (c : obsDI T das ex K = valDI T das) : ∀ f, (T.tab K).thk.contains f = true → DefOkT (T.tab K) P w K mg f := by
  intro f h
  have h : f ∈ T.thk := List.contains_iff_mem.mp h
  have all : ∀ z ∈ T.thk, DefOkT (T.tab K) P w K mg z := fun _ h => nomatch h
  exact all _ h
theorem isf (c : obsDI T das ex K = valDI T das) : ∀ f F, (T.tab K).P.fns f = some F → PySem.W.isFn K (.ref ((T.tab K).fa f)) = true := by
  intro f F h
  refine isf_of (says_chk c).1 (by decide +kernel) h
theorem fnQ {base : Heap} (G : Good T K mg) (kb : K.In base) (nb : base.Ns mainGlobals mg) (xi : XiA P K) (c : obsDI T das ex K = valDI T das) : (T.tab K).quiet = false → ∀ j, j ≤ 1 → FnsOk (T.tab K).q P w K mg base j := fun _ j hj f F hF => nomatch hF
end
abbrev R : PySem.W.OpenRow := PySem.W.OpenLaw.row PySem.Challenge.rw_markedrings_k01_limits_and_errors
def asL : List Addr := ([1, 3, 6, 4, 24, 46, 67, 88, 109, 130, 151, 172, 193, 214, 235, 256, 277, 298, 319, 340, 361, 382, 394, 416, 437, 458, 470, 492, 504, 516] : List Addr) ++ ([537, 549, 570, 579, 586, 593, 600, 605, 612, 617, 622, 0, 23, 45, 66, 87, 108, 129, 150, 171, 192, 213, 234, 255, 276, 297, 318, 339, 360, 381] : List Addr) ++ ([393, 415, 436, 457, 469, 491, 503, 515, 536, 548, 569, 578, 585, 592, 599, 604, 611, 616, 621, 22, 25, 43, 44, 64, 65, 85, 86, 106, 107, 127] : List Addr) ++ ([128, 148, 149, 169, 170, 190, 191, 211, 212, 232, 233, 253, 254, 274, 275, 295, 296, 316, 317, 337, 338, 358, 359, 379, 380, 392, 395, 413, 414, 434] : List Addr) ++ ([435, 455, 456, 468, 471, 489, 490, 502, 514, 534, 535, 547, 567, 568, 573, 574, 575, 576, 577, 580, 581, 582, 583, 584, 587, 588, 589, 590, 591, 594] : List Addr) ++ ([595, 596, 597, 598, 601, 602, 603, 606, 607, 608, 609, 610, 613, 614, 615, 618, 619, 620, 42, 31, 63, 52, 84, 73, 105, 94, 126, 115, 147, 136] : List Addr) ++ ([168, 157, 189, 178, 210, 199, 231, 220, 252, 241, 273, 262, 294, 283, 315, 304, 336, 325, 357, 346, 378, 367, 412, 401, 433, 422, 454, 443, 488, 477] : List Addr) ++ ([533, 522, 566, 555, 37, 38, 39, 40, 41, 58, 59, 60, 61, 62, 79, 80, 81, 82, 83, 100, 101, 102, 103, 104, 121, 122, 123, 124, 125, 142] : List Addr) ++ ([143, 144, 145, 146, 163, 164, 165, 166, 167, 184, 185, 186, 187, 188, 205, 206, 207, 208, 209, 226, 227, 228, 229, 230, 247, 248, 249, 250, 251, 268] : List Addr) ++ ([269, 270, 271, 272, 289, 290, 291, 292, 293, 310, 311, 312, 313, 314, 331, 332, 333, 334, 335, 352, 353, 354, 355, 356, 373, 374, 375, 376, 377, 407] : List Addr) ++ ([408, 409, 410, 411, 428, 429, 430, 431, 432, 449, 450, 451, 452, 453, 483, 484, 485, 486, 487, 528, 529, 530, 531, 532, 561, 562, 563, 564, 565, 2] : List Addr)
abbrev hk : PySem.W.Hook := hookA asL T das ex
def ob (s : PySem.W.SharedT) : He.AlD := obsA asL T das ex (HandSHeadRun.getT s)
theorem ob_eq (s : PySem.W.SharedT) : ob s = hk.obs s.abs := by
  have e : HandSHeadRun.getT s = s.abs.heap.get? := funext (HandSHeadRun.getT_eq s)
  unfold ob
  rw [e] <;> rfl
def loose : List Str := (["NotRight", "InvalidText", "InvalidTie", "InvalidRing", "InvalidNumber", "InvalidName", "InvalidWish", "InvalidClaim", "InvalidPlace", "NotAWeb", "NotNotes", "InvalidPlaces", "InvalidTies", "InvalidMarking", "InvalidForest", "InvalidTold", "InvalidWishes", "InvalidChanges", "NotThere", "UnknownPlace"] : List Str) ++ (["UnknownName", "InUse", "CannotBe", "Odd", "Impossible", "OtherPlaces", "TooMany", "NothingToUndo", "Broken", "MOST_PLACES", "MOST_TIES", "MOST_CHANGES", "_law_sorts", "_law_bases", "_law_due", "_law_given", "_law_kept_right", "_law_raised_right", "_law_right"] : List Str)
noncomputable abbrev eF (w : World) (os : OsState) := HandSHeadRun.endF (HandSHeadRun.stepQ (HandSHeadRun.denQ HandSHeadRun.tabQ) R.prog w) 8000 R.prog w os
abbrev KK (s : PySem.W.SharedT) : PySem.W.Frag := frL T (HandSHeadRun.getT s) asL
theorem run0 (w : World) (os : OsState) : (eF w os).map (fun s => (HandSHeadRun.looksF R.prog (PySem.W.boot_heap w.params) s.abs, HandSHeadRun.seenQ (PySem.W.view R.prog [41]) loose (importedModules R.prog.main.body) (fun s => PySem.W.xlAt (PySem.W.view R.prog [41]) [] s && PySem.W.recOk R.records s) s.abs)) = some (true, PySem.W.openGood (PySem.W.view R.prog [41]) loose) := by
  kernel_rfl
theorem run1 (w : World) (os : OsState) : (eF w os).map (fun s => (T.tab (KK s)).tbs.all (fun p => tabE (HandSHeadRun.getT s) p.1) && chk1 T (KK s)) = some true := by
  kernel_rfl
theorem run2 (w : World) (os : OsState) : (eF w os).map (fun s => (chk2 T (KK s) && (ex (KK s) && T.xis.all fun x => x.ok T (KK s)), T.xis.map fun x => x.obs T (KK s))) = some (true, T.xis.map XI.val) := by
  kernel_rfl
theorem rund0 (w : World) (os : OsState) : (eF w os).map (fun s => (das_0.all fun d => d.ok (KK s), das_0.map fun d => He5.fnA (KK s) (d.at_ (KK s)))) = some (true, das_0.map He5.DefA.val) := by
  kernel_rfl
theorem runD (w : World) (os : OsState) : (eF w os).map (fun s => (das.all fun d => d.ok (KK s), das.map fun d => He5.fnA (KK s) (d.at_ (KK s)))) = some (true, das.map He5.DefA.val) := rund0 w os
theorem run (w : World) : HandSHeadRun.RunEq R (PySem.W.view R.prog [41]) hk ob 8000 loose w := runEq_of (run0 w) (run1 w) (run2 w) (runD w)
end Wk01
end DI
open PySem PySem.W PySem.Calls PyProof.Rows
theorem DI.Wk01.holds_of (ans : ∀ zs : List Int, zs.length ≤ 63 → (∀ z ∈ zs, Builtin.Int.intBits z ≤ 1048576) → ∃ μ, DI.calD DI.Wk01.T.prog DI.shownD 60 588 [.rol (zs.map DI.D.int)] [] = .ok (.bl true) μ) : PySem.Challenge.rw_markedrings_k01_limits_and_errors.Holds := by
  w_on; o_law
  refine HandSHeadRun.head_any (r := OpenLaw.row PySem.Challenge.rw_markedrings_k01_limits_and_errors) (q := view (OpenLaw.row PySem.Challenge.rw_markedrings_k01_limits_and_errors).prog [41]) (H := DI.Wk01.hk) (ob := DI.Wk01.ob) (M := 8000) (loose := DI.Wk01.loose) (d := HandSHeadRun.topDef (OpenLaw.row PySem.Challenge.rw_markedrings_k01_limits_and_errors).prog 41) (kwd := []) DI.Wk01.ob_eq
    (by kernel_rfl) (fun s => by kernel_rfl) DI.Wk01.run (by kernel_rfl) (by kernel_rfl) (by kernel_rfl) (by rfl) (by first | assumption | decide +kernel) (by decide +kernel) ⟨rfl, rfl, rfl, rfl, rfl, by decide +kernel⟩ ?hw ?hc
  case hw => w_witness2
  case hc =>
    refine DI.walk_di (l := PySem.Challenge.rw_markedrings_k01_limits_and_errors) (L := DI.Wk01.T) (x := "_law_cells") (n := 60) (f := 588) rfl (by kernel_rfl) ⟨rfl, by decide, by decide⟩ ?F ans
    intro w mg fa h Y G0 hmg0
    obtain ⟨K, KX, tb, c⟩ := Y
    have G := DI.good_of KX G0 (DI.says_chk c).1
    have hmg : mg ("law" : PySem.Str) = some (.ref fa) := by
      have e : (HandSHeadRun.topDef (OpenLaw.row PySem.Challenge.rw_markedrings_k01_limits_and_errors).prog 41).name = ("law" : PySem.Str) := by kernel_rfl
      rw [← e]
      exact hmg0
    have e := hmg.symm.trans (G.fn "law" 588 rfl)
    cases e
    have ow : DI.Wk01.OwA := fun n Y _ _ => DI.own_none (by decide +kernel) Y
    have xi : DI.Wk01.XiA PySem.Challenge.rw_markedrings_k01_limits_and_errors.prog K := DI.says_xi c (by decide +kernel) DI.Wk01.xtA (by kernel_rfl) (by kernel_rfl)
    obtain ⟨fd, F⟩ := DI.says_def c 7 (d := DI.Wk01.da588) rfl
    have b := L2.FunD.bindsA (ps := ["_law_cells"]) F fun _ _ _ _ _ _ us hl => match us, hl with | [_], _ => rfl
    refine ⟨K, fd, KX, (DI.says_chk c).1, tb, fun s v => b s [v] rfl, fun base kb nb => ?_⟩
    have all := DI.fns_all (base := base) (w := w) G.tab (G.tabs base kb nb) rfl (DI.Wk01.fnQ G kb nb xi c) (DI.Wk01.isf c) (DI.Wk01.defs G ow xi c) (DI.Wk01.tks G c) 59
    exact DI.def_ok (n := 59) (F := DI.f588) rfl F DI.Wk01.sc588 rfl rfl G.tab (G.tabs base kb nb) rfl (DI.Wk01.fnQ G kb nb xi c) (fun i hi => (all i hi).1) (fun _ i hi => (all i hi).2) (DI.Wk01.b588 G ow xi)
end

section
set_option linter.all false
set_option maxRecDepth 100000
namespace DI
open PySem
abbrev F0 : D → Mem → Prop := fun _ _ => False
section
variable {α β : Type} {k : β → Mem → Prop} {kx : D → Mem → Prop}
theorem w_bind {r : R α} {f : α → Mem → R β} (h : WpR r (fun d μ => WpR (f d μ) k kx) kx) : WpR (r.bind f) k kx := by
  cases r <;> exact h
theorem w_of {μ : Mem} {o : Option β} {d : β} (e : o = some d) (h : k d μ) : WpR (R.of μ o) k kx := by subst e; exact h
theorem w_nox {r : R β} (h : WpR r k F0) : WpR (nox r) k kx := by
  cases r with
  | ok d μ => exact h
  | ex x μ => exact h.elim
  | no => exact h
end
section
variable {P : Prog} {C : Cal} {r : D → Option Str} {ρ : Env} {μ : Mem} {k : D → Mem → Prop} {kx : D → Mem → Prop}
theorem w_v {i : Nat} {d : D} (e : readV ρ i = some d) (h : k d μ) : WpR (evE P C r (.v i) ρ μ) k kx := by
  simp only [evE, e]; exact h
/-- .. of any value that is neither an exception nor a lambda -/
theorem w_vs {i : Nat} {d : D} (e : getE ρ i = some d) (hs : isSp d = false) (h : k d μ) : WpR (evE P C r (.v i) ρ μ) k kx := by
  refine w_v (d := d) ?_ h
  unfold readV
  rw [e]
  simp [hs]
theorem w_k {d : D} (h : k d μ) : WpR (evE P C r (.k d) ρ μ) k kx := by simp only [evE]; exact h
theorem w_bin {o : Bop} {a b : E} (h : WpR (evE P C r a ρ μ) (fun x μ => WpR (evE P C r b ρ μ) (fun y μ => WpR (R.of μ (binV μ o x y)) k kx) kx) kx) : WpR (evE P C r (.bin o a b) ρ μ) k kx := by
  simp only [evE]; exact w_bind (h.mono (fun _ _ h => w_bind h) fun _ _ h => h)
theorem w_neg {a : E} (h : WpR (evE P C r a ρ μ) (fun x μ => ∃ i, x = .int i ∧ k (.int (-i)) μ) kx) : WpR (evE P C r (.neg a) ρ μ) k kx := by
  simp only [evE]; refine w_bind (h.mono (fun _ _ h => ?_) fun _ _ h => h)
  obtain ⟨i, rfl, h⟩ := h; exact h
theorem w_cmp {o : Cop} {a b : E} (h : WpR (evE P C r a ρ μ) (fun x μ => WpR (evE P C r b ρ μ) (fun y μ => WpR (cmpV P C μ o x y) (fun c μ => k (.bl c) μ) F0) kx) kx) : WpR (evE P C r (.cmp o a b) ρ μ) k kx := by
  simp only [evE]; exact w_bind (h.mono (fun _ _ h => w_bind (h.mono (fun _ _ h => w_bind (w_nox h)) fun _ _ h => h)) fun _ _ h => h)
theorem w_cmp2 {o p : Cop} {a b c : E} (h : WpR (evE P C r a ρ μ) (fun x μ => WpR (evE P C r b ρ μ) (fun y μ => WpR (cmpV P C μ o x y) (fun t μ => (t = true → WpR (evE P C r c ρ μ) (fun z μ => WpR (cmpV P C μ p y z) (fun c μ => k (.bl c) μ) F0) kx) ∧ (t = false → k (.bl false) μ)) F0) kx) kx) : WpR (evE P C r (.cmp2 o p a b c) ρ μ) k kx := by
  simp only [evE]
  refine w_bind (h.mono (fun _ _ h => w_bind (h.mono (fun _ _ h => w_bind (w_nox (h.mono (fun t _ h => ?_) fun _ _ h => h))) fun _ _ h => h)) fun _ _ h => h)
  cases t with
  | true => exact w_bind ((h.1 rfl).mono (fun _ _ h => w_bind (w_nox h)) fun _ _ h => h)
  | false => exact h.2 rfl
theorem w_not {a : E} (h : WpR (evE P C r a ρ μ) (fun x μ => ∃ b, x = .bl b ∧ k (.bl (!b)) μ) kx) : WpR (evE P C r (.not a) ρ μ) k kx := by
  simp only [evE]; refine w_bind (h.mono (fun _ _ h => ?_) fun _ _ h => h)
  obtain ⟨i, rfl, h⟩ := h; exact h
theorem w_and1 {a : E} (h : WpR (evE P C r a ρ μ) k kx) : WpR (evE P C r (.and (.c a .n)) ρ μ) k kx := by
  simp only [evE, evAnd]; exact h
theorem w_or1 {a : E} (h : WpR (evE P C r a ρ μ) k kx) : WpR (evE P C r (.or (.c a .n)) ρ μ) k kx := by
  simp only [evE, evOr]; exact h
section
variable {kl : List D → Mem → Prop}
theorem w_es0 (h : kl [] μ) : WpR (evEs P C r .n ρ μ) kl kx := by simp only [evEs]; exact h
theorem w_es {e : E} {es : Es} (h : WpR (evE P C r e ρ μ) (fun d μ => WpR (evEs P C r es ρ μ) (fun l μ => kl (d :: l) μ) kx) kx) : WpR (evEs P C r (.c e es) ρ μ) kl kx := by
  simp only [evEs]; exact w_bind (h.mono (fun _ _ h => w_bind h) fun _ _ h => h)
def isStV : E → Bool
  | .star _ => true
  | _ => false
def Es.plnV : Es → Bool
  | .n => true
  | .c e r => !isStV e && r.plnV
def Es.size : Es → Nat
  | .n => 0
  | .c _ r => r.size + 1
theorem evX_plnV : ∀ {es : Es} {ρ : Env} {μ : Mem}, es.plnV = true → evX P C r es ρ μ = evEs P C r es ρ μ
  | .n, _, _, _ => by simp only [evX, evEs]
  | .c e es, ρ, μ, h => by
    simp only [Es.plnV, Bool.and_eq_true] at h
    have h2 : ∀ μ, evX P C r es ρ μ = evEs P C r es ρ μ := fun μ => evX_plnV h.2
    cases e <;> first | (simp only [evX, evEs, h2]; done) | (simp [isStV] at h)
theorem evEs_size {kl : List D → Mem → Prop} {kx : D → Mem → Prop} : ∀ {es : Es} {ρ : Env} {μ : Mem}, WpR (evEs P C r es ρ μ) kl kx → WpR (evEs P C r es ρ μ) (fun l μ => l.length = es.size ∧ kl l μ) kx
  | .n, _, _, h => by simp only [evEs] at h ⊢; exact ⟨rfl, h⟩
  | .c e es, ρ, μ, h => by
    simp only [evEs] at h ⊢
    refine w_bind (h.bind.mono (fun d μ h => ?_) fun _ _ h => h)
    have h := h.bind
    have h2 := evEs_size h
    exact w_bind (h2.mono (fun l μ h => ⟨by simp [h.1, Es.size], h.2⟩) fun _ _ h => h)
theorem w_x0 (h : kl [] μ) : WpR (evX P C r .n ρ μ) kl kx := by simp only [evX]; exact h
theorem w_x {e : E} {es : Es} (hs : isStV e = false) (h : WpR (evE P C r e ρ μ) (fun d μ => WpR (evX P C r es ρ μ) (fun l μ => kl (d :: l) μ) kx) kx) : WpR (evX P C r (.c e es) ρ μ) kl kx := by
  have : evX P C r (.c e es) ρ μ = (evE P C r e ρ μ).bind fun d μ => (evX P C r es ρ μ).bind fun l μ => .ok (d :: l) μ := by
    cases e <;> first | (simp only [evX]; done) | (simp [isStV] at hs)
  rw [this]; exact w_bind (h.mono (fun _ _ h => w_bind h) fun _ _ h => h)
theorem w_xs {e : E} {es : Es} (h : WpR (evE P C r e ρ μ) (fun d μ => ∃ l, (rd μ d = .tup l ∨ rd μ d = .lst l) ∧ WpR (evX P C r es ρ μ) (fun m μ => kl (l ++ m) μ) kx) kx) : WpR (evX P C r (.c (.star e) es) ρ μ) kl kx := by
  simp only [evX]; refine w_bind (h.mono (fun _ _ h => ?_) fun _ _ h => h)
  obtain ⟨l, h1, h2⟩ := h
  rcases h1 with h1 | h1 <;> (rw [h1]; exact w_bind h2)
end
def okEs (es : Es) : Bool := es.plnV && decide (es.size ≤ 1000)
theorem evX_ok {es : Es} {kl : List D → Mem → Prop} (ok : okEs es = true) (h : WpR (evEs P C r es ρ μ) kl kx) : WpR (evX P C r es ρ μ) (fun l μ => l.length ≤ sizeLn ∧ kl l μ) kx := by
  simp only [okEs, Bool.and_eq_true, decide_eq_true_eq] at ok
  rw [evX_plnV ok.1]
  exact (evEs_size h).mono (fun l μ h => ⟨by unfold sizeLn; omega, h.2⟩) fun _ _ h => h
theorem w_tupX {es : Es} (h : WpR (evX P C r es ρ μ) (fun l μ => l.length ≤ sizeLn ∧ k (.tup l) μ) kx) : WpR (evE P C r (.tup es) ρ μ) k kx := by
  simp only [evE]; exact w_bind (h.mono (fun _ _ h => by rw [if_pos h.1]; exact h.2) fun _ _ h => h)
theorem w_lstX {es : Es} (h : WpR (evX P C r es ρ μ) (fun l μ => l.length ≤ sizeLn ∧ k (.lst l) μ) kx) : WpR (evE P C r (.lst es) ρ μ) k kx := by
  simp only [evE]; exact w_bind (h.mono (fun _ _ h => by rw [if_pos h.1]; exact h.2) fun _ _ h => h)
theorem w_keyX {es : Es} (h : WpR (evX P C r es ρ μ) (fun l μ => l.length ≤ sizeLn ∧ k (.key l) μ) kx) : WpR (evE P C r (.key es) ρ μ) k kx := by
  simp only [evE]; exact w_bind (h.mono (fun _ _ h => by rw [if_pos h.1]; exact h.2) fun _ _ h => h)
theorem w_tup {es : Es} (ok : okEs es = true) (h : WpR (evEs P C r es ρ μ) (fun l μ => k (.tup l) μ) kx) : WpR (evE P C r (.tup es) ρ μ) k kx := w_tupX (evX_ok ok h)
theorem w_lst {es : Es} (ok : okEs es = true) (h : WpR (evEs P C r es ρ μ) (fun l μ => k (.lst l) μ) kx) : WpR (evE P C r (.lst es) ρ μ) k kx := w_lstX (evX_ok ok h)
theorem w_key {es : Es} (ok : okEs es = true) (h : WpR (evEs P C r es ρ μ) (fun l μ => k (.key l) μ) kx) : WpR (evE P C r (.key es) ρ μ) k kx := w_keyX (evX_ok ok h)
theorem w_dct0 {t : Bool} (h : k (.dct t [] []) μ) : WpR (evE P C r (.dct t .n) ρ μ) k kx := by
  simp only [evE, evKV, R.bind_ok, List.all_nil, if_true]; exact h
theorem w_cal {f : Nat} {es : Es} (h : WpR (evEs P C r es ρ μ) (fun l μ => WpR (calF P C f l [] [] μ) k kx) kx) : WpR (evE P C r (.cal f es) ρ μ) k kx := by
  simp only [evE]; exact w_bind h
theorem w_clk {f : Nat} {es kv : Es} {ps : List Nat} (h : WpR (evEs P C r es ρ μ) (fun l μ => WpR (evEs P C r kv ρ μ) (fun m μ => WpR (calF P C f l ps m μ) k kx) kx) kx) : WpR (evE P C r (.clk f es ps kv) ρ μ) k kx := by
  simp only [evE]; exact w_bind (h.mono (fun _ _ h => w_bind h) fun _ _ h => h)
theorem w_new {f : Nat} {es : Es} (h : WpR (evEs P C r es ρ μ) (fun l μ => WpR (newV P C f l [] [] μ) k kx) kx) : WpR (evE P C r (.new f es) ρ μ) k kx := by
  simp only [evE]; exact w_bind h
theorem w_nwk {f : Nat} {es kv : Es} {ps : List Nat} (h : WpR (evEs P C r es ρ μ) (fun l μ => WpR (evEs P C r kv ρ μ) (fun m μ => WpR (newV P C f l ps m μ) k kx) kx) kx) : WpR (evE P C r (.nwk f es ps kv) ρ μ) k kx := by
  simp only [evE]; exact w_bind (h.mono (fun _ _ h => w_bind h) fun _ _ h => h)
theorem w_mth {o : E} {m : Nat} {es : Es} (h : WpR (evE P C r o ρ μ) (fun o μ => ∃ f, methOf P μ o m = some f ∧ WpR (evEs P C r es ρ μ) (fun l μ => WpR (calF P C f (o :: l) [] [] μ) k kx) kx) kx) : WpR (evE P C r (.mth o m es) ρ μ) k kx := by
  simp only [evE]; refine w_bind (h.mono (fun _ _ h => ?_) fun _ _ h => h)
  obtain ⟨f, e, h⟩ := h
  rw [e]; exact w_bind h
theorem w_att {o : E} {f : Nat} (h : WpR (evE P C r o ρ μ) (fun o μ => WpR (attV P C μ o f) k F0) kx) : WpR (evE P C r (.att o f) ρ μ) k kx := by
  simp only [evE]; exact w_bind (h.mono (fun _ _ h => w_nox h) fun _ _ h => h)
theorem w_bi {b : Bi} {es : Es} (h : WpR (evEs P C r es ρ μ) (fun l μ => WpR (biV P C r μ b l) k F0) kx) : WpR (evE P C r (.bi b es) ρ μ) k kx := by
  simp only [evE]; exact w_bind (h.mono (fun _ _ h => w_nox h) fun _ _ h => h)
theorem w_bi1 {b : Bi} {e : E} (h : WpR (evE P C r e ρ μ) (fun d μ => WpR (bi1V P C r μ b d) k F0) kx) : WpR (evE P C r (.bi b (.c e .n)) ρ μ) k kx :=
  w_bi (w_es (h.mono (fun _ _ h => w_es0 h) fun _ _ h => h))
theorem w_bm {m : Bm} {o : E} {es : Es} (h : WpR (evE P C r o ρ μ) (fun o μ => bmTy m (rd μ o) = true ∧ WpR (evEs P C r es ρ μ) (fun l μ => WpR (bmV μ m o l) k kx) kx) kx) : WpR (evE P C r (.bm m o es) ρ μ) k kx := by
  simp only [evE]; refine w_bind (h.mono (fun _ _ h => ?_) fun _ _ h => h)
  rw [if_pos h.1]; exact w_bind h.2
theorem w_isi {e : E} {ts : List Ty} (h : WpR (evE P C r e ρ μ) (fun d μ => ∃ b, isTys P μ d ts = some b ∧ k (.bl b) μ) kx) : WpR (evE P C r (.isi e ts) ρ μ) k kx := by
  simp only [evE]; refine w_bind (h.mono (fun _ _ h => ?_) fun _ _ h => h)
  obtain ⟨b, e, h⟩ := h
  rw [e]; exact h
theorem w_idx {a i : E} (h : WpR (evE P C r a ρ μ) (fun a μ => WpR (evE P C r i ρ μ) (fun i μ => WpR (idxV P C μ a i) k kx) kx) kx) : WpR (evE P C r (.idx a i) ρ μ) k kx := by
  simp only [evE]; exact w_bind (h.mono (fun _ _ h => w_bind h) fun _ _ h => h)
section
variable {ko : Option Int → Mem → Prop}
theorem w_o0 (h : ko none μ) : WpR (evO P C r .n ρ μ) ko kx := by simp only [evO]; exact h
theorem w_o {e : E} (h : WpR (evE P C r e ρ μ) (fun d μ => ∃ i, d = .int i ∧ ko (some i) μ) kx) : WpR (evO P C r (.s e) ρ μ) ko kx := by
  simp only [evO]; refine w_bind (h.mono (fun _ _ h => ?_) fun _ _ h => h)
  obtain ⟨b, rfl, h⟩ := h; exact h
end
theorem w_sli {a : E} {lo hi : O} (h : WpR (evE P C r a ρ μ) (fun a μ => WpR (evO P C r lo ρ μ) (fun l μ => WpR (evO P C r hi ρ μ) (fun h μ => WpR (R.of μ (sliD (rd μ a) l h)) k kx) kx) kx) kx) : WpR (evE P C r (.sli a lo hi) ρ μ) k kx := by
  simp only [evE]; exact w_bind (h.mono (fun _ _ h => w_bind (h.mono (fun _ _ h => w_bind h) fun _ _ h => h)) fun _ _ h => h)
theorem w_rev {a : E} {z : Bool} (h : WpR (evE P C r a ρ μ) (fun a μ => WpR (R.of μ (revV μ a z)) k kx) kx) : WpR (evE P C r (.rev a z) ρ μ) k kx := by
  simp only [evE]; exact w_bind h
theorem w_lay {e : E} (h : WpR (evE P C r e ρ μ) (fun d μ => (∃ l, d = .lst l ∧ k (.obj μ.length) (μ ++ [.lst l])) ∨ ∃ t ks vs, d = .dct t ks vs ∧ k (.obj μ.length) (μ ++ [.dct t ks vs])) kx) : WpR (evE P C r (.lay e) ρ μ) k kx := by
  simp only [evE]; refine w_bind (h.mono (fun _ _ h => ?_) fun _ _ h => h)
  rcases h with ⟨l, rfl, h⟩ | ⟨t, ks, vs, rfl, h⟩ <;> exact h
theorem w_fmt {e : E} (h : WpR (evE P C r e ρ μ) (fun d μ => WpR (R.of μ (fmtV d)) k kx) kx) : WpR (evE P C r (.fmt e) ρ μ) k kx := by
  simp only [evE]; exact w_bind h
theorem w_fst {es : Es} (h : WpR (evEs P C r es ρ μ) (fun l μ => ∃ xs, strsD l = some xs ∧ (xs.map sL).flatten.length ≤ sizeLn ∧ k (.str (sM (xs.map sL).flatten)) μ) F0) : WpR (evE P C r (.fst es) ρ μ) k kx := by
  simp only [evE]; refine w_bind (w_nox (h.mono (fun _ _ h => ?_) fun _ _ h => h))
  obtain ⟨xs, e, h1, h2⟩ := h
  exact w_of (by simp only [e, Option.bind_some, if_pos h1]) h2
theorem w_srt {e : E} (h : WpR (evE P C r e ρ μ) (fun d μ => ∃ l m, (rd μ d = .lst l ∨ rd μ d = .tup l ∨ rd μ d = .key l) ∧ srtL dlt l = some m ∧ k (.lst m) μ) kx) : WpR (evE P C r (.srt e) ρ μ) k kx := by
  simp only [evE]; refine w_bind (h.mono (fun _ _ h => ?_) fun _ _ h => h)
  obtain ⟨l, m, h1, h2, h3⟩ := h
  rcases h1 with h1 | h1 | h1 <;> (rw [h1]; exact w_of (by rw [h2]; rfl) h3)
section
variable {ki : Option (Nat × Ob) × List D → Mem → Prop}
theorem w_ie {e : E} (h : WpR (evE P C r e ρ μ) (fun d μ => WpR (R.of μ (itV μ d)) ki kx) kx) : WpR (evIt P C r (.e e) ρ μ) ki kx := by
  simp only [evIt]; exact w_bind h
theorem w_irng {es : Es} (h : WpR (evEs P C r es ρ μ) (fun l μ => ∃ m, rngV l = some m ∧ ki (none, m) μ) kx) : WpR (evIt P C r (.rng es) ρ μ) ki kx := by
  simp only [evIt]; refine w_bind (h.mono (fun _ _ h => ?_) fun _ _ h => h)
  obtain ⟨m, e, h⟩ := h
  exact w_of (by rw [e]; rfl) h
theorem w_ienu {e : E} (h : WpR (evE P C r e ρ μ) (fun d μ => ∃ s l, (∀ x, d ≠ .str x) ∧ itV μ d = some (s, l) ∧ ki (s, enuL 0 l) μ) kx) : WpR (evIt P C r (.enu e) ρ μ) ki kx := by
  simp only [evIt]; refine w_bind (h.mono (fun d _ h => ?_) fun _ _ h => h)
  obtain ⟨s, l, hs, e, h⟩ := h
  refine w_of (d := (s, enuL 0 l)) ?_ h
  split
  · exact absurd rfl (hs _)
  · rw [e]; rfl
theorem w_izip {a b : E} (h : WpR (evE P C r a ρ μ) (fun x μ => WpR (evE P C r b ρ μ) (fun y μ => WpR (R.of μ (zipV x y)) ki kx) kx) kx) : WpR (evIt P C r (.zip a b) ρ μ) ki kx := by
  simp only [evIt]; exact w_bind (h.mono (fun _ _ h => w_bind h) fun _ _ h => h)
end
section
variable {kt : Env → Mem → Prop}
theorem w_tv {i : Nat} {d : D} (h : kt (setE ρ i d) μ) : WpR (asT P C r (.v i) d ρ μ) kt kx := by simp only [asT]; exact h
theorem w_tix {o i : E} {d : D} (h : WpR (evE P C r o ρ μ) (fun o μ => WpR (evE P C r i ρ μ) (fun i μ => WpR (setV P C μ o i d) (fun _ μ => kt ρ μ) kx) kx) kx) : WpR (asT P C r (.ix o i) d ρ μ) kt kx := by
  simp only [asT]; exact w_bind (h.mono (fun _ _ h => w_bind (h.mono (fun _ _ h => w_bind h) fun _ _ h => h)) fun _ _ h => h)
theorem w_ts0 (h : kt ρ μ) : WpR (asTs P C r .n [] ρ μ) kt kx := by simp only [asTs]; exact h
theorem w_ts {t : T} {ts : Ts} {d : D} {l : List D} (h : WpR (asT P C r t d ρ μ) (fun ρ μ => WpR (asTs P C r ts l ρ μ) kt kx) kx) : WpR (asTs P C r (.c t ts) (d :: l) ρ μ) kt kx := by
  simp only [asTs]; exact w_bind h
end
section
variable {kn : Env → Mem → Prop} {kr : D → Mem → Prop} {ks : D → Env → Mem → Prop}
theorem s_seR {α : Type} {q : R α} {f : α → Mem → SR} (h : WpR q (fun d μ => WpS (f d μ) kn kr ks) fun x μ => ks x ρ μ) : WpS (seR q ρ f) kn kr ks := by
  cases q <;> exact h
theorem s_nil (h : kn ρ μ) : WpS (evSs P C r .n ρ μ) kn kr ks := by simp only [evSs]; exact h
theorem s_cons {s : S} {ss : Ss} (h : WpS (evS P C r s ρ μ) (fun ρ μ => WpS (evSs P C r ss ρ μ) kn kr ks) kr ks) : WpS (evSs P C r (.c s ss) ρ μ) kn kr ks := by
  simp only [evSs]
  cases e : evS P C r s ρ μ with
  | nx ρ μ => rw [e] at h; exact h
  | rt d μ => rw [e] at h; exact h
  | ex x ρ μ => rw [e] at h; exact h
  | no => rw [e] at h; exact h
theorem s_asg {t : T} {e : E} (h : WpR (evE P C r e ρ μ) (fun d μ => WpR (asT P C r t d ρ μ) kn F0) fun x μ => ks x ρ μ) : WpS (evS P C r (.asg t e) ρ μ) kn kr ks := by
  simp only [evS]; exact s_seR (h.mono (fun _ _ h => s_seR (w_nox h)) fun _ _ h => h)
theorem s_set {i : Nat} {e : E} (h : WpR (evE P C r e ρ μ) (fun d μ => kn (setE ρ i d) μ) fun x μ => ks x ρ μ) : WpS (evS P C r (.asg (.v i) e) ρ μ) kn kr ks := s_asg (h.mono (fun _ _ h => w_tv h) fun _ _ h => h)
theorem s_par {ts : Ts} {es : Es} (h : WpR (evEs P C r es ρ μ) (fun l μ => WpR (asTs P C r ts l ρ μ) kn F0) fun x μ => ks x ρ μ) : WpS (evS P C r (.par ts es) ρ μ) kn kr ks := by
  simp only [evS]; exact s_seR (h.mono (fun _ _ h => s_seR (w_nox h)) fun _ _ h => h)
theorem s_ex {e : E} (h : WpR (evE P C r e ρ μ) (fun _ μ => kn ρ μ) fun x μ => ks x ρ μ) : WpS (evS P C r (.ex e) ρ μ) kn kr ks := by
  simp only [evS]; exact s_seR h
theorem s_ret {e : E} (h : WpR (evE P C r e ρ μ) kr fun x μ => ks x ρ μ) : WpS (evS P C r (.ret e) ρ μ) kn kr ks := by
  simp only [evS]; exact s_seR h
theorem s_pass (h : kn ρ μ) : WpS (evS P C r .pass ρ μ) kn kr ks := by simp only [evS]; exact h
theorem s_for {t : T} {it : It} {b : Ss} (h : WpR (evIt P C r it ρ μ) (fun p μ => WpS (forL (fun d ρ μ => seR (nox (asT P C r t d ρ μ)) ρ fun ρ μ => evSs P C r b ρ μ) p.1 p.2 ρ μ) kn kr ks) fun x μ => ks x ρ μ) : WpS (evS P C r (.for t it b) ρ μ) kn kr ks := by
  simp only [evS]; exact s_seR h
theorem s_whl {c : E} {b : Ss} (h : WpS (whlL (evE P C r c) (evSs P C r b) WH ρ μ) kn kr ks) : WpS (evS P C r (.whl c b) ρ μ) kn kr ks := by
  simp only [evS]; exact h
theorem s_try {b : Ss} {hs : Hs} (h : WpS (evSs P C r b ρ μ) kn kr fun _ _ _ => False) : WpS (evS P C r (.try b hs) ρ μ) kn kr ks := by
  simp only [evS]
  cases e : evSs P C r b ρ μ with
  | nx ρ μ => rw [e] at h; exact h
  | rt d μ => rw [e] at h; exact h
  | ex x ρ μ => rw [e] at h; exact h.elim
  | no => rw [e] at h; exact h
end
end
@[simp] theorem sm_str (n : Nat) (x : Str) : sm n (.str x) = true := by cases n <;> rfl
@[simp] theorem sm_int (n : Nat) (x : Int) : sm n (.int x) = true := by cases n <;> rfl
@[simp] theorem sm_bl (n : Nat) (x : Bool) : sm n (.bl x) = true := by cases n <;> rfl
@[simp] theorem sm_non (n : Nat) : sm n .non = true := by cases n <;> rfl
@[simp] theorem deq_str (x y : Str) : deq (.str x) (.str y) = (x == y) := by simp only [deq]
@[simp] theorem deq_int (x y : Int) : deq (.int x) (.int y) = (x == y) := by simp only [deq]
theorem get_last {α : Type} (l : List α) (x : α) : (l ++ [x])[l.length]? = some x := by
  rw [List.getElem?_append_right (Nat.le_refl _)]; simp
end DI
end

local macro_rules | `(tactic| walk_at "e1") => `(tactic| with_reducible first
  | refine DI.w_bin ?_ | refine DI.w_neg ?_ | refine DI.w_cmp ?_ | refine DI.w_cmp2 ?_ | refine DI.w_not ?_ | refine DI.w_and1 ?_ | refine DI.w_or1 ?_
  | refine DI.w_k ?_ | refine DI.w_es ?_ | refine DI.w_es0 ?_ | refine DI.w_x0 ?_ | refine DI.w_xs ?_ | refine DI.w_x rfl ?_
  | refine DI.w_dct0 ?_ | refine DI.w_cal ?_ | refine DI.w_clk ?_ | refine DI.w_new ?_ | refine DI.w_nwk ?_ | refine DI.w_mth ?_ | refine DI.w_att ?_ | refine DI.w_bi1 ?_ | refine DI.w_bi ?_ | refine DI.w_bm ?_ | refine DI.w_isi ?_ | refine DI.w_idx ?_
  | refine DI.w_o0 ?_ | refine DI.w_o ?_ | refine DI.w_sli ?_ | refine DI.w_rev ?_ | refine DI.w_lay ?_ | refine DI.w_fmt ?_ | refine DI.w_fst ?_ | refine DI.w_srt ?_
  | refine DI.w_ie ?_ | refine DI.w_irng ?_ | refine DI.w_ienu ?_ | refine DI.w_izip ?_ | refine DI.w_tv ?_ | refine DI.w_tix ?_ | refine DI.w_ts0 ?_ | refine DI.w_ts ?_
  | refine DI.s_nil ?_ | refine DI.s_cons ?_ | refine DI.s_set ?_ | refine DI.s_asg ?_ | refine DI.s_par ?_ | refine DI.s_ex ?_ | refine DI.s_ret ?_ | refine DI.s_pass ?_ | refine DI.s_for ?_ | refine DI.s_whl ?_ | refine DI.s_try ?_)
local macro_rules | `(tactic| walk_at "ev") => `(tactic| repeat (first | walk_at "e1" | ((with_reducible refine DI.w_v (d := ?_) ?_ ?_); rotate_left; (focus rfl)) | ((with_reducible refine DI.w_vs (d := ?_) ?_ ?_ ?_); rotate_left; (focus rfl); (focus assumption)) | ((with_reducible refine DI.w_tup ?_ ?_); (focus rfl)) | ((with_reducible refine DI.w_lst ?_ ?_); (focus rfl)) | ((with_reducible refine DI.w_key ?_ ?_); (focus rfl))))

section
set_option linter.all false
set_option maxRecDepth 100000
namespace DI
open PySem
def alike (a b : Str × Str) : Bool := a == b || a == (b.2, b.1)
section
variable {P : Prog} {r : D → Option Str} {k : D → Mem → Prop} {kx : D → Mem → Prop} {μ : Mem}
end
end DI
end

section
set_option linter.all false
set_option maxRecDepth 100000
namespace DI
open PySem
/-- where draws come from, behind fewer than B draws -/
def Tub (B : Nat) (t : Ob) : Prop := ∃ a b c : Int, t = .lst [.int a, .int b, .int c] ∧ 0 ≤ a ∧ a < 2147483179 ∧ 0 ≤ b ∧ b < B ∧ 0 ≤ c
theorem Tub.mono {B B' : Nat} {t : Ob} (h : Tub B t) (hb : B ≤ B') : Tub B' t := by
  obtain ⟨a, b, c, e, h1, h2, h3, h4, h5⟩ := h
  exact ⟨a, b, c, e, h1, h2, h3, by omega, h5⟩
theorem Tub.flat {B : Nat} {t : Ob} (h : Tub B t) : limOb t = 0 := by
  obtain ⟨a, b, c, rfl, _⟩ := h
  simp [limOb, lims, lim]
section
variable {P : Prog} {C : Cal} {μ : Mem} {k : D → Mem → Prop} {kx : D → Mem → Prop}
end
section
variable {P : Prog} {r : D → Option Str} {k : D → Mem → Prop} {kx : D → Mem → Prop} {μ : Mem}
theorem at1 {ν : Mem} {x : Ob} {n : Nat} (h : ν.length = n) : (ν ++ [x])[n]? = some x := by subst h; exact get_last ν x
theorem alike_iff {a b : Str × Str} : alike a b = true ↔ a = b ∨ a = (b.2, b.1) := by
  unfold alike
  rw [Bool.or_eq_true, beq_iff_eq, beq_iff_eq]
theorem alike_swap (a b : Str × Str) : alike (a.2, a.1) b = alike a b := by
  rw [Bool.eq_iff_iff, alike_iff, alike_iff]
  obtain ⟨a1, a2⟩ := a; obtain ⟨b1, b2⟩ := b
  simp only [Prod.mk.injEq]
  constructor <;> rintro (⟨h1, h2⟩ | ⟨h1, h2⟩) <;> simp [h1, h2]
/-- drawn ties: of the pairs done, either way, no two alike -/
structure Part (done ts : List (Str × Str)) : Prop where
  mem : ∀ t ∈ ts, t ∈ done ∨ (t.2, t.1) ∈ done
  pw : ts.Pairwise fun a b => alike b a = false
theorem Part.alike {done ts : List (Str × Str)} (h : Part done ts) {p : Str × Str} (hp : ∀ q ∈ done, DI.alike q p = false) : ∀ t ∈ ts, DI.alike t p = false := by
  intro t ht
  rcases h.mem t ht with h1 | h1
  · exact hp t h1
  · rw [← alike_swap]; exact hp _ h1
end
end DI
end

section
set_option Elab.async false
set_option linter.all false
set_option maxRecDepth 100000
namespace DI
open PySem
section
variable {P : Prog} {C : Cal} {r : D → Option Str} {ρ : Env} {μ : Mem} {k : D → Mem → Prop} {kx : D → Mem → Prop} {kn : Env → Mem → Prop} {kr : D → Mem → Prop} {ks : D → Env → Mem → Prop}
end
end DI
end

section
set_option linter.all false
set_option maxRecDepth 100000
namespace DI
open PySem
def Shw (b : Nat) (s : Str) : Prop := (∀ c ∈ sL s, c < 0x110000) ∧ (sL s).length ≤ b
theorem Shw.mono {a b : Nat} {s : Str} (h : Shw a s) (hb : a ≤ b) : Shw b s := ⟨h.1, by have := h.2; omega⟩
theorem sL_cat (s t : Str) : sL (s ++ t) = sL s ++ sL t := by
  show (s.cps ++ t.cps).toList = _
  simp [sL]
theorem Shw.app {a b : Nat} {s t : Str} (h : Shw a s) (g : Shw b t) : Shw (a + b) (s ++ t) := by
  refine ⟨fun c hc => ?_, ?_⟩
  · rw [sL_cat] at hc
    rcases List.mem_append.mp hc with hc | hc
    · exact h.1 c hc
    · exact g.1 c hc
  · rw [sL_cat, List.length_append]
    have := h.2; have := g.2; omega
theorem Shw.okS {b : Nat} {s : Str} (h : Shw b s) (hb : b ≤ sizeLn) : okS s = true := by
  unfold DI.okS
  rw [Bool.and_eq_true]
  refine ⟨?_, by have := h.2; simp; omega⟩
  rw [List.all_eq_true]
  intro c hc
  simpa using h.1 c hc
theorem Shw.of {b : Nat} {s : Str} (h : ((sL s).all (fun c => decide (c < 0x110000)) && decide ((sL s).length ≤ b)) = true) : Shw b s := by
  rw [Bool.and_eq_true] at h
  refine ⟨fun c hc => ?_, of_decide_eq_true h.2⟩
  have := List.all_eq_true.mp h.1 c hc
  simpa using this
theorem shw_from {b : Nat} : ∀ {L : List Str} {k a : Nat} {acc : Str}, Shw a acc → (∀ t ∈ L, Shw b t) → Shw (a + L.length * (b + 2)) (textFrom k acc L)
  | [], k, a, acc, h, _ => h.mono (by simp)
  | t :: L, k, a, acc, h, g => by
    have e : Shw 2 ((if k > 0 then ", " else "" : String) : Str) := by
      split
      · exact .of (by decide +kernel)
      · exact .of (by decide +kernel)
    have := shw_from (k := k + 1) ((h.app e).app (g t (List.mem_cons_self ..))) fun t ht => g t (List.mem_cons_of_mem _ ht)
    refine Shw.mono (s := textFrom (k + 1) _ L) this ?_
    simp only [List.length_cons, Nat.add_mul]; omega
theorem shw_list {b : Nat} {L : List Str} (g : ∀ t ∈ L, Shw b t) : Shw (2 + L.length * (b + 2)) (listText L) := by
  have h : Shw 1 ("[" : Str) := .of (by decide +kernel)
  have h2 : Shw 1 ("]" : Str) := .of (by decide +kernel)
  exact ((shw_from (k := 0) h g).app h2).mono (by omega)
theorem char_lt (c : Char) : c.toNat < 0x110000 := by
  have h := c.valid
  show c.val.toNat < _
  have h : c.val.toNat.isValidChar := h
  rcases h with h | h <;> omega
theorem shownAll_map : ∀ l : List D, PyData.shownAll (toPys l) = l.map fun d => (toPy d).shown
  | [] => by simp only [toPys, PyData.shownAll, List.map_nil]
  | d :: l => by simp only [toPys, PyData.shownAll, List.map_cons, shownAll_map l]
theorem showableAll_iff : ∀ {l : List D}, (∀ d ∈ l, (toPy d).showable = true) → PyData.showableAll (toPys l) = true
  | [], _ => by simp only [toPys, PyData.showableAll]
  | d :: l, h => by simp only [toPys, PyData.showableAll, h d (List.mem_cons_self ..), showableAll_iff fun e he => h e (List.mem_cons_of_mem _ he), Bool.and_self]
theorem shw_lst {b : Nat} {l : List D} (h : ∀ d ∈ l, Shw b (toPy d).shown) : Shw (2 + l.length * (b + 2)) (toPy (.lst l)).shown := by
  simp only [toPy, PyData.shown, shownAll_map]
  refine (shw_list (b := b) fun t ht => ?_).mono (by simp)
  obtain ⟨d, hd, rfl⟩ := List.mem_map.mp ht
  exact h d hd
theorem shown_lst {b : Nat} {l : List D} (h1 : sms 20 l = true) (h2 : ∀ d ∈ l, (toPy d).showable = true) (h3 : ∀ d ∈ l, Shw b (toPy d).shown) (hb : 2 + l.length * (b + 2) ≤ sizeLn) : shownD (.lst l) = some (toPy (.lst l)).shown := by
  simp only [shownD]
  rw [if_pos ⟨h1, by simp only [toPy, PyData.showable]; exact showableAll_iff h2, (shw_lst h3).okS hb⟩]
theorem able_int {i : Nat} (h : i < 2 ^ 64) : (toPy (.int i)).showable = true := by
  simp only [toPy, PyData.showable, decide_eq_true_eq]
  by_cases h0 : i = 0
  · subst h0; decide
  · have h1 : (i : Int).natAbs = i := Int.natAbs_natCast i
    rw [h1]
    have := (Nat.log2_lt h0).mpr h
    omega
end DI
end

section
set_option Elab.async false
set_option linter.all false
set_option maxRecDepth 100000
namespace DI
open PySem
abbrev P01 : Prog := Wk01.T.prog
abbrev C01 (r : D → Option Str) (n : Nat) : Cal := ⟨calD P01 r n, lamD P01 r n⟩
/-- the errors made of d -/
def xs01 (d : D) : List D := [.xv 0 [0] [d], .xv 1 [0] [d], .xv 2 [0] [d], .xv 3 [0] [d], .xv 4 [0] [d], .xv 5 [0] [d], .xv 6 [0] [d], .xv 7 [0] [d], .xv 8 [0] [d], .xv 9 [0] [d], .xv 10 [1] [d], .xv 11 [1] [d], .xv 12 [1] [d], .xv 13 [1] [d], .xv 14 [1] [d], .xv 15 [1] [d],
  .xv 16 [1] [d], .xv 17 [0] [d], .xv 18 [0] [d], .xv 19 [1] [d], .xv 20 [2] [d], .xv 21 [] [], .xv 22 [] [], .xv 23 [3] [d], .xv 24 [] [], .xv 25 [1, 4] [d, .int 7]]
theorem s583 (r : D → Option Str) (n : Nat) (d : D) (hs : isSp d = false) : calD P01 r (n + 1) 583 [d] [] = .ok (.lst [.lst (xs01 d), .lst (xs01 d)]) [] := by
  cases d <;> first | (exfalso; simp [isSp] at hs; done) | kernel_rfl
theorem cal_rt {r : D → Option Str} {n f : Nat} {F : Fn} {args : List D} {d : D} {μ μ' : Mem} (hf : P01.fns f = some F) (hl : args.length = F.np) (h : evSs P01 ⟨calD P01 r n, lamD P01 r n⟩ r F.body (args.map some ++ List.replicate (F.nn - F.np) none) μ = .rt d μ') : calD P01 r (n + 1) f args μ = fin F.keep μ d μ' := by
  simp only [calD, hf]
  rw [if_pos hl, h]
def ths01 : D → List D := fun d => [d, d, d, d, d, d, d, d, d, d, d, d, d, d, d, d, d, d, d, d, d, d]
/-- what is wanted of repr -/
structure Rp (r : D → Option Str) (d : D) : Prop where
  one : ∃ s, r d = some s ∧ ∀ c ns fs, d ≠ .ins c ns fs
  obj : ∀ n, d ≠ .obj n
  all : ∃ s, r (.lst (ths01 d)) = some s
  two : ∃ s, r (.lst [d, .int 7]) = some s
section
variable {r : D → Option Str} {n : Nat} {d : D}
def e586 : E := .and (.c (.cmp .eq (.bi .repr (.c (.v 2) .n)) (.bi .repr (.c (.bin .mul (.lst (.c (.v 1) .n)) (.bi .len (.c (.v 2) .n))) .n))) (.c (.cmp .eq (.bi .repr (.c (.lst (.c (.xva (.v 4) 1) (.c (.xva (.v 4) 4) .n))) .n)) (.bi .repr (.c (.lst (.c (.v 1) (.c (.k (.int 7)) .n))) .n))) .n))
def ρ586 (d : D) : Env := [some (.lst (xs01 d)), some d, some (.lst (ths01 d)), none, some (.xv 25 [1, 4] [d, .int 7])]
theorem eq_ss (C : Cal) (s : Str) (μ : Mem) : nox (cmpV P01 C μ .eq (.str s) (.str s)) = .ok true μ := by
  simp only [cmpV, eqV, rd, sm, deq, beq_self_eq_true, Bool.and_self, if_true, nox]
theorem s586 (hs : isSp d = false) (Q : Rp r d) : calD P01 r (n + 1) 586 [.lst (xs01 d), d] [] = .ok (.bl true) [] := by
  obtain ⟨s1, h1⟩ := Q.all
  obtain ⟨s2, h2⟩ := Q.two
  have a1 : evE P01 (C01 r n) r (.bi .repr (.c (.v 2) .n)) (ρ586 d) [] = .ok (.str s1) [] := by
    show nox (R.of [] ((r (.lst (ths01 d))).map D.str)) = _
    rw [h1]; rfl
  have a2 : evE P01 (C01 r n) r (.bi .repr (.c (.bin .mul (.lst (.c (.v 1) .n)) (.bi .len (.c (.v 2) .n))) .n)) (ρ586 d) [] = .ok (.str s1) [] := by
    have e : evEs P01 (C01 r n) r (.c (.bin .mul (.lst (.c (.v 1) .n)) (.bi .len (.c (.v 2) .n))) .n) (ρ586 d) [] = .ok [.lst (ths01 d)] [] := by
      cases d <;> first | (exfalso; simp [isSp] at hs; done) | kernel_rfl
    simp only [evE]
    rw [e]
    show nox (R.of [] ((r (.lst (ths01 d))).map D.str)) = _
    rw [h1]; rfl
  have b1 : evE P01 (C01 r n) r (.bi .repr (.c (.lst (.c (.xva (.v 4) 1) (.c (.xva (.v 4) 4) .n))) .n)) (ρ586 d) [] = .ok (.str s2) [] := by
    have e : evEs P01 (C01 r n) r (.c (.lst (.c (.xva (.v 4) 1) (.c (.xva (.v 4) 4) .n))) .n) (ρ586 d) [] = .ok [.lst [d, .int 7]] [] := by kernel_rfl
    simp only [evE]
    rw [e]
    show nox (R.of [] ((r (.lst [d, .int 7])).map D.str)) = _
    rw [h2]; rfl
  have b2 : evE P01 (C01 r n) r (.bi .repr (.c (.lst (.c (.v 1) (.c (.k (.int 7)) .n))) .n)) (ρ586 d) [] = .ok (.str s2) [] := by
    have e : evEs P01 (C01 r n) r (.c (.lst (.c (.v 1) (.c (.k (.int 7)) .n))) .n) (ρ586 d) [] = .ok [.lst [d, .int 7]] [] := by
      cases d <;> first | (exfalso; simp [isSp] at hs; done) | kernel_rfl
    simp only [evE]
    rw [e]
    show nox (R.of [] ((r (.lst [d, .int 7])).map D.str)) = _
    rw [h2]; rfl
  have c : evE P01 (C01 r n) r e586 (ρ586 d) [] = .ok (.bl true) [] := by
    simp only [e586, evE, evAnd]
    simp only [evE] at a1 a2 b1 b2
    rw [a1]
    simp only [R.bind_ok]
    rw [a2]
    simp only [R.bind_ok, eq_ss, tru]
    rw [b1]
    simp only [R.bind_ok]
    rw [b2]
    simp only [R.bind_ok, eq_ss, tru]
  have h : evSs P01 (C01 r n) r f586.body [some (.lst (xs01 d)), some d, none, none, none] [] = evSs P01 (C01 r n) r (.c (.ret e586) .n) (ρ586 d) [] := by
    cases d <;> first | (exfalso; simp [isSp] at hs; done) | kernel_rfl
  have h3 : evSs P01 (C01 r n) r f586.body [some (.lst (xs01 d)), some d, none, none, none] [] = .rt (.bl true) [] := by
    rw [h]
    simp only [evSs, evS]
    rw [c]
    rfl
  have hf : P01.fns 586 = some f586 := by kernel_rfl
  have h4 : evSs P01 ⟨calD P01 r n, lamD P01 r n⟩ r f586.body ([DI.D.lst (xs01 d), d].map some ++ List.replicate (f586.nn - f586.np) none) [] = .rt (.bl true) [] := h3
  simp only [calD, hf]
  rw [if_pos (by rfl), h4]
  rfl
theorem i_cmp1 {C : Cal} {o : Cop} {a b : E} {ρ : Env} {μ μ1 μ2 : Mem} {x y : D} (ha : evE P01 C r a ρ μ = .ok x μ1) (hb : evE P01 C r b ρ μ1 = .ok y μ2) : evE P01 C r (.cmp o a b) ρ μ = (nox (cmpV P01 C μ2 o x y)).bind fun c μ => .ok (.bl c) μ := by
  simp only [evE, ha, hb, R.bind_ok]
def try5 (c : Nat) (ns : List Nat) (es : Es) (b f : Nat) : S := .try (.c (.rai (.exc c ns es)) .n) (.c [.own b] (some 2) (.c (.ex (.bm .append (.v 1) (.c (.bi .reprD (.c (.xat 2 f) .n)) .n))) .n) .n)
theorem reprDV_one {s : Str} (hr : r d = some s) (hi : ∀ c ns fs, d ≠ .ins c ns fs) : reprDV r d = some (.str s) := by
  cases d <;> simp_all [reprDV]
theorem try_ok {c b f : Nat} {ns : List Nat} {es : Es} {vs : List D} {s : Str} {l : List D} (hr : r d = some s) (hi : ∀ c ns fs, d ≠ .ins c ns fs) (ho : ∀ n, d ≠ .obj n)
    (h1 : evSs P01 (C01 r n) r (.c (.rai (.exc c ns es)) .n) [some d, some (.obj 0), none] [.lst l] = .ex (.exc c ns vs) [some d, some (.obj 0), none] [.lst l])
    (h2 : isTys P01 [.lst l] (.exc c ns vs) [.own b] = some true)
    (h3 : getX P01 [some d, some (.obj 0), some (.exc c ns vs)] 2 fget f = some d) (h4 : l.length < sizeLn) :
    evS P01 (C01 r n) r (try5 c ns es b f) [some d, some (.obj 0), none] [.lst l] = .nx [some d, some (.obj 0), none] [.lst (l ++ [.str s])] := by
  have hx : P01.exs = true := rfl
  have hrd : ∀ μ, rd μ d = d := fun μ => by
    cases d <;> first | rfl | exact absurd rfl (ho _)
  have e1 : evE P01 (C01 r n) r (.bm .append (.v 1) (.c (.bi .reprD (.c (.xat 2 f) .n)) .n)) [some d, some (.obj 0), some (.exc c ns vs)] [.lst l] = .ok .non [.lst (l ++ [.str s])] := by
    have e2 : evEs P01 (C01 r n) r (.c (.bi .reprD (.c (.xat 2 f) .n)) .n) [some d, some (.obj 0), some (.exc c ns vs)] [.lst l] = .ok [.str s] [.lst l] := by
      simp only [evEs, evE, h3, R.of_some, R.bind_ok, biV, bi1V, hrd, reprDV_one hr hi, nox_ok]
    have e3 : evE P01 (C01 r n) r (.v 1) [some d, some (.obj 0), some (.exc c ns vs)] [.lst l] = .ok (.obj 0) [.lst l] := by rfl
    simp only [evE] at e3 ⊢
    rw [e3]
    simp only [R.bind_ok, e2]
    simp [bmTy, rd, bmV, appV, h4]
  simp only [try5, evS, h1, hx, if_true, evH, h2]
  have e4 : evSs P01 (C01 r n) r (.c (.ex (.bm .append (.v 1) (.c (.bi .reprD (.c (.xat 2 f) .n)) .n))) .n) (setE [some d, some (.obj 0), none] 2 (.exc c ns vs)) [.lst l] = .nx [some d, some (.obj 0), some (.exc c ns vs)] [.lst (l ++ [.str s])] := by
    show evSs P01 (C01 r n) r _ [some d, some (.obj 0), some (.exc c ns vs)] [.lst l] = _
    simp only [evSs, evS, e1, seR_ok]
  rw [e4]
  rfl
theorem s5 (hs : isSp d = false) (Q : Rp r d) : calD P01 r (n + 1) 5 [d] [] = .ok (.bl true) [] := by
  obtain ⟨s, hr, hi⟩ := Q.one
  have hrd : ∀ μ, rd μ d = d := fun μ => by
    cases d <;> first | rfl | exact absurd rfl (Q.obj _)
  have t1 := try_ok (n := n) (c := 0) (b := 26) (f := 0) (ns := [0]) (es := .c (.v 0) .n) (vs := [d]) (l := []) hr hi Q.obj (by cases d <;> first | (exfalso; simp [isSp] at hs; done) | kernel_rfl) (by kernel_rfl) (by kernel_rfl) (by decide)
  have t2 := try_ok (n := n) (c := 18) (b := 27) (f := 0) (ns := [0]) (es := .c (.v 0) .n) (vs := [d]) (l := [.str s]) hr hi Q.obj (by cases d <;> first | (exfalso; simp [isSp] at hs; done) | kernel_rfl) (by kernel_rfl) (by kernel_rfl) (by simp [sizeLn])
  have t3 := try_ok (n := n) (c := 25) (b := 28) (f := 1) (ns := [1, 4]) (es := .c (.v 0) (.c (.k (.int 3)) .n)) (vs := [d, .int 3]) (l := [.str s, .str s]) hr hi Q.obj (by cases d <;> first | (exfalso; simp [isSp] at hs; done) | kernel_rfl) (by kernel_rfl) (by kernel_rfl) (by simp [sizeLn])
  have v0 : evE P01 (C01 r n) r (.v 0) [some d, some (.obj 0), none] [.lst [.str s, .str s, .str s]] = .ok d [.lst [.str s, .str s, .str s]] := by
    cases d <;> first | (exfalso; simp [isSp] at hs; done) | rfl
  have hb : f5.body = .c (.asg (.v 1) (.lay (.lst .n))) (.c (try5 0 [0] (.c (.v 0) .n) 26 0) (.c (try5 18 [0] (.c (.v 0) .n) 27 0) (.c (try5 25 [1, 4] (.c (.v 0) (.c (.k (.int 3)) .n)) 28 1) (.c (.ret (.cmp .eq (.v 1) (.bin .mul (.lst (.c (.bi .repr (.c (.v 0) .n)) .n)) (.k (.int 3))))) .n)))) := rfl
  have a0 : evS P01 (C01 r n) r (.asg (.v 1) (.lay (.lst .n))) [some d, none, none] [] = .nx [some d, some (.obj 0), none] [.lst []] := by kernel_rfl
  have rp : reprV P01 (C01 r n) r [.lst [.str s, .str s, .str s]] d = .ok (.str s) [.lst [.str s, .str s, .str s]] := by
    unfold reprV
    rw [hrd]
    cases d <;> first | (exact absurd rfl (hi _ _ _)) | (simp only [hr]; rfl)
  have z : evE P01 (C01 r n) r (.cmp .eq (.v 1) (.bin .mul (.lst (.c (.bi .repr (.c (.v 0) .n)) .n)) (.k (.int 3)))) [some d, some (.obj 0), none] [.lst [.str s, .str s, .str s]] = .ok (.bl true) [.lst [.str s, .str s, .str s]] := by
    have e1 : evE P01 (C01 r n) r (.v 1) [some d, some (.obj 0), none] [.lst [.str s, .str s, .str s]] = .ok (.obj 0) [.lst [.str s, .str s, .str s]] := by rfl
    have e2 : evE P01 (C01 r n) r (.bin .mul (.lst (.c (.bi .repr (.c (.v 0) .n)) .n)) (.k (.int 3))) [some d, some (.obj 0), none] [.lst [.str s, .str s, .str s]] = .ok (.lst [.str s, .str s, .str s]) [.lst [.str s, .str s, .str s]] := by
      have e3 : evE P01 (C01 r n) r (.bi .repr (.c (.v 0) .n)) [some d, some (.obj 0), none] [.lst [.str s, .str s, .str s]] = .ok (.str s) [.lst [.str s, .str s, .str s]] := by
        simp only [evE, evEs] at v0 ⊢
        rw [v0]
        simp only [R.bind_ok, biV, bi1V, rp, nox_ok]
      have e4 : evE P01 (C01 r n) r (.lst (.c (.bi .repr (.c (.v 0) .n)) .n)) [some d, some (.obj 0), none] [.lst [.str s, .str s, .str s]] = .ok (.lst [.str s]) [.lst [.str s, .str s, .str s]] := by
        simp only [evE, evX] at e3 ⊢
        rw [e3]
        rfl
      simp only [evE] at e4 ⊢
      rw [e4]
      rfl
    have e5 : cmpV P01 (C01 r n) [.lst [.str s, .str s, .str s]] .eq (.obj 0) (.lst [.str s, .str s, .str s]) = .ok true [.lst [.str s, .str s, .str s]] := by
      simp [cmpV, eqV, rd, sm, sms, SMD, deq, deqs]
    rw [i_cmp1 e1 e2, e5]
    rfl
  have h3 : evSs P01 (C01 r n) r f5.body [some d, none, none] [] = .rt (.bl true) [.lst [.str s, .str s, .str s]] := by
    rw [hb]
    simp only [evSs, a0, t1, List.nil_append]
    simp only [t2, List.cons_append, List.nil_append]
    simp only [t3, List.cons_append, List.nil_append]
    simp only [evS, z, seR_ok]
  have hf : P01.fns 5 = some f5 := by kernel_rfl
  have h4 : evSs P01 ⟨calD P01 r n, lamD P01 r n⟩ r f5.body ([d].map some ++ List.replicate (f5.nn - f5.np) none) [] = .rt (.bl true) [.lst [.str s, .str s, .str s]] := h3
  simp only [calD, hf]
  rw [if_pos (by rfl), h4]
  rfl
def w587 : S := .for (.v 2) (.rng (.c (.bi .len (.c (.v 1) .n)) .n)) (.c (.asg (.v 3) (.lc [4] (.v 4) (.rng (.c (.bi .len (.c (.v 1) .n)) .n)) (.k (.bl true)) (.cmp .eq (.v 4) (.v 2)))) (.c (.ite (.or (.c (.cmp .ne (.cal 584 (.c (.idx (.v 1) (.v 2)) .n)) (.v 3)) (.c (.cmp .ne (.cal 585 (.c (.idx (.v 1) (.v 2)) .n)) (.cal 3 (.c (.v 2) .n))) .n))) (.c (.ret (.k (.bl false))) .n) .n) .n))
def due01 : List D := [.bl false, .bl false, .bl false, .bl false, .bl false, .bl false, .bl false, .bl false, .bl false, .bl false, .bl false, .bl false, .bl false, .bl false, .bl false, .bl false, .bl false, .bl false, .bl false, .bl false, .bl false, .bl false, .bl false, .bl false, .bl false, .bl true]
theorem inner1 (x2 x3 x4 : Option D) : evS P01 (C01 r (n + 1)) r w587 [some d, some (.lst (xs01 d)), x2, x3, x4] [] = .nx [some d, some (.lst (xs01 d)), some (.int 25), some (.lst due01), x4] [] := by
  kernel_rfl
theorem i_not1 {C : Cal} {e : E} {ρ : Env} {μ μ1 : Mem} {b : Bool} (h : evE P01 C r e ρ μ = .ok (.bl b) μ1) : evE P01 C r (.not e) ρ μ = .ok (.bl (!b)) μ1 := by
  simp only [evE, h, R.bind_ok, tru, Option.map_some, R.of_some]
theorem i_cal1 {C : Cal} {f : Nat} {F : Fn} {es : Es} {ds : List D} {x : D} {ρ : Env} {μ : Mem} (hes : evEs P01 C r es ρ μ = .ok ds μ) (hf : P01.fns f = some F) (hb : bindK F.np F.dflt ds [] [] = some ds) (h : C.fn f ds μ = .ok x μ) : evE P01 C r (.cal f es) ρ μ = .ok x μ := by
  simp only [evE, hes, R.bind_ok]
  unfold calF
  simp only [hf, hb, h]
def bb587 : Ss := .c w587 (.c (.ite (.not (.cal 586 (.c (.v 1) (.c (.v 0) .n)))) (.c (.ret (.k (.bl false))) .n) .n) .n)
theorem body1 (hs : isSp d = false) (Q : Rp r d) (x2 x3 x4 : Option D) : evSs P01 (C01 r (n + 1)) r bb587 [some d, some (.lst (xs01 d)), x2, x3, x4] [] = .nx [some d, some (.lst (xs01 d)), some (.int 25), some (.lst due01), x4] [] := by
  have hf : P01.fns 586 = some f586 := by kernel_rfl
  have e : evEs P01 (C01 r (n + 1)) r (.c (.v 1) (.c (.v 0) .n)) [some d, some (.lst (xs01 d)), some (.int 25), some (.lst due01), x4] [] = .ok [.lst (xs01 d), d] [] := by
    cases d <;> first | (exfalso; simp [isSp] at hs; done) | kernel_rfl
  have hk : bindK f586.np f586.dflt [.lst (xs01 d), d] [] [] = some [.lst (xs01 d), d] := by kernel_rfl
  have hc : (C01 r (n + 1)).fn 586 [.lst (xs01 d), d] [] = .ok (.bl true) [] := by
    have z := s586 (r := r) (n := n) (d := d) hs Q
    simp only [C01]
    exact z
  have c := i_not1 (i_cal1 (f := 586) (F := f586) e hf hk hc)
  unfold bb587
  simp only [evSs, inner1]
  simp only [evS, c, seR_ok]
  rfl
theorem s587 (hs : isSp d = false) (Q : Rp r d) : calD P01 r (n + 2) 587 [d] [] = .ok (.bl true) [] := by
  have hf : P01.fns 587 = some f587 := by kernel_rfl
  have hb : f587.body = .c (.for (.v 1) (.e (.cal 583 (.c (.v 0) .n))) bb587) (.c (.ret (.cal 5 (.c (.v 0) .n))) .n) := rfl
  have e0 : ∀ x1 x2 x3 x4, evEs P01 (C01 r (n + 1)) r (.c (.v 0) .n) [some d, x1, x2, x3, x4] [] = .ok [d] [] := fun _ _ _ _ => by
    cases d <;> first | (exfalso; simp [isSp] at hs; done) | rfl
  have e1 : evE P01 (C01 r (n + 1)) r (.cal 583 (.c (.v 0) .n)) [some d, none, none, none, none] [] = .ok (.lst [.lst (xs01 d), .lst (xs01 d)]) [] := i_cal1 (f := 583) (F := f583) (e0 _ _ _ _) (by kernel_rfl) rfl (s583 r n d hs)
  have e5 : evE P01 (C01 r (n + 1)) r (.cal 5 (.c (.v 0) .n)) [some d, some (.lst (xs01 d)), some (.int 25), some (.lst due01), none] [] = .ok (.bl true) [] := i_cal1 (f := 5) (F := f5) (e0 _ _ _ _) (by kernel_rfl) rfl (s5 (n := n) hs Q)
  have hi : evIt P01 (C01 r (n + 1)) r (.e (.cal 583 (.c (.v 0) .n))) [some d, none, none, none, none] [] = .ok (none, [.lst (xs01 d), .lst (xs01 d)]) [] := by
    simp only [evIt, e1, R.bind_ok]
    rfl
  have st : ∀ x1 x2 x3, asT P01 (C01 r (n + 1)) r (.v 1) (.lst (xs01 d)) [some d, x1, x2, x3, none] [] = .ok [some d, some (.lst (xs01 d)), x2, x3, none] [] := fun _ _ _ => rfl
  have h3 : evSs P01 (C01 r (n + 1)) r f587.body [some d, none, none, none, none] [] = .rt (.bl true) [] := by
    rw [hb]
    have b1 := body1 (n := n) hs Q none none none
    have b2 := body1 (n := n) hs Q (some (.int 25)) (some (.lst due01)) none
    simp only [evSs, evS, hi, seR_ok, forL, srcOk, if_true, st, nox_ok, b1, b2, e5]
  have h4 : evSs P01 ⟨calD P01 r (n + 1), lamD P01 r (n + 1)⟩ r f587.body ([d].map some ++ List.replicate (f587.nn - f587.np) none) [] = .rt (.bl true) [] := h3
  exact (cal_rt hf (by rfl) h4).trans rfl
theorem compL_none {f : D → Mem → R (Option D)} : ∀ l : List D, (∀ x ∈ l, f x [] = .ok none []) → compL f none l [] = .ok [] []
  | [], _ => rfl
  | x :: l, h => by
    simp only [compL, srcOk, if_true, h x (List.mem_cons_self ..), R.bind_ok, compL_none l fun y hy => h y (List.mem_cons_of_mem _ hy)]
def fix01 : List D := [.non, .str "a", .tup [.int 1, .str "x"], .bl true, .int (-3)]
def t01 (zs : List Int) : List D := fix01 ++ (zs.take 3).map fun z => .int (z % 1000000000000)
theorem law01' {zs : List Int} (h : ∀ x ∈ t01 zs, isSp x = false ∧ Rp r x) : calD P01 r (n + 3) 588 [.rol (zs.map .int)] [] = .ok (.bl true) [] := by
  have hf : P01.fns 588 = some f588 := by kernel_rfl
  have h1 : evSs P01 (C01 r (n + 2)) r f588.body [some (.rol (zs.map .int)), none, none, none, none] [] = evSs P01 (C01 r (n + 2)) r (.c (.ret (.cmp .eq (.lc [4] (.v 4) (.e (.v 2)) (.not (.cal 587 (.c (.v 4) .n))) (.v 4)) (.lst .n))) .n) [some (.rol (zs.map .int)), some (.lst [.int 8, .int 12, .int 5]), some (.lst (t01 zs)), none, none] [] := by
    match zs with
    | [] => kernel_rfl
    | [a] => kernel_rfl
    | [a, b] => kernel_rfl
    | a :: b :: c :: t => kernel_rfl
  have h2 : evE P01 (C01 r (n + 2)) r (.lc [4] (.v 4) (.e (.v 2)) (.not (.cal 587 (.c (.v 4) .n))) (.v 4)) [some (.rol (zs.map .int)), some (.lst [.int 8, .int 12, .int 5]), some (.lst (t01 zs)), none, none] [] = .ok (.lst []) [] := by
    have e : evIt P01 (C01 r (n + 2)) r (.e (.v 2)) [some (.rol (zs.map .int)), some (.lst [.int 8, .int 12, .int 5]), some (.lst (t01 zs)), none, none] [] = .ok (none, t01 zs) [] := by rfl
    simp only [evE, e, R.bind_ok]
    rw [compL_none]
    · rfl
    · intro x hx
      obtain ⟨hs, Q⟩ := h x hx
      have st : asT P01 (C01 r (n + 2)) r (.v 4) x (wipeE [some (.rol (zs.map .int)), some (.lst [.int 8, .int 12, .int 5]), some (.lst (t01 zs)), none, none] [4]) [] = .ok [some (.rol (zs.map .int)), some (.lst [.int 8, .int 12, .int 5]), some (.lst (t01 zs)), none, some x] [] := rfl
      have e0 : evEs P01 (C01 r (n + 2)) r (.c (.v 4) .n) [some (.rol (zs.map .int)), some (.lst [.int 8, .int 12, .int 5]), some (.lst (t01 zs)), none, some x] [] = .ok [x] [] := by
        cases x <;> first | (exfalso; simp [isSp] at hs; done) | rfl
      have c := i_not1 (i_cal1 (f := 587) (F := f587) e0 (by kernel_rfl) rfl (s587 (n := n) hs Q))
      simp only [evE] at c
      simp only [st, R.bind_ok, c]
      rfl
  have h3 : evSs P01 (C01 r (n + 2)) r f588.body [some (.rol (zs.map .int)), none, none, none, none] [] = .rt (.bl true) [] := by
    rw [h1]
    have e3 : evE P01 (C01 r (n + 2)) r (.lst .n) [some (.rol (zs.map .int)), some (.lst [.int 8, .int 12, .int 5]), some (.lst (t01 zs)), none, none] [] = .ok (.lst []) [] := rfl
    have c := i_cmp1 (o := .eq) h2 e3
    simp only [evSs, evS, c]
    rfl
  have h4 : evSs P01 ⟨calD P01 r (n + 2), lamD P01 r (n + 2)⟩ r f588.body ([.rol (zs.map .int)].map some ++ List.replicate (f588.nn - f588.np) none) [] = .rt (.bl true) [] := h3
  exact (cal_rt hf (by rfl) h4).trans rfl
end
theorem shw_nat {i : Nat} (h : i < 10 ^ 12) : Shw 12 (intS i) := by
  have e : sL (intS (i : Int)) = (Nat.toDigits 10 i).map Char.toNat := by
    show (Str.ofString (toString (i : Int))).cps.toList = _
    rw [Str.ofString_eq_toList]
    show ((Nat.repr i).toList.map Char.toNat) = _
    rw [Nat.toList_repr]
  refine ⟨fun c hc => ?_, ?_⟩
  · rw [e] at hc
    obtain ⟨d, _, rfl⟩ := List.mem_map.mp hc
    exact char_lt d
  · rw [e, List.length_map]
    have e := (Nat.length_repr_le_iff (n := i) (by decide : 0 < 12)).mpr h
    rwa [← String.length_toList, Nat.toList_repr] at e
/-- what is shown in few signs -/
def Sm01 (d : D) : Prop := sm 20 d = true ∧ (toPy d).showable = true ∧ Shw 100 (toPy d).shown
theorem sm01_list {l : List D} (h : ∀ d ∈ l, Sm01 d) (hl : l.length ≤ 100) : ∃ s, shownD (.lst l) = some s := by
  refine ⟨_, shown_lst (b := 100) ?_ (fun d hd => (h d hd).2.1) (fun d hd => (h d hd).2.2) (by unfold sizeLn; omega)⟩
  have key : ∀ m : List D, (∀ d ∈ m, Sm01 d) → sms 20 m = true := by
    intro m
    induction m with
    | nil => intro _; rfl
    | cons d m ih =>
      intro hm
      simp only [sms, Bool.and_eq_true]
      exact ⟨(hm d (List.mem_cons_self ..)).1, ih fun e he => hm e (List.mem_cons_of_mem _ he)⟩
  exact key l h
theorem sm01_7 : Sm01 (.int 7) := ⟨rfl, by decide +kernel, .of (by decide +kernel)⟩
theorem rp01 {d : D} (h : Sm01 d) (h1 : ∃ s, shownD d = some s) (hi : ∀ c ns fs, d ≠ .ins c ns fs) (ho : ∀ n, d ≠ .obj n) : Rp shownD d := by
  obtain ⟨s, h1⟩ := h1
  refine ⟨⟨s, h1, hi⟩, ho, sm01_list (fun x hx => ?_) (by simp [ths01]), sm01_list (fun x hx => ?_) (by simp)⟩
  · have : x = d := by simpa [ths01] using hx
    rw [this]; exact h
  · simp only [List.mem_cons, List.not_mem_nil, or_false] at hx
    rcases hx with rfl | rfl
    · exact h
    · exact sm01_7
theorem sm01_nat {i : Nat} (h : i < 10 ^ 12) : Sm01 (.int (i : Int)) :=
  ⟨rfl, able_int (Nat.lt_trans h (by decide)), (shw_nat h).mono (by omega)⟩
theorem shown_nat {i : Nat} (h : i < 10 ^ 12) : ∃ s, shownD (.int (i : Int)) = some s := by
  have h1 : (i : Int).natAbs.log2 < 1920 := by
    have : (i : Int).natAbs = i := Int.natAbs_natCast i
    rw [this]
    by_cases h0 : i = 0
    · subst h0; decide
    · have := (Nat.log2_lt h0 (k := 1920)).mpr (Nat.lt_of_lt_of_le (m := 2 ^ 40) (Nat.lt_trans h (by decide)) (Nat.pow_le_pow_right (by omega) (by omega)))
      omega
  exact ⟨_, if_pos ⟨h1, (shw_nat h).okS (by unfold sizeLn; omega)⟩⟩
theorem all01 {zs : List Int} : ∀ x ∈ t01 zs, isSp x = false ∧ Rp shownD x := by
  intro x hx
  rcases List.mem_append.mp hx with hx | hx
  · simp only [fix01, List.mem_cons, List.not_mem_nil, or_false] at hx
    rcases hx with rfl | rfl | rfl | rfl | rfl
    · exact ⟨rfl, rp01 ⟨rfl, by decide +kernel, .of (by decide +kernel)⟩ (by unfold shownD; exact ⟨_, if_pos (by decide +kernel)⟩) (fun _ _ _ z => nomatch z) (fun _ z => nomatch z)⟩
    · exact ⟨rfl, rp01 ⟨rfl, by decide +kernel, .of (by decide +kernel)⟩ (by unfold shownD; exact ⟨_, if_pos (by decide +kernel)⟩) (fun _ _ _ z => nomatch z) (fun _ z => nomatch z)⟩
    · exact ⟨rfl, rp01 ⟨by decide +kernel, by decide +kernel, .of (by decide +kernel)⟩ (by unfold shownD; exact ⟨_, if_pos (by decide +kernel)⟩) (fun _ _ _ z => nomatch z) (fun _ z => nomatch z)⟩
    · exact ⟨rfl, rp01 ⟨rfl, by decide +kernel, .of (by decide +kernel)⟩ (by unfold shownD; exact ⟨_, if_pos (by decide +kernel)⟩) (fun _ _ _ z => nomatch z) (fun _ z => nomatch z)⟩
    · exact ⟨rfl, rp01 ⟨rfl, by decide +kernel, .of (by decide +kernel)⟩ (by unfold shownD; exact ⟨_, if_pos (by decide +kernel)⟩) (fun _ _ _ z => nomatch z) (fun _ z => nomatch z)⟩
  · obtain ⟨z, _, rfl⟩ := List.mem_map.mp hx
    have h0 : 0 ≤ z % 1000000000000 := Int.emod_nonneg _ (by decide)
    have h1 : z % 1000000000000 < 1000000000000 := Int.emod_lt_of_pos _ (by decide)
    obtain ⟨i, e⟩ := Int.eq_ofNat_of_zero_le h0
    rw [e]
    have hi : i < 10 ^ 12 := by
      have : (10 : Nat) ^ 12 = 1000000000000 := by decide
      omega
    exact ⟨rfl, rp01 (sm01_nat hi) (shown_nat hi) (fun _ _ _ z => nomatch z) (fun _ z => nomatch z)⟩
theorem law01 {zs : List Int} : ∃ μ, calD P01 shownD 60 588 [.rol (zs.map .int)] [] = .ok (.bl true) μ := ⟨[], law01' (n := 57) all01⟩
end DI
end

theorem PySem.Challenge.cw_markedrings_k01_limits_and_errors_holds : PySem.Challenge.rw_markedrings_k01_limits_and_errors.Holds := by
  exact DI.Wk01.holds_of fun zs hz hb => DI.law01

