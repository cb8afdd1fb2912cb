import PyProof.Rows.All
import Wide.All
import OpenK.AllK
import Wide.FinOn
import KE.SortData
import HandS.ForMost
import HandS.Zip
import KE.GoesEnum
import HandS.TupAny
import HandS.Conv
import HandS.Exc
import HandS.ExcOwn
import HandS.Lambda
import HandS.Wide
import HandS.IsInst
import HandS.Style
import HandS.Deep
import HandS.TupMul
import PyProof.NeKinds
import HandS.Small
import HandS.TryOnly
import HandS.Iter
import HandS.List
import HandS.Comp
import HandS.DictComp
import HandS.Property
import HandS.ClsMeth
import HandS.MakeKw
import HandS.MakeKwOnly
import HandS.More
import HandS.HotCalls
import HandS.SuiteRaise
import HandS.ExcField
import HandS.New
import HandS.Defaults
import HandS.Text
import HandS.Dict
import PyProof.StrLawsTight
import PyProof.Rows.StrItems
import PyProof.Rows.StrSplitAre
import HandS.Star
import HandS.FStr
import HandS.RaiseMore
import OpenK.KOps
import KE.KCallOwn
import PyProof.ReprRoads
import PyProof.Truth
import PyProof.Conv_bool
import PyProof.CallFns
import KE.KRevSl
import KE.SortCalls
import HandS.Strs
import HandS.SetFor
import KE.KIndexOf
import PyProof.WalkInts
import KE.KDictZip
import HandS.ExcInit
import HandS.ExcValue
import HandS.SetKeys
import KE.KExcSuper
import KE.KExcLine
import HandS.TryMany
import PyProof.Rows.TupIter
import PyProof.EqKinds
import PyProof.InstNe
import KE.KExcIs
import KE.SortKeyHeap
import HandS.SortKw
import KE.DataMinKey
import HandS.EndTab
import HandS.HeadNt
import HandS.Head0
import HandS.Head1
import HandS.Head2
import HandS.HeadEnd
import HandS.EndBits
import HandS.Words
import PyProof.Rows.Walk
import PySem.Challenge.RW_markedrings_k08_webs_compared
section
set_option linter.all false
namespace DI
open PySem

inductive D where
  | non | bl (b : Bool) | int (i : Int) | str (s : Str)
  | tup (l : List D) | lst (l : List D)
  /-- a tuple that is a dict's key, or a pair to be unpacked -/
  | key (l : List D)
  | dct (t : Bool) (ks vs : List D)
  /-- a list that is read, never written: the script -/
  | rol (l : List D)
  /-- a frozen instance, an exception: class, names, values -/
  | ins (c : Nat) (ns : List Nat) (vs : List D) | exc (c : Nat) (ns : List Nat) (vs : List D)
  | cls (c : Nat) | fn (n : Nat) | clo (k : Nat) (l : List (Option D)) | obj (n : Nat)
  deriving Inhabited

/-- what stands in the store: it may change -/
inductive Ob where
  | lst (l : List D) | dct (t : Bool) (ks vs : List D) | ins (c : Nat) (ns : List Nat) (vs : List D)
  deriving Inhabited
abbrev Mem := List Ob
abbrev Env := List (Option D)

inductive R (α : Type) where
  | ok (a : α) (μ : Mem) | ex (x : D) (μ : Mem) | no
def R.bind {α β : Type} : R α → (α → Mem → R β) → R β
  | .ok a μ, f => f a μ
  | .ex x μ, _ => .ex x μ
  | .no, _ => .no
@[simp] theorem R.bind_ok {α β : Type} (a : α) (μ : Mem) (f : α → Mem → R β) : R.bind (.ok a μ) f = f a μ := rfl
@[simp] theorem R.bind_ex {α β : Type} (x : D) (μ : Mem) (f : α → Mem → R β) : R.bind (.ex x μ) f = .ex x μ := rfl
@[simp] theorem R.bind_no {α β : Type} (f : α → Mem → R β) : R.bind .no f = .no := rfl
/-- no error leaves a comprehension -/
def nox {α : Type} : R α → R α
  | .ex _ _ => .no
  | r => r
@[simp] theorem nox_ok {α : Type} (a : α) (μ : Mem) : nox (.ok a μ) = .ok a μ := rfl
/-- an answer of a step without effect -/
def R.of {α : Type} (μ : Mem) : Option α → R α
  | some a => .ok a μ
  | none => .no
@[simp] theorem R.of_some {α : Type} (μ : Mem) (a : α) : R.of μ (some a) = .ok a μ := rfl
@[simp] theorem R.of_none {α : Type} (μ : Mem) : (R.of μ (none : Option α)) = .no := rfl
inductive SR where
  | nx (ρ : Env) (μ : Mem) | rt (d : D) (μ : Mem) | ex (x : D) (ρ : Env) (μ : Mem) | no

inductive Bop where | add | sub | mul | mod | fdv | pow | shl
  deriving DecidableEq
inductive Cop where | eq | ne | lt | le | gt | ge | in_ | ni | is_ | isn
  deriving DecidableEq
inductive Bi where | len | int | str | repr | abs | sum | all | any | tuple | bool | divmod | set | list | min2 | max2 | min1 | max1 | sorted
  deriving DecidableEq
inductive Bm where | join | split | index | count | append | extend | insert | pop | get | items | upper | replace | indexT
  deriving DecidableEq
inductive Ty where | py (n : Nat) | own (c : Nat)
  deriving DecidableEq

mutual
inductive E where
  | v (i : Nat) | k (d : D) | g (n : Nat)
  | tup (es : Es) | key (es : Es) | lst (es : Es) | star (e : E) | dct (t : Bool) (l : Kv) | dpu (a k v : E)
  | bin (o : Bop) (a b : E) | neg (a : E) | cmp (o : Cop) (a b : E) | cmp2 (o p : Cop) (a b c : E)
  | and (es : Es) | or (es : Es) | not (a : E) | ite (c a b : E)
  | cal (f : Nat) (es : Es) | clk (f : Nat) (es : Es) (ps : List Nat) (kv : Es)
  | new (c : Nat) (es : Es) | nwk (c : Nat) (es : Es) (ps : List Nat) (kv : Es)
  | exc (c : Nat) (ns : List Nat) (es : Es) | exk (c : Nat) (ns ps : List Nat) (es : Es)
  | mth (o : E) (m : Nat) (es : Es) | mtk (o : E) (m : Nat) (es : Es) (ps : List Nat) (kv : Es)
  | att (o : E) (f : Nat) | xat (i f : Nat) | app (i : Nat) (es : Es)
  | bi (b : Bi) (es : Es) | bm (m : Bm) (o : E) (es : Es) | isi (e : E) (ts : List Ty)
  | idx (a i : E) | sli (a : E) (lo hi : O)
  /-- a[::-1], a[:0:-1] -/
  | rev (a : E) (z : Bool)
  | lc (own : List Nat) (t : T) (it : It) (c e : E) | lc2 (own : List Nat) (t : T) (it : It) (c : E) (t2 : T) (it2 : It) (c2 e : E)
  | dc (own : List Nat) (t : T) (it : It) (c k v : E)
  | fst (es : Es) | fmt (e : E) | lam (n : Nat) | lay (e : E)
  | srt (e : E) | srk (e : E) (k : Nat) | srf (e : E) (f : Nat) | mnk (e : E) (k : Nat)
  | lof (it : It) | dof (e : E)
  /-- a def called with the exception of a slot; isinstance of it (one of the classes cs) -/
  | cax (f i : Nat) | xis (i : Nat) (cs : List Nat) (t : Ty)
/-- what is walked -/
inductive It where
  | e (e : E) | rng (es : Es) | enu (e : E) | zip (a b : E)
inductive Es where
  | n | c (e : E) (r : Es)
inductive Kv where
  | n | c (k v : E) (r : Kv)
inductive O where
  | n | s (e : E)
inductive T where
  | v (i : Nat) | ix (o i : E) | at (o : E) (f : Nat) | tup (ts : Ts)
inductive Ts where
  | n | c (t : T) (r : Ts)
end
mutual
inductive S where
  | asg (t : T) (e : E) | par (ts : Ts) (es : Es) | ex (e : E) | ret (e : E) | pass
  | ite (c : E) (a b : Ss) | for (t : T) (it : It) (b : Ss) | whl (c : E) (b : Ss)
  | rai (e : E) | try (b : Ss) (hs : Hs) | wth (e : E) (t : T) (b : Ss)
inductive Ss where
  | n | c (s : S) (r : Ss)
inductive Hs where
  | n | c (ts : List Ty) (x : Option Nat) (b : Ss) (r : Hs)
end

mutual
def T.vars : T → List Nat
  | .v i => [i]
  | .ix _ _ => []
  | .at _ _ => []
  | .tup ts => ts.vars
def Ts.vars : Ts → List Nat
  | .n => []
  | .c t r => t.vars ++ r.vars
end
structure Fn where
  np : Nat
  nn : Nat
  dflt : List D
  keep : Bool
  body : Ss
structure Lam where
  ps : List Nat
  body : E
/-- a class of the program's own: its base classes (own ones; itself among them), built-in bases by number, __init__, methods, properties, whether instances change -/
structure Cls where
  sup : List Nat
  py : List Nat
  init : Option Nat
  meths : List (Nat × Nat)
  props : List (Nat × Nat)
  spec : List (Nat × Nat)
  flds : List Nat
  live : Bool
  /-- an exception's fields -/
  xfl : List Nat := []
structure Prog where
  fns : Nat → Option Fn
  lams : Nat → Option Lam
  cls : Nat → Option Cls
  gl : Nat → Option D
  /-- exceptions are caught (else a try that meets one has no answer) -/
  exs : Bool := false

mutual
/-- pure data of depth at most n -/
def sm : Nat → D → Bool
  | _, .non => true | _, .bl _ => true | _, .int _ => true | _, .str _ => true
  | n + 1, .tup l => sms n l
  | n + 1, .key l => sms n l
  | n + 1, .lst l => sms n l
  | _, _ => false
def sms : Nat → List D → Bool
  | _, [] => true
  | n, d :: l => sm n d && sms n l
end
def b2i (b : Bool) : Int := if b then 1 else 0
mutual
/-- == of pure data -/
def deq : D → D → Bool
  | .non, .non => true
  | .bl a, .bl b => a == b
  | .bl a, .int j => b2i a == j
  | .int i, .bl b => i == b2i b
  | .int i, .int j => i == j
  | .str x, .str y => x == y
  | .tup l, .tup m => deqs l m
  | .key l, .key m => deqs l m
  | .tup l, .key m => deqs l m
  | .key l, .tup m => deqs l m
  | .lst l, .lst m => deqs l m
  | _, _ => false
def deqs : List D → List D → Bool
  | [], [] => true
  | a :: l, b :: m => deq a b && deqs l m
  | _, _ => false
end
mutual
def toPy : D → PyData
  | .non => .none | .bl b => .bool b | .int i => .int i | .str s => .str s
  | .tup l => .tuple (toPys l) | .key l => .tuple (toPys l) | .lst l => .list (toPys l)
  | _ => .none
def toPys : List D → List PyData
  | [] => []
  | d :: l => toPy d :: toPys l
end
/-- what sorted takes: pure data, any two comparable, tuples with something in them or none at all -/
def srtOk (l : List D) : Bool := sms 20 l && ((l.all fun a => l.all fun b => PySem.W.alike (toPy a) (toPy b)) &&
  ((l.all fun d => match toPy d with | .tuple (_ :: _) => true | _ => false) || (l.all fun d => match toPy d with | .none => false | .tuple _ => false | _ => true)))
/-- tuples alone, any two comparable, some of them empty -/
def srtE (l : List D) : Bool := sms 20 l && ((l.all fun a => l.all fun b => PySem.W.alike (toPy a) (toPy b)) && (l.all fun d => match toPy d with | .tuple _ => true | _ => false))
def srtV : D → Option D
  | .lst l => if srtOk l then some (.lst (l.mergeSort (PySem.W.dataLe false toPy))) else if srtE l then some (.lst (l.mergeSort (PySem.W.dataLe false toPy))) else none
  | .tup l => if srtOk l then some (.lst (l.mergeSort (PySem.W.dataLe false toPy))) else if srtE l then some (.lst (l.mergeSort (PySem.W.dataLe false toPy))) else none
  | .key l => if srtOk l then some (.lst (l.mergeSort (PySem.W.dataLe false toPy))) else none
  | _ => none
/-- the items by their keys -/
def srkV (ks l : List D) : Option (List D) := if srtOk ks then some (((ks.zip l).mergeSort (PySem.W.dataLe false fun p : D × D => toPy p.1)).map Prod.snd) else none
/-- the first one with a least key -/
def minK (m : D × D) : List (D × D) → D × D
  | [] => m
  | p :: r => minK (if PySem.W.dataLt (toPy p.1) (toPy m.1) then p else m) r
def mnkV (ks l : List D) : Option D := match ks.zip l with
  | [] => none
  | p :: r => if srtOk ks then some (minK p r).2 else none
/-- the different ones, as they are met -/
def dedS (xs : List Str) : List Str := xs.foldl (fun l x => if l.contains x then l else l ++ [x]) []
mutual
def lim : D → Nat
  | .obj n => n + 1
  | .tup l => lims l | .key l => lims l | .lst l => lims l | .rol l => lims l
  | .dct _ ks vs => max (lims ks) (lims vs)
  | .ins _ _ vs => lims vs | .exc _ _ vs => lims vs
  | .clo _ l => limo l
  | _ => 0
def lims : List D → Nat
  | [] => 0
  | d :: l => max (lim d) (lims l)
def limo : List (Option D) → Nat
  | [] => 0
  | none :: l => limo l
  | some d :: l => max (lim d) (limo l)
end
def limOb : Ob → Nat
  | .lst l => lims l
  | .dct _ ks vs => max (lims ks) (lims vs)
  | .ins _ _ vs => lims vs

def tru : D → Option Bool
  | .bl b => some b
  | _ => none
/-- a list in the store is read as a list -/
def rd (μ : Mem) : D → D
  | .obj n => match μ[n]? with
    | some (.lst l) => .lst l
    | some (.dct t ks vs) => .dct t ks vs
    | some (.ins c ns vs) => .ins c ns vs
    | none => .obj n
  | d => d
def sizeLn : Nat := 16777216

/-- a dict's look-up: keys are texts, ints, tuples of texts -/
def keyOk (t : Bool) : D → Bool
  | .str _ => !t
  | .int _ => !t
  | .key l => t && !l.isEmpty && l.all fun d => match d with | .str _ => true | _ => false
  | _ => false
def dget (k : D) : List D → List D → Option D
  | a :: ks, v :: vs => if deq a k then some v else dget k ks vs
  | _, _ => none
def dputV (k v : D) : List D → List D → List D
  | a :: ks, w :: vs => (if deq a k then v else w) :: dputV k v ks vs
  | _, _ => []
def dput (k v : D) (ks vs : List D) : List D × List D :=
  if (ks.any fun a => deq a k) = true then (ks, dputV k v ks vs) else (ks ++ [k], vs ++ [v])
def fget (f : Nat) : List Nat → List D → Option D
  | n :: ns, v :: vs => if n = f then some v else fget f ns vs
  | _, _ => none
def fput (f : Nat) (v : D) : List Nat → List D → List Nat × List D
  | n :: ns, w :: vs => if n = f then (n :: ns, v :: vs) else (n :: (fput f v ns vs).1, w :: (fput f v ns vs).2)
  | _, _ => ([f], [v])

/-- a place in a sequence, from the end where negative -/
def atPl (n : Nat) (i : Int) : Option Nat :=
  if 0 ≤ i then (if i < n then some i.toNat else none)
  else (if 0 ≤ i + n then some (i + n).toNat else none)
/-- a slice's end, cut to 0 .. n -/
def clip (n : Nat) (i : Int) : Nat := if 0 ≤ i then min i.toNat n else (i + n).toNat
def cut {α : Type} (l : List α) (lo hi : Option Int) : List α :=
  let a := match lo with | some i => clip l.length i | none => 0
  let b := match hi with | some i => clip l.length i | none => l.length
  (l.take b).drop a
/-- l[::-1], l[:0:-1] -/
def cutR {α : Type} (l : List α) (z : Bool) : List α := if z then l.tail.reverse else l.reverse

def strsD : List D → Option (List Str)
  | [] => some []
  | .str s :: l => (strsD l).map (s :: ·)
  | _ => none
def intsD : List D → Option (List Int)
  | [] => some []
  | .int i :: l => (intsD l).map (i :: ·)
  | _ => none
def blsD : List D → Option (List Bool)
  | [] => some []
  | .bl i :: l => (blsD l).map (i :: ·)
  | _ => none
def sL (s : Str) : List Nat := s.cps.toList
def sM (l : List Nat) : Str := ⟨l.toArray⟩
def joinL (sep : List Nat) : List (List Nat) → List Nat
  | [] => []
  | [x] => x
  | x :: y :: r => x ++ sep ++ joinL sep (y :: r)
/-- split by one sign -/
def splitC (c : Nat) : List Nat → List (List Nat)
  | [] => [[]]
  | x :: l => if x = c then [] :: splitC c l else match splitC c l with
    | w :: r => (x :: w) :: r
    | [] => [[x]]
/-- the order of intsD, texts, and of tuples and lists of these -/
def ltN : List Nat → List Nat → Bool
  | [], [] => false
  | [], _ :: _ => true
  | _ :: _, [] => false
  | a :: l, b :: m => if a = b then ltN l m else decide (a < b)
mutual
def dlt : D → D → Option Bool
  | .int i, .int j => some (decide (i < j))
  | .str x, .str y => some (ltN (sL x) (sL y))
  | .tup l, .tup m => dlts l m
  | .lst l, .lst m => dlts l m
  | _, _ => none
def dlts : List D → List D → Option Bool
  | [], [] => some false
  | [], _ :: _ => some true
  | _ :: _, [] => some false
  | a :: l, b :: m => if deq a b then dlts l m else dlt a b
end
/-- stable insertion from the right: equal ones keep their turns -/
def srtL (lt : D → D → Option Bool) : List D → Option (List D)
  | [] => some []
  | d :: l => (srtL lt l).bind fun r => insR lt d r
where
  insR (lt : D → D → Option Bool) (d : D) : List D → Option (List D)
  | [] => some [d]
  | a :: l => match lt a d with
    | some false => some (d :: a :: l)
    | some true => (insR lt d l).map (a :: ·)
    | none => none
structure Cal where
  fn : Nat → List D → Mem → R D
  lam : Nat → List (Option D) → List D → Mem → R D

def setE (ρ : Env) (i : Nat) (d : D) : Env := ρ.set i (some d)
def wipeE (ρ : Env) : List Nat → Env
  | [] => ρ
  | i :: l => (wipeE ρ l).set i none
def getE (ρ : Env) (i : Nat) : Option D := ρ[i]?.bind id
/-- an exception, a lambda: they stand in slots alone -/
def isSp : D → Bool
  | .exc _ _ _ => true
  | .clo _ _ => true
  | _ => false
/-- a name read -/
def readV (ρ : Env) (i : Nat) : Option D := (getE ρ i).bind fun d => if isSp d = true then none else some d

/-- an attribute of the exception that is handled -/
def getX (P : Prog) (ρ : Env) (i : Nat) (f : Nat → List Nat → List D → Option D) (g : Nat) : Option D := match getE ρ i with
  | some (.exc c ns vs) => (P.cls c).bind fun k => if k.xfl.contains g = true then f g ns vs else none
  | _ => none
section
variable (P : Prog) (C : Cal)
def clsOf : D → Option Nat
  | .ins c _ _ => some c
  | _ => none
/-- the class of an instance, frozen or in the store -/
def clsAt (μ : Mem) (d : D) : Option Nat := clsOf (rd μ d)
def specOf (c n : Nat) : Option Nat := (P.cls c).bind fun k => k.spec.lookup n
/-- special methods by number: 0 __eq__, 1 __len__, 2 __str__, 3 __repr__, 4 __bool__, 5 __contains__, 6 __getitem__, 7 __setitem__, 8 __enter__, 9 __exit__ -/
def special (μ : Mem) (d : D) (n : Nat) : Option Nat := (clsAt μ d).bind fun c => specOf P c n

def addV : D → D → Option D
  | .int i, .int j => some (.int (i + j))
  | .str x, .str y => if (sL x).length + (sL y).length ≤ sizeLn then some (.str (sM (sL x ++ sL y))) else none
  | .tup l, .tup m => if l.length + m.length ≤ sizeLn then some (.tup (l ++ m)) else none
  | .lst l, .lst m => if l.length + m.length ≤ sizeLn then some (.lst (l ++ m)) else none
  | _, _ => none
def mulV : D → D → Option D
  | .int i, .int j => if i.natAbs.log2 + j.natAbs.log2 < 4000000 then some (.int (i * j)) else none
  | .lst l, .int j => if l.length * j.toNat ≤ sizeLn ∧ -(2 ^ 60) < j ∧ j < 2 ^ 60 then some (.lst (List.replicate j.toNat l).flatten) else none
  | .tup l, .int j => if l ≠ [] ∧ l.length ≤ 1000 ∧ 2 ≤ j ∧ j ≤ 1000 then some (.tup (List.replicate j.toNat l).flatten) else none
  | _, _ => none
def intV (f : Int → Int → Option Int) : D → D → Option D
  | .int i, .int j => (f i j).map .int
  | _, _ => none
def binV (μ : Mem) (o : Bop) (a b : D) : Option D :=
  match o with
  | .add => addV (rd μ a) (rd μ b)
  | .sub => intV (fun i j => some (i - j)) (rd μ a) (rd μ b)
  | .mul => mulV (rd μ a) (rd μ b)
  | .mod => intV (fun i j => if 0 < j then some (i % j) else none) (rd μ a) (rd μ b)
  | .fdv => intV (fun i j => if 0 < j ∧ j < 1073741824 then some (i / j) else none) (rd μ a) (rd μ b)
  | .pow => intV (fun i j => if 0 ≤ j ∧ j ≤ 1000 ∧ i.natAbs < 2 ^ 64 then some (i ^ j.toNat) else none) (rd μ a) (rd μ b)
  | .shl => intV (fun i j => if 0 ≤ j ∧ j ≤ 1000 ∧ i.natAbs < 2 ^ 64 then some (i * 2 ^ j.toNat) else none) (rd μ a) (rd μ b)
/-- the number of a value's built-in type -/
def tyNo : D → Option Nat
  | .str _ => some 0 | .int _ => some 1 | .bl _ => some 2 | .tup _ => some 3 | .key _ => some 3 | .lst _ => some 4 | .rol _ => some 4 | .dct _ _ _ => some 5 | .non => some 15
  | _ => none
/-- arguments by place, then by keyword, then defaults -/
def bindK (np : Nat) (dflt args : List D) (ps : List Nat) (kv : List D) : Option (List D) :=
  (List.range np).mapM fun i => match args[i]? with
    | some d => some d
    | none => match (ps.zip kv).lookup i with
      | some d => some d
      | none => if np ≤ i + dflt.length then dflt[i + dflt.length - np]? else none
def calF (f : Nat) (args : List D) (ps : List Nat) (kv : List D) (μ : Mem) : R D :=
  match P.fns f with
  | some F => match bindK F.np F.dflt args ps kv with
    | some ds => C.fn f ds μ
    | none => .no
  | none => .no
/-- o[i] = d -/
def setV (μ : Mem) (o i d : D) : R Unit := match o with
  | .obj n => match μ[n]? with
    | some (.lst l) => match i with
      | .int k => match atPl l.length k with
        | some j => .ok () (μ.set n (.lst (l.set j d)))
        | none => .no
      | _ => .no
    | some (.dct t ks vs) => if keyOk t i && decide (ks.length < sizeLn) then .ok () (μ.set n (.dct t (dput i d ks vs).1 (dput i d ks vs).2)) else .no
    | some (.ins c _ _) => match specOf P c 7 with
      | some f => (calF P C f [o, i, d] [] [] μ).bind fun _ μ => .ok () μ
      | none => .no
    | none => .no
  | _ => .no
/-- a list in the store with lists in it is not compared; pure data only -/
def SMD : Nat := 40
/-- any tuple and the empty one -/
def nilT : D → D → Bool
  | .tup _, .tup [] => true
  | _, _ => false
def isNilT : D → Bool
  | .tup [] => true
  | _ => false
/-- whether an own __eq__ is asked with this one: of the same class, of one that is no class below it, or of a built-in one; a built-in one at the left declines, and the right's own __eq__ is asked -/
def eqTo : D → D → Bool
  | .ins c _ _, .ins c' _ _ => c == c' || (match P.cls c' with
    | some k => k.init.isSome && !k.sup.contains c
    | none => false)
  | .ins _ _ _, d => (tyNo d).isSome
  | _, _ => false
def eqV (μ : Mem) (a b : D) : R Bool :=
  if sm SMD (rd μ a) && sm SMD (rd μ b) then .ok (deq (rd μ a) (rd μ b)) μ
  else if nilT (rd μ a) (rd μ b) then .ok (isNilT (rd μ a)) μ
  else match special P μ a 0 with
    | some f => if eqTo P (rd μ a) (rd μ b) then (calF P C f [a, b] [] [] μ).bind fun d μ => R.of μ (tru d) else .no
    | none => match special P μ b 0 with
      | some f => if (tyNo (rd μ a)).isSome then (calF P C f [b, a] [] [] μ).bind fun d μ => R.of μ (tru d) else .no
      | none => .no
def inV (μ : Mem) (a b : D) : R Bool :=
  match rd μ b with
  | .tup l => if sm SMD (rd μ a) && sms SMD l then .ok (l.any fun x => deq x (rd μ a)) μ else .no
  | .lst l => if sm SMD (rd μ a) && sms SMD l then .ok (l.any fun x => deq x (rd μ a)) μ else .no
  | .str y => match a with
    | .str x => if (sL x).length = 1 then .ok ((sL x).all fun c => (sL y).contains c) μ else .no
    | _ => .no
  | .dct t ks vs => if keyOk t a then .ok (dget a ks vs).isSome μ else .no
  | .ins c _ _ => match specOf P c 5 with
    | some f => (calF P C f [b, a] [] [] μ).bind fun d μ => R.of μ (tru d)
    | none => .no
  | _ => .no
def isV (a b : D) : Option Bool :=
  match b with
  | .non => some (match a with | .non => true | _ => false)
  | .bl v => some (match a with | .bl w => v == w | _ => false)
  | _ => none
def notR : R Bool → R Bool
  | .ok b μ => .ok (!b) μ
  | r => r
def cmpV (μ : Mem) (o : Cop) (a b : D) : R Bool :=
  match o with
  | .eq => eqV P C μ a b
  | .ne => notR (eqV P C μ a b)
  | .lt => match a, b with | .int i, .int j => .ok (decide (i < j)) μ | _, _ => .no
  | .le => match a, b with | .int i, .int j => .ok (decide (i ≤ j)) μ | _, _ => .no
  | .gt => match a, b with | .int i, .int j => .ok (decide (j < i)) μ | _, _ => .no
  | .ge => match a, b with | .int i, .int j => .ok (decide (j ≤ i)) μ | _, _ => .no
  | .in_ => inV P C μ a b
  | .ni => notR (inV P C μ a b)
  | .is_ => R.of μ (isV a b)
  | .isn => R.of μ ((isV a b).map not)
def isTy (μ : Mem) (d : D) : Ty → Option Bool
  | .py n => if n ≤ 5 then (match rd μ d with
    | .ins c _ _ => (P.cls c).bind fun k => if k.init.isSome then some false else none
    | d => (tyNo d).map fun t => t == n || (t == 2 && n == 1)) else (match d with
    | .exc c _ _ => (P.cls c).map fun k => k.py.contains n
    | _ => none)
  | .own c => match rd μ d with
    | .ins e _ _ => (P.cls e).bind fun k => if k.init.isSome then some (k.sup.contains c) else none
    | .exc e _ _ => (P.cls e).map fun k => k.sup.contains c
    | d => (tyNo d).map fun _ => false
def isTys (μ : Mem) (d : D) : List Ty → Option Bool
  | [] => some false
  | t :: r => match isTy P μ d t with
    | some true => some true
    | some false => isTys μ d r
    | none => none

def lenV (μ : Mem) (a : D) : R D := match rd μ a with
  | .str x => .ok (.int (sL x).length) μ
  | .tup l => .ok (.int l.length) μ
  | .lst l => .ok (.int l.length) μ
  | .rol l => .ok (.int l.length) μ
  | .dct false ks _ => .ok (.int ks.length) μ
  | .ins c _ _ => match specOf P c 1 with
    | some f => (calF P C f [a] [] [] μ).bind fun d μ => match d with
      | .int n => if 0 ≤ n ∧ n < 1000000 then .ok (.int n) μ else .no
      | _ => .no
    | none => .no
  | _ => .no
def int1V : D → Option D
  | .int i => some (.int i)
  | .bl i => some (.int (b2i i))
  | _ => none
/-- the text of an int -/
def intS (i : Int) : Str := Str.ofString (toString i)
def okS (s : Str) : Bool := (sL s).all (fun c => decide (c < 0x110000)) && decide ((sL s).length ≤ sizeLn)
/-- {x} in an f-string: a text or an int -/
def fmtV : D → Option D
  | .int i => if i.natAbs.log2 < 1920 ∧ okS (intS i) = true then some (.str (intS i)) else none
  | .str x => some (.str x)
  | _ => none
def boolV (μ : Mem) (a : D) : R D := match rd μ a with
  | .bl i => .ok (.bl i) μ
  | .ins c _ _ => match specOf P c 4 with
    | some f => (calF P C f [a] [] [] μ).bind fun d μ => match d with
      | .bl i => .ok (.bl i) μ
      | _ => .no
    | none => match specOf P c 1 with
      | some f => (calF P C f [a] [] [] μ).bind fun d μ => match d with
        | .int n => if 0 ≤ n ∧ n < 1000000 then .ok (.bl (n != 0)) μ else .no
        | _ => .no
      | none => .no
  | _ => .no
def strV (μ : Mem) (a : D) : R D := match rd μ a with
  | .int i => if i.natAbs.log2 < 1920 ∧ okS (intS i) = true then .ok (.str (intS i)) μ else .no
  | .str x => .ok (.str x) μ
  | .ins c _ _ => match specOf P c 2 with
    | some f => (calF P C f [a] [] [] μ).bind fun d μ => match d with
      | .str x => .ok (.str x) μ
      | _ => .no
    | none => .no
  | _ => .no
def reprV (reprS : D → Option Str) (μ : Mem) (a : D) : R D := match rd μ a with
  | .ins c _ _ => match specOf P c 3 with
    | some f => (calF P C f [a] [] [] μ).bind fun d μ => match d with
      | .str x => .ok (.str x) μ
      | _ => .no
    | none => .no
  | d => R.of μ ((reprS d).map .str)
def sumV : D → Option D
  | .lst l => (intsD l).map fun l => .int l.sum
  | _ => none
def allV : D → Option D
  | .lst l => (blsD l).map fun l => .bl (l.all id)
  | _ => none
def anyV : D → Option D
  | .lst l => (blsD l).map fun l => .bl (l.any id)
  | _ => none
def tupV : D → Option D
  | .lst l => some (.tup l)
  | .tup l => some (.tup l)
  | _ => none
/-- len(set(x)) of texts -/
def lsetV : D → Option D
  | .tup l => (strsD l).bind fun xs => if xs.length < 4000 then some (.int (dedS xs).length) else none
  | .lst l => (strsD l).bind fun xs => if xs.length < 4000 then some (.int (dedS xs).length) else none
  | _ => none
/-- list(x) of a list, a tuple -/
def listV (d : D) : Option D := match d with
  | .lst l => some (.lst l)
  | .tup l => some (.lst l)
  | .rol l => some (.lst l)
  | _ => none
/-- the least of some numbers -/
def minIs (l : List D) : Option D := (intsD l).bind fun ns => match ns with
  | [] => none
  | n :: r => some (.int (r.foldl min n))
def min1V : D → Option D
  | .lst l => minIs l
  | .tup l => minIs l
  | _ => none
def bi1V (reprS : D → Option Str) (μ : Mem) (b : Bi) (a : D) : R D :=
  match b with
  | .len => lenV P C μ a
  | .int => R.of μ (int1V a)
  | .abs => R.of μ (match a with | .int i => some (.int i.natAbs) | _ => none)
  | .bool => boolV P C μ a
  | .str => strV P C μ a
  | .repr => reprV P C reprS μ a
  | .sum => R.of μ (sumV (rd μ a))
  | .all => R.of μ (allV (rd μ a))
  | .any => R.of μ (anyV (rd μ a))
  | .tuple => R.of μ (tupV (rd μ a))
  | .list => R.of μ (listV (rd μ a))
  | .min1 => R.of μ (min1V (rd μ a))
  | .set => R.of μ (lsetV (rd μ a))
  | .sorted => R.of μ (srtV (rd μ a))
  | _ => .no
def bi2V (b : Bi) (a c : D) : Option D :=
  match a, c with
  | .int i, .int j => match b with
    | .divmod => if 0 < j ∧ j < 1073741824 then some (.key [.int (i / j), .int (i % j)]) else none
    | .min2 => some (.int (if j < i then j else i))
    | .max2 => some (.int (if i < j then j else i))
    | _ => none
  | _, _ => none
def biV (reprS : D → Option Str) (μ : Mem) (b : Bi) (ds : List D) : R D :=
  match ds with
  | [a] => bi1V P C reprS μ b a
  | [a, c] => R.of μ (bi2V b a c)
  | _ => .no

/-- a built-in's method: what it gives and the store behind it -/
def appV (μ : Mem) (n : Nat) (d : D) : R D := match μ[n]? with
  | some (.lst l) => if l.length < sizeLn then .ok .non (μ.set n (.lst (l ++ [d]))) else .no
  | _ => .no
def extV (μ : Mem) (n : Nat) (d : D) : R D := match μ[n]? with
  | some (.lst l) => match rd μ d with
    | .lst r => if l.length + r.length ≤ sizeLn then .ok .non (μ.set n (.lst (l ++ r))) else .no
    | _ => .no
  | _ => .no
def insV (μ : Mem) (n : Nat) (i : Int) (d : D) : R D := match μ[n]? with
  | some (.lst l) => if l.length < sizeLn ∧ 0 ≤ i ∧ i ≤ l.length then .ok .non (μ.set n (.lst (l.take i.toNat ++ d :: l.drop i.toNat))) else .no
  | _ => .no
def pop0V (μ : Mem) (n : Nat) : R D := match μ[n]? with
  | some (.lst l) => match l.getLast? with
    | some d => .ok d (μ.set n (.lst l.dropLast))
    | none => .no
  | _ => .no
def popV (μ : Mem) (n : Nat) (i : Int) : R D := match μ[n]? with
  | some (.lst l) => match atPl l.length i with
    | some k => match l[k]? with
      | some d => .ok d (μ.set n (.lst (l.eraseIdx k)))
      | none => .no
    | none => .no
  | _ => .no
def joinV (s : Str) (d : D) : Option D :=
  match d with
  | .lst l => (strsD l).bind fun xs => if (xs.map fun x => (sL x).length).sum + xs.length * (sL s).length ≤ sizeLn then some (.str (sM (joinL (sL s) (xs.map sL)))) else none
  | .tup l => (strsD l).bind fun xs => if (xs.map fun x => (sL x).length).sum + xs.length * (sL s).length ≤ sizeLn then some (.str (sM (joinL (sL s) (xs.map sL)))) else none
  | _ => none
def splitV (s t : Str) : Option D := match sL t with
  | [c] => if (sL s).length + 2 ≤ sizeLn then some (.lst ((splitC c (sL s)).map fun x => .str (sM x))) else none
  | _ => none
def indexV (a d : D) : Option D := match a with
  | .lst l => if sm SMD d && sms SMD l then (l.findIdx? fun x => deq x d).map fun (k : Nat) => .int k else none
  | _ => none
/-- the place of a text in a tuple of texts -/
def indexTV (a d : D) : Option D := match a, d with
  | .tup l, .str z => (strsD l).bind fun ys => (ys.findIdx? fun x => x == z).map fun (k : Nat) => .int k
  | .tup l, .int z => (intsD l).bind fun ys => (ys.findIdx? fun x => x == z).map fun (k : Nat) => .int k
  | _, _ => none
def countV (a d : D) : Option D := match a with
  | .lst l => if sm SMD d && sms SMD l then some (.int (l.filter fun x => deq x d).length) else none
  | _ => none
def getV (a d z : D) : Option D := match a with
  | .dct t ks vs => if keyOk t d then some ((dget d ks vs).getD z) else none
  | _ => none
def itemsV (a : D) : Option D := match a with
  | .dct _ ks vs => some (.lst ((ks.zip vs).map fun p => .tup [p.1, p.2]))
  | _ => none
/-- the receiver's kind -/
def bmTy (m : Bm) (d : D) : Bool := match d with
  | .str _ => match m with | .join => true | .split => true | _ => false
  | .tup l => match m with | .indexT => !l.isEmpty | _ => false
  | .lst _ => match m with | .append => true | .extend => true | .insert => true | .pop => true | .index => true | .count => true | _ => false
  | .dct _ _ _ => match m with | .get => true | .items => true | _ => false
  | _ => false
def bmV (μ : Mem) (m : Bm) (o : D) (ds : List D) : R D :=
  match m with
  | .append => match o, ds with | .obj n, [d] => appV μ n d | _, _ => .no
  | .extend => match o, ds with | .obj n, [d] => extV μ n d | _, _ => .no
  | .insert => match o, ds with | .obj n, [.int i, d] => insV μ n i d | _, _ => .no
  | .pop => match o, ds with | .obj n, [] => pop0V μ n | .obj n, [.int i] => popV μ n i | _, _ => .no
  | .join => match o, ds with | .str s, [d] => R.of μ (joinV s (rd μ d)) | _, _ => .no
  | .split => match o, ds with | .str s, [.str t] => R.of μ (splitV s t) | _, _ => .no
  | .index => match ds with | [d] => R.of μ (indexV (rd μ o) d) | _ => .no
  | .indexT => match ds with | [d] => R.of μ (indexTV (rd μ o) d) | _ => .no
  | .count => match ds with | [d] => R.of μ (countV (rd μ o) d) | _ => .no
  | .get => match ds with | [d] => R.of μ (getV (rd μ o) d .non) | [d, z] => R.of μ (getV (rd μ o) d z) | _ => .no
  | .items => match ds with | [] => R.of μ (itemsV (rd μ o)) | _ => .no
  | _ => .no
def idxV (μ : Mem) (a i : D) : R D :=
  match rd μ a, i with
  | .tup l, .int k => R.of μ ((atPl l.length k).bind fun j => l[j]?)
  | .key l, .int k => R.of μ ((atPl l.length k).bind fun j => l[j]?)
  | .lst l, .int k => R.of μ ((atPl l.length k).bind fun j => l[j]?)
  | .rol l, .int k => R.of μ ((atPl l.length k).bind fun j => l[j]?)
  | .str x, .int k => R.of μ ((atPl (sL x).length k).bind fun j => (sL x)[j]?.map fun c => .str (sM [c]))
  | .dct t ks vs, k => if keyOk t k then R.of μ (dget k ks vs) else .no
  | .ins c _ _, k => match specOf P c 6 with
    | some f => calF P C f [a, k] [] [] μ
    | none => .no
  | _, _ => .no
def sliD (a : D) (l h : Option Int) : Option D := match a with
  | .tup x => some (.tup (cut x l h))
  | .lst x => some (.lst (cut x l h))
  | .rol x => some (.lst (cut x l h))
  | .str x => some (.str (sM (cut (sL x) l h)))
  | _ => none
def revV (μ : Mem) (a : D) (z : Bool) : Option D :=
  match rd μ a with
  | .tup x => some (.tup (cutR x z))
  | .lst x => some (.lst (cutR x z))
  | _ => none
/-- what a loop goes over: the items, and the store's list that they are of -/
def itV (μ : Mem) (d : D) : Option (Option (Nat × Ob) × List D) :=
  match d with
  | .tup l => some (none, l)
  | .lst l => some (none, l)
  | .rol l => some (none, l)
  | .str x => some (none, (sL x).map fun c => .str (sM [c]))
  | .obj n => match μ[n]? with
    | some (.lst l) => some (some (n, .lst l), l)
    | _ => none
  | _ => none
theorem big_iff (n : Int) : (!Nat.ble 1000000 (-n).toNat) = true ↔ -1000000 < n := by
  rw [Bool.not_eq_true', ← Bool.not_eq_true, Nat.ble_eq]
  omega
/-- an instance that does not run -/
instance (priority := 2000) decBig (n : Int) : Decidable (-1000000 < n) := decidable_of_iff _ (big_iff n)
theorem small_iff (n : Int) : Nat.ble (n.toNat) 999999 = true ↔ n < 1000000 := by
  rw [Nat.ble_eq]
  omega
instance (priority := 2000) decSmall (n : Int) : Decidable (n < 1000000) := decidable_of_iff _ (small_iff n)
def rngV : List D → Option (List D)
  | [.int n] => if -1000000 < n ∧ n < 1000000 then some ((List.range n.toNat).map fun (k : Nat) => .int k) else none
  | [.int a, .int b] => if -1000000 < a ∧ a < 1000000 ∧ -1000000 < b ∧ b < 1000000 then some ((List.range (b - a).toNat).map fun (k : Nat) => .int (a + k)) else none
  | [.int a, .int b, .int s] => if s = -1 ∧ -1000000 < a ∧ a < 1000000 ∧ -1000000 < b ∧ b < 1000000 then some ((List.range (a - b).toNat).map fun (k : Nat) => .int (a - k)) else none
  | _ => none
def enuL (k : Nat) : List D → List D
  | [] => []
  | d :: l => .key [.int k, d] :: enuL (k + 1) l
def zipL : List D → List D → List D
  | a :: l, b :: m => .key [a, b] :: zipL l m
  | _, _ => []
def zipV (a b : D) : Option (Option (Nat × Ob) × List D) := match a, b with
  | .lst l, .lst m => some (none, zipL l m)
  | .tup l, .tup m => some (none, zipL l m)
  | _, _ => none
mutual
def obEq : Ob → Ob → Bool
  | .lst l, .lst m => seqs l m
  | .dct t a b, .dct u c d => t == u && seqs a c && seqs b d
  | .ins c n v, .ins d m w => c == d && n == m && seqs v w
  | _, _ => false
/-- the very same value -/
def seqD : D → D → Bool
  | .non, .non => true | .bl a, .bl b => a == b | .int a, .int b => a == b | .str a, .str b => a == b
  | .tup l, .tup m => seqs l m | .key l, .key m => seqs l m | .lst l, .lst m => seqs l m | .rol l, .rol m => seqs l m | .dct t a b, .dct u c d => t == u && seqs a c && seqs b d
  | .ins c n v, .ins d m w => c == d && n == m && seqs v w | .exc c n v, .exc d m w => c == d && n == m && seqs v w
  | .cls a, .cls b => a == b | .fn a, .fn b => a == b | .obj a, .obj b => a == b
  | .clo a l, .clo b m => a == b && seqo l m
  | _, _ => false
def seqo : List (Option D) → List (Option D) → Bool
  | [], [] => true
  | none :: l, none :: m => seqo l m
  | some a :: l, some b :: m => seqD a b && seqo l m
  | _, _ => false
def seqs : List D → List D → Bool
  | [], [] => true
  | a :: l, b :: m => seqD a b && seqs l m
  | _, _ => false
end
/-- the very same store -/
def memEq : Mem → Mem → Bool
  | [], [] => true
  | a :: l, b :: m => obEq a b && memEq l m
  | _, _ => false
def chkOld : Mem → Mem → Nat → Bool
  | a :: l, b :: m, n => (obEq a b || decide (limOb b ≤ n)) && chkOld l m n
  | [], _, _ => true
  | _, [], _ => false
def srcOk (src : Option (Nat × Ob)) (μ : Mem) : Bool :=
  match src with
  | none => true
  | some (n, o) => match μ[n]? with
    | some o' => obEq o o'
    | none => false

/-- the loop of a comprehension -/
def compL (f : D → Mem → R (Option D)) (src : Option (Nat × Ob)) : List D → Mem → R (List D)
  | [], μ => if srcOk src μ then .ok [] μ else .no
  | d :: ds, μ => if srcOk src μ then (f d μ).bind fun r μ => (compL f src ds μ).bind fun rs μ => .ok (match r with | some x => x :: rs | none => rs) μ else .no
def flatL (f : D → Mem → R (List D)) (src : Option (Nat × Ob)) : List D → Mem → R (List D)
  | [], μ => if srcOk src μ then .ok [] μ else .no
  | d :: ds, μ => if srcOk src μ then (f d μ).bind fun r μ => (flatL f src ds μ).bind fun rs μ => .ok (r ++ rs) μ else .no
def dcompL (f : D → Mem → R (Option (D × D))) (src : Option (Nat × Ob)) : List D → List D × List D → Mem → R (List D × List D)
  | [], a, μ => if srcOk src μ then .ok a μ else .no
  | d :: ds, a, μ => if srcOk src μ then (f d μ).bind fun r μ => (match r with | some (k, v) => if a.1.length < sizeLn then dcompL f src ds (dput k v a.1 a.2) μ else .no | none => dcompL f src ds a μ) else .no
def finX (keep : Bool) (μ0 : Mem) (d : D) (μ : Mem) : R D :=
  if keep || μ.length = μ0.length then .ex d μ
  else if lim d ≤ μ0.length ∧ chkOld μ0 μ μ0.length = true then .ex d (μ.take μ0.length) else .no
/-- an exception out of __init__: what it made is let go -/
def newX (μ : Mem) (r : R D) : R D := match r with
  | .ex x μ' => finX false μ x μ'
  | r => r
/-- the keys of items -/
def mapF (f : D → Mem → R D) : List D → Mem → R (List D)
  | [], μ => .ok [] μ
  | d :: l, μ => (f d μ).bind fun x μ => (mapF f l μ).bind fun r μ => .ok (x :: r) μ
/-- .. that leave the store as it is -/
def mapP (f : D → Mem → R D) (μ : Mem) : List D → Option (List D)
  | [] => some []
  | d :: l => match f d μ with
    | .ok x μ' => if memEq μ μ' then (mapP f μ l).map (x :: ·) else none
    | _ => none
/-- a new instance -/
def newV (c : Nat) (args : List D) (ps : List Nat) (kv : List D) (μ : Mem) : R D :=
  match P.cls c with
  | none => .no
  | some k => match k.init with
    | none => .no
    | some f => newX μ ((calF P C f (.obj μ.length :: args) ps kv (μ ++ [.ins c [] []])).bind fun d μ' => match d with
      | .non => if k.live then .ok (.obj μ.length) μ'
        else match μ'[μ.length]? with
          | some (.ins c' ns vs) => if μ'.length = μ.length + 1 ∧ lims vs ≤ μ.length ∧ chkOld μ μ' μ.length = true then .ok (.ins c' ns vs) (μ'.take μ.length) else .no
          | _ => .no
      | _ => .no)
def methOf (μ : Mem) (d : D) (m : Nat) : Option Nat := match rd μ d with
  | .ins c ns _ => if ns.contains m then none else (P.cls c).bind fun k => k.meths.lookup m
  | _ => none
def attV (μ : Mem) (d : D) (f : Nat) : R D :=
  match rd μ d with
  | .ins c ns vs => match P.cls c with
    | some k => match k.props.lookup f with
      | some g => calF P C g [d] [] [] μ
      | none => if k.flds.contains f then R.of μ (fget f ns vs) else .no
    | none => .no
  | .exc _ ns vs => R.of μ (fget f ns vs)
  | _ => .no
end

section
variable (P : Prog) (C : Cal) (reprS : D → Option Str)
mutual
def evE : E → Env → Mem → R D
  | .v i, ρ, μ => R.of μ (readV ρ i)
  | .xat i f, ρ, μ => R.of μ (getX P ρ i fget f)
  | .k d, _, μ => .ok d μ
  | .g n, _, μ => R.of μ (P.gl n)
  | .tup es, ρ, μ => (evX es ρ μ).bind fun l μ => if l.length ≤ sizeLn then .ok (.tup l) μ else .no
  | .key es, ρ, μ => (evX es ρ μ).bind fun l μ => if l.length ≤ sizeLn then .ok (.key l) μ else .no
  | .lst es, ρ, μ => (evX es ρ μ).bind fun l μ => if l.length ≤ sizeLn then .ok (.lst l) μ else .no
  | .star _, _, _ => .no
  | .dct t l, ρ, μ => (evKV l ρ μ).bind fun p μ => if p.1.all (keyOk t) then .ok (.dct t p.1 p.2) μ else .no
  | .dpu a k v, ρ, μ => (evE a ρ μ).bind fun a μ => (evE k ρ μ).bind fun k μ => (evE v ρ μ).bind fun v μ => match rd μ a with
    | .dct t ks vs => if keyOk t k then .ok (.dct t (dput k v ks vs).1 (dput k v ks vs).2) μ else .no
    | _ => .no
  | .bin o a b, ρ, μ => (evE a ρ μ).bind fun a μ => (evE b ρ μ).bind fun b μ => R.of μ (binV μ o a b)
  | .neg a, ρ, μ => (evE a ρ μ).bind fun a μ => match a with
    | .int i => .ok (.int (-i)) μ
    | _ => .no
  | .cmp o a b, ρ, μ => (evE a ρ μ).bind fun a μ => (evE b ρ μ).bind fun b μ => (nox (cmpV P C μ o a b)).bind fun c μ => .ok (.bl c) μ
  | .cmp2 o p a b c, ρ, μ => (evE a ρ μ).bind fun a μ => (evE b ρ μ).bind fun b μ => (nox (cmpV P C μ o a b)).bind fun r μ =>
    if r then (evE c ρ μ).bind fun c μ => (nox (cmpV P C μ p b c)).bind fun c μ => .ok (.bl c) μ else .ok (.bl false) μ
  | .and es, ρ, μ => evAnd es ρ μ
  | .or es, ρ, μ => evOr es ρ μ
  | .not a, ρ, μ => (evE a ρ μ).bind fun a μ => R.of μ ((tru a).map fun b => .bl (!b))
  | .ite c a b, ρ, μ => (evE c ρ μ).bind fun c μ => match tru c with
    | some true => evE a ρ μ
    | some false => evE b ρ μ
    | none => .no
  | .cal f es, ρ, μ => (evEs es ρ μ).bind fun l μ => calF P C f l [] [] μ
  | .clk f es ps kv, ρ, μ => (evEs es ρ μ).bind fun l μ => (evEs kv ρ μ).bind fun k μ => calF P C f l ps k μ
  | .new c es, ρ, μ => (evEs es ρ μ).bind fun l μ => newV P C c l [] [] μ
  | .nwk c es ps kv, ρ, μ => (evEs es ρ μ).bind fun l μ => (evEs kv ρ μ).bind fun k μ => newV P C c l ps k μ
  | .exc c ns es, ρ, μ => (evEs es ρ μ).bind fun l μ => if l.length = ns.length then .ok (.exc c ns l) μ else .no
  | .exk c ns ps es, ρ, μ => (evEs es ρ μ).bind fun l μ => R.of μ ((bindK ns.length [] [] ps l).map fun l => .exc c ns l)
  | .mth o m es, ρ, μ => (evE o ρ μ).bind fun o μ => match methOf P μ o m with
    | some f => (evEs es ρ μ).bind fun l μ => calF P C f (o :: l) [] [] μ
    | none => .no
  | .mtk o m es ps kv, ρ, μ => (evE o ρ μ).bind fun o μ => match methOf P μ o m with
    | some f => (evEs es ρ μ).bind fun l μ => (evEs kv ρ μ).bind fun k μ => calF P C f (o :: l) ps k μ
    | none => .no
  | .att o f, ρ, μ => (evE o ρ μ).bind fun o μ => nox (attV P C μ o f)
  | .app i es, ρ, μ => (evEs es ρ μ).bind fun l μ => match getE ρ i with
    | some (.clo k ρ') => C.lam k ρ' l μ
    | _ => .no
  | .bi b es, ρ, μ => (evEs es ρ μ).bind fun l μ => nox (biV P C reprS μ b l)
  | .bm m o es, ρ, μ => (evE o ρ μ).bind fun o μ => if bmTy m (rd μ o) then (evEs es ρ μ).bind fun l μ => bmV μ m o l else .no
  | .isi e ts, ρ, μ => (evE e ρ μ).bind fun d μ => R.of μ ((isTys P μ d ts).map .bl)
  | .idx a i, ρ, μ => (evE a ρ μ).bind fun a μ => (evE i ρ μ).bind fun i μ => idxV P C μ a i
  | .sli a lo hi, ρ, μ => (evE a ρ μ).bind fun a μ => (evO lo ρ μ).bind fun l μ => (evO hi ρ μ).bind fun h μ => R.of μ (sliD (rd μ a) l h)
  | .rev a z, ρ, μ => (evE a ρ μ).bind fun a μ => R.of μ (revV μ a z)
  | .lc own t it c e, ρ, μ => (evIt it ρ μ).bind fun p μ => (nox (compL (fun d μ => (asT t d (wipeE ρ own) μ).bind fun ρ μ =>
      (evE c ρ μ).bind fun b μ => match tru b with
        | some true => (evE e ρ μ).bind fun x μ => .ok (some x) μ
        | some false => .ok none μ
        | none => .no) p.1 p.2 μ)).bind fun l μ => if l.length ≤ sizeLn then .ok (.lst l) μ else .no
  | .lc2 own t it c t2 it2 c2 e, ρ, μ => (evIt it ρ μ).bind fun p μ => (nox (flatL (fun d μ => (asT t d (wipeE ρ own) μ).bind fun ρ μ =>
      (evE c ρ μ).bind fun b μ => match tru b with
        | some true => (evIt it2 ρ μ).bind fun p μ => compL (fun d μ => (asT t2 d (wipeE ρ t2.vars) μ).bind fun ρ μ =>
          (evE c2 ρ μ).bind fun b μ => match tru b with
            | some true => (evE e ρ μ).bind fun x μ => .ok (some x) μ
            | some false => .ok none μ
            | none => .no) p.1 p.2 μ
        | some false => .ok [] μ
        | none => .no) p.1 p.2 μ)).bind fun l μ => if l.length ≤ sizeLn then .ok (.lst l) μ else .no
  | .dc own t it c k v, ρ, μ => (evIt it ρ μ).bind fun p μ => (nox (dcompL (fun d μ => (asT t d (wipeE ρ own) μ).bind fun ρ μ =>
      (evE c ρ μ).bind fun b μ => match tru b with
        | some true => (evE k ρ μ).bind fun k μ => (evE v ρ μ).bind fun v μ => if keyOk false k then .ok (some (k, v)) μ else .no
        | some false => .ok none μ
        | none => .no) p.1 p.2 ([], []) μ)).bind fun l μ => .ok (.dct false l.1 l.2) μ
  | .fmt e, ρ, μ => (evE e ρ μ).bind fun d μ => R.of μ (fmtV d)
  | .fst es, ρ, μ => (nox (evEs es ρ μ)).bind fun l μ => R.of μ ((strsD l).bind fun xs => let z := (xs.map sL).flatten; if z.length ≤ sizeLn then some (.str (sM z)) else none)
  | .lam k, ρ, μ => .ok (.clo k ρ) μ
  | .lay e, ρ, μ => (evE e ρ μ).bind fun d μ => match d with
    | .lst l => .ok (.obj μ.length) (μ ++ [.lst l])
    | .dct t ks vs => .ok (.obj μ.length) (μ ++ [.dct t ks vs])
    | _ => .no
  | .srt e, ρ, μ => (evE e ρ μ).bind fun d μ => match rd μ d with
    | .lst l => R.of μ ((srtL dlt l).map .lst)
    | .tup l => R.of μ ((srtL dlt l).map .lst)
    | .key l => R.of μ ((srtL dlt l).map .lst)
    | _ => .no
  | .srk e k, ρ, μ => (evE e ρ μ).bind fun d μ => match rd μ d with
    | .lst l => (nox (mapF (fun d μ => C.lam k ρ [d] μ) l μ)).bind fun ks μ => R.of μ ((srkV ks l).map .lst)
    | _ => .no
  | .srf e f, ρ, μ => (evE e ρ μ).bind fun d μ => match rd μ d with
    | .lst l => (nox (mapF (fun d μ => C.fn f [d] μ) l μ)).bind fun ks μ => R.of μ ((srkV ks l).map .lst)
    | _ => .no
  | .mnk e k, ρ, μ => (evE e ρ μ).bind fun d μ => match rd μ d with
    | .lst l => R.of μ ((mapP (fun d μ => C.lam k ρ [d] μ) μ l).bind fun ks => mnkV ks l)
    | _ => .no
  | .lof e, ρ, μ => (evIt e ρ μ).bind fun p μ => .ok (.lst p.2) μ
  | .dof e, ρ, μ => (evE e ρ μ).bind fun d μ => match rd μ d with
    | .lst l => R.of μ ((pairs l).map fun p => .dct false p.1 p.2)
    | .tup l => R.of μ ((pairs l).map fun p => .dct false p.1 p.2)
    | _ => .no
  | .cax f i, ρ, μ => match getE ρ i with
    | some (.exc c ns vs) => calF P C f [.exc c ns vs] [] [] μ
    | _ => .no
  | .xis i cs t, ρ, μ => match getE ρ i with
    | some (.exc c ns vs) => if cs.contains c = true then R.of μ ((isTy P μ (.exc c ns vs) t).map .bl) else .no
    | _ => .no
where
  pairs : List D → Option (List D × List D)
    | [] => some ([], [])
    | .tup [k, v] :: l => if keyOk false k then (pairs l).bind fun p => if p.1.any (deq k) then none else some (k :: p.1, v :: p.2) else none
    | _ => none
/-- what is walked -/
def evIt : It → Env → Mem → R (Option (Nat × Ob) × List D)
  | .rng es, ρ, μ => (evEs es ρ μ).bind fun l μ => R.of μ ((rngV l).map fun l => (none, l))
  | .enu e, ρ, μ => (evE e ρ μ).bind fun d μ => R.of μ (match d with
    | .str _ => none
    | d => (itV μ d).map fun p => (p.1, enuL 0 p.2))
  | .zip a b, ρ, μ => (evE a ρ μ).bind fun a μ => (evE b ρ μ).bind fun b μ => R.of μ (zipV a b)
  | .e e, ρ, μ => (evE e ρ μ).bind fun d μ => R.of μ (itV μ d)
def evEs : Es → Env → Mem → R (List D)
  | .n, _, μ => .ok [] μ
  | .c e r, ρ, μ => (evE e ρ μ).bind fun d μ => (evEs r ρ μ).bind fun l μ => .ok (d :: l) μ
/-- a display's items, with stars -/
def evX : Es → Env → Mem → R (List D)
  | .n, _, μ => .ok [] μ
  | .c (.star e) r, ρ, μ => (evE e ρ μ).bind fun d μ => match rd μ d with
    | .tup l => (evX r ρ μ).bind fun m μ => .ok (l ++ m) μ
    | .lst l => (evX r ρ μ).bind fun m μ => .ok (l ++ m) μ
    | _ => .no
  | .c e r, ρ, μ => (evE e ρ μ).bind fun d μ => (evX r ρ μ).bind fun l μ => .ok (d :: l) μ
def evKV : Kv → Env → Mem → R (List D × List D)
  | .c k v r, ρ, μ => (evE k ρ μ).bind fun k μ => (evE v ρ μ).bind fun v μ => (evKV r ρ μ).bind fun p μ => .ok (k :: p.1, v :: p.2) μ
  | .n, _, μ => .ok ([], []) μ
def evO : O → Env → Mem → R (Option Int)
  | .n, _, μ => .ok none μ
  | .s e, ρ, μ => (evE e ρ μ).bind fun d μ => match d with
    | .int i => .ok (some i) μ
    | _ => .no
def evAnd : Es → Env → Mem → R D
  | .n, _, _ => .no
  | .c e .n, ρ, μ => evE e ρ μ
  | .c e r, ρ, μ => (evE e ρ μ).bind fun d μ => match tru d with
    | some true => evAnd r ρ μ
    | some false => .ok (.bl false) μ
    | none => .no
def evOr : Es → Env → Mem → R D
  | .n, _, _ => .no
  | .c e .n, ρ, μ => evE e ρ μ
  | .c e r, ρ, μ => (evE e ρ μ).bind fun d μ => match tru d with
    | some true => .ok (.bl true) μ
    | some false => evOr r ρ μ
    | none => .no
/-- a value goes to a target -/
def asT : T → D → Env → Mem → R Env
  | .v i, d, ρ, μ => .ok (setE ρ i d) μ
  | .ix o i, d, ρ, μ => (evE o ρ μ).bind fun o μ => (evE i ρ μ).bind fun i μ => (setV P C μ o i d).bind fun _ μ => .ok ρ μ
  | .at o f, d, ρ, μ => (evE o ρ μ).bind fun o μ => match o with
    | .obj n => match μ[n]? with
      | some (.ins c ns vs) => match P.cls c with
        | some k => if k.flds.contains f && decide (ns.length < 900) then .ok ρ (μ.set n (.ins c (fput f d ns vs).1 (fput f d ns vs).2)) else .no
        | none => .no
      | _ => .no
    | _ => .no
  | .tup ts, d, ρ, μ => match d with
    | .tup l => asTs ts l ρ μ
    | .key l => asTs ts l ρ μ
    | .lst l => asTs ts l ρ μ
    | _ => .no
def asTs : Ts → List D → Env → Mem → R Env
  | .n, [], ρ, μ => .ok ρ μ
  | .c t r, d :: l, ρ, μ => (asT t d ρ μ).bind fun ρ μ => asTs r l ρ μ
  | _, _, _, _ => .no
end

def forL (f : D → Env → Mem → SR) (src : Option (Nat × Ob)) : List D → Env → Mem → SR
  | [], ρ, μ => if srcOk src μ then .nx ρ μ else .no
  | d :: ds, ρ, μ => if srcOk src μ then (match f d ρ μ with
    | .nx ρ μ => forL f src ds ρ μ
    | r => r) else .no
def whlL (c : Env → Mem → R D) (f : Env → Mem → SR) : Nat → Env → Mem → SR
  | 0, _, _ => .no
  | n + 1, ρ, μ => match c ρ μ with
    | .ok d μ => match tru d with
      | some true => match f ρ μ with
        | .nx ρ μ => whlL c f n ρ μ
        | r => r
      | some false => .nx ρ μ
      | none => .no
    | .ex x μ => .ex x ρ μ
    | .no => .no
/-- the most turns of a while -/
def WH : Nat := 100000
def seR {α : Type} (r : R α) (ρ : Env) (f : α → Mem → SR) : SR :=
  match r with
  | .ok a μ => f a μ
  | .ex x μ => .ex x ρ μ
  | .no => .no
@[simp] theorem seR_ok {α : Type} (a : α) (μ : Mem) (ρ : Env) (f : α → Mem → SR) : seR (.ok a μ) ρ f = f a μ := rfl
@[simp] theorem seR_ex {α : Type} (x : D) (μ : Mem) (ρ : Env) (f : α → Mem → SR) : seR (.ex x μ) ρ f = .ex x ρ μ := rfl
@[simp] theorem seR_no {α : Type} (ρ : Env) (f : α → Mem → SR) : seR .no ρ f = .no := rfl
mutual
def evS : S → Env → Mem → SR
  | .asg t e, ρ, μ => seR (evE P C reprS e ρ μ) ρ fun d μ => seR (nox (asT P C reprS t d ρ μ)) ρ fun ρ μ => .nx ρ μ
  | .par ts es, ρ, μ => seR (evEs P C reprS es ρ μ) ρ fun l μ => seR (nox (asTs P C reprS ts l ρ μ)) ρ fun ρ μ => .nx ρ μ
  | .ex e, ρ, μ => seR (evE P C reprS e ρ μ) ρ fun _ μ => .nx ρ μ
  | .ret e, ρ, μ => seR (evE P C reprS e ρ μ) ρ fun d μ => .rt d μ
  | .pass, ρ, μ => .nx ρ μ
  | .ite c a b, ρ, μ => seR (evE P C reprS c ρ μ) ρ fun d μ => match tru d with
    | some true => evSs a ρ μ
    | some false => evSs b ρ μ
    | none => .no
  | .for t it b, ρ, μ => seR (evIt P C reprS it ρ μ) ρ fun p μ => forL (fun d ρ μ => seR (nox (asT P C reprS t d ρ μ)) ρ fun ρ μ => evSs b ρ μ) p.1 p.2 ρ μ
  | .whl c b, ρ, μ => whlL (evE P C reprS c) (evSs b) WH ρ μ
  | .rai e, ρ, μ => seR (evE P C reprS e ρ μ) ρ fun d μ => match d with
    | .exc c ns vs => .ex (.exc c ns vs) ρ μ
    | _ => .no
  | .try b hs, ρ, μ => match evSs b ρ μ with
    | .ex (.exc c ns vs) ρ μ => if P.exs = true then evH hs (.exc c ns vs) ρ μ else .no
    | .ex _ _ _ => .no
    | r => r
  | .wth e t b, ρ, μ => seR (evE P C reprS e ρ μ) ρ fun m μ => match special P μ m 8, special P μ m 9 with
    | some f, some g => seR (calF P C f [m] [] [] μ) ρ fun d μ => seR (nox (asT P C reprS t d ρ μ)) ρ fun ρ μ => match evSs b ρ μ with
      | .nx ρ μ => seR (calF P C g [m, .non, .non, .non] [] [] μ) ρ fun _ μ => .nx ρ μ
      | .rt d μ => seR (calF P C g [m, .non, .non, .non] [] [] μ) ρ fun _ μ => .rt d μ
      | .ex x ρ μ => seR (calF P C g [m, .cls 0, x, .non] [] [] μ) ρ fun d μ => match d with
        | .non => .ex x ρ μ
        | _ => .no
      | .no => .no
    | _, _ => .no
def evSs : Ss → Env → Mem → SR
  | .n, ρ, μ => .nx ρ μ
  | .c s r, ρ, μ => match evS s ρ μ with
    | .nx ρ μ => evSs r ρ μ
    | q => q
def evH : Hs → D → Env → Mem → SR
  | .n, x, ρ, μ => .ex x ρ μ
  | .c ts i b r, x, ρ, μ => match isTys P μ x ts with
    | some true => match i with
      | none => match evSs b ρ μ with
        | .ex _ _ _ => .no
        | q => q
      | some k => match evSs b (setE ρ k x) μ with
        | .nx ρ μ => .nx (ρ.set k none) μ
        | .ex _ _ _ => .no
        | q => q
    | some false => evH r x ρ μ
    | none => .no
end
end

def frz (base : Nat) (μ : Mem) : D → D
  | .obj n => if base ≤ n then (match μ[n]? with
    | some (.lst l) => .lst l
    | some (.dct t ks vs) => .dct t ks vs
    | _ => .obj n) else .obj n
  | d => d
def fin (keep : Bool) (μ0 : Mem) (d : D) (μ : Mem) : R D :=
  if keep || μ.length = μ0.length then .ok d μ
  else if lim (frz μ0.length μ d) ≤ μ0.length ∧ chkOld μ0 μ μ0.length = true then .ok (frz μ0.length μ d) (μ.take μ0.length) else .no
section
variable (P : Prog) (reprS : D → Option Str)
mutual
def calD : Nat → Nat → List D → Mem → R D
  | 0, _, _, _ => .no
  | n + 1, f, args, μ => match P.fns f with
    | none => .no
    | some F => if args.length = F.np then (match evSs P ⟨calD n, lamD n⟩ reprS F.body (args.map some ++ List.replicate (F.nn - F.np) none) μ with
      | .nx _ μ' => fin F.keep μ .non μ'
      | .rt d μ' => fin F.keep μ d μ'
      | .ex x _ μ' => finX F.keep μ x μ'
      | .no => .no) else .no
def lamD : Nat → Nat → List (Option D) → List D → Mem → R D
  | 0, _, _, _, _ => .no
  | n + 1, k, ρ, args, μ => match P.lams k with
    | none => .no
    | some L => if args.length = L.ps.length then evE P ⟨calD n, lamD n⟩ reprS L.body ((L.ps.zip args).foldl (fun ρ p => setE ρ p.1 p.2) ρ) μ else .no
end
end
/-- what is wanted of a run's end -/
def WpR {α : Type} (r : R α) (k : α → Mem → Prop) (kx : D → Mem → Prop) : Prop :=
  match r with
  | .ok d μ => k d μ
  | .ex x μ => kx x μ
  | .no => False
theorem WpR.bind {α β : Type} {r : R α} {f : α → Mem → R β} {k : β → Mem → Prop} {kx : D → Mem → Prop} (h : WpR (r.bind f) k kx) : WpR r (fun d μ => WpR (f d μ) k kx) kx := by
  cases r <;> exact h
theorem WpR.newX {μ : Mem} {r : R D} {k : D → Mem → Prop} {kx : D → Mem → Prop} (h : WpR (DI.newX μ r) k kx) : WpR r k (fun x μ' => WpR (finX false μ x μ') k kx) := by
  cases r <;> exact h
theorem WpR.mono {α : Type} {r : R α} {k k' : α → Mem → Prop} {kx kx' : D → Mem → Prop} (h : WpR r k kx) (g : ∀ d μ, k d μ → k' d μ) (gx : ∀ d μ, kx d μ → kx' d μ) : WpR r k' kx' := by
  cases r with
  | ok d μ => exact g _ _ h
  | ex x μ => exact gx _ _ h
  | no => exact h
theorem WpR.of {α : Type} {μ : Mem} {o : Option α} {k : α → Mem → Prop} {kx : D → Mem → Prop} (h : WpR (R.of μ o) k kx) : ∃ d, o = some d ∧ k d μ := by
  cases o with
  | none => exact h.elim
  | some d => exact ⟨d, rfl, h⟩
/-- what is wanted of a statement's end -/
def WpS (r : SR) (kn : Env → Mem → Prop) (kr : D → Mem → Prop) (kx : D → Env → Mem → Prop) : Prop :=
  match r with
  | .nx ρ μ => kn ρ μ
  | .rt d μ => kr d μ
  | .ex x ρ μ => kx x ρ μ
  | .no => False
theorem WpS.mono {r : SR} {kn kn' : Env → Mem → Prop} {kr kr' : D → Mem → Prop} {kx kx' : D → Env → Mem → Prop} (h : WpS r kn kr kx) (g : ∀ ρ μ, kn ρ μ → kn' ρ μ) (gr : ∀ d μ, kr d μ → kr' d μ) (gx : ∀ x ρ μ, kx x ρ μ → kx' x ρ μ) : WpS r kn' kr' kx' := by
  cases r with
  | nx ρ μ => exact g _ _ h
  | rt d μ => exact gr _ _ h
  | ex x ρ μ => exact gx _ _ _ h
  | no => exact h
theorem WpS.seR {α : Type} {r : R α} {ρ : Env} {f : α → Mem → SR} {kn : Env → Mem → Prop} {kr : D → Mem → Prop} {kx : D → Env → Mem → Prop} (h : WpS (DI.seR r ρ f) kn kr kx) : WpR r (fun d μ => WpS (f d μ) kn kr kx) (fun x μ => kx x ρ μ) := by
  cases r <;> exact h
theorem WpS.seq {r : SR} {f : Env → Mem → SR} {kn : Env → Mem → Prop} {kr : D → Mem → Prop} {kx : D → Env → Mem → Prop} (h : WpS (match r with | .nx ρ μ => f ρ μ | q => q) kn kr kx) : WpS r (fun ρ μ => WpS (f ρ μ) kn kr kx) kr kx := by
  cases r <;> exact h
end DI
end

section
set_option Elab.async false
set_option linter.all false
set_option maxRecDepth 100000
namespace DI
open PySem L2 PySem.Spec PyProof.Rows
set_option maxHeartbeats 1000000 in
theorem meets_enum1B {v : Value} {o : Obj} {H : Heap → Prop} (B : Begins v o H) :
    Meets (Builtin.«enumerate.__new__» ⟨[.type "enumerate", v], []⟩) (fun _ R s => H s.heap ∧
      R (.ok (.ret (.ref (s.heap.push o).objs.size))) { s with heap := (s.heap.push o).push { cls := .type "enumerate", data := .fields #[.none, .bool false, .ref s.heap.objs.size, rawInt 0, .none, .none] } }) :=
  .of_wp fun prog w A R s h => by
    obtain ⟨hp, g, d, tk, os⟩ := s; obtain ⟨h1, h⟩ := h
    have hsub := sub_enumerate
    have q1 : ∀ {A' : Around} {E : Value → Shared → Prop} {Q : Value → Shared → Prop}, Q (.ref hp.objs.size) ⟨hp.push o, g, d, tk, os⟩ → wpAny (model prog w) A' (pyIter v) Q E ⟨hp, g, d, tk, os⟩ :=
      fun q => B.iter prog w _ _ ⟨hp, g, d, tk, os⟩ _ h1 q
    wp_walk using q1
    refine wpAny_stack_any fun st => wpAny_pure ?_
    split
    · rename_i c _ _ _ _ _
      cases (c == Value.type "enumerate")
      · wp_walk using q1
        exact ⟨_, rfl, h⟩
      · wp_walk using q1
        exact ⟨_, rfl, h⟩
    · wp_walk using q1
      exact ⟨_, rfl, h⟩
section
variable {prog : Program} {w : World} {A : Around} {E : Value → Shared → Prop} {s : Shared}
theorem call_enum_tup {l : Addr} {items : Array Value} {Q : Value → Shared → Prop} (hL : s.heap.IsTuple l items)
    (h : ∀ h', IsEnum h' (s.heap.objs.size + 1) s.heap.objs.size 0 .none → h'.IsTupleIter s.heap.objs.size l 0 → h'.objs.size = s.heap.objs.size + 2 →
      (∀ b o, s.heap.get? b = some o → h'.get? b = some o) → Q (.ref (s.heap.objs.size + 1)) { s with heap := h' }) :
    wpAny (model prog w) A (call (.type "enumerate") [.ref l]) Q E s := by
  refine callType_new F.called_enumerate (by decide) (F.typeCall_enumerate_1 _) (F.newCall_enumerate_1 _) (fun obj => F.args_object_init_2 obj _) F.entry_enumerate_new
    (meets_enum1B (begins_tuple l items)) ⟨hL, ?_⟩
  have hz : (s.heap.push { cls := .type "tuple_iterator", data := .fields #[.ref l, .int 0 0] }).objs.size = s.heap.objs.size + 1 := Heap.size_push ..
  show _ ∧ _
  rw [hz]
  have he : IsEnum ((s.heap.push { cls := .type "tuple_iterator", data := .fields #[.ref l, .int 0 0] }).push
      { cls := .type "enumerate", data := .fields #[.none, .bool false, .ref s.heap.objs.size, rawInt 0, .none, .none] }) (s.heap.objs.size + 1) s.heap.objs.size 0 .none := by
    have := Heap.get?_push_size (s.heap.push { cls := .type "tuple_iterator", data := .fields #[.ref l, .int 0 0] })
      (o := { cls := .type "enumerate", data := .fields #[.none, .bool false, .ref s.heap.objs.size, rawInt 0, .none, .none] }) rfl
    rw [hz] at this; exact this
  refine ⟨⟨_, he, rfl⟩, h _ he ⟨_, Heap.get?_push_of_some _ (Heap.get?_push_size _ rfl), rfl, rfl⟩ (by rw [Heap.size_push, hz]) fun b o x => Heap.get?_push_of_some _ (Heap.get?_push_of_some _ x)⟩
end
/-- the tuple at a as it stands at each turn, each item in a new pair -/
def IteT (K : PySem.W.Frag) (a : Addr) : L2.It :=
  ⟨fun i H => ∃ (xs : List V) (x : V), SqT K H a xs ∧ xs[i]? = some x, fun i H v H' => ∃ T x, v = .ref T ∧ H T = none ∧ H' = upd H T (.tup [.int (i : Nat), x]) ∧ ∀ xs, SqT K H a xs → xs[i]? = some x, fun i H => ∃ xs : List V, SqT K H a xs ∧ xs.length ≤ i⟩
theorem turn_enumT {P : Program} {w : World} {K : PySem.W.Frag} {elts : List Expr} {kk : Nat} {tpos : Pos} (a e it : Addr) :
    Turn P w K (.Tuple elts kk tpos) (IteT K a) [e, it] e (fun i h => (∃ old, IsEnum h e it ((i : Nat) : Int) old) ∧ h.IsTupleIter it a i ∧ e ≠ it ∧ a ≠ it ∧ a ≠ e) where
  mem := by simp
  obj := fun i h st b hb => by
    obtain ⟨⟨old, he⟩, ⟨o, ho, hc, hd⟩, _⟩ := st
    have e' : b = e ∨ b = it := by simpa using hb
    rcases e' with z | z
    · rw [z]; exact ⟨_, he, fun v q => nomatch q⟩
    · rw [z]; exact ⟨o, ho, fun v q => by rw [hd] at q; cases q⟩
  keep := fun i h h' st k => let ⟨⟨old, he⟩, hi, hne, h3⟩ := st; ⟨⟨old, k e (by simp) _ he⟩, hi.at fun o q => k it (by simp) o q, hne, h3⟩
  item := by
    intro X hP hw hK hc i pins s σ H E I hf st hg
    subst hP hw hK
    obtain ⟨⟨old, he⟩, hit, hne, hai, hae⟩ := st
    obtain ⟨xs, x, hq, hx⟩ := hg
    obtain ⟨its, rv, p, hz⟩ := I.tuple hq
    obtain ⟨u, hu, ru⟩ := rv.get hx
    have hel : e < s.heap.objs.size := Heap.lt_size he
    have hil : it < s.heap.objs.size := by obtain ⟨_, q, _⟩ := hit; exact Heap.lt_size q
    have D : Draws X.prog X.w X.A.in1 it [it, a] its.toArray.size _ _ := Draws.tuple (A := X.A.in1) (show X.A.in1.handled = none from I.ok.hd hc) it a hai its.toArray
    have hil2 : i < its.length := (List.getElem?_eq_some_iff.mp hu).1
    refine wpAny_pyNext_enum_itemC D he ⟨hit, p⟩ (by simpa using hil2) hne (by simp [hne, Ne.symm hae]) fun x' h' tk hx' ho hs hT hsz hk => ?_
    have exu : x' = u := by
      have : its[i]? = some x' := by simpa using hx'
      rw [hu] at this; exact (Option.some.inj this).symm
    subst exu
    refine ⟨_, rfl, wpAny_letOwnedTupleGo_enum (s := { s with heap := h', toks := tk + 1 }) ho fun h'' he' sb => ?_⟩
    have hT2 : h''.get? s.heap.objs.size = some { cls := .type "tuple", data := .seq #[.int i tk, x'] } := (sb.2 _ (Nat.ne_of_gt hel)).trans hT
    have new : ObjOk X.prog X.w (upd H s.heap.objs.size (.tup [.int (i : Nat), x])) h'' s.heap.objs.size (.tup [.int (i : Nat), x]) :=
      ⟨by show 2 ≤ sizeLine; decide, [.int i tk, x'], .cons ⟨_, rfl⟩ (.cons ru .nil), ⟨_, hT2, rfl, _, rfl⟩⟩
    have I1 : L2.Inv X pins σ (upd H s.heap.objs.size (.tup [.int (i : Nat), x])) { s with heap := h'', toks := tk + 1 } :=
      I.turnedNew (ch := [e, it]) (fun b ob hb q => (sb.2 b (fun z => hb (by simp [z]))).trans (hk b ob (fun z => hb (by simp [z])) (fun z => hb (by simp [z])) q)) hf (Nat.le_refl _) new
    refine ⟨.ref s.heap.objs.size, _, I1, rfl, ⟨_, x, rfl, I.hok.fresh (Nat.le_refl _), rfl, fun ys hy => by rw [I.tuple_inj hy hq]; exact hx⟩, ⟨⟨x', ?_⟩, hs.1.at fun o q => (sb.2 it (Ne.symm hne)).trans q, hne, hai, hae⟩, fun b hb => ?_⟩
    · have e1 : ((i + 1 : Nat) : Int) = (i : Int) + 1 := by omega
      rw [e1]; exact he'
    · have hb' : b < s.heap.objs.size := by
        have e' : b = e ∨ b = it := by simpa using hb
        rcases e' with z | z
        · rw [z]; exact hel
        · rw [z]; exact hil
      rw [upd_ne (Nat.ne_of_lt hb')]
      exact (hf b hb).1
  done := by
    intro X hP hw hK hc i pins s σ H E I hf st hg
    subst hP hw hK
    obtain ⟨⟨old, he⟩, hit, hne, hai, hae⟩ := st
    obtain ⟨xs, hq, hx⟩ := hg
    obtain ⟨its, rv, p, hz⟩ := I.tuple hq
    obtain ⟨f0, f1, f2, f3, f4, f5⟩ := hf it (by simp)
    have hl := rv.length
    have hT : s.TypeIs (.ref e) "enumerate" := ⟨_, he, rfl⟩
    unfold pyNext
    refine wpAny_bind (wpAny_attempt (wpAny_callSpecial?_slot (name := Str.ofString "__next__") hT F.slot_enumerate_next
      (wpAny_call_entry F.slot_enumerate_next hT F.entry_enumerate_next ?_ (F.args_enumerate_next_1 _))))
    show wpAny _ _ (field (.ref e) 2 >>= _) _ _ _
    refine wpAny_bind (wpAny_field he rfl (x := .ref it) rfl ?_)
    refine wpAny_bind (wpAny_nextOf_tuple_end (show X.A.in1.handled = none from I.ok.hd hc) hit p (by simp; omega) fun h' x he' hx' => ?_)
    obtain ⟨o, ho, hcl⟩ := hx'
    refine wpAny_bind (wpAny_isInstance (T := "StopIteration") (b := true) ⟨o, ho, hcl⟩ isSubtype_stop ?_)
    exact wpAny_pure ⟨rfl, I.turned (t' := s.toks) (fun b o hb q => he' b o hb q) f0 f1 f3 f4 f5⟩
  self := fun A i s Q E st h => let ⟨⟨_, he⟩, _⟩ := st; wpAny_pyIter_enum he h
/-- enumerate(v) of a list or a tuple -/
def iEnumA (K : PySem.W.Frag) (ta : TA) : TI := fun σ H R => ta σ H fun vs H1 => ∃ a xs, vs = [.ref a] ∧ ((SqL K H1 a xs ∧ R (Ite K a) H1) ∨ (SqT K H1 a xs ∧ R (IteT K a) H1))
theorem pi_enumA {X : Cx} {e : Expr} {ta : TA} {p pos tpos : Pos} {elts : List Expr} {kk : Nat} (hg : Gl X "enumerate") (hm : X.mg "enumerate" = none) (ha : PA X [e] ta) (hs : starEach [e] X.env = [(false, eval e X.env)] := by rfl) :
    PI X (.Tuple elts kk tpos) (.Call (.Name "enumerate" p) [e] [] pos) (iEnumA X.K ta) := by
  refine ⟨fun pins s σ H R I h => ?_⟩
  refine Call_ (ld_blt I hg hm boot_enumerate (PyProof.Rows.callWith_type1 (thn (ha.run pos pins s σ H _ I h) fun us s1 ⟨vs, H1, I1, r1, q1⟩ => ?_) hs rfl))
  obtain ⟨a, xs, ex, q⟩ := q1
  subst ex
  cases r1 with
  | cons r rr =>
    cases rr
    cases r
    have fp : ∀ b ∈ [s1.heap.objs.size + 1, s1.heap.objs.size], FpOk X pins H1 b := fun b hb => by
      have e' : b = s1.heap.objs.size + 1 ∨ b = s1.heap.objs.size := by simpa using hb
      have hle : s1.heap.objs.size ≤ b := by
        rcases e' with z | z
        · rw [z]; exact Nat.le_add_right _ _
        · rw [z]; exact Nat.le_refl _
      exact I1.fpOk hle (I1.hok.fresh hle)
    rcases q with ⟨hq, q⟩ | ⟨hq, q⟩
    · obtain ⟨its, rv, p', hz⟩ := I1.list hq
      refine call_enumerate_list p'.isList fun h' he hit hsz hk => wpAny_pyIter_enum he ?_
      have I2 : L2.Inv X pins σ H1 { s1 with heap := h' } := I1.kept (t' := s1.toks) hk
      exact ⟨s1.heap.objs.size + 1, [s1.heap.objs.size + 1, s1.heap.objs.size], _, _, H1, rfl, I2, turn_enum a (s1.heap.objs.size + 1) s1.heap.objs.size, ⟨⟨.none, he⟩, hit, Nat.succ_ne_self _⟩, fp, q⟩
    · obtain ⟨its, rv, p', hz⟩ := I1.tuple hq
      have la : a < s1.heap.objs.size := by obtain ⟨o, ho, _⟩ := p'; exact Heap.lt_size ho
      refine call_enum_tup (show s1.heap.IsTuple a its.toArray from p') fun h' he hit hsz hk => wpAny_pyIter_enum he ?_
      have I2 : L2.Inv X pins σ H1 { s1 with heap := h' } := I1.kept (t' := s1.toks) hk
      exact ⟨s1.heap.objs.size + 1, [s1.heap.objs.size + 1, s1.heap.objs.size], _, _, H1, rfl, I2, turn_enumT a (s1.heap.objs.size + 1) s1.heap.objs.size, ⟨⟨.none, he⟩, hit, Nat.succ_ne_self _, Nat.ne_of_lt la, Nat.ne_of_lt (Nat.lt_succ_of_lt la)⟩, fp, q⟩
end DI
end

section
set_option Elab.async false
set_option linter.all false
set_option maxRecDepth 100000
namespace DI
open PySem L2 PySem.Spec PyProof.Rows
/-- a plain tuple record -/
def TObj (o : Obj) : Prop := o.cls = .type "tuple" ∧ o.dict = none
/-- what is asked behind a new tuple -/
def NewT (H : Hp) (xs : List V) (Q : VK) : Prop := ∀ p o, TObj o → H p = none → Q (.ref p) (upd H p (.frz o (.tup xs)))
section
variable {X : Cx} {pins : List (Addr × Obj)} {σ : L2.St} {H : Hp} {s : Shared} {Q : VK}
theorem newT_at {h0 : Heap} {us : List Value} {xs : List V} (I : L2.Inv X pins σ H { s with heap := h0 }) (r : Vals xs us) (hz : xs.length ≤ sizeLine) (q : NewT H xs Q) :
    EP X pins σ Q (.ref h0.objs.size) { s with heap := h0.push { cls := .type "tuple", data := .seq us.toArray } } := by
  have e := Heap.get?_push_size h0 (o := { cls := .type "tuple", data := .seq us.toArray }) rfl
  refine ⟨.ref h0.objs.size, _, I.laid (t' := s.toks) (o := .frz { cls := .type "tuple", data := .seq us.toArray } (.tup xs)) (fun b u z => Heap.get?_push_of_some _ z) (Nat.le_refl _) ⟨e, hz, us, r, ⟨_, e, rfl, _, rfl⟩⟩, rfl, q _ _ ⟨rfl, rfl⟩ (I.hok.fresh (Nat.le_refl _))⟩
end
section
variable {X : Cx} {pos : Pos} {es : List Expr}
def tTupF (t : TA) : TE := fun σ H Q => t σ H fun xs H1 => xs.length ≤ sizeLine ∧ NewT H1 xs Q
theorem pe_tupF {k : Nat} {t : TA} (h : PA X es t) : PE X (.Tuple es k pos) (tTupF t) := by
  refine ⟨fun pins s σ H Q I hq => ?_⟩
  refine wpAny_Tuple_spliced (thn (h.run pos pins s σ H _ I hq) fun us s1 ⟨xs, H1, I1, r, z, q⟩ => ⟨by rw [← r.length]; exact z, newT_at I1 r z q⟩)
/-- t + u -/
theorem op_catF : OpR X (binaryOp .Add) (fun x y H Q => ∃ a b xs ys, x = .ref a ∧ y = .ref b ∧ SqT X.K H a xs ∧ SqT X.K H b ys ∧ xs.length + ys.length ≤ sizeLine ∧
    (xs = [] → Q (.ref b) H) ∧ (ys = [] → Q (.ref a) H) ∧ NewT H (xs ++ ys) Q) := by
  intro pins s σ H x y v u Q I rx ry h
  obtain ⟨a, b, xs, ys, rfl, rfl, ha, hb, hz, q0, q1, q2⟩ := h
  by_cases hx : xs = []
  · subst hx
    exact op_catA pins s σ H _ _ v u Q I rx ry ⟨a, b, [], ys, rfl, rfl, ha, hb, hz, q0, fun z => absurd rfl z, fun z => absurd rfl z⟩
  · cases rx
    cases ry
    obtain ⟨is, r1, p1, _⟩ := I.tuple ha
    obtain ⟨js, r2, p2, _⟩ := I.tuple hb
    refine HT.cat_tup p1 p2 (fun z => hx (r1.nil_iff.mp z)) (fun z => ⟨.ref a, H, I, rfl, q1 (r2.nil_iff.mp z)⟩) (fun _ => ?_) (by rw [← r1.length, ← r2.length]; exact hz)
    exact newT_at I (r1.append r2) (by rw [List.length_append]; exact hz) q2
/-- t[lo:hi] -/
theorem sl_tupF : SlR X (fun x lo hi H Q => ∃ a xs, x = .ref a ∧ SqT X.K H a xs ∧ (HT.sIx xs.length 0 lo = 0 ∧ HT.sIx xs.length xs.length hi = xs.length → Q (.ref a) H) ∧ NewT H (cutV xs lo hi) Q) := by
  intro pins s σ H x v vl vu lo hi sl Q I rx hs pl pu h
  obtain ⟨a, xs, rfl, hx, q1, q2⟩ := h
  by_cases hw : HT.sIx xs.length 0 lo = 0 ∧ HT.sIx xs.length xs.length hi = xs.length
  · exact sl_tupA pins s σ H _ v vl vu lo hi sl Q I rx hs pl pu ⟨a, xs, rfl, hx, q1, fun z => absurd hw z⟩
  · cases rx
    obtain ⟨is, r, ht, hz⟩ := I.tuple hx
    have hlen : is.toArray.size = xs.length := by rw [List.size_toArray]; exact r.length.symm
    refine ⟨"tuple", _, PyProof.Rows.slot_tuple_getitem.lookup, ht.typeIs, HT.getItem_tuple_cut ht hs pl pu (by rw [hlen]; exact hw) ?_ (by rw [hlen]; exact hz)⟩
    rw [hlen]
    exact newT_at I ((r.drop (HT.sIx xs.length 0 lo)).take (HT.sIx xs.length xs.length hi - HT.sIx xs.length 0 lo)) (Nat.le_trans (cutV_length xs lo hi) hz) q2
/-- tuple(xs) -/
theorem call_tupF : CallR X (.type "tuple") (fun xs H Q => ∃ p ys, xs = [.ref p] ∧ ((SqL X.K H p ys ∧ NewT H ys Q) ∨ (SqT X.K H p ys ∧ Q (.ref p) H))) := by
  intro pins s σ H xs us Q I r h
  obtain ⟨p, ys, rfl, ⟨hq, q⟩ | ⟨hq, q⟩⟩ := h
  · obtain ⟨u, rfl, rx⟩ := vals1 r
    cases rx
    obtain ⟨is, r2, pl, hz⟩ := I.list hq
    have := r2.length
    refine call_tuple_list pl.isList (fun h' kp => ?_) (by simp only [List.size_toArray]; omega)
    exact newT_at (h0 := h') (I.kept (t' := s.toks) kp) r2 hz q
  · exact call_tuple_of pins s σ H _ us Q I r ⟨p, ys, rfl, .inr ⟨hq, q⟩⟩
end
end DI
end

section
set_option Elab.async false
set_option linter.all false
set_option maxRecDepth 100000
namespace DI
open PySem L2 PySem.Spec PyProof.Rows

/-- what a law's text tells: the program, where defs and classes stand, the attributes' names -/
structure Tab where
  P : Prog
  reprS : D → Option Str
  fa : Nat → Addr
  ca : Nat → Addr
  an : Nat → Str
  /-- the forms of calls: values, keywords' parameters; the keywords' names -/
  form : Nat → Nat → List Nat → Option (List Str)
  /-- the classes that isinstance is asked for -/
  isc : List Nat
  /-- the exception that is handled: its slot, where it is, its class, its dict -/
  ex : Option (Nat × Addr × Value × Option Addr) := none
  /-- the lambda at hand: where, its code object and name, its number, its maker's slots -/
  clo : Option (Addr × Addr × Str × Nat × List (Option V)) := none
  /-- the defs that take a lambda -/
  thk : List Nat := []
  /-- the tables of code objects -/
  tbs : List (Addr × Str) := []
  /-- the code objects that make lambdas, and their tables -/
  cds : List (Addr × Addr) := []
/-- another handled exception, another lambda -/
abbrev Tab.sp (T : Tab) (e : Option (Nat × Addr × Value × Option Addr)) (c : Option (Addr × Addr × Str × Nat × List (Option V))) : Tab := { T with ex := e, clo := c }
/-- the store's addresses; the frozen part of the heap -/
structure Abs where
  α : List Addr
  G : Hp
structure Abs.le (a b : Abs) : Prop where
  pre : ∃ r, b.α = a.α ++ r
  fr : ∀ p o, a.G p = some o → b.G p = some o
theorem Abs.le_refl (a : Abs) : a.le a := ⟨⟨[], by simp⟩, fun _ _ h => h⟩
theorem Abs.le.trans {a b c : Abs} (h : a.le b) (g : b.le c) : a.le c := by
  obtain ⟨⟨r, e⟩, h⟩ := h
  obtain ⟨⟨q, f⟩, g⟩ := g
  exact ⟨⟨r ++ q, by rw [f, e, List.append_assoc]⟩, fun p o x => g p o (h p o x)⟩
theorem Abs.le.at {a b : Abs} (h : a.le b) {n : Nat} {p : Addr} (e : a.α[n]? = some p) : b.α[n]? = some p := by
  obtain ⟨⟨r, f⟩, _⟩ := h
  rw [f, List.getElem?_append_left]
  · exact e
  · exact (List.getElem?_eq_some_iff.mp e).1

/-- a table of code objects, a code object -/
def IsTE (o : HO) : Prop := (∃ ps, o = .tbl ps) ∨ ∃ φ, o = .ext φ
/-- a step of the small interpreter, seen from the heap: more is frozen, more is stored; what is tracked and neither frozen nor stored stays as it is -/
structure Stp (a : Abs) (H : Hp) (b : Abs) (H' : Hp) : Prop where
  le : a.le b
  dom : ∀ p, H' p = none → H p = none
  frame : ∀ p o, H p = some o → a.G p = none → p ∉ a.α → ¬ IsTE o → H' p = some o ∧ b.G p = none ∧ p ∉ b.α
  tl : ∀ p o, H p = some o → IsTE o → ∃ o', H' p = some o' ∧ IsTE o'
theorem Stp.refl (a : Abs) (H : Hp) : Stp a H a H := ⟨a.le_refl, fun _ h => h, fun p o h g n _ => ⟨h, g, n⟩, fun p o h t => ⟨o, h, t⟩⟩
theorem Stp.trans {a b c : Abs} {H H1 H2 : Hp} (h : Stp a H b H1) (g : Stp b H1 c H2) : Stp a H c H2 :=
  ⟨h.le.trans g.le, fun p e => h.dom p (g.dom p e), fun p o e1 e2 e3 nt => let ⟨x, y, z⟩ := h.frame p o e1 e2 e3 nt; g.frame p o x y z nt, fun p o e t => let ⟨o1, e1, t1⟩ := h.tl p o e t; g.tl p o1 e1 t1⟩
instance {a b : Abs} {H H' : Hp} : CoeOut (Stp a H b H') (a.le b) := ⟨Stp.le⟩
def toKey : D → Option Key
  | .str s => some (.inr s)
  | .int i => some (.inl i)
  | _ => none
def toKeyT : D → Option (List Key)
  | .key l => l.mapM fun d => match d with | .str s => some (Sum.inr s) | _ => none
  | _ => none
/-- a tuple that is tracked with its record, or an empty one of the text -/
def TupAt (K : PySem.W.Frag) (G : Hp) (p : Addr) (vs : List V) : Prop := (∃ o, TObj o ∧ G p = some (.frz o (.tup vs))) ∨ (vs = [] ∧ SqT K G p [])
/-- a dict at p with these keys and values; t: its keys are tuples -/
def DcAt (G : Hp) (p : Addr) (t : Bool) (ks : List D) (ws : List V) : Prop :=
  match t with
  | false => ∃ xs, G p = some (.dK (xs.zip ws)) ∧ ks.mapM toKey = some xs
  | true => ∃ xs, G p = some (.dT (xs.zip ws)) ∧ ks.mapM toKeyT = some xs
theorem DcAt.imp {G G' : Hp} {p : Addr} {t : Bool} {ks : List D} {ws : List V} (h : DcAt G p t ks ws) (g : ∀ o, G p = some o → G' p = some o) : DcAt G' p t ks ws := by
  cases t with
  | false => obtain ⟨xs, e, m⟩ := h; exact ⟨xs, g _ e, m⟩
  | true => obtain ⟨xs, e, m⟩ := h; exact ⟨xs, g _ e, m⟩
theorem DcAt.there {G : Hp} {p : Addr} {t : Bool} {ks : List D} {ws : List V} (h : DcAt G p t ks ws) : ∃ o, G p = some o ∧ ∀ q, o ≠ .own q := by
  cases t with
  | false => obtain ⟨xs, e, m⟩ := h; exact ⟨_, e, fun _ z => by cases z⟩
  | true => obtain ⟨xs, e, m⟩ := h; exact ⟨_, e, fun _ z => by cases z⟩
theorem DcAt.noT {G : Hp} {p : Addr} {t : Bool} {ks : List D} {ws : List V} {o : HO} (h : DcAt G p t ks ws) (e : G p = some o) : ∀ ps, o ≠ .tbl ps := fun ps z => by
  subst z
  cases t with
  | false => obtain ⟨xs, e2, m⟩ := h; rw [e] at e2; cases e2
  | true => obtain ⟨xs, e2, m⟩ := h; rw [e] at e2; cases e2
theorem DcAt.of {G : Hp} {p : Addr} {t : Bool} {ks : List D} {ws : List V} {o : HO} (h : DcAt G p t ks ws) (e : G p = some o) {G' : Hp} (e' : G' p = some o) : DcAt G' p t ks ws :=
  h.imp fun u hu => by rw [e] at hu; rw [e']; exact hu
/-- a text that the model takes: its signs, its length -/
def strG (s : Str) : Bool := PyData.strOk s && decide ((sL s).length ≤ sizeLn)
theorem strG.ok {s : Str} (h : strG s = true) : PyData.strOk s = true := (Bool.and_eq_true_iff.mp h).1
theorem strG.len {s : Str} (h : strG s = true) : (sL s).length ≤ sizeLn := of_decide_eq_true (Bool.and_eq_true_iff.mp h).2
theorem strG.of {s : Str} (h : PyData.strOk s = true) (g : (sL s).length ≤ sizeLn) : strG s = true := Bool.and_eq_true_iff.mpr ⟨h, decide_eq_true g⟩
/-- an exception's own dict -/
def XdAt (T : Tab) (G : Hp) (ns : List Nat) (ws : List V) (dd : Option Addr) : Prop := (∃ q, dd = some q ∧ G q = some (.xd ((ns.map T.an).zip ws))) ∨ (ns = [] ∧ dd = none)
theorem XdAt.imp {T : Tab} {G G' : Hp} {ns : List Nat} {ws : List V} {dd : Option Addr} (h : XdAt T G ns ws dd) (g : ∀ p o, G p = some o → G' p = some o) : XdAt T G' ns ws dd := by
  rcases h with ⟨q, e, h⟩ | h
  · exact .inl ⟨q, e, g _ _ h⟩
  · exact .inr h
section
variable (T : Tab) (K : PySem.W.Frag) (a : Abs)
mutual
def Rep : D → V → Prop
  | .non, v => v = .non
  | .bl b, v => v = .bl b
  | .int i, v => v = .int i
  | .str s, v => v = .str s ∧ strG s = true
  | .tup l, v => ∃ p vs, v = .ref p ∧ TupAt K a.G p vs ∧ Reps l vs
  | .key l, v => ∃ p vs, v = .ref p ∧ a.G p = some (.tup vs) ∧ Reps l vs
  | .lst l, v => ∃ p vs, v = .ref p ∧ a.G p = some (.lst vs) ∧ Reps l vs
  | .rol l, v => ∃ p vs, v = .ref p ∧ SqL K a.G p vs ∧ Reps l vs
  | .dct t ks vs, v => ∃ p ws, v = .ref p ∧ Reps vs ws ∧ ks.length = ws.length ∧ DcAt a.G p t ks ws
  | .ins c ns fs, v => ∃ p dx ws, v = .ref p ∧ a.G p = some (.ins (T.ca c) dx ((ns.map T.an).zip ws)) ∧ a.G dx = some (.own p) ∧ ns.length = ws.length ∧ Reps fs ws
  | .exc _ _ _, _ => False
  | .cls c, v => v = .ref (T.ca c)
  | .fn f, v => v = .ref (T.fa f)
  | .clo _ _, _ => False
  | .obj n, v => ∃ p, a.α[n]? = some p ∧ v = .ref p
def Reps : List D → List V → Prop
  | [], vs => vs = []
  | d :: l, vs => ∃ v ws, vs = v :: ws ∧ Rep d v ∧ Reps l ws
end
end
section
variable {T : Tab} {K : PySem.W.Frag} {a b : Abs}
theorem SqT.mono (h : a.le b) {p : Addr} {vs : List V} (x : SqT K a.G p vs) : SqT K b.G p vs := by
  rcases x with (x | ⟨o, x⟩) | x
  · exact .inl (.inl (h.fr _ _ x))
  · exact .inl (.inr ⟨o, h.fr _ _ x⟩)
  · exact .inr x
theorem TupAt.mono (h : a.le b) {p : Addr} {vs : List V} (x : TupAt K a.G p vs) : TupAt K b.G p vs := by
  rcases x with ⟨o, t, x⟩ | ⟨rfl, x⟩
  · exact .inl ⟨o, t, h.fr _ _ x⟩
  · exact .inr ⟨rfl, SqT.mono h x⟩
theorem TupAt.sq {G : Hp} {p : Addr} {vs : List V} (x : TupAt K G p vs) : SqT K G p vs := by
  rcases x with ⟨o, t, x⟩ | ⟨rfl, x⟩
  · exact .inl (.inr ⟨o, x⟩)
  · exact x
theorem SqL.mono (h : a.le b) {p : Addr} {vs : List V} (x : SqL K a.G p vs) : SqL K b.G p vs := by
  rcases x with (x | ⟨o, x⟩) | x
  · exact .inl (.inl (h.fr _ _ x))
  · exact .inl (.inr ⟨o, h.fr _ _ x⟩)
  · exact .inr x
mutual
theorem Rep.mono (h : a.le b) : ∀ (d : D) (v : V), Rep T K a d v → Rep T K b d v
  | .non, _, x => by simpa only [Rep] using x
  | .bl _, _, x => by simpa only [Rep] using x
  | .int _, _, x => by simpa only [Rep] using x
  | .str _, _, x => by simpa only [Rep] using x
  | .tup l, _, x => by
    simp only [Rep] at x ⊢
    obtain ⟨p, vs, e, s, r⟩ := x
    exact ⟨p, vs, e, TupAt.mono h s, Reps.mono h l vs r⟩
  | .key l, _, x => by
    simp only [Rep] at x ⊢
    obtain ⟨p, vs, e, s, r⟩ := x
    exact ⟨p, vs, e, h.fr _ _ s, Reps.mono h l vs r⟩
  | .lst l, _, x => by
    simp only [Rep] at x ⊢
    obtain ⟨p, vs, e, s, r⟩ := x
    exact ⟨p, vs, e, h.fr _ _ s, Reps.mono h l vs r⟩
  | .rol l, _, x => by
    simp only [Rep] at x ⊢
    obtain ⟨p, vs, e, s, r⟩ := x
    exact ⟨p, vs, e, SqL.mono h s, Reps.mono h l vs r⟩
  | .dct t ks vs, _, x => by
    simp only [Rep] at x ⊢
    obtain ⟨p, ws, e, r, hl, s⟩ := x
    exact ⟨p, ws, e, Reps.mono h vs ws r, hl, s.imp fun o g => h.fr _ _ g⟩
  | .ins c ns fs, _, x => by
    simp only [Rep] at x ⊢
    obtain ⟨p, dx, ws, e, g, g2, hl, r⟩ := x
    exact ⟨p, dx, ws, e, h.fr _ _ g, h.fr _ _ g2, hl, Reps.mono h fs ws r⟩
  | .exc _ _ _, _, x => by simp only [Rep] at x
  | .cls _, _, x => by simpa only [Rep] using x
  | .fn _, _, x => by simpa only [Rep] using x
  | .clo _ _, _, x => by simp only [Rep] at x
  | .obj n, _, x => by
    simp only [Rep] at x ⊢
    obtain ⟨p, e, f⟩ := x
    exact ⟨p, h.at e, f⟩
theorem Reps.mono (h : a.le b) : ∀ (l : List D) (vs : List V), Reps T K a l vs → Reps T K b l vs
  | [], _, x => by simpa only [Reps] using x
  | d :: l, _, x => by
    simp only [Reps] at x ⊢
    obtain ⟨v, ws, e, r, rs⟩ := x
    exact ⟨v, ws, e, Rep.mono h d v r, Reps.mono h l ws rs⟩
end
theorem Reps.nil : Reps T K a [] [] := by simp only [Reps]
theorem Reps.cons {d : D} {l : List D} {v : V} {ws : List V} (r : Rep T K a d v) (rs : Reps T K a l ws) : Reps T K a (d :: l) (v :: ws) := by
  simp only [Reps]; exact ⟨v, ws, rfl, r, rs⟩
theorem Reps.inv {d : D} {l : List D} {vs : List V} (r : Reps T K a (d :: l) vs) : ∃ v ws, vs = v :: ws ∧ Rep T K a d v ∧ Reps T K a l ws := by
  simpa only [Reps] using r
theorem Reps.inv0 {vs : List V} (r : Reps T K a [] vs) : vs = [] := by simpa only [Reps] using r
theorem Reps.length : ∀ {l : List D} {vs : List V}, Reps T K a l vs → l.length = vs.length
  | [], _, r => by rw [r.inv0]; rfl
  | d :: l, _, r => by
    obtain ⟨v, ws, rfl, _, q⟩ := r.inv
    simp [Reps.length q]
theorem Reps.append : ∀ {l m : List D} {vs ws : List V}, Reps T K a l vs → Reps T K a m ws → Reps T K a (l ++ m) (vs ++ ws)
  | [], _, _, _, r, q => by rw [r.inv0]; exact q
  | d :: l, m, _, ws, r, q => by
    obtain ⟨v, us, rfl, r1, r2⟩ := r.inv
    exact Reps.cons r1 (Reps.append r2 q)
theorem Reps.get : ∀ {l : List D} {vs : List V} {i : Nat} {d : D}, Reps T K a l vs → l[i]? = some d → ∃ v, vs[i]? = some v ∧ Rep T K a d v
  | [], _, _, _, _, e => by simp at e
  | d :: l, _, 0, _, r, e => by
    obtain ⟨v, us, rfl, r1, r2⟩ := r.inv
    simp at e; subst e
    exact ⟨v, by simp, r1⟩
  | d :: l, _, i + 1, _, r, e => by
    obtain ⟨v, us, rfl, r1, r2⟩ := r.inv
    obtain ⟨w, h1, h2⟩ := Reps.get (i := i) r2 (by simpa using e)
    exact ⟨w, by simpa using h1, h2⟩
theorem Reps.getV : ∀ {l : List D} {vs : List V} {i : Nat} {v : V}, Reps T K a l vs → vs[i]? = some v → ∃ d, l[i]? = some d ∧ Rep T K a d v
  | [], _, _, _, r, e => by rw [r.inv0] at e; simp at e
  | d :: l, _, 0, _, r, e => by
    obtain ⟨v, us, rfl, r1, r2⟩ := r.inv
    simp at e; subst e
    exact ⟨d, by simp, r1⟩
  | d :: l, _, i + 1, _, r, e => by
    obtain ⟨v, us, rfl, r1, r2⟩ := r.inv
    obtain ⟨w, h1, h2⟩ := Reps.getV (i := i) r2 (by simpa using e)
    exact ⟨w, by simpa using h1, h2⟩
theorem Reps.take : ∀ {l : List D} {vs : List V} (n : Nat), Reps T K a l vs → Reps T K a (l.take n) (vs.take n)
  | [], _, n, r => by rw [r.inv0]; simp; exact Reps.nil
  | d :: l, _, 0, r => by simp; exact Reps.nil
  | d :: l, _, n + 1, r => by
    obtain ⟨v, us, rfl, r1, r2⟩ := r.inv
    simpa using Reps.cons r1 (Reps.take n r2)
theorem Reps.drop : ∀ {l : List D} {vs : List V} (n : Nat), Reps T K a l vs → Reps T K a (l.drop n) (vs.drop n)
  | [], _, n, r => by rw [r.inv0]; simp; exact Reps.nil
  | d :: l, _, 0, r => by simpa using r
  | d :: l, _, n + 1, r => by
    obtain ⟨v, us, rfl, r1, r2⟩ := r.inv
    simpa using Reps.drop n r2
theorem Reps.reverse : ∀ {l : List D} {vs : List V}, Reps T K a l vs → Reps T K a l.reverse vs.reverse
  | [], _, r => by rw [r.inv0]; exact Reps.nil
  | d :: l, _, r => by
    obtain ⟨v, us, rfl, r1, r2⟩ := r.inv
    simpa using Reps.append (Reps.reverse r2) (Reps.cons r1 Reps.nil)
theorem Reps.set : ∀ {l : List D} {vs : List V} {d : D} {v : V} (n : Nat), Reps T K a l vs → Rep T K a d v → Reps T K a (l.set n d) (vs.set n v)
  | [], _, _, _, n, r, _ => by rw [r.inv0]; exact Reps.nil
  | e :: l, _, _, _, 0, r, q => by
    obtain ⟨v, us, rfl, r1, r2⟩ := r.inv
    exact Reps.cons q r2
  | e :: l, _, _, _, n + 1, r, q => by
    obtain ⟨v, us, rfl, r1, r2⟩ := r.inv
    exact Reps.cons r1 (Reps.set n r2 q)
end

section
variable (T : Tab) (K : PySem.W.Frag) (a : Abs)
/-- an object of the store at p -/
def ObRep (H : Hp) (p : Addr) : Ob → Prop
  | .lst l => ∃ vs, H p = some (.lst vs) ∧ Reps T K a l vs
  | .dct t ks vs => ∃ ws, Reps T K a vs ws ∧ ks.length = ws.length ∧ DcAt H p t ks ws
  | .ins c ns fs => ∃ dx ws, H p = some (.ins (T.ca c) dx ((ns.map T.an).zip ws)) ∧ H dx = some (.own p) ∧ a.G dx = none ∧ ns.length = ws.length ∧ Reps T K a fs ws
/-- the frozen part and the store lie in the heap -/
structure HolM (μ : Mem) (H : Hp) : Prop where
  le : ∀ p o, a.G p = some o → H p = some o
  len : μ.length = a.α.length
  nd : a.α.Nodup
  st : ∀ (n : Nat) (p : Addr) (ob : Ob), a.α[n]? = some p → (μ : List Ob)[n]? = some ob → a.G p = none ∧ ObRep T K a H p ob
  ow : ∀ q p, H q = some (.own p) → H p ≠ none
  tb : LamX.Tabs T.tbs H
  tb2 : ∀ q ∈ T.tbs, a.G q.1 = none
/-- a slot's value: exceptions and lambdas stand in slots alone -/
def EnvAt (i : Nat) (d : D) (v : V) : Prop := match d with
  | .exc c ns vs => ∃ p dd ws, T.ex = some (i, p, .ref (T.ca c), dd) ∧ v = .ref p ∧ ns.length = ws.length ∧ XdAt T a.G ns ws dd ∧ Reps T K a vs ws
  | .clo k l => ∃ p c q σ, T.clo = some (p, c, q, k, σ) ∧ v = .ref p ∧ a.G c = some (LamX.CodeO c q) ∧ l.length = σ.length ∧ ∀ j e, getE l j = some e → ∃ w, σ[j]? = some (some w) ∧ Rep T K a e w
  | d => Rep T K a d v
/-- .. and the names' values in the slots -/
structure Hol (ρ : Env) (μ : Mem) (σ : L2.St) (H : Hp) : Prop where
  m : HolM T K a μ H
  len : ρ.length = σ.length
  env : ∀ (i : Nat) (d : D), getE ρ i = some d → ∃ v, σ[i]? = some (some v) ∧ EnvAt T K a i d v
end
/-- what is wished of an exception: its class, its dict -/
def Kx (T : Tab) (K : PySem.W.Frag) (a : Abs) (H : Hp) (ρ : Env) (σ : L2.St) (W : WX) : D → Mem → Prop := fun x μ => ∃ c ns vs, x = .exc c ns vs ∧
  ∀ b dd ws H', Stp a H b H' → Hol T K b ρ μ σ H' → Reps T K b vs ws → ns.length = ws.length → XdAt T b.G ns ws dd → W (.ref (T.ca c)) dd σ H'
theorem Kx.mono {T : Tab} {K : PySem.W.Frag} {a b : Abs} {H H' : Hp} {ρ : Env} {σ : L2.St} {W : WX} (h : Stp a H b H') {x : D} {μ : Mem} (k : Kx T K a H ρ σ W x μ) : Kx T K b H' ρ σ W x μ := by
  obtain ⟨c, ns, vs, e, k⟩ := k
  exact ⟨c, ns, vs, e, fun b dd ws H2 st ho rv hl hd => k b dd ws H2 (h.trans st) ho rv hl hd⟩
/-- no exception -/
def Wn : WX := fun _ _ _ _ => False

/-- the calls of one level less -/
def Tab.C (T : Tab) (n : Nat) : Cal := ⟨calD T.P T.reprS n, lamD T.P T.reprS n⟩
section
variable (T : Tab) (n : Nat) (K : PySem.W.Frag) (W : WX)
/-- the reading of an expression by the small interpreter -/
def tE (e : E) : TE := fun σ H Q => ∃ a ρ μ, Hol T K a ρ μ σ H ∧ WpR (evE T.P (T.C n) T.reprS e ρ μ) (fun d μ' => ∀ b v H', Stp a H b H' → Hol T K b ρ μ' σ H' → Rep T K b d v → Q v H') (Kx T K a H ρ σ W)
/-- a new list or dict, by its content; H0: the heap ahead of it -/
def Fresh (H0 : Hp) (a : Abs) (H : Hp) (d : D) (v : V) : Prop :=
  match d with
  | .lst l => ∃ p vs, v = .ref p ∧ H p = some (.lst vs) ∧ H0 p = none ∧ a.G p = none ∧ p ∉ a.α ∧ Reps T K a l vs
  | .dct t ks ds => ∃ p ws, v = .ref p ∧ H0 p = none ∧ a.G p = none ∧ p ∉ a.α ∧ Reps T K a ds ws ∧ ks.length = ws.length ∧ DcAt H p t ks ws
  | d => Rep T K a d v
/-- .. of one that makes a new list or dict -/
def tF (e : E) : TE := fun σ H Q => ∃ a ρ μ, Hol T K a ρ μ σ H ∧ WpR (evE T.P (T.C n) T.reprS e ρ μ) (fun d μ' => ∀ b v H', Stp a H b H' → Hol T K b ρ μ' σ H' → Fresh T K H b H' d v → Q v H') (Kx T K a H ρ σ W)
def tT (e : E) : TT := fun σ H Q => ∃ a ρ μ, Hol T K a ρ μ σ H ∧ WpR (evE T.P (T.C n) T.reprS e ρ μ) (fun d μ' => ∃ c, tru d = some c ∧ ∀ b H', Stp a H b H' → Hol T K b ρ μ' σ H' → Q c H') (Kx T K a H ρ σ W)
def tEs (es : Es) : TA := fun σ H Q => ∃ a ρ μ, Hol T K a ρ μ σ H ∧ WpR (evEs T.P (T.C n) T.reprS es ρ μ) (fun l μ' => ∀ b vs H', Stp a H b H' → Hol T K b ρ μ' σ H' → Reps T K b l vs → Q vs H') (Kx T K a H ρ σ W)
end

section
variable {T : Tab} {K : PySem.W.Frag} {a b : Abs} {ρ : Env} {μ : Mem} {σ : L2.St} {H : Hp}
theorem EnvAt.mono {i : Nat} {d : D} {v : V} (h : a.le b) (x : EnvAt T K a i d v) : EnvAt T K b i d v := by
  unfold EnvAt at x ⊢
  split at x
  · obtain ⟨p, dd, ws, e, ev, hl, hx, r⟩ := x
    exact ⟨p, dd, ws, e, ev, hl, hx.imp h.fr, Reps.mono h _ _ r⟩
  · obtain ⟨p, c, q, σ, e, ev, hc, hl, r⟩ := x
    exact ⟨p, c, q, σ, e, ev, h.fr _ _ hc, hl, fun j e he => let ⟨w, e1, r1⟩ := r j e he; ⟨w, e1, Rep.mono h _ _ r1⟩⟩
  · exact Rep.mono h _ _ x
theorem EnvAt.rep {i : Nat} {d : D} {v : V} (x : EnvAt T K a i d v) (h : isSp d = false) : Rep T K a d v := by
  cases d <;> first | (simp [isSp] at h; done) | exact x
theorem EnvAt.of {i : Nat} {d : D} {v : V} (x : Rep T K a d v) : EnvAt T K a i d v := by
  cases d <;> first | exact x | (simp only [Rep] at x)
theorem Hol.get (h : Hol T K a ρ μ σ H) {i : Nat} {d : D} (e : readV ρ i = some d) : ∃ v, σ[i]? = some (some v) ∧ Rep T K a d v := by
  unfold readV at e
  obtain ⟨d', e1, e2⟩ := Option.bind_eq_some_iff.mp e
  split at e2
  · cases e2
  · rename_i hs
    cases e2
    obtain ⟨v, e3, r⟩ := h.env i d e1
    exact ⟨v, e3, r.rep (by simpa using hs)⟩
theorem ObRep.there {p : Addr} {ob : Ob} (h : ObRep T K a H p ob) : ∃ o, H p = some o := by
  cases ob with
  | lst l => obtain ⟨vs, h, _⟩ := h; exact ⟨_, h⟩
  | dct t ks vs => obtain ⟨ws, _, _, h⟩ := h; obtain ⟨o, e, _⟩ := h.there; exact ⟨o, e⟩
  | ins c ns fs => obtain ⟨dx, ws, h, _⟩ := h; exact ⟨_, h⟩
/-- the same object in another heap, under more frozen ones -/
theorem ObRep.keep {H' : Hp} {p : Addr} {ob : Ob} (h : ObRep T K a H p ob) (le : a.le b) (k : ∀ q o, H q = some o → (q = p ∨ o = .own p) → H' q = some o) (g : ∀ q, a.G q = none → H q = some (.own p) → b.G q = none) : ObRep T K b H' p ob := by
  cases ob with
  | lst l => obtain ⟨vs, h, r⟩ := h; exact ⟨vs, k _ _ h (.inl rfl), Reps.mono le _ _ r⟩
  | dct t ks vs =>
    obtain ⟨ws, r, hl, h⟩ := h
    exact ⟨ws, Reps.mono le _ _ r, hl, h.imp fun o e => k _ _ e (.inl rfl)⟩
  | ins c ns fs =>
    obtain ⟨dx, ws, h, d, n, hl, r⟩ := h
    exact ⟨dx, ws, k _ _ h (.inl rfl), k _ _ d (.inr rfl), g _ n d, hl, Reps.mono le _ _ r⟩
/-- a new object is laid: it is frozen at once -/
theorem ow_upd (ow : ∀ q p, H q = some (.own p) → H p ≠ none) {p : Addr} {o : HO} (hw : ∀ q, o ≠ .own q) : ∀ q r, upd H p o q = some (.own r) → upd H p o r ≠ none := fun q r e => by
  have hq : q ≠ p := by rintro rfl; rw [upd_same] at e; exact hw _ (Option.some.inj e)
  rw [upd_ne hq] at e
  by_cases hr : r = p
  · subst hr; rw [upd_same]; simp
  · rw [upd_ne hr]; exact ow q r e
theorem Tabs.keep {Tb : List (Addr × Str)} {H H' : Hp} (t : LamX.Tabs Tb H) (e : ∀ b o, H b = some o → ((∃ ps, o = .tbl ps) ∨ ∃ φ, o = .ext φ) → H' b = some o) : LamX.Tabs Tb H' := fun p hp => by
  obtain ⟨ps, h1, h2, h3⟩ := t p hp
  refine ⟨ps, e _ _ h1 (.inl ⟨_, rfl⟩), h2, fun pos cv hc => ?_⟩
  obtain ⟨c, e1, e2⟩ := h3 pos cv hc
  exact ⟨c, e1, e _ _ e2 (.inr ⟨_, rfl⟩)⟩
theorem HolM.freeze (h : HolM T K a μ H) {p : Addr} {o : HO} (hn : H p = none) (hw : ∀ q, o ≠ .own q := by intro q z; cases z) : HolM T K ⟨a.α, upd a.G p o⟩ μ (upd H p o) ∧ Stp a H ⟨a.α, upd a.G p o⟩ (upd H p o) := by
  have gn : a.G p = none := by
    cases e : a.G p with
    | none => rfl
    | some u => rw [h.le _ _ e] at hn; cases hn
  have le : a.le ⟨a.α, upd a.G p o⟩ := ⟨⟨[], by simp⟩, fun q u e => by
    show upd a.G p o q = _
    rw [upd_ne (ne_of_none e gn)]; exact e⟩
  refine ⟨⟨fun q u e => ?_, h.len, h.nd, fun n q ob e1 e2 => ?_, ow_upd h.ow hw, h.tb.ext (fun b o e => by rw [upd_ne (ne_of_none e hn)]; exact e), fun q hq => by
    obtain ⟨ps, e, _⟩ := h.tb q hq
    exact (upd_ne (ne_of_none e hn)).trans (h.tb2 q hq)⟩, le, fun q e => ?_, fun q u e1 e2 e3 _ => ?_, fun q o2 e t => ⟨o2, by rw [upd_ne (ne_of_none e hn)]; exact e, t⟩⟩
  rotate_left 2
  · by_cases hq : q = p
    · subst hq; exact hn
    · rw [upd_ne hq] at e; exact e
  · have hq : q ≠ p := ne_of_none e1 hn
    exact ⟨by rw [upd_ne hq]; exact e1, (upd_ne hq).trans e2, e3⟩
  · by_cases hq : q = p
    · subst hq
      rw [show (Abs.mk a.α (upd a.G q o)).G q = some o from upd_same] at e
      rw [upd_same]; exact e
    · rw [show (Abs.mk a.α (upd a.G p o)).G q = a.G q from upd_ne hq] at e
      rw [upd_ne hq]; exact h.le _ _ e
  · obtain ⟨g, r⟩ := h.st n q ob e1 e2
    obtain ⟨u, hu⟩ := r.there
    have hq : q ≠ p := ne_of_none hu hn
    refine ⟨(upd_ne hq).trans g, r.keep le (fun x u e _ => by rw [upd_ne (ne_of_none e hn)]; exact e) fun x e1 e2 => (upd_ne (ne_of_none e2 hn)).trans e1⟩
theorem Hol.to (h : Hol T K a ρ μ σ H) {μ' : Mem} {H' : Hp} (le : a.le b) (m : HolM T K b μ' H') : Hol T K b ρ μ' σ H' :=
  ⟨m, h.len, fun i d e => let ⟨v, e1, r⟩ := h.env i d e; ⟨v, e1, r.mono le⟩⟩
theorem Hol.freeze (h : Hol T K a ρ μ σ H) {p : Addr} {o : HO} (hn : H p = none) (hw : ∀ q, o ≠ .own q := by intro q z; cases z) : Hol T K ⟨a.α, upd a.G p o⟩ ρ μ σ (upd H p o) ∧ Stp a H ⟨a.α, upd a.G p o⟩ (upd H p o) :=
  let ⟨m, le⟩ := h.m.freeze hn hw
  ⟨h.to le.le m, le⟩
/-- an unowned object that stands already is frozen -/
theorem HolM.freezeAt (h : HolM T K a μ H) {p : Addr} {o : HO} (ho : H p = some o) (gn : a.G p = none) (hp : p ∉ a.α) (hw : ∀ q, o ≠ .own q) (hw2 : ∀ ps, o ≠ .tbl ps) : HolM T K ⟨a.α, upd a.G p o⟩ μ H ∧ a.le ⟨a.α, upd a.G p o⟩ := by
  have le : a.le ⟨a.α, upd a.G p o⟩ := ⟨⟨[], by simp⟩, fun q u e => by
    show upd a.G p o q = _
    rw [upd_ne (ne_of_none e gn)]; exact e⟩
  refine ⟨⟨fun q u e => ?_, h.len, h.nd, fun n q ob e1 e2 => ?_, h.ow, h.tb, fun q hq => by
    obtain ⟨ps, e, _⟩ := h.tb q hq
    have hne : q.1 ≠ p := fun z => by rw [z, ho] at e; exact hw2 ps (Option.some.inj e)
    exact (upd_ne hne).trans (h.tb2 q hq)⟩, le⟩
  · by_cases hq : q = p
    · subst hq
      rw [show (Abs.mk a.α (upd a.G q o)).G q = some o from upd_same] at e
      cases e; exact ho
    · rw [show (Abs.mk a.α (upd a.G p o)).G q = a.G q from upd_ne hq] at e
      exact h.le _ _ e
  · obtain ⟨g, r⟩ := h.st n q ob e1 e2
    have hq : q ≠ p := fun e => hp (e ▸ List.mem_of_getElem? e1)
    refine ⟨(upd_ne hq).trans g, r.keep le (fun x u e _ => e) fun x e1 e2 => ?_⟩
    have hx : x ≠ p := by
      rintro rfl
      rw [ho] at e2; exact hw _ (Option.some.inj e2)
    exact (upd_ne hx).trans e1
theorem Stp.freezeAt {a0 : Abs} {H0 : Hp} (s : Stp a0 H0 a H) {p : Addr} {o : HO} (h0 : H0 p = none) (le : a.le ⟨a.α, upd a.G p o⟩) : Stp a0 H0 ⟨a.α, upd a.G p o⟩ H :=
  ⟨s.le.trans le, s.dom, fun q u e1 e2 e3 nt => let ⟨x, y, z⟩ := s.frame q u e1 e2 e3 nt; ⟨x, (upd_ne (ne_of_none e1 h0)).trans y, z⟩, s.tl⟩
/-- a further object is laid -/
theorem Stp.lay {a0 : Abs} {H0 : Hp} (s : Stp a0 H0 a H) {p : Addr} {o : HO} (hp : H p = none) : Stp a0 H0 a (upd H p o) := by
  refine ⟨s.le, fun q e => s.dom q ?_, fun q u e1 e2 e3 nt => ?_, fun q o2 e t => let ⟨o1, e1, t1⟩ := s.tl q o2 e t; ⟨o1, by rw [upd_ne (ne_of_none e1 hp)]; exact e1, t1⟩⟩
  · by_cases hq : q = p
    · subst hq; exact hp
    · rw [upd_ne hq] at e; exact e
  · obtain ⟨x, y, z⟩ := s.frame q u e1 e2 e3 nt
    exact ⟨by rw [upd_ne (ne_of_none x hp)]; exact x, y, z⟩
theorem Fresh.pre {H0 H1 H' : Hp} (dom : ∀ p, H1 p = none → H0 p = none) {d : D} {v : V} (f : Fresh T K H1 b H' d v) : Fresh T K H0 b H' d v := by
  cases d with
  | lst l =>
    obtain ⟨p, vs, rfl, hp, h0, r⟩ := f
    exact ⟨p, vs, rfl, hp, dom _ h0, r⟩
  | dct t ks ds =>
    obtain ⟨p, ws, rfl, h0, r⟩ := f
    exact ⟨p, ws, rfl, dom _ h0, r⟩
  | _ => exact f
theorem Fresh.freeze {a0 : Abs} {H0 : Hp} (s : Stp a0 H0 a H) (h : HolM T K a μ H) {d : D} {v : V} (f : Fresh T K H0 a H d v) : ∃ b, a.le b ∧ Stp a0 H0 b H ∧ HolM T K b μ H ∧ Rep T K b d v := by
  cases d with
  | lst l =>
    obtain ⟨p, vs, rfl, hp, h0, g, n, r⟩ := f
    obtain ⟨m, le⟩ := h.freezeAt hp g n (fun _ z => by cases z) (fun _ z => by cases z)
    exact ⟨_, le, s.freezeAt h0 le, m, by simp only [Rep]; exact ⟨p, vs, rfl, upd_same, Reps.mono le _ _ r⟩⟩
  | dct t ks ds =>
    obtain ⟨p, ws, rfl, h0, g, n, r, hl, hd⟩ := f
    obtain ⟨o, e, hw⟩ := hd.there
    obtain ⟨m, le⟩ := h.freezeAt e g n hw (hd.noT e)
    exact ⟨_, le, s.freezeAt h0 le, m, by simp only [Rep]; exact ⟨p, ws, rfl, Reps.mono le _ _ r, hl, hd.of e upd_same⟩⟩
  | _ => exact ⟨a, a.le_refl, s, h, f⟩
end

section
variable (T : Tab) (n : Nat) (X : Cx) (W : WX)
abbrev SE (x : Expr) (e : E) : Prop := PE X x (tE T n X.K W e)
abbrev SF (x : Expr) (e : E) : Prop := PE X x (tF T n X.K W e)
abbrev ST (x : Expr) (e : E) : Prop := PT X x (tT T n X.K W e)
abbrev SA (x : List Expr) (e : Es) : Prop := PA X x (tEs T n X.K W e)
end
section
variable {T : Tab} {n : Nat} {X : Cx} {W : WX}
theorem SF.se {x : Expr} {e : E} (h : SF T n X W x e) : SE T n X W x e := by
  refine ⟨fun pins s σ H Q I q => h.run pins s σ H Q I ?_⟩
  obtain ⟨a, ρ, μ, ho, q⟩ := q
  refine ⟨a, ρ, μ, ho, q.mono (fun d μ' k b v H' le ho' f => ?_) fun _ _ k => k⟩
  obtain ⟨c, le2, s2, m, r⟩ := f.freeze le ho'.m
  exact k c v H' s2 (ho'.to le2 m) r
end
end DI
end

section
set_option Elab.async false
set_option linter.all false
set_option maxRecDepth 100000
namespace DI
open PySem L2 PySem.Spec PyProof.Rows
theorem PE.imp {X : Cx} {x : Expr} {t t' : TE} (h : PE X x t) (g : ∀ σ H Q, t' σ H Q → t σ H Q) : PE X x t' := ⟨fun pins s σ H Q I q => h.run pins s σ H Q I (g σ H Q q)⟩
theorem PT.imp {X : Cx} {x : Expr} {t t' : TT} (h : PT X x t) (g : ∀ σ H Q, t' σ H Q → t σ H Q) : PT X x t' := ⟨fun pins s σ H Q I q => h.run pins s σ H Q I (g σ H Q q)⟩
theorem PW.imp {X : Cx} {x : Expr} {t t' : TT} (h : PW X x t) (g : ∀ σ H Q, t' σ H Q → t σ H Q) : PW X x t' := ⟨fun wh pins s σ H Q I q => h.run wh pins s σ H Q I (g σ H Q q)⟩
theorem PA.imp {X : Cx} {x : List Expr} {t t' : TA} (h : PA X x t) (g : ∀ σ H Q, t' σ H Q → t σ H Q) : PA X x t' := ⟨fun pos pins s σ H Q I q => h.run pos pins s σ H Q I (g σ H Q q)⟩

section
variable (T : Tab) (K : PySem.W.Frag) (a : Abs) (H : Hp)
def RdV : D → V → Prop
  | .lst l, v => ∃ p vs, v = .ref p ∧ H p = some (.lst vs) ∧ Reps T K a l vs
  | .rol l, v => ∃ p vs, v = .ref p ∧ SqL K H p vs ∧ Reps T K a l vs
  | .tup l, v => ∃ p vs, v = .ref p ∧ SqT K H p vs ∧ Reps T K a l vs
  | .key l, v => ∃ p vs, v = .ref p ∧ H p = some (.tup vs) ∧ Reps T K a l vs
  | .dct t ks ds, v => ∃ p ws, v = .ref p ∧ Reps T K a ds ws ∧ ks.length = ws.length ∧ DcAt H p t ks ws
  | .ins c ns fs, v => ∃ p dx ws, v = .ref p ∧ H p = some (.ins (T.ca c) dx ((ns.map T.an).zip ws)) ∧ H dx = some (.own p) ∧ ns.length = ws.length ∧ Reps T K a fs ws
  | d, v => Rep T K a d v
end
section
variable {T : Tab} {K : PySem.W.Frag} {a b : Abs} {H : Hp} {μ : Mem}
theorem SqT.up (le : ∀ p o, a.G p = some o → H p = some o) {p : Addr} {vs : List V} (x : SqT K a.G p vs) : SqT K H p vs := by
  rcases x with (x | ⟨o, x⟩) | x
  · exact .inl (.inl (le _ _ x))
  · exact .inl (.inr ⟨o, le _ _ x⟩)
  · exact .inr x
theorem SqL.up (le : ∀ p o, a.G p = some o → H p = some o) {p : Addr} {vs : List V} (x : SqL K a.G p vs) : SqL K H p vs := by
  rcases x with (x | ⟨o, x⟩) | x
  · exact .inl (.inl (le _ _ x))
  · exact .inl (.inr ⟨o, le _ _ x⟩)
  · exact .inr x
theorem HolM.at (m : HolM T K a μ H) {n : Nat} {p : Addr} (e : a.α[n]? = some p) : ∃ ob, μ[n]? = some ob ∧ a.G p = none ∧ ObRep T K a H p ob := by
  have h1 := (List.getElem?_eq_some_iff.mp e).1
  have h2 : n < μ.length := by rw [m.len]; exact h1
  obtain ⟨g, o⟩ := m.st n p μ[n] e (by simp [h2])
  exact ⟨μ[n], by simp [h2], g, o⟩
theorem rd_rep (m : HolM T K a μ H) : ∀ {d : D} {v : V}, Rep T K a d v → RdV T K a H (rd μ d) v
  | .non, _, r => r
  | .bl _, _, r => r
  | .int _, _, r => r
  | .str _, _, r => r
  | .tup l, _, r => by
    simp only [Rep] at r
    obtain ⟨p, vs, e, s, q⟩ := r
    exact ⟨p, vs, e, SqT.up m.le s.sq, q⟩
  | .key l, _, r => by
    simp only [Rep] at r
    obtain ⟨p, vs, e, s, q⟩ := r
    exact ⟨p, vs, e, m.le _ _ s, q⟩
  | .lst l, _, r => by
    simp only [Rep] at r
    obtain ⟨p, vs, e, s, q⟩ := r
    exact ⟨p, vs, e, m.le _ _ s, q⟩
  | .rol l, _, r => by
    simp only [Rep] at r
    obtain ⟨p, vs, e, s, q⟩ := r
    exact ⟨p, vs, e, SqL.up m.le s, q⟩
  | .dct t ks vs, _, r => by
    simp only [Rep] at r
    obtain ⟨p, ws, e, q, hl, s⟩ := r
    exact ⟨p, ws, e, q, hl, s.imp fun o g => m.le _ _ g⟩
  | .ins c ns fs, _, r => by
    simp only [Rep] at r
    obtain ⟨p, dx, ws, e, g, g2, hl, q⟩ := r
    exact ⟨p, dx, ws, e, m.le _ _ g, m.le _ _ g2, hl, q⟩
  | .exc _ _ _, _, r => by simp only [Rep] at r
  | .cls _, _, r => r
  | .fn _, _, r => r
  | .clo _ _, _, r => by simp only [Rep] at r
  | .obj n, _, r => by
    simp only [Rep] at r
    obtain ⟨p, e, rfl⟩ := r
    obtain ⟨ob, e2, g, o⟩ := m.at e
    cases ob with
    | lst l =>
      obtain ⟨vs, h, q⟩ := o
      simp only [rd, e2]
      exact ⟨p, vs, rfl, h, q⟩
    | dct t ks ds =>
      obtain ⟨ws, q, hl, s⟩ := o
      simp only [rd, e2]
      exact ⟨p, ws, rfl, q, hl, s⟩
    | ins c ns fs =>
      obtain ⟨dx, ws, h, d, _, hl, q⟩ := o
      simp only [rd, e2]
      exact ⟨p, dx, ws, rfl, h, d, hl, q⟩
end

section
variable {T : Tab} {n : Nat} {X : Cx} {W : WX} {pos : Pos}
theorem se_v {i : Nat} {x : Str} (hN : X.N[i]? = some x) (hv : Vis X.env.scope x) (hd : (x == ("__debug__" : Str)) = false) (hcd : (x == ("__classdict__" : Str)) = false) : SE T n X W (.Name x pos) (.v i) := by
  refine PE.imp (pe_var hN hv hd hcd) fun σ H Q q => ?_
  obtain ⟨a, ρ, μ, ho, q⟩ := q
  simp only [evE] at q
  obtain ⟨d, e, k⟩ := q.of
  obtain ⟨v, e1, r⟩ := ho.get e
  exact ⟨v, e1, k a v H (Stp.refl _ _) ho r⟩
/-- a value known ahead: a constant, a class, a def -/
theorem se_c {x : Expr} {e : E} {v : V} {d : D} (h : PE X x (tC v)) (he : ∀ ρ μ, evE T.P (T.C n) T.reprS e ρ μ = .ok d μ) (r : ∀ a, Rep T X.K a d v) : SE T n X W x e := by
  refine PE.imp h fun σ H Q q => ?_
  obtain ⟨a, ρ, μ, ho, q⟩ := q
  rw [he] at q
  exact q a v H (Stp.refl _ _) ho (r a)
theorem se_int {i : Int} {j : Nat} : SE T n X W (.Constant (.int i) j pos) (.k (.int i)) := se_c (d := .int i) pe_int (fun _ _ => by simp only [evE]) fun a => by simp only [Rep]
theorem se_bl {b : Bool} {j : Nat} : SE T n X W (.Constant (.bool b) j pos) (.k (.bl b)) := se_c (d := .bl b) pe_bl (fun _ _ => by simp only [evE]) fun a => by simp only [Rep]
theorem se_non {j : Nat} : SE T n X W (.Constant .none j pos) (.k .non) := se_c (d := .non) pe_non (fun _ _ => by simp only [evE]) fun a => by simp only [Rep]
theorem se_str {s : Str} {j : Nat} (h : strG s = true) : SE T n X W (.Constant (.str s) j pos) (.k (.str s)) := se_c (d := .str s) pe_str (fun _ _ => by simp only [evE]) fun a => by simp only [Rep]; exact ⟨trivial, h⟩

theorem sa_nil : SA T n X W [] .n := by
  refine PA.imp pa_nil fun σ H Q q => ?_
  obtain ⟨a, ρ, μ, ho, q⟩ := q
  simp only [evEs] at q
  exact q a [] H (Stp.refl _ _) ho Reps.nil
theorem sa_cons {x : Expr} {xs : List Expr} {e : E} {es : Es} (h : SE T n X W x e) (hs : SA T n X W xs es) (hst : starEach (x :: xs) X.env = (false, eval x X.env) :: starEach xs X.env) : SA T n X W (x :: xs) (.c e es) := by
  refine PA.imp (pa_cons h hs hst) fun σ H Q q => ?_
  obtain ⟨a, ρ, μ, ho, q⟩ := q
  simp only [evEs] at q
  refine ⟨a, ρ, μ, ho, q.bind.mono (fun d μ1 q1 b v H1 le1 ho1 r1 => ?_) fun _ _ k => k⟩
  refine ⟨b, ρ, μ1, ho1, q1.bind.mono (fun l μ2 q2 c vs H2 le2 ho2 r2 => ?_) fun _ _ k => k.mono le1⟩
  exact q2 c (v :: vs) H2 (le1.trans le2) ho2 (Reps.cons (Rep.mono le2.le _ _ r1) r2)
end
/-- a display's items without stars -/
def Es.plain : Es → Bool
  | .n => true
  | .c (.star _) _ => false
  | .c _ r => r.plain
theorem evX_plain (P : Prog) (C : Cal) (rs : D → Option Str) : ∀ (es : Es) (ρ : Env) (μ : Mem), es.plain = true → evX P C rs es ρ μ = evEs P C rs es ρ μ
  | .n, ρ, μ, _ => by simp only [evX, evEs]
  | .c e r, ρ, μ, h => by
    have ih := fun ρ μ hp => evX_plain P C rs r ρ μ hp
    cases e
    case star => simp [Es.plain] at h
    all_goals (simp only [Es.plain] at h; simp only [evX, evEs, ih _ _ h])
section
variable {T : Tab} {n : Nat} {X : Cx} {W : WX} {pos : Pos}
theorem sizeLn_eq : sizeLn = sizeLine := by rw [sizeLine_eq]; rfl
theorem se_key {xs : List Expr} {es : Es} {k : Nat} (hp : es.plain = true) (h : SA T n X W xs es) : SE T n X W (.Tuple xs k pos) (.key es) := by
  refine PE.imp (pe_tup h) fun σ H Q q => ?_
  obtain ⟨a, ρ, μ, ho, q⟩ := q
  simp only [evE, evX_plain _ _ _ _ _ _ hp] at q
  refine ⟨a, ρ, μ, ho, q.bind.mono (fun l μ1 q1 b vs H1 le1 ho1 r1 => ?_) fun _ _ k => k⟩
  split at q1
  · rename_i hl
    refine ⟨by rw [← r1.length, ← sizeLn_eq]; exact hl, fun p hp => ?_⟩
    obtain ⟨ho2, le2⟩ := ho1.freeze (o := .tup vs) hp
    exact q1 _ _ _ (le1.trans le2) ho2 (by simp only [Rep]; exact ⟨p, vs, rfl, upd_same, Reps.mono le2.le _ _ r1⟩)
  · exact q1.elim
theorem se_tup {xs : List Expr} {es : Es} {k : Nat} (hp : es.plain = true) (h : SA T n X W xs es) : SE T n X W (.Tuple xs k pos) (.tup es) := by
  refine PE.imp (pe_tupF h) fun σ H Q q => ?_
  obtain ⟨a, ρ, μ, ho, q⟩ := q
  simp only [evE, evX_plain _ _ _ _ _ _ hp] at q
  refine ⟨a, ρ, μ, ho, q.bind.mono (fun l μ1 q1 b vs H1 le1 ho1 r1 => ?_) fun _ _ k => k⟩
  split at q1
  · rename_i hl
    refine ⟨by rw [← r1.length, ← sizeLn_eq]; exact hl, fun p o ht hp => ?_⟩
    obtain ⟨ho2, le2⟩ := ho1.freeze (o := .frz o (.tup vs)) hp
    exact q1 _ _ _ (le1.trans le2) ho2 (by simp only [Rep]; exact ⟨p, vs, rfl, .inl ⟨o, ht, upd_same⟩, Reps.mono le2.le _ _ r1⟩)
  · exact q1.elim
theorem HolM.fresh (m : HolM T X.K a μ H) {p : Addr} (hp : H p = none) : a.G p = none ∧ p ∉ a.α := by
  refine ⟨?_, fun hm => ?_⟩
  · cases e : a.G p with
    | none => rfl
    | some u => rw [m.le _ _ e] at hp; cases hp
  · obtain ⟨i, e⟩ := List.mem_iff_getElem?.mp hm
    obtain ⟨ob, _, _, o⟩ := m.at e
    obtain ⟨u, hu⟩ := o.there
    rw [hp] at hu; cases hu
/-- a heap that only grows -/
theorem HolM.grow (m : HolM T X.K a μ H) {H' : Hp} (g : ∀ q u, H q = some u → H' q = some u) (ow : ∀ q p, H' q = some (.own p) → H' p ≠ none) : HolM T X.K a μ H' := by
  refine ⟨fun q u e => g _ _ (m.le _ _ e), m.len, m.nd, fun i q ob e1 e2 => ?_, ow, m.tb.ext g, m.tb2⟩
  obtain ⟨gn, r⟩ := m.st i q ob e1 e2
  exact ⟨gn, r.keep a.le_refl (fun x u e _ => g _ _ e) fun x e1 e2 => e1⟩
/-- an object that is new, untracked by the store and the frozen part -/
theorem HolM.lay (m : HolM T X.K a μ H) {p : Addr} {o : HO} (hp : H p = none) (hw : ∀ q, o ≠ .own q := by intro q z; cases z) : HolM T X.K a μ (upd H p o) :=
  m.grow (fun q u e => by rw [upd_ne (ne_of_none e hp)]; exact e) (ow_upd m.ow hw)
theorem sf_lst {xs : List Expr} {es : Es} (hp : es.plain = true) (h : SA T n X W xs es) : SF T n X W (.List xs pos) (.lst es) := by
  refine PE.imp (pe_lst h) fun σ H Q q => ?_
  obtain ⟨a, ρ, μ, ho, q⟩ := q
  simp only [evE, evX_plain _ _ _ _ _ _ hp] at q
  refine ⟨a, ρ, μ, ho, q.bind.mono (fun l μ1 q1 b vs H1 le1 ho1 r1 => ?_) fun _ _ k => k⟩
  split at q1
  · rename_i hl
    refine ⟨by rw [← r1.length, ← sizeLn_eq]; exact hl, fun p hp => ?_⟩
    obtain ⟨f1, f2⟩ := ho1.m.fresh hp
    exact q1 b _ _ (le1.lay hp) (ho1.to b.le_refl (ho1.m.lay hp)) ⟨p, vs, rfl, upd_same, le1.dom _ hp, f1, f2, r1⟩
  · exact q1.elim
end

end DI
end

section
set_option Elab.async false
set_option linter.all false
set_option maxRecDepth 100000
namespace DI
open PySem L2 PySem.Spec PyProof.Rows
def toOp : Bop → Operator
  | .add => .Add | .sub => .Sub | .mul => .Mult | .mod => .Mod | .fdv => .FloorDiv | .pow => .Pow | .shl => .LShift
/-- a step by values: from what is read to a value; the store is as it was -/
def rV2 (T : Tab) (K : PySem.W.Frag) (f : Mem → D → D → Option D) : R2 := fun x y H Q => ∃ a μ d e z, HolM T K a μ H ∧ Rep T K a d x ∧ Rep T K a e y ∧ f μ d e = some z ∧
  ∀ b v H', Stp a H b H' → HolM T K b μ H' → Fresh T K H b H' z v → Q v H'
theorem strOk_app {x y : Str} (h : PyData.strOk x = true) (g : PyData.strOk y = true) : PyData.strOk (sM (sL x ++ sL y)) = true := by
  unfold PyData.strOk at *
  simp only [sM, sL, Array.all_eq_true', List.mem_toArray, List.mem_append, Array.mem_toList_iff] at *
  intro c hc
  rcases hc with hc | hc
  · exact h c hc
  · exact g c hc
theorem sM_app (x y : Str) : x ++ y = sM (sL x ++ sL y) := by
  show Str.mk (x.cps ++ y.cps) = _
  unfold sM sL
  congr 1
  apply Array.toList_inj.mp
  simp
theorem sL_length (x : Str) : (sL x).length = x.length := by
  unfold sL; rw [Array.length_toList]; rfl
section
variable {T : Tab} {n : Nat} {X : Cx} {W : WX} {pos : Pos} {a : Abs} {H0 H : Hp} {v : V} {μ : Mem}
theorem RdV.int {i : Int} (h : RdV T X.K a H (.int i) v) : v = .int i := by simpa only [RdV, Rep] using h
theorem RdV.str {i : Str} (h : RdV T X.K a H (.str i) v) : v = .str i ∧ strG i = true := by simpa only [RdV, Rep] using h
theorem rep_int {i : Int} : Fresh T X.K H0 a H (.int i) (.int i) := by simp only [Fresh, Rep]
theorem rep_bl {i : Bool} : Rep T X.K a (.bl i) (.bl i) := by simp only [Rep]
theorem rep_str {i : Str} (h : strG i = true) : Fresh T X.K H0 a H (.str i) (.str i) := by simp only [Fresh, Rep]; exact ⟨trivial, h⟩
/-- a value that is read as a tuple is that tuple -/
theorem rd_tup {d : D} {l : List D} (h : rd μ d = .tup l) : d = .tup l := by
  cases d <;> simp only [rd] at h <;> first | exact h | skip
  split at h <;> first | (cases h; done) | exact h
/-- a new list -/
theorem fresh_lst {l : List D} {p : Addr} {vs : List V} (m : HolM T X.K a μ H) (hp : H p = none) (r : Reps T X.K a l vs) : Stp a H a (upd H p (.lst vs)) ∧ HolM T X.K a μ (upd H p (.lst vs)) ∧ Fresh T X.K H a (upd H p (.lst vs)) (.lst l) (.ref p) :=
  ⟨(Stp.refl _ _).lay hp, m.lay hp, p, vs, rfl, upd_same, hp, (m.fresh hp).1, (m.fresh hp).2, r⟩
/-- a new tuple -/
theorem fresh_tup {l : List D} {p : Addr} {o : Obj} {vs : List V} (ht : TObj o) (m : HolM T X.K a μ H) (hp : H p = none) (r : Reps T X.K a l vs) : ∃ b, Stp a H b (upd H p (.frz o (.tup vs))) ∧ HolM T X.K b μ (upd H p (.frz o (.tup vs))) ∧ Rep T X.K b (.tup l) (.ref p) := by
  obtain ⟨m2, le2⟩ := m.freeze (o := .frz o (.tup vs)) hp
  exact ⟨_, le2, m2, by simp only [Rep]; exact ⟨p, vs, rfl, .inl ⟨o, ht, upd_same⟩, Reps.mono le2.le _ _ r⟩⟩
theorem fresh_key {l : List D} {p : Addr} {vs : List V} (m : HolM T X.K a μ H) (hp : H p = none) (r : Reps T X.K a l vs) : ∃ b, Stp a H b (upd H p (.tup vs)) ∧ HolM T X.K b μ (upd H p (.tup vs)) ∧ Rep T X.K b (.key l) (.ref p) := by
  obtain ⟨m2, le2⟩ := m.freeze (o := .tup vs) hp
  exact ⟨_, le2, m2, by simp only [Rep]; exact ⟨p, vs, rfl, upd_same, Reps.mono le2.le _ _ r⟩⟩
theorem reps_nil {l : List D} (r : Reps T X.K a l []) : l = [] := List.eq_nil_of_length_eq_zero (by rw [r.length]; rfl)

theorem op_addV : OpR X (binaryOp .Add) (rV2 T X.K fun μ => binV μ .add) := by
  intro pins s σ H x y v u Q I rx ry h
  obtain ⟨a, μ, d, e, z, m, r1, r2, f, k⟩ := h
  have q1 := rd_rep m r1
  have q2 := rd_rep m r2
  simp only [binV] at f
  generalize g1 : rd μ d = d' at *
  generalize g2 : rd μ e = e' at *
  unfold addV at f
  split at f
  · cases f
    exact op_add pins s σ H x y v u Q I rx ry ⟨_, _, q1.int, q2.int, k a _ H (Stp.refl _ _) m rep_int⟩
  · split at f
    · rename_i hl; cases f
      refine op_add_str pins s σ H x y v u Q I rx ry ⟨_, _, q1.str.1, q2.str.1, by rw [← sL_length, ← sL_length, ← sizeLn_eq]; exact hl, ?_⟩
      rw [sM_app]
      exact k a _ H (Stp.refl _ _) m (rep_str (strG.of (strOk_app (strG.ok q1.str.2) (strG.ok q2.str.2)) (by show (sM _).cps.toList.length ≤ _; simpa [sM] using hl)))
    · cases f
  · rename_i l l'
    split at f
    · rename_i hl; cases f
      obtain ⟨p, vs, rfl, s1, t1⟩ := q1
      obtain ⟨q, ws, rfl, s2, t2⟩ := q2
      refine op_catF pins s σ H _ _ v u Q I rx ry ⟨p, q, vs, ws, rfl, rfl, s1, s2, by rw [← t1.length, ← t2.length, ← sizeLn_eq]; exact hl, fun e => ?_, fun e2 => ?_, fun r o ht hr => ?_⟩
      · subst e
        cases reps_nil t1
        refine k a _ H (Stp.refl _ _) m ?_
        rw [rd_tup g2] at r2
        simpa only [Fresh, List.nil_append] using r2
      · subst e2
        cases reps_nil t2
        refine k a _ H (Stp.refl _ _) m ?_
        rw [rd_tup g1] at r1
        simpa only [Fresh, List.append_nil] using r1
      · obtain ⟨b, le, m2, r⟩ := fresh_tup ht m hr (Reps.append t1 t2)
        exact k b _ _ le m2 r
    · cases f
  · rename_i l l'
    split at f
    · rename_i hl; cases f
      obtain ⟨p, vs, rfl, s1, t1⟩ := q1
      obtain ⟨q, ws, rfl, s2, t2⟩ := q2
      refine op_cat pins s σ H _ _ v u Q I rx ry ⟨p, q, vs, ws, rfl, rfl, s1, s2, by rw [← t1.length, ← t2.length, ← sizeLn_eq]; exact hl, fun r hr => ?_⟩
      obtain ⟨st, m2, fr⟩ := fresh_lst m hr (Reps.append t1 t2)
      exact k a _ _ st m2 fr
    · cases f
  · cases f
theorem intV_inv {f : Int → Int → Option Int} {d e z : D} (h : intV f d e = some z) : ∃ i j k, d = .int i ∧ e = .int j ∧ f i j = some k ∧ z = .int k := by
  unfold intV at h
  split at h
  · obtain ⟨k, e1, e2⟩ := Option.map_eq_some_iff.mp h
    exact ⟨_, _, k, rfl, rfl, e1, e2.symm⟩
  · cases h
theorem op_intV {op : Operator} {o : Bop} {f : Int → Int → Option Int} (hb : ∀ μ d e, binV μ o d e = intV f (rd μ d) (rd μ e))
    (rule : ∀ pins s σ H x y v u (Q : VK) i j k, Inv X pins σ H s → RelV x v → RelV y u → x = .int i → y = .int j → f i j = some k → Q (.int k) H → wpAny (model X.prog X.w) X.A (binaryOp op v u) (EP X pins σ Q) X.xe s) : OpR X (binaryOp op) (rV2 T X.K fun μ => binV μ o) := by
  intro pins s σ H x y v u Q I rx ry h
  obtain ⟨a, μ, d, e, z, m, r1, r2, g, k⟩ := h
  have q1 := rd_rep m r1
  have q2 := rd_rep m r2
  have g : binV μ o d e = some z := g
  rw [hb] at g
  obtain ⟨i, j, w, e1, e2, e3, rfl⟩ := intV_inv g
  rw [e1] at q1; rw [e2] at q2
  exact rule pins s σ H x y v u Q i j w I rx ry q1.int q2.int e3 (k a _ H (Stp.refl _ _) m rep_int)
theorem op_subV : OpR X (binaryOp .Sub) (rV2 T X.K fun μ => binV μ .sub) :=
  op_intV (fun _ _ _ => rfl) fun pins s σ H x y v u Q i j k I rx ry e1 e2 e3 q => op_sub pins s σ H x y v u Q I rx ry ⟨i, j, e1, e2, by cases e3; exact q⟩
theorem op_modV : OpR X (binaryOp .Mod) (rV2 T X.K fun μ => binV μ .mod) :=
  op_intV (fun _ _ _ => rfl) fun pins s σ H x y v u Q i j k I rx ry e1 e2 e3 q => by
    split at e3
    · rename_i hl; cases e3; exact op_mod pins s σ H x y v u Q I rx ry ⟨i, j, e1, e2, hl, q⟩
    · cases e3
theorem op_fdvV : OpR X (binaryOp .FloorDiv) (rV2 T X.K fun μ => binV μ .fdv) :=
  op_intV (fun _ _ _ => rfl) fun pins s σ H x y v u Q i j k I rx ry e1 e2 e3 q => by
    split at e3
    · rename_i hl; cases e3; exact op_fdiv pins s σ H x y v u Q I rx ry ⟨i, j, e1, e2, hl, q⟩
    · cases e3
theorem op_powV : OpR X (binaryOp .Pow) (rV2 T X.K fun μ => binV μ .pow) :=
  op_intV (fun _ _ _ => rfl) fun pins s σ H x y v u Q i j k I rx ry e1 e2 e3 q => by
    split at e3
    · rename_i hl; cases e3; exact op_pow pins s σ H x y v u Q I rx ry ⟨i, j, e1, e2, ⟨hl.1, by omega, hl.2.2⟩, q⟩
    · cases e3
theorem op_shlV : OpR X (binaryOp .LShift) (rV2 T X.K fun μ => binV μ .shl) :=
  op_intV (fun _ _ _ => rfl) fun pins s σ H x y v u Q i j k I rx ry e1 e2 e3 q => by
    split at e3
    · rename_i hl; cases e3; exact op_shl pins s σ H x y v u Q I rx ry ⟨i, j, e1, e2, ⟨hl.1, by omega, hl.2.2⟩, q⟩
    · cases e3
theorem reps_rep {l : List D} {vs : List V} (r : Reps T X.K a l vs) : ∀ n, Reps T X.K a (List.replicate n l).flatten (List.replicate n vs).flatten
  | 0 => by simp; exact Reps.nil
  | n + 1 => by
    simp only [List.replicate_succ, List.flatten_cons]
    exact Reps.append r (reps_rep r n)
/-- two factors of together less than four million bits -/
def MulX (i j : Int) : Prop := i.natAbs.log2 + j.natAbs.log2 < 4000000
theorem MulX.fits {i j : Int} (h : MulX i j) : IntMulOk i j := by
  unfold MulX at h
  unfold IntMulOk
  intro both
  have big := (Bool.and_eq_true_iff.mp both).2
  have sz : ∀ m : Int, Builtin.Int.intBits m ≤ 1 + m.natAbs.log2 := by
    intro m
    unfold Builtin.Int.intBits
    split <;> omega
  have line : bitsLine = 134217728 := by decide
  unfold Builtin.Int.intTooBig at big
  have more := of_decide_eq_true big
  have s1 := sz i
  have s2 := sz j
  rw [line] at more
  omega
/-- a tuple some times over: a new tuple with a known record -/
theorem op_repTF : OpR X (binaryOp .Mult) (fun x y H Q => ∃ p j xs, x = V.ref p ∧ y = V.int j ∧ SqT X.K H p xs ∧ xs ≠ [] ∧ xs.length ≤ 1000 ∧ 2 ≤ j ∧ j ≤ 1000 ∧ NewT H (List.replicate j.toNat xs).flatten Q) := by
  intro pins s σ H x y v u Q I rx ry h
  obtain ⟨p, j, xs, rfl, rfl, hT, hne, hz, h1, h2, q⟩ := h
  cases rx; obtain ⟨t, rfl⟩ := ry
  obtain ⟨vs, r, ⟨⟨oc, dd, data, sl⟩, ho, hc, k, hd⟩, hs⟩ := I.tuple hT
  simp only at hc hd; subst hc hd
  have hl : vs.length = xs.length := r.length.symm
  have hv : vs ≠ [] := fun e => hne (List.eq_nil_of_length_eq_zero (by rw [← hl, e]; rfl))
  have he : vs.toArray.isEmpty = false := by cases vs with
    | nil => exact absurd rfl hv
    | cons => rfl
  have hk : ((vs.toArray.size : Nat) : Int) = xs.length := by rw [List.size_toArray, hl]
  have hm : ((xs.length : Nat) : Int) * j ≤ 1000000 := by
    have : ((xs.length : Nat) : Int) * j ≤ 1000 * j := Int.mul_le_mul_of_nonneg_right (by omega) (by omega)
    omega
  have hf : (List.replicate j.toNat xs).flatten.length ≤ sizeLine := by
    rw [PyProof.Rows.lm_len_rep_flat, sizeLine_eq]
    have : j.toNat * xs.length ≤ 1000 * 1000 := Nat.mul_le_mul (by omega) hz
    omega
  have hf2 : (List.replicate j.toNat vs).flatten.length ≤ sizeLine := by
    rw [PyProof.Rows.lm_len_rep_flat] at hf ⊢
    rw [hl]; exact hf
  have d1 : (decide (j < -(2 ^ 63)) || decide (j ≥ 2 ^ 63)) = false := by simp; omega
  have d2 : (vs.toArray.isEmpty || j == 1) = false := by rw [he]; simp; omega
  have d3 : (decide (j ≤ 0) || vs.toArray.isEmpty) = false := by rw [he]; simp; omega
  have d4 : Builtin.Tuple.tupleTooMany (((vs.toArray.size : Nat) : Int) * j) = false := by
    unfold Builtin.Tuple.tupleTooMany
    rw [sizeLine_eq, hk]; simp; omega
  refine wpAny_binaryOp_repeat_ref (T := "tuple") (U := "int") (by decide) ⟨_, ho, rfl⟩ (fun z => typeIs_int z j t) noFill_tuple_mul F.fills_int_mul F.slot_int_rmul repeat_tuple F.slot_int_index.lookup ?_
  refine call_meets F.slot_int_rmul (typeIs_int s j t) F.entry_int_rmul (F.args_int_rmul_2 _ _) (int_rmul_tuple j t p vs.toArray k dd sl) ⟨ho, rfl, ⟨_, ho, rfl⟩, ?_⟩
  refine call_meets F.slot_tuple_mul ⟨_, ho, rfl⟩ F.entry_tuple_mul (F.args_tuple_mul_2 _ _) (tuple_mulW p vs.toArray k dd sl j t d1 d2 d3 (by rw [hk]; omega) d4 (by rw [size_rep, List.size_toArray]; exact hf2)) ⟨ho, ?_⟩
  rw [size_rep]
  exact newT_at (h0 := s.heap) I (r.rep j.toNat) hf q
theorem op_mulX : OpR X (binaryOp .Mult) (rI MulX fun i j => .int (i * j)) := opI fun _ _ _ _ _ _ _ small rest => mul_int rest small.fits
theorem op_mulV : OpR X (binaryOp .Mult) (rV2 T X.K fun μ => binV μ .mul) := by
  intro pins s σ H x y v u Q I rx ry h
  obtain ⟨a, μ, d, e, z, m, r1, r2, f, k⟩ := h
  have q1 := rd_rep m r1
  have q2 := rd_rep m r2
  simp only [binV] at f
  generalize g1 : rd μ d = d' at *
  generalize g2 : rd μ e = e' at *
  unfold mulV at f
  split at f
  · split at f
    · rename_i hl; cases f
      refine op_mulX pins s σ H x y v u Q I rx ry ⟨_, _, q1.int, q2.int, ?_, k a _ H (Stp.refl _ _) m rep_int⟩
      unfold MulX
      exact hl
    · cases f
  · split at f
    · rename_i l j hl; cases f
      obtain ⟨p, vs, rfl, s1, t1⟩ := q1
      refine op_rep pins s σ H _ y v u Q I rx ry ⟨p, j, vs, rfl, q2.int, s1, by omega, by omega, by rw [← t1.length, ← sizeLn_eq]; exact hl.1, fun r hr => ?_⟩
      obtain ⟨st, m2, fr⟩ := fresh_lst m hr (reps_rep t1 j.toNat)
      exact k a _ _ st m2 fr
    · cases f
  · split at f
    · rename_i l j hl; cases f
      obtain ⟨p, vs, rfl, s1, t1⟩ := q1
      refine op_repTF pins s σ H _ y v u Q I rx ry ⟨p, j, vs, rfl, q2.int, s1, fun e => ?_, by rw [← t1.length]; exact hl.2.1, hl.2.2.1, hl.2.2.2, fun r o ht hr => ?_⟩
      · subst e; exact hl.1 (List.eq_nil_of_length_eq_zero t1.length)
      · obtain ⟨b, le, m2, fr⟩ := fresh_tup ht m hr (reps_rep t1 j.toNat)
        exact k b _ _ le m2 fr
    · cases f
  · cases f
theorem op_binV (o : Bop) : OpR X (binaryOp (toOp o)) (rV2 T X.K fun μ => binV μ o) := by
  cases o
  · exact op_addV
  · exact op_subV
  · exact op_mulV
  · exact op_modV
  · exact op_fdvV
  · exact op_powV
  · exact op_shlV
/-- two operands, then a step by values -/
theorem two {d e : E} {f : Mem → D → D → Option D} {σ : L2.St} {H : Hp} {Q : VK} {a : Abs} {ρ : Env} {μ : Mem} (ho : Hol T X.K a ρ μ σ H)
    (q : WpR ((evE T.P (T.C n) T.reprS d ρ μ).bind fun d μ => (evE T.P (T.C n) T.reprS e ρ μ).bind fun e μ => R.of μ (f μ d e)) (fun d μ' => ∀ b v H', Stp a H b H' → Hol T X.K b ρ μ' σ H' → Fresh T X.K H b H' d v → Q v H') (Kx T X.K a H ρ σ W)) :
    tOp (rV2 T X.K f) (tE T n X.K W d) (tE T n X.K W e) σ H Q := by
  refine ⟨a, ρ, μ, ho, q.bind.mono (fun d1 μ1 q1 b v H1 le1 ho1 r1 => ?_) fun _ _ k => k⟩
  refine ⟨b, ρ, μ1, ho1, q1.bind.mono (fun d2 μ2 q2 c w H2 le2 ho2 r2 => ?_) fun _ _ k => k.mono le1⟩
  obtain ⟨z, e1, k⟩ := q2.of
  exact ⟨c, μ2, d1, d2, z, ho2.m, Rep.mono le2.le _ _ r1, r2, e1, fun b' v' H' le3 m3 fr => k b' v' H' (le1.trans (le2.trans le3)) (ho2.to le3.le m3) (fr.pre (le1.trans le2).dom)⟩
theorem sf_bin {x y : Expr} {d e : E} (o : Bop) (h1 : SE T n X W x d) (h2 : SE T n X W y e) : SF T n X W (.BinOp x (toOp o) y pos) (.bin o d e) := by
  refine PE.imp (pe_op (op_binV (T := T) o) h1 h2) fun σ H Q q => ?_
  obtain ⟨a, ρ, μ, ho, q⟩ := q
  simp only [evE] at q
  exact two ho q
end
end DI
end

section
set_option Elab.async false
set_option linter.all false
set_option maxRecDepth 100000
namespace DI
open PySem L2 PySem.Spec PyProof.Rows
mutual
theorem sm_depth : ∀ (n : Nat) (d : D), sm n d = true → (toPy d).depth ≤ n
  | _, .non, _ => by simp [toPy, PyData.depth] | _, .bl _, _ => by simp [toPy, PyData.depth] | _, .int _, _ => by simp [toPy, PyData.depth] | _, .str _, _ => by simp [toPy, PyData.depth]
  | n + 1, .tup l, h => by
    have := sms_depth n l (by simpa only [sm] using h)
    simp only [toPy, PyData.depth]; omega
  | n + 1, .lst l, h => by
    have := sms_depth n l (by simpa only [sm] using h)
    simp only [toPy, PyData.depth]; omega
  | n + 1, .key l, h => by
    have := sms_depth n l (by simpa only [sm] using h)
    simp only [toPy, PyData.depth]; omega
  | 0, .key _, h => by simp [sm] at h
  | 0, .tup _, h => by simp [sm] at h
  | 0, .lst _, h => by simp [sm] at h
  | _, .dct _ _ _, h => by simp [sm] at h
  | _, .rol _, h => by simp [sm] at h
  | _, .ins _ _ _, h => by simp [sm] at h
  | _, .exc _ _ _, h => by simp [sm] at h
  | _, .cls _, h => by simp [sm] at h
  | _, .fn _, h => by simp [sm] at h
  | _, .clo _ _, h => by simp [sm] at h
  | _, .obj _, h => by simp [sm] at h
theorem sms_depth : ∀ (n : Nat) (l : List D), sms n l = true → PyData.depthAll (toPys l) ≤ n
  | _, [], _ => by simp [toPys, PyData.depthAll]
  | n, d :: l, h => by
    simp only [sms, Bool.and_eq_true] at h
    have h1 := sm_depth n d h.1
    have h2 := sms_depth n l h.2
    simp only [toPys, PyData.depthAll]; omega
end
section
variable {T : Tab} {K : PySem.W.Frag} {a : Abs} {H : Hp}
mutual
theorem rep_dp (le : ∀ p o, a.G p = some o → H p = some o) : ∀ (n : Nat) (d : D) (v : V), sm n d = true → Rep T K a d v → Dp K H v (toPy d) ∧ (toPy d).canLay0 = true
  | _, .non, v, _, r => by simp only [Rep] at r; subst r; exact ⟨by simp only [toPy]; exact .non, by simp [toPy, PyData.canLay0]⟩
  | _, .bl b, v, _, r => by simp only [Rep] at r; subst r; exact ⟨by simp only [toPy]; exact .bl b, by simp [toPy, PyData.canLay0]⟩
  | _, .int b, v, _, r => by simp only [Rep] at r; subst r; exact ⟨by simp only [toPy]; exact .int b, by simp [toPy, PyData.canLay0]⟩
  | _, .str b, v, _, r => by simp only [Rep] at r; obtain ⟨rfl, h⟩ := r; exact ⟨by simp only [toPy]; exact .str b, by simpa [toPy, PyData.canLay0] using strG.ok h⟩
  | n + 1, .tup l, v, h, r => by
    simp only [Rep] at r
    obtain ⟨p, vs, rfl, s, q⟩ := r
    obtain ⟨h1, h2⟩ := reps_dp le n l vs (by simpa only [sm] using h) q
    exact ⟨by simp only [toPy]; exact .tup (SqT.up le s.sq) h1, by simpa only [toPy, PyData.canLay0] using h2⟩
  | n + 1, .lst l, v, h, r => by
    simp only [Rep] at r
    obtain ⟨p, vs, rfl, s, q⟩ := r
    obtain ⟨h1, h2⟩ := reps_dp le n l vs (by simpa only [sm] using h) q
    exact ⟨by simp only [toPy]; exact .lst (SqL.of (le _ _ s)) h1, by simpa only [toPy, PyData.canLay0] using h2⟩
  | n + 1, .key l, v, h, r => by
    simp only [Rep] at r
    obtain ⟨p, vs, rfl, s, q⟩ := r
    obtain ⟨h1, h2⟩ := reps_dp le n l vs (by simpa only [sm] using h) q
    exact ⟨by simp only [toPy]; exact .tup (.inl (.inl (le _ _ s))) h1, by simpa only [toPy, PyData.canLay0] using h2⟩
  | 0, .key _, _, h, _ => by simp [sm] at h
  | 0, .tup _, _, h, _ => by simp [sm] at h
  | 0, .lst _, _, h, _ => by simp [sm] at h
  | _, .dct _ _ _, _, h, _ => by simp [sm] at h
  | _, .rol _, _, h, _ => by simp [sm] at h
  | _, .ins _ _ _, _, h, _ => by simp [sm] at h
  | _, .exc _ _ _, _, h, _ => by simp [sm] at h
  | _, .cls _, _, h, _ => by simp [sm] at h
  | _, .fn _, _, h, _ => by simp [sm] at h
  | _, .clo _ _, _, h, _ => by simp [sm] at h
  | _, .obj _, _, h, _ => by simp [sm] at h
theorem reps_dp (le : ∀ p o, a.G p = some o → H p = some o) : ∀ (n : Nat) (l : List D) (vs : List V), sms n l = true → Reps T K a l vs → DpAll K H vs (toPys l) ∧ PyData.canLayAll0 (toPys l) = true
  | _, [], vs, _, r => by rw [r.inv0]; exact ⟨by simp only [toPys]; exact .nil, by simp [toPys, PyData.canLayAll0]⟩
  | n, d :: l, vs, h, r => by
    obtain ⟨v, ws, rfl, r1, r2⟩ := r.inv
    simp only [sms, Bool.and_eq_true] at h
    obtain ⟨a1, a2⟩ := rep_dp le n d v h.1 r1
    obtain ⟨b1, b2⟩ := reps_dp le n l ws h.2 r2
    exact ⟨by simp only [toPys]; exact .cons a1 b1, by simp only [toPys, PyData.canLayAll0, a2, b2, Bool.and_self]⟩
end
theorem rdv_dp {μ : Mem} (m : HolM T K a μ H) {n : Nat} {d : D} {v : V} (h : sm n (rd μ d) = true) (r : Rep T K a d v) : Dp K H v (toPy (rd μ d)) ∧ (toPy (rd μ d)).canLay0 = true := by
  have q := rd_rep m r
  generalize e : rd μ d = d' at *
  cases d' with
  | lst l =>
    obtain ⟨p, vs, rfl, s, t⟩ := q
    cases n with
    | zero => simp [sm] at h
    | succ n =>
      obtain ⟨h1, h2⟩ := reps_dp m.le n l vs (by simpa only [sm] using h) t
      exact ⟨by simp only [toPy]; exact .lst (SqL.of s) h1, by simpa only [toPy, PyData.canLay0] using h2⟩
  | tup l =>
    have := rd_tup e; subst this
    exact rep_dp m.le n _ v h r
  | key l =>
    obtain ⟨p, vs, rfl, s, t⟩ := q
    cases n with
    | zero => simp [sm] at h
    | succ n =>
      obtain ⟨h1, h2⟩ := reps_dp m.le n l vs (by simpa only [sm] using h) t
      exact ⟨by simp only [toPy]; exact .tup (.inl (.inl s)) h1, by simpa only [toPy, PyData.canLay0] using h2⟩
  | non => exact rep_dp (T := T) (a := a) m.le n .non v h q
  | bl b => exact rep_dp (T := T) (a := a) m.le n (.bl b) v h q
  | int b => exact rep_dp (T := T) (a := a) m.le n (.int b) v h q
  | str b => exact rep_dp (T := T) (a := a) m.le n (.str b) v h q
  | _ => simp [sm] at h
end
mutual
theorem deq_eqv : ∀ (n k : Nat) (d e : D), sm n d = true → sm k e = true → PyData.eqv (toPy d) (toPy e) = deq d e
  | n, k, d, e, h, g => by
    cases d <;> cases e <;> first
      | (simp [sm] at h; done)
      | (simp [sm] at g; done)
      | (simp [toPy, PyData.eqv, deq, b2i]; done)
      | (rename_i l m
         cases n with
         | zero => simp [sm] at h
         | succ n =>
           cases k with
           | zero => simp [sm] at g
           | succ k =>
             simp only [toPy, PyData.eqv, deq]
             exact deqs_eqv n k l m (by simpa only [sm] using h) (by simpa only [sm] using g))
theorem deqs_eqv : ∀ (n k : Nat) (l m : List D), sms n l = true → sms k m = true → PyData.eqvAll (toPys l) (toPys m) = deqs l m
  | _, _, [], [], _, _ => by simp [toPys, PyData.eqvAll, deqs]
  | _, _, [], _ :: _, _, _ => by simp [toPys, PyData.eqvAll, deqs]
  | _, _, _ :: _, [], _, _ => by simp [toPys, PyData.eqvAll, deqs]
  | n, k, d :: l, e :: m, h, g => by
    simp only [sms, Bool.and_eq_true] at h g
    simp only [toPys, PyData.eqvAll, deqs, deq_eqv n k d e h.1 g.1, deqs_eqv n k l m h.2 g.2]
end
end DI
namespace DI
open PySem L2 PySem.Spec PyProof.Rows
def toCmp : Cop → CmpOp
  | .eq => .Eq | .ne => .NotEq | .lt => .Lt | .le => .LtE | .gt => .Gt | .ge => .GtE | .in_ => .In | .ni => .NotIn | .is_ => .Is | .isn => .IsNot
/-- a comparison by values -/
def rCmp (T : Tab) (n : Nat) (K : PySem.W.Frag) (o : Cop) : R2 := fun x y H Q => ∃ a μ d e, HolM T K a μ H ∧ Rep T K a d x ∧ Rep T K a e y ∧
  WpR (cmpV T.P (T.C n) μ o d e) (fun c μ' => ∀ b H', Stp a H b H' → HolM T K b μ' H' → Q (.bl c) H') (fun _ _ => False)
theorem any_py (n k : Nat) (d : D) (h : sm n d = true) : ∀ l : List D, sms k l = true → ((toPys l).any fun z => PyData.eqv z (toPy d)) = l.any fun z => deq z d
  | [], _ => by simp [toPys]
  | e :: l, g => by
    simp only [sms, Bool.and_eq_true] at g
    simp only [toPys, List.any_cons, any_py n k d h l g.2, deq_eqv k n e d g.1 h]
/-- own == : what the small interpreter says of instances with an own __eq__, by the calls of this level -/
def EqOwn (T : Tab) (n : Nat) (X : Cx) : Prop := ∀ (neg : Bool), OpR X (compareOp (if neg then .NotEq else .Eq)) (fun x y H Q => ∃ a μ d e, HolM T X.K a μ H ∧ Rep T X.K a d x ∧ Rep T X.K a e y ∧ (sm SMD (rd μ d) && sm SMD (rd μ e)) = false ∧ nilT (rd μ d) (rd μ e) = false ∧
  WpR (eqV T.P (T.C n) μ d e) (fun c μ' => ∀ b H', Stp a H b H' → HolM T X.K b μ' H' → Q (.bl (if neg then !c else c)) H') (fun _ _ => False))
section
variable {T : Tab} {n : Nat} {X : Cx} {W : WX} {pos : Pos} {a : Abs} {H : Hp} {v : V} {μ : Mem}
theorem shaped_of {d : D} {k : Nat} (h : sm k d = true) (hk : k ≤ 64) (c : (toPy d).canLay0 = true) : SeqAt.shaped (toPy d) = true := by
  unfold SeqAt.shaped
  have := sm_depth k d h
  rw [c, Bool.true_and]
  exact decide_eq_true (by omega)
/-- a tuple compared with the empty one -/
theorem nil_two {pins : List (Addr × Obj)} {s : Shared} {σ : L2.St} {x y : V} {v u : Value} {d e : D} (m : HolM T X.K a μ H) (r1 : Rep T X.K a d x) (r2 : Rep T X.K a e y) (hn : nilT (rd μ d) (rd μ e) = true) (I : L2.Inv X pins σ H s) (rx : L2.RelV x v) (ry : L2.RelV y u) :
    ∃ p q is js, v = .ref p ∧ u = .ref q ∧ s.heap.IsTuple p is ∧ s.heap.IsTuple q js ∧ js.size = 0 ∧ (is.size == js.size) = isNilT (rd μ d) := by
  have q1 := rd_rep m r1
  have q2 := rd_rep m r2
  generalize rd μ d = d' at *
  generalize rd μ e = e' at *
  unfold nilT at hn
  split at hn
  · rename_i l
    obtain ⟨p, ws, rfl, sq, t⟩ := q1
    obtain ⟨q, zs, rfl, sq2, t2⟩ := q2
    obtain rfl : zs = [] := List.eq_nil_of_length_eq_zero t2.length.symm
    obtain ⟨us, rv, hl, _⟩ := I.tuple sq
    obtain ⟨js, rv2, hl2, _⟩ := I.tuple sq2
    cases rx
    cases ry
    have e1 := rv.length
    have e2 := rv2.length
    have e3 := t.length
    refine ⟨p, q, us.toArray, js.toArray, rfl, rfl, hl, hl2, by simpa using e2.symm, ?_⟩
    have e4 : js.toArray.size = 0 := by simpa using e2.symm
    have e5 : us.toArray.size = l.length := by rw [List.size_toArray]; omega
    rw [e4, e5]
    cases l <;> simp [isNilT]
  · cases hn
theorem nil_eq {pins : List (Addr × Obj)} {s : Shared} {σ : L2.St} {x y : V} {v u : Value} {d e : D} {Q : VK} (hu : X.A.units < cLine) (m : HolM T X.K a μ H) (r1 : Rep T X.K a d x) (r2 : Rep T X.K a e y) (hn : nilT (rd μ d) (rd μ e) = true) (I : L2.Inv X pins σ H s) (rx : L2.RelV x v) (ry : L2.RelV y u)
    (q : Q (.bl (isNilT (rd μ d))) H) : wpAny (model X.prog X.w) X.A (compareOp .Eq v u) (EP X pins σ Q) X.xe s := by
  obtain ⟨p, q', is, js, rfl, rfl, h1, h2, h3, h4⟩ := nil_two m r1 r2 hn I rx ry
  refine SeqAt.eq_tupleAt (e := fun _ => true) h1 h2 hu (fun j _ hj => by omega) ?_
  rw [h3, Nat.min_zero] at *
  rw [h4]
  exact ⟨.bl _, H, I, rfl, q⟩
theorem nil_ne {pins : List (Addr × Obj)} {s : Shared} {σ : L2.St} {x y : V} {v u : Value} {d e : D} {Q : VK} (hu : X.A.units < cLine) (m : HolM T X.K a μ H) (r1 : Rep T X.K a d x) (r2 : Rep T X.K a e y) (hn : nilT (rd μ d) (rd μ e) = true) (I : L2.Inv X pins σ H s) (rx : L2.RelV x v) (ry : L2.RelV y u)
    (q : Q (.bl (!isNilT (rd μ d))) H) : wpAny (model X.prog X.w) X.A (compareOp .NotEq v u) (EP X pins σ Q) X.xe s := by
  obtain ⟨p, q', is, js, rfl, rfl, h1, h2, h3, h4⟩ := nil_two m r1 r2 hn I rx ry
  unfold compareOp
  refine SeqAt.RcNeAt.tuples (e := fun _ => true) h1 h2 hu (fun j _ hj => by omega) _ _ _ _ ?_
  rw [h3, Nat.min_zero] at *
  rw [h4]
  exact ⟨.bl _, H, I, rfl, q⟩
theorem WpR.notR {r : R Bool} {k : Bool → Mem → Prop} {kx : D → Mem → Prop} (h : WpR (DI.notR r) k kx) : WpR r (fun c μ => k (!c) μ) kx := by
  cases r <;> exact h
theorem op_eqV (hu : X.A.units + 64 < cLine) (ho : EqOwn T n X) : OpR X (compareOp .Eq) (rCmp T n X.K .eq) := by
  intro pins s σ H x y v u Q I rx ry h
  obtain ⟨a, μ, d, e, m, r1, r2, q⟩ := h
  simp only [cmpV] at q
  by_cases hs : (sm SMD (rd μ d) && sm SMD (rd μ e)) = true
  · obtain ⟨h1, h2⟩ := Bool.and_eq_true_iff.mp hs
    obtain ⟨p1, c1⟩ := rdv_dp m h1 r1
    obtain ⟨p2, c2⟩ := rdv_dp m h2 r2
    unfold eqV at q
    rw [if_pos hs] at q
    refine op_eqD hu pins s σ H x y v u Q I rx ry ⟨_, _, p1, p2, shaped_of h1 (by decide) c1, shaped_of h2 (by decide) c2, ?_⟩
    rw [deq_eqv _ _ _ _ h1 h2]
    exact q a H (Stp.refl _ _) m
  · by_cases hn : nilT (rd μ d) (rd μ e) = true
    · unfold eqV at q
      rw [if_neg hs, if_pos hn] at q
      exact nil_eq (by omega) m r1 r2 hn I rx ry (q a H (Stp.refl _ _) m)
    · exact ho false pins s σ H x y v u Q I rx ry ⟨a, μ, d, e, m, r1, r2, by simpa using hs, by simpa using hn, q⟩
theorem op_neV (hu : X.A.units + 64 < cLine) (ho : EqOwn T n X) : OpR X (compareOp .NotEq) (rCmp T n X.K .ne) := by
  intro pins s σ H x y v u Q I rx ry h
  obtain ⟨a, μ, d, e, m, r1, r2, q⟩ := h
  simp only [cmpV] at q
  have q := q.notR
  by_cases hs : (sm SMD (rd μ d) && sm SMD (rd μ e)) = true
  · obtain ⟨h1, h2⟩ := Bool.and_eq_true_iff.mp hs
    obtain ⟨p1, c1⟩ := rdv_dp m h1 r1
    obtain ⟨p2, c2⟩ := rdv_dp m h2 r2
    unfold eqV at q
    rw [if_pos hs] at q
    refine op_neD hu pins s σ H x y v u Q I rx ry ⟨_, _, p1, p2, shaped_of h1 (by decide) c1, shaped_of h2 (by decide) c2, ?_⟩
    rw [deq_eqv _ _ _ _ h1 h2]
    exact q a H (Stp.refl _ _) m
  · by_cases hn : nilT (rd μ d) (rd μ e) = true
    · unfold eqV at q
      rw [if_neg hs, if_pos hn] at q
      exact nil_ne (by omega) m r1 r2 hn I rx ry (q a H (Stp.refl _ _) m)
    · exact ho true pins s σ H x y v u Q I rx ry ⟨a, μ, d, e, m, r1, r2, by simpa using hs, by simpa using hn, q⟩
theorem rep_intI {i : Int} (r : Rep T X.K a (.int i) v) : v = .int i := by simpa only [Rep] using r
theorem op_ltV : OpR X (compareOp .Lt) (rCmp T n X.K .lt) := by
  intro pins s σ H x y v u Q I rx ry h
  obtain ⟨a, μ, d, e, m, r1, r2, q⟩ := h
  simp only [cmpV] at q
  split at q
  · exact op_lt pins s σ H x y v u Q I rx ry ⟨_, _, rep_intI r1, rep_intI r2, q a H (Stp.refl _ _) m⟩
  · exact q.elim
theorem op_leV : OpR X (compareOp .LtE) (rCmp T n X.K .le) := by
  intro pins s σ H x y v u Q I rx ry h
  obtain ⟨a, μ, d, e, m, r1, r2, q⟩ := h
  simp only [cmpV] at q
  split at q
  · exact op_le pins s σ H x y v u Q I rx ry ⟨_, _, rep_intI r1, rep_intI r2, q a H (Stp.refl _ _) m⟩
  · exact q.elim
theorem op_gtV : OpR X (compareOp .Gt) (rCmp T n X.K .gt) := by
  intro pins s σ H x y v u Q I rx ry h
  obtain ⟨a, μ, d, e, m, r1, r2, q⟩ := h
  simp only [cmpV] at q
  split at q
  · exact op_gt pins s σ H x y v u Q I rx ry ⟨_, _, rep_intI r1, rep_intI r2, q a H (Stp.refl _ _) m⟩
  · exact q.elim
theorem op_geV : OpR X (compareOp .GtE) (rCmp T n X.K .ge) := by
  intro pins s σ H x y v u Q I rx ry h
  obtain ⟨a, μ, d, e, m, r1, r2, q⟩ := h
  simp only [cmpV] at q
  split at q
  · exact op_ge pins s σ H x y v u Q I rx ry ⟨_, _, rep_intI r1, rep_intI r2, q a H (Stp.refl _ _) m⟩
  · exact q.elim
theorem isN_of {d : D} {c : Bool} (r : Rep T X.K a d v) (hc : isV d .non = some c) : decide (v = .non) = c := by
  cases d <;> simp only [Rep] at r <;> simp only [isV] at hc <;> have hc := Option.some.inj hc <;> subst hc
  case non => subst r; rfl
  case bl => subst r; rfl
  case int => subst r; rfl
  case str => obtain ⟨rfl, _⟩ := r; rfl
  case tup => obtain ⟨p, vs, rfl, _⟩ := r; rfl
  case key => obtain ⟨p, vs, rfl, _⟩ := r; rfl
  case lst => obtain ⟨p, vs, rfl, _⟩ := r; rfl
  case rol => obtain ⟨p, vs, rfl, _⟩ := r; rfl
  case dct => obtain ⟨p, vs, rfl, _⟩ := r; rfl
  case ins => obtain ⟨p, vs, _, rfl, _⟩ := r; rfl
  case cls => subst r; rfl
  case fn => subst r; rfl
  case obj => obtain ⟨p, _, rfl⟩ := r; rfl
theorem isB_of {d : D} {c b : Bool} {u : Value} (r : Rep T X.K a d v) (rv : RelV v u) (hc : isV d (.bl b) = some c) : PySem.plainIs u (.bool b) = true ∧ (u == Value.bool b) = c := by
  cases d <;> simp only [Rep] at r <;> simp only [isV] at hc <;> have hc := Option.some.inj hc <;> subst hc
  case non => subst r; cases rv; exact ⟨rfl, by simp⟩
  case bl w => subst r; cases rv; exact ⟨rfl, by cases w <;> cases b <;> rfl⟩
  case int => subst r; obtain ⟨t, rfl⟩ := rv; exact ⟨rfl, by simp⟩
  case str => obtain ⟨rfl, _⟩ := r; obtain ⟨t, rfl⟩ := rv; exact ⟨rfl, by simp⟩
  case tup => obtain ⟨p, vs, rfl, _⟩ := r; cases rv; exact ⟨rfl, by simp⟩
  case key => obtain ⟨p, vs, rfl, _⟩ := r; cases rv; exact ⟨rfl, by simp⟩
  case lst => obtain ⟨p, vs, rfl, _⟩ := r; cases rv; exact ⟨rfl, by simp⟩
  case rol => obtain ⟨p, vs, rfl, _⟩ := r; cases rv; exact ⟨rfl, by simp⟩
  case dct => obtain ⟨p, vs, rfl, _⟩ := r; cases rv; exact ⟨rfl, by simp⟩
  case ins => obtain ⟨p, vs, _, rfl, _⟩ := r; cases rv; exact ⟨rfl, by simp⟩
  case cls => subst r; cases rv; exact ⟨rfl, by simp⟩
  case fn => subst r; cases rv; exact ⟨rfl, by simp⟩
  case obj => obtain ⟨p, _, rfl⟩ := r; cases rv; exact ⟨rfl, by simp⟩
theorem isV_right {d e : D} {c : Bool} (h : isV d e = some c) : e = .non ∨ ∃ b, e = .bl b := by
  cases e <;> simp [isV] at h ⊢
theorem op_isV : OpR X (compareOp .Is) (rCmp T n X.K .is_) := by
  intro pins s σ H x y v u Q I rx ry h
  obtain ⟨a, μ, d, e, m, r1, r2, q⟩ := h
  simp only [cmpV] at q
  obtain ⟨c, hc, k⟩ := q.of
  rcases isV_right hc with rfl | ⟨b, rfl⟩
  · have hy : y = .non := by simpa only [Rep] using r2
    refine op_isN pins s σ H x y v u Q I rx ry ⟨hy, ?_⟩
    rw [isN_of r1 hc]
    exact k a H (Stp.refl _ _) m
  · have hy : y = .bl b := by simpa only [Rep] using r2
    subst hy
    cases ry
    obtain ⟨h1, h2⟩ := isB_of r1 rx hc
    exact PySem.wpAny_is_plain h1 (fin_bl I (k a H (Stp.refl _ _) m) h2.symm)
theorem op_isnV : OpR X (compareOp .IsNot) (rCmp T n X.K .isn) := by
  intro pins s σ H x y v u Q I rx ry h
  obtain ⟨a, μ, d, e, m, r1, r2, q⟩ := h
  simp only [cmpV] at q
  obtain ⟨c, hc, k⟩ := q.of
  obtain ⟨c', hc2, rfl⟩ := Option.map_eq_some_iff.mp hc
  clear hc
  have hc := hc2
  rcases isV_right hc with rfl | ⟨b, rfl⟩
  · have hy : y = .non := by simpa only [Rep] using r2
    refine op_notN pins s σ H x y v u Q I rx ry ⟨hy, ?_⟩
    rw [isN_of r1 hc]
    exact k a H (Stp.refl _ _) m
  · have hy : y = .bl b := by simpa only [Rep] using r2
    subst hy
    cases ry
    obtain ⟨h1, h2⟩ := isB_of r1 rx hc
    exact PySem.wpAny_isNot_plain h1 (fin_bl I (k a H (Stp.refl _ _) m) (by rw [h2]))

theorem sm_tup {l : List D} {k : Nat} (h : sms k l = true) : sm (k + 1) (.tup l) = true := by simpa only [sm] using h
theorem sm_lst {l : List D} {k : Nat} (h : sms k l = true) : sm (k + 1) (.lst l) = true := by simpa only [sm] using h
theorem dp_fst {y : V} {e : D} {μ : Mem} (m : HolM T X.K a μ H) (r : Rep T X.K a e y) {l : List D} {k : Nat} (hl : sms k l = true) (he : rd μ e = .tup l ∨ rd μ e = .lst l) : Dp X.K H y (toPy (rd μ e)) ∧ PyData.canLayAll0 (toPys l) = true ∧ PyData.depthAll (toPys l) ≤ k := by
  rcases he with h | h
  · obtain ⟨h1, h2⟩ := rdv_dp (n := k + 1) m (by rw [h]; exact sm_tup hl) r
    rw [h] at h2
    exact ⟨h1, by simpa only [toPy, PyData.canLay0] using h2, sms_depth _ _ hl⟩
  · obtain ⟨h1, h2⟩ := rdv_dp (n := k + 1) m (by rw [h]; exact sm_lst hl) r
    rw [h] at h2
    exact ⟨h1, by simpa only [toPy, PyData.canLay0] using h2, sms_depth _ _ hl⟩
/-- in, not in over a sequence of data -/
theorem in_data (neg : Bool) (hu : X.A.units + 64 < cLine) {pins : List (Addr × Obj)} {s : Shared} {σ : L2.St} {x y : V} {v u : Value} {Q : VK} (I : L2.Inv X pins σ H s) (rx : L2.RelV x v) (ry : L2.RelV y u) {μ : Mem} {d e : D} (m : HolM T X.K a μ H) (r1 : Rep T X.K a d x) (r2 : Rep T X.K a e y)
    {l : List D} (hd : sm SMD (rd μ d) = true) (hl : sms SMD l = true) (he : rd μ e = .tup l ∨ rd μ e = .lst l) (q : Q (.bl (if neg then !(l.any fun z => deq z (rd μ d)) else l.any fun z => deq z (rd μ d))) H) :
    wpAny (model X.prog X.w) X.A (compareOp (if neg then .NotIn else .In) v u) (EP X pins σ Q) X.xe s := by
  obtain ⟨p1, c1⟩ := rdv_dp m hd r1
  obtain ⟨p2, c2, c3⟩ := dp_fst m r2 hl he
  obtain ⟨as, t1⟩ := Dp.reads I _ x v p1 rx
  obtain ⟨bs, t2⟩ := Dp.reads I _ y u p2 ry
  have hany := any_py SMD SMD _ hd l hl
  have hroom : X.A.units + 1 + min (PyData.depthAll (toPys l)) (toPy (rd μ d)).depth < cLine := by
    have : PyData.depthAll (toPys l) ≤ 40 := c3
    omega
  have fin : ∀ b : Bool, b = (if neg then !(l.any fun z => deq z (rd μ d)) else l.any fun z => deq z (rd μ d)) → EP X pins σ Q (.bool b) s := fun b hb => by
    subst hb; exact ⟨.bl _, H, I, rfl, q⟩
  rcases he with h | h <;> rw [h] at t2 <;> simp only [toPy] at t2 <;> cases neg
  · exact SeqAt.in_tuple_reads t2 t1 c2 c1 hroom (fin _ (by rw [hany]; rfl))
  · exact SeqAt.notIn_tuple_reads t2 t1 c2 c1 hroom (fin _ (by rw [hany]; rfl))
  · exact SeqAt.in_list_reads t2 t1 c2 c1 hroom (fin _ (by rw [hany]; rfl))
  · exact SeqAt.notIn_list_reads t2 t1 c2 c1 hroom (fin _ (by rw [hany]; rfl))

theorem keyOk_f {d : D} (h : keyOk false d = true) : ∃ k, toKey d = some k := by
  cases d <;> simp only [keyOk] at h <;> first | (exact absurd h (by decide)) | (exact ⟨_, rfl⟩) | (simp at h)
theorem keyOk_t {d : D} (h : keyOk true d = true) : ∃ l ks, d = .key l ∧ l ≠ [] ∧ toKeyT d = some ks := by
  cases d <;> simp only [keyOk] at h <;> first | (exact absurd h (by decide)) | skip
  rename_i l
  simp only [Bool.and_eq_true, Bool.true_and] at h
  refine ⟨l, ?_⟩
  have : ∀ l : List D, (l.all fun d => match d with | .str _ => true | _ => false) = true → ∃ ks, (l.mapM fun d => match d with | .str s => some (Sum.inr s : Key) | _ => none) = some ks := by
    intro l
    induction l with
    | nil => intro _; exact ⟨[], rfl⟩
    | cons d l ih =>
      intro g
      simp only [List.all_cons, Bool.and_eq_true] at g
      obtain ⟨ks, e⟩ := ih g.2
      cases d <;> simp only [reduceCtorEq, false_and, Bool.false_eq_true] at g
      rename_i s
      exact ⟨Sum.inr s :: ks, by simp [List.mapM_cons, e]⟩
  obtain ⟨ks, e⟩ := this l h.2
  exact ⟨ks, rfl, by rintro rfl; simp at h, e⟩
end
end DI
end

section
set_option Elab.async false
set_option linter.all false
set_option maxRecDepth 100000
namespace DI
open PySem L2 PySem.Spec PyProof.Rows
theorem deq_key {a d : D} {x k : Key} (h : toKey a = some x) (g : toKey d = some k) : deq a d = decide (x = k) := by
  cases a <;> simp only [toKey] at h <;> first | (cases h; done) | skip <;> cases d <;> simp only [toKey] at g <;> first | (cases g; done) | skip <;> cases h <;> cases g <;> simp only [deq]
  · rename_i i j; simp [Bool.beq_eq_decide_eq]
  · simp
  · simp
  · rename_i i j; simp [Bool.beq_eq_decide_eq]
theorem mapM_cons {α β : Type} {f : α → Option β} {a : α} {l : List α} {r : List β} (h : (a :: l).mapM f = some r) : ∃ x xs, f a = some x ∧ l.mapM f = some xs ∧ r = x :: xs := by
  simp only [List.mapM_cons, Option.pure_def, Option.bind_eq_bind] at h
  obtain ⟨x, e1, h⟩ := Option.bind_eq_some_iff.mp h
  obtain ⟨xs, e2, h⟩ := Option.bind_eq_some_iff.mp h
  exact ⟨x, xs, e1, e2, (Option.some.inj h).symm⟩
theorem mapM_nil {α β : Type} {f : α → Option β} {r : List β} (h : ([] : List α).mapM f = some r) : r = [] := by simpa using h.symm
theorem mapM_len {α β : Type} {f : α → Option β} : ∀ {l : List α} {r : List β}, l.mapM f = some r → r.length = l.length
  | [], r, h => by rw [mapM_nil h]; rfl
  | a :: l, r, h => by
    obtain ⟨x, xs, _, e, rfl⟩ := mapM_cons h
    simp [mapM_len e]
def keyS : D → Option Key := fun d => match d with | .str s => some (Sum.inr s) | _ => none
theorem deqs_keys : ∀ {l m : List D} {ks ls : List Key}, l.mapM keyS = some ks → m.mapM keyS = some ls → deqs l m = decide (ks = ls)
  | [], [], ks, ls, h, g => by rw [mapM_nil h, mapM_nil g]; simp [deqs]
  | [], _ :: _, ks, ls, h, g => by
    obtain ⟨x, xs, _, _, rfl⟩ := mapM_cons g
    rw [mapM_nil h]; simp [deqs]
  | _ :: _, [], ks, ls, h, g => by
    obtain ⟨x, xs, _, _, rfl⟩ := mapM_cons h
    rw [mapM_nil g]; simp [deqs]
  | a :: l, b :: m, ks, ls, h, g => by
    obtain ⟨x, xs, e1, e2, rfl⟩ := mapM_cons h
    obtain ⟨y, ys, f1, f2, rfl⟩ := mapM_cons g
    cases a <;> simp only [keyS] at e1 <;> first | (cases e1; done) | skip
    cases b <;> simp only [keyS] at f1 <;> first | (cases f1; done) | skip
    cases e1; cases f1
    simp only [deqs, deq, deqs_keys e2 f2]
    rename_i s t
    by_cases hs : s = t <;> by_cases hx : xs = ys <;> simp [hs, hx]
theorem deq_keyT {a d : D} {x k : List Key} (h : toKeyT a = some x) (g : toKeyT d = some k) : deq a d = decide (x = k) := by
  cases a <;> simp only [toKeyT] at h <;> first | (cases h; done) | skip
  cases d <;> simp only [toKeyT] at g <;> first | (cases g; done) | skip
  simp only [deq]
  exact deqs_keys h g
section
variable {T : Tab} {K : PySem.W.Frag} {a : Abs} {H : Hp}
theorem dget_any {κ : Type} [DecidableEq κ] {f : D → Option κ} {d : D} {k : κ} (hq : ∀ a x, f a = some x → deq a d = decide (x = k)) : ∀ {ks : List D} {ds : List D} {ws : List V} {xs : List κ}, ks.mapM f = some xs → ks.length = ws.length → Reps T K a ds ws →
    (dget d ks ds = none ∧ valV (xs.zip ws) k = none) ∨ ∃ e w, dget d ks ds = some e ∧ valV (xs.zip ws) k = some w ∧ Rep T K a e w
  | [], ds, ws, xs, h, hl, r => by
    rw [mapM_nil h]
    exact .inl ⟨by simp [dget], rfl⟩
  | x :: ks, [], ws, xs, h, hl, r => by
    rw [r.inv0] at hl; simp at hl
  | x :: ks, e :: ds, ws, xs, h, hl, r => by
    obtain ⟨y, ys, e1, e2, rfl⟩ := mapM_cons h
    obtain ⟨v, vs, rfl, r1, r2⟩ := r.inv
    simp only [dget, hq x y e1, List.zip_cons_cons]
    by_cases hk : y = k
    · subst hk
      rw [valV_pos rfl]
      simp only [decide_true, if_true]
      exact .inr ⟨e, v, rfl, rfl, r1⟩
    · rw [valV_neg hk]
      simp only [hk, decide_false, Bool.false_eq_true, if_false]
      exact dget_any hq e2 (by simpa using hl) r2
/-- a look-up, by the small interpreter and by the layer -/
theorem dget_at {t : Bool} {ks ds : List D} {ws : List V} {p : Addr} {d : D} {v : V} (hk : keyOk t d = true) (hd : DcAt H p t ks ws) (hl : ks.length = ws.length) (r : Reps T K a ds ws) (le : ∀ q o, a.G q = some o → H q = some o) (rv : Rep T K a d v) :
    ∃ o : Option V, DGet H p v o ∧ ((dget d ks ds = none ∧ o = none) ∨ ∃ e w, dget d ks ds = some e ∧ o = some w ∧ Rep T K a e w) := by
  cases t with
  | false =>
    obtain ⟨xs, e, m⟩ := hd
    obtain ⟨k, hk⟩ := keyOk_f hk
    have hv : v = kV k := by
      cases d <;> simp only [toKey] at hk <;> first | (cases hk; done) | skip
      · cases hk; simp only [Rep] at rv; subst rv; rfl
      · cases hk; simp only [Rep] at rv; exact rv.1
    subst hv
    refine ⟨valV (xs.zip ws) k, DGet.k e, ?_⟩
    exact dget_any (fun b x hb => deq_key hb hk) m hl r
  | true =>
    obtain ⟨xs, e, m⟩ := hd
    obtain ⟨l, ls, rfl, hn, hk⟩ := keyOk_t hk
    simp only [Rep] at rv
    obtain ⟨q, us, rfl, tq, ru⟩ := rv
    have eu : us = ls.map kV := by
      have : ∀ {l : List D} {ks : List Key} {vs : List V}, l.mapM keyS = some ks → Reps T K a l vs → vs = ks.map kV := by
        intro l
        induction l with
        | nil => intro ks vs h r; rw [r.inv0, mapM_nil h]; rfl
        | cons d l ih =>
          intro ks vs h r
          obtain ⟨x, xs, e1, e2, rfl⟩ := mapM_cons h
          obtain ⟨v, ws, rfl, r1, r2⟩ := r.inv
          rw [ih e2 r2]
          cases d <;> simp only [keyS] at e1 <;> first | (cases e1; done) | skip
          cases e1; simp only [Rep] at r1; rw [r1.1]; rfl
      exact this hk ru
    subst eu
    have tq' : a.G q = some (.tup (ls.map kV)) := tq
    refine ⟨valV (xs.zip ws) ls, DGet.t e (le _ _ tq'), ?_⟩
    exact dget_any (fun b x hb => deq_keyT hb hk) m hl r
end
section
variable {T : Tab} {n : Nat} {X : Cx} {W : WX} {pos : Pos} {a : Abs} {H : Hp} {v : V} {μ : Mem}
/-- x in o of an instance with an own __contains__ -/
def InOwn (T : Tab) (n : Nat) (X : Cx) : Prop := ∀ (neg : Bool), OpR X (compareOp (if neg then .NotIn else .In)) (fun x y H Q => ∃ a μ d e c ns fs, HolM T X.K a μ H ∧ Rep T X.K a d x ∧ Rep T X.K a e y ∧ rd μ e = .ins c ns fs ∧
  WpR (inV T.P (T.C n) μ d e) (fun c μ' => ∀ b H', Stp a H b H' → HolM T X.K b μ' H' → Q (.bl (if neg then !c else c)) H') (fun _ _ => False))
theorem one_sign {x y : Str} (h : (sL x).length = 1) : ∃ c, x = ⟨#[c]⟩ ∧ ((sL x).all fun c => (sL y).contains c) = decide (c ∈ y.cps.toList) := by
  obtain ⟨l⟩ := x
  obtain ⟨l⟩ := l
  have h : l.length = 1 := h
  match l, h with
  | [c], _ =>
    refine ⟨c, rfl, ?_⟩
    show ([c].all fun c => (sL y).contains c) = _
    simp only [List.all_cons, List.all_nil, Bool.and_true, sL]
    rw [Bool.eq_iff_iff]; simp
theorem op_inV (neg : Bool) (hu : X.A.units + 64 < cLine) (ho : InOwn T n X) : OpR X (compareOp (if neg then .NotIn else .In)) (fun x y H Q => ∃ a μ d e, HolM T X.K a μ H ∧ Rep T X.K a d x ∧ Rep T X.K a e y ∧
    WpR (inV T.P (T.C n) μ d e) (fun c μ' => ∀ b H', Stp a H b H' → HolM T X.K b μ' H' → Q (.bl (if neg then !c else c)) H') (fun _ _ => False)) := by
  intro pins s σ H x y v u Q I rx ry h
  obtain ⟨a, μ, d, e, m, r1, r2, q⟩ := h
  have q2 := rd_rep m r2
  have q0 := q
  unfold inV at q
  split at q
  · rename_i l he
    split at q
    · rename_i hs
      obtain ⟨h1, h2⟩ := Bool.and_eq_true_iff.mp hs
      exact in_data neg hu I rx ry m r1 r2 h1 h2 (.inl he) (q a H (Stp.refl _ _) m)
    · exact q.elim
  · rename_i l he
    split at q
    · rename_i hs
      obtain ⟨h1, h2⟩ := Bool.and_eq_true_iff.mp hs
      exact in_data neg hu I rx ry m r1 r2 h1 h2 (.inr he) (q a H (Stp.refl _ _) m)
    · exact q.elim
  · rename_i z he
    rw [he] at q2
    split at q
    · rename_i w
      split at q
      · rename_i hl
        obtain ⟨c, rfl, hc⟩ := one_sign (y := z) hl
        rw [hc] at q
        have hx : x = .str ⟨#[c]⟩ := by simp only [Rep] at r1; exact r1.1
        cases neg
        · exact op_in_sign pins s σ H x y v u Q I rx ry ⟨c, z, hx, q2.str.1, q a H (Stp.refl _ _) m⟩
        · exact op_notIn_sign pins s σ H x y v u Q I rx ry ⟨c, z, hx, q2.str.1, q a H (Stp.refl _ _) m⟩
      · exact q.elim
    · exact q.elim
  · rename_i t ks vs he
    rw [he] at q2
    obtain ⟨p, ws, rfl, rw', hl, hd⟩ := q2
    split at q
    · rename_i hk
      obtain ⟨o, hg, hc⟩ := dget_at hk hd hl rw' m.le r1
      have eo : (dget d ks vs).isSome = o.isSome := by
        rcases hc with ⟨h1, h2⟩ | ⟨_, _, h1, h2, _⟩ <;> rw [h1, h2] <;> rfl
      rw [eo] at q
      cases ry
      cases neg
      · exact d_in (by omega) I hg rx fun s3 I3 => ⟨.bl o.isSome, H, I3, rfl, q a H (Stp.refl _ _) m⟩
      · exact d_notIn (by omega) I hg rx fun s3 I3 => ⟨.bl (!o.isSome), H, I3, rfl, q a H (Stp.refl _ _) m⟩
    · exact q.elim
  · rename_i c ns fs he
    exact ho neg pins s σ H x y v u Q I rx ry ⟨a, μ, d, e, c, ns, fs, m, r1, r2, he, q0⟩
  · exact q.elim
theorem op_cmpV (o : Cop) (hu : X.A.units + 64 < cLine) (hE : EqOwn T n X) (hI : InOwn T n X) : OpR X (compareOp (toCmp o)) (rCmp T n X.K o) := by
  cases o
  · exact op_eqV hu hE
  · exact op_neV hu hE
  · exact op_ltV
  · exact op_leV
  · exact op_gtV
  · exact op_geV
  · exact op_inV false hu hI
  · intro pins s σ H x y v u Q I rx ry h
    obtain ⟨a, μ, d, e, m, r1, r2, q⟩ := h
    exact op_inV true hu hI pins s σ H x y v u Q I rx ry ⟨a, μ, d, e, m, r1, r2, q.notR⟩
  · exact op_isV
  · exact op_isnV
theorem WpR.nox {α : Type} {r : R α} {k : α → Mem → Prop} {kx : D → Mem → Prop} (h : WpR (DI.nox r) k kx) : WpR r k (fun _ _ => False) := by
  cases r <;> exact h
/-- two operands compared -/
theorem twoC {o : Cop} {d e : E} {σ : L2.St} {H : Hp} {Q : VK} {a : Abs} {ρ : Env} {μ : Mem} {f : Bool → Mem → R D} {kk : D → Mem → Prop} (ho : Hol T X.K a ρ μ σ H)
    (q : WpR ((evE T.P (T.C n) T.reprS d ρ μ).bind fun d μ => (evE T.P (T.C n) T.reprS e ρ μ).bind fun e μ => (DI.nox (cmpV T.P (T.C n) μ o d e)).bind f) kk (Kx T X.K a H ρ σ W))
    (hk : ∀ c μ1 b H1, Stp a H b H1 → Hol T X.K b ρ μ1 σ H1 → WpR (f c μ1) kk (Kx T X.K a H ρ σ W) → Q (.bl c) H1) :
    tOp (rCmp T n X.K o) (tE T n X.K W d) (tE T n X.K W e) σ H Q := by
  refine ⟨a, ρ, μ, ho, q.bind.mono (fun d1 μ1 q1 b v H1 le1 ho1 r1 => ?_) fun _ _ k => k⟩
  refine ⟨b, ρ, μ1, ho1, q1.bind.mono (fun d2 μ2 q2 c w H2 le2 ho2 r2 => ?_) fun _ _ k => k.mono le1⟩
  exact ⟨c, μ2, d1, d2, ho2.m, Rep.mono le2.le _ _ r1, r2, q2.bind.nox.mono (fun x μ3 q3 b' H3 le3 m3 => hk x μ3 b' H3 (le1.trans (le2.trans le3)) (ho2.to le3.le m3) q3) fun _ _ z => z⟩
/-- what a comparison wants around -/
structure CmpOk (T : Tab) (n : Nat) (X : Cx) : Prop where
  units : X.A.units + 64 < cLine
  eq : EqOwn T n X
  inn : InOwn T n X
theorem se_cmp {x y : Expr} {d e : E} (o : Cop) (hc : CmpOk T n X) (hm : behindInMarks (toCmp o) y = false) (h1 : SE T n X W x d) (h2 : SE T n X W y e) : SE T n X W (.Compare x [toCmp o] [y] pos) (.cmp o d e) := by
  refine PE.imp (pe_cmpR (op_cmpV (T := T) (n := n) o hc.units hc.eq hc.inn) h1 h2 hm) fun σ H Q q => ?_
  obtain ⟨a, ρ, μ, ho, q⟩ := q
  simp only [evE] at q
  exact twoC ho q fun c μ1 b H1 le1 ho1 q1 => q1 b _ H1 le1 ho1 rep_bl
theorem st_cmp {x y : Expr} {d e : E} (o : Cop) (hc : CmpOk T n X) (hm : behindInMarks (toCmp o) y = false) (h1 : SE T n X W x d) (h2 : SE T n X W y e) : ST T n X W (.Compare x [toCmp o] [y] pos) (.cmp o d e) := by
  refine PT.imp (pt_cmpR (op_cmpV (T := T) (n := n) o hc.units hc.eq hc.inn) h1 h2 hm) fun σ H Q q => ?_
  obtain ⟨a, ρ, μ, ho, q⟩ := q
  simp only [evE] at q
  exact twoC ho q fun c μ1 b H1 le1 ho1 q1 => by
    obtain ⟨c', e1, k⟩ := q1
    cases e1
    exact ⟨_, rfl, k b H1 le1 ho1⟩
/-- a plain expression as a test -/
theorem st_val {x : Expr} {d : E} (he : ∀ whole, isTrue x X.env whole = (do let v ← whole; standAt x.pos; holding [v] (truthy v))) (h : SE T n X W x d) : ST T n X W x d := by
  refine PT.imp (pt_val h he) fun σ H Q q => ?_
  obtain ⟨a, ρ, μ, ho, q⟩ := q
  refine ⟨a, ρ, μ, ho, q.mono (fun d1 μ1 q1 b v H1 le1 ho1 r1 => ?_) fun _ _ k => k⟩
  obtain ⟨c, e1, k⟩ := q1
  cases d1 <;> simp only [tru] at e1 <;> first | (cases e1; done) | skip
  cases e1
  exact ⟨_, by simpa only [Rep] using r1, k b H1 le1 ho1⟩
theorem st_not {x : Expr} {d : E} (h : ST T n X W x d) : ST T n X W (.UnaryOp .Not x pos) (.not d) := by
  refine PT.imp (pt_not h) fun σ H Q q => ?_
  obtain ⟨a, ρ, μ, ho, q⟩ := q
  simp only [evE] at q
  refine ⟨a, ρ, μ, ho, q.bind.mono (fun d1 μ1 q1 => ?_) fun _ _ k => k⟩
  obtain ⟨z, e1, k⟩ := q1.of
  obtain ⟨c, e2, rfl⟩ := Option.map_eq_some_iff.mp e1
  obtain ⟨c', e3, k⟩ := k
  cases e3
  exact ⟨c, e2, fun b H1 le ho => k b H1 le ho⟩
theorem se_not {x : Expr} {d : E} (h : SE T n X W x d) : SE T n X W (.UnaryOp .Not x pos) (.not d) := by
  refine PE.imp (pe_not h) fun σ H Q q => ?_
  obtain ⟨a, ρ, μ, ho, q⟩ := q
  simp only [evE] at q
  refine ⟨a, ρ, μ, ho, q.bind.mono (fun d1 μ1 q1 b v H1 le1 ho1 r1 => ?_) fun _ _ k => k⟩
  obtain ⟨z, e1, k⟩ := q1.of
  obtain ⟨c, e2, rfl⟩ := Option.map_eq_some_iff.mp e1
  cases d1 <;> simp only [tru] at e2 <;> first | (cases e2; done) | skip
  cases e2
  exact ⟨_, by simpa only [Rep] using r1, k b _ H1 le1 ho1 rep_bl⟩
abbrev SW (T : Tab) (n : Nat) (X : Cx) (W : WX) (x : Expr) (f : Env → Mem → R D) : Prop := PW X x (fun σ H Q => ∃ a ρ μ, Hol T X.K a ρ μ σ H ∧ WpR (f ρ μ) (fun d μ' => ∃ c, tru d = some c ∧ ∀ b H', Stp a H b H' → Hol T X.K b ρ μ' σ H' → Q c H') (Kx T X.K a H ρ σ W))
theorem sw_or1 {x : Expr} {d : E} (h : ST T n X W x d) : SW T n X W (.BoolOp .Or [x] pos) (evOr T.P (T.C n) T.reprS (.c d .n)) := by
  refine PW.imp (pw_or1 h) fun σ H Q q => ?_
  obtain ⟨a, ρ, μ, ho, q⟩ := q
  simp only [evOr] at q
  exact ⟨a, ρ, μ, ho, q⟩
theorem sw_or {x y : Expr} {xs : List Expr} {d e : E} {es : Es} (h : ST T n X W x d) (hs : SW T n X W (.BoolOp .Or (y :: xs) pos) (evOr T.P (T.C n) T.reprS (.c e es))) : SW T n X W (.BoolOp .Or (x :: y :: xs) pos) (evOr T.P (T.C n) T.reprS (.c d (.c e es))) := by
  refine PW.imp (pw_or h hs) fun σ H Q q => ?_
  obtain ⟨a, ρ, μ, ho, q⟩ := q
  simp only [evOr] at q
  refine ⟨a, ρ, μ, ho, q.bind.mono (fun d1 μ1 q1 => ?_) fun _ _ k => k⟩
  split at q1
  · rename_i e1
    obtain ⟨c, e2, k⟩ := q1
    cases e2
    exact ⟨true, e1, fun b H1 le1 ho1 => k b H1 le1 ho1⟩
  · rename_i e1
    exact ⟨false, e1, fun b H1 le1 ho1 => ⟨b, ρ, μ1, ho1, q1.mono (fun d2 μ2 ⟨c, e2, k⟩ => ⟨c, e2, fun b2 H2 le2 ho2 => k b2 H2 (le1.trans le2) ho2⟩) fun _ _ k => k.mono le1⟩⟩
  · exact q1.elim
theorem st_or {xs : List Expr} {es : Es} (h : SW T n X W (.BoolOp .Or xs pos) (evOr T.P (T.C n) T.reprS es)) : ST T n X W (.BoolOp .Or xs pos) (.or es) := by
  refine PT.imp (PW.pt h) fun σ H Q q => ?_
  obtain ⟨a, ρ, μ, ho, q⟩ := q
  simp only [evE] at q
  exact ⟨a, ρ, μ, ho, q⟩
/-- .. as values -/
abbrev SV (T : Tab) (n : Nat) (X : Cx) (W : WX) (x : Expr) (f : Env → Mem → R D) : Prop := PE X x (fun σ H Q => ∃ a ρ μ, Hol T X.K a ρ μ σ H ∧ WpR (f ρ μ) (fun d μ' => ∀ b v H', Stp a H b H' → Hol T X.K b ρ μ' σ H' → Rep T X.K b d v → Q v H') (Kx T X.K a H ρ σ W))
theorem sv_one {op : BoolOp} {x : Expr} {d : E} (h : SE T n X W x d) {f : Env → Mem → R D} (hf : ∀ ρ μ, f ρ μ = evE T.P (T.C n) T.reprS d ρ μ) : SV T n X W (.BoolOp op [x] pos) f := by
  refine PE.imp (pe_one h) fun σ H Q q => ?_
  obtain ⟨a, ρ, μ, ho, q⟩ := q
  rw [hf] at q
  exact ⟨a, ρ, μ, ho, q⟩
theorem sv_and {x y : Expr} {xs : List Expr} {d e : E} {es : Es} (h : SE T n X W x d) (hs : SV T n X W (.BoolOp .And (y :: xs) pos) (evAnd T.P (T.C n) T.reprS (.c e es))) : SV T n X W (.BoolOp .And (x :: y :: xs) pos) (evAnd T.P (T.C n) T.reprS (.c d (.c e es))) := by
  refine PE.imp (pe_and h hs) fun σ H Q q => ?_
  obtain ⟨a, ρ, μ, ho, q⟩ := q
  simp only [evAnd] at q
  refine ⟨a, ρ, μ, ho, q.bind.mono (fun d1 μ1 q1 b v H1 le1 ho1 r1 => ?_) fun _ _ k => k⟩
  split at q1
  · rename_i e1
    cases d1 <;> simp only [tru] at e1 <;> first | (cases e1; done) | skip
    cases e1
    refine ⟨true, by simpa only [Rep] using r1, ?_⟩
    exact ⟨b, ρ, μ1, ho1, q1.mono (fun d2 μ2 k b2 v2 H2 le2 ho2 r2 => k b2 v2 H2 (le1.trans le2) ho2 r2) fun _ _ k => k.mono le1⟩
  · rename_i e1
    cases d1 <;> simp only [tru] at e1 <;> first | (cases e1; done) | skip
    cases e1
    exact ⟨false, by simpa only [Rep] using r1, q1 b _ H1 le1 ho1 rep_bl⟩
  · exact q1.elim
theorem se_and {xs : List Expr} {es : Es} (h : SV T n X W (.BoolOp .And xs pos) (evAnd T.P (T.C n) T.reprS es)) : SE T n X W (.BoolOp .And xs pos) (.and es) := by
  refine PE.imp h fun σ H Q q => ?_
  obtain ⟨a, ρ, μ, ho, q⟩ := q
  simp only [evE] at q
  exact ⟨a, ρ, μ, ho, q⟩
theorem se_ite {x y z : Expr} {c d e : E} (hc : ST T n X W x c) (hd : SE T n X W y d) (he : SE T n X W z e) : SE T n X W (.IfExp x y z pos) (.ite c d e) := by
  refine PE.imp (pe_ifExp hc hd he) fun σ H Q q => ?_
  obtain ⟨a, ρ, μ, ho, q⟩ := q
  simp only [evE] at q
  refine ⟨a, ρ, μ, ho, q.bind.mono (fun d1 μ1 q1 => ?_) fun _ _ k => k⟩
  split at q1
  · rename_i e1
    exact ⟨true, e1, fun b H1 le1 ho1 => ⟨b, ρ, μ1, ho1, q1.mono (fun d2 μ2 k b2 v2 H2 le2 ho2 r2 => k b2 v2 H2 (le1.trans le2) ho2 r2) fun _ _ k => k.mono le1⟩⟩
  · rename_i e1
    exact ⟨false, e1, fun b H1 le1 ho1 => ⟨b, ρ, μ1, ho1, q1.mono (fun d2 μ2 k b2 v2 H2 le2 ho2 r2 => k b2 v2 H2 (le1.trans le2) ho2 r2) fun _ _ k => k.mono le1⟩⟩
  · exact q1.elim
end
end DI
end

section
set_option Elab.async false
set_option linter.all false
set_option maxRecDepth 100000
namespace DI
open PySem L2 PySem.Spec PyProof.Rows
theorem tail_of {prog : Program} {w : World} {A : Around} {E : Value → Shared → Prop} {s : Shared} {value slice : Expr} {o i : Value} {T id : String} {Q : Value → Shared → Prop}
    (hl : typeLookup (.type T) "__getitem__" = pure (some (.builtin id))) (hs : subscripted slice false o i = operate [o, i] (getItem o i)) (hT : s.TypeIs o T)
    (h : wpAny (model prog w) A (getItem o i) Q E s) : wpAny (model prog w) A (subscriptTail value slice o i) Q E s := by
  unfold subscriptTail
  refine wpAny_bind ?_
  rw [getitemInPython_of_ne hT.not_modules]
  refine wpAny_bind (wpAny_specialOf hT hl ?_)
  have fin : wpAny (model prog w) A (subscripted slice false o i) (fun r s₃ => wpAny (model prog w) A (letTemporaryGo value o r >>= fun _ => pure r) Q E s₃) E s := by
    rw [hs]
    exact wpAny_operating (wpAny_mono h (fun r s₃ h₃ => wpAny_bind (wpAny_letTemporaryGo (wpAny_pure h₃))) fun _ _ x => x)
  first
    | exact wpAny_pure (wpAny_bind fin)
    | exact wpAny_bind (wpAny_pure (wpAny_bind fin))
    | exact wpAny_bind fin
theorem atPl_ix (n : Nat) (i : Int) : atPl n i = ixN n i := by
  unfold atPl ixN
  by_cases h : 0 ≤ i
  · rw [if_pos h, if_pos h]
  · rw [if_neg h, if_neg h]
    by_cases g : -(n : Int) ≤ i
    · rw [if_pos g, if_pos (by omega)]
    · rw [if_neg g, if_neg (by omega)]
section
variable {T : Tab} {n : Nat} {X : Cx} {W : WX} {pos : Pos} {a : Abs} {H : Hp} {v : V} {μ : Mem}
/-- o[i] of an instance with an own __getitem__ -/
def IdxOwn (T : Tab) (n : Nat) (X : Cx) (W : WX) : Prop := ∀ (value slice : Expr) (pins : List (Addr × Obj)) (s : Shared) (σ : L2.St) (H : Hp) (x y : V) (v u : Value) (Q : VK) (a : Abs) (ρ : Env) (μ : Mem) (d e : D) (c : Nat) (ns : List Nat) (fs : List D), L2.Inv X pins σ H s → RelV x v → RelV y u →
  subscripted slice false v u = operate [v, u] (getItem v u) → Hol T X.K a ρ μ σ H → Rep T X.K a d x → Rep T X.K a e y → rd μ d = .ins c ns fs →
  WpR (idxV T.P (T.C n) μ d e) (fun z μ' => ∀ b v H', Stp a H b H' → Hol T X.K b ρ μ' σ H' → Rep T X.K b z v → Q v H') (Kx T X.K a H ρ σ W) → wpAny (model X.prog X.w) X.A (subscriptTail value slice v u) (EP X pins σ Q) X.xe s
theorem at_rep {l : List D} {vs : List V} {k : Int} {z : D} (r : Reps T X.K a l vs) (h : ((atPl l.length k).bind fun j => l[j]?) = some z) : ∃ w, atI vs k = some w ∧ Rep T X.K a z w := by
  obtain ⟨j, e1, e2⟩ := Option.bind_eq_some_iff.mp h
  obtain ⟨w, e3, q⟩ := r.get e2
  refine ⟨w, ?_, q⟩
  unfold atI
  rw [← r.length, ← atPl_ix, e1]
  exact e3
theorem strOk_mem {x : Str} (h : PyData.strOk x = true) {c : Nat} (hc : c ∈ sL x) : PyData.strOk (sM [c]) = true := by
  unfold PyData.strOk at *
  simp only [sM, sL, Array.all_eq_true', Array.mem_toList_iff] at *
  intro d hd
  have : d = c := by simpa using hd
  subst this
  exact h d hc
theorem se_idx {x y : Expr} {d e : E} (hu : X.A.units + 64 < cLine) (hO : IdxOwn T n X W) (hs : PlainIx y) (h1 : SE T n X W x d) (h2 : SE T n X W y e) : SE T n X W (.Subscript x y pos) (.idx d e) := by
  refine ⟨fun pins s σ H Q I q => ?_⟩
  obtain ⟨a, ρ, μ, ho, q⟩ := q
  simp only [evE] at q
  refine Subscript_ (binT h1 h2 I (R := fun x y H2 => ∃ b μ2 dx dy, Hol T X.K b ρ μ2 σ H2 ∧ Stp a H b H2 ∧ Rep T X.K b dx x ∧ Rep T X.K b dy y ∧
    WpR (idxV T.P (T.C n) μ2 dx dy) (fun z μ' => ∀ b v H', Stp a H b H' → Hol T X.K b ρ μ' σ H' → Rep T X.K b z v → Q v H') (Kx T X.K a H ρ σ W)) ?_ fun v u s2 x y H2 I2 rx ry q => ?_)
  · refine ⟨a, ρ, μ, ho, q.bind.mono (fun d1 μ1 q1 b v H1 le1 ho1 r1 => ?_) fun _ _ k => k⟩
    refine ⟨b, ρ, μ1, ho1, q1.bind.mono (fun d2 μ2 q2 c w H2 le2 ho2 r2 => ?_) fun _ _ k => k.mono le1⟩
    exact ⟨c, μ2, d1, d2, ho2, le1.trans le2, Rep.mono le2.le _ _ r1, r2, q2⟩
  · obtain ⟨b, μ2, dx, dy, ho2, le2, r1, r2, q⟩ := q
    have m := ho2.m
    have q1 := rd_rep m r1
    have q0 := q
    have tl := hs v u
    unfold idxV at q
    split at q
    · rename_i l k hl
      rw [hl] at q1
      obtain ⟨p, vs, rfl, sq, t⟩ := q1
      obtain ⟨z, e1, k1⟩ := q.of
      obtain ⟨w, e2, rw'⟩ := at_rep t e1
      exact ix_tup _ _ pins s2 σ H2 _ y v u Q I2 rx ry ⟨p, vs, k, w, rfl, by simpa only [Rep] using r2, sq, e2, k1 b w H2 le2 ho2 rw'⟩ tl
    · rename_i l k hl
      rw [hl] at q1
      obtain ⟨p, vs, rfl, sq, t⟩ := q1
      obtain ⟨z, e1, k1⟩ := q.of
      obtain ⟨w, e2, rw'⟩ := at_rep t e1
      exact ix_tup _ _ pins s2 σ H2 _ y v u Q I2 rx ry ⟨p, vs, k, w, rfl, by simpa only [Rep] using r2, .inl (.inl sq), e2, k1 b w H2 le2 ho2 rw'⟩ tl
    · rename_i l k hl
      rw [hl] at q1
      obtain ⟨p, vs, rfl, sq, t⟩ := q1
      obtain ⟨z, e1, k1⟩ := q.of
      obtain ⟨w, e2, rw'⟩ := at_rep t e1
      exact ix_list _ _ pins s2 σ H2 _ y v u Q I2 rx ry ⟨p, vs, k, w, rfl, by simpa only [Rep] using r2, SqL.of sq, e2, k1 b w H2 le2 ho2 rw'⟩ tl
    · rename_i l k hl
      rw [hl] at q1
      obtain ⟨p, vs, rfl, sq, t⟩ := q1
      obtain ⟨z, e1, k1⟩ := q.of
      obtain ⟨w, e2, rw'⟩ := at_rep t e1
      exact ix_list _ _ pins s2 σ H2 _ y v u Q I2 rx ry ⟨p, vs, k, w, rfl, by simpa only [Rep] using r2, sq, e2, k1 b w H2 le2 ho2 rw'⟩ tl
    · rename_i l k hl
      rw [hl] at q1
      obtain ⟨z, e1, k1⟩ := q.of
      obtain ⟨j, e4, e2⟩ := Option.bind_eq_some_iff.mp e1
      obtain ⟨c, e3, rfl⟩ := Option.map_eq_some_iff.mp e2
      have g := q1.str.2
      refine ix_str _ _ pins s2 σ H2 _ y v u Q I2 rx ry ⟨l, k, c, q1.str.1, by simpa only [Rep] using r2, by rw [← sL_length, ← sizeLn_eq]; exact strG.len g, ?_, k1 b _ H2 le2 ho2 ?_⟩ tl
      · unfold atI
        rw [← atPl_ix]
        exact Option.bind_eq_some_iff.mpr ⟨j, e4, e3⟩
      · simp only [Rep]
        exact ⟨rfl, strG.of (strOk_mem (strG.ok g) (List.mem_of_getElem? e3)) (by show 1 ≤ sizeLn; decide)⟩
    · rename_i t ks vs k hk
      rw [hk] at q1
      obtain ⟨p, ws, rfl, t1, hl, hd⟩ := q1
      split at q
      · rename_i hkey
        obtain ⟨z, e1, k1⟩ := q.of
        obtain ⟨o, hg, hc⟩ := dget_at hkey hd hl t1 m.le r2
        rcases hc with ⟨h1, _⟩ | ⟨e', w, h1, h2, rw'⟩
        · rw [h1] at e1; cases e1
        · rw [h1] at e1; cases e1
          subst h2
          obtain rfl : v = Value.ref p := rx
          exact tail_of PySem.F.slot_dict_getitem.lookup tl (dict_typeIs I2 hg) (d_getItem (by omega) I2 hg ry fun w' s3 I3 rw'' => ⟨w, H2, I3, rw'', k1 b w H2 le2 ho2 rw'⟩)
      · exact q.elim
    · rename_i c ns fs hk
      exact hO _ _ pins s2 σ H2 x y v u Q b ρ μ2 dx _ c ns fs I2 rx ry tl ho2 r1 r2 hk (q0.mono (fun z μ' kk c w H' le => kk c w H' (le2.trans le)) fun _ _ k => k.mono le2)
    · exact q.elim

theorem clip_ix (n d : Nat) (i : Int) : clip n i = HT.sIx n d (some i) := by
  unfold clip
  show _ = if i < 0 then (i + (n : Int)).toNat else min i.toNat n
  by_cases h : 0 ≤ i
  · rw [if_pos h, if_neg (by omega)]
  · rw [if_neg h, if_pos (by omega)]
theorem cut_eq {α : Type} (l : List α) (lo hi : Option Int) : cut l lo hi = (l.drop (HT.sIx l.length 0 lo)).take (HT.sIx l.length l.length hi - HT.sIx l.length 0 lo) := by
  unfold cut
  rw [List.drop_take]
  cases lo <;> cases hi <;> first
    | rfl
    | (rename_i i; show List.take (clip l.length i - 0) _ = _; rw [clip_ix _ l.length]; rfl)
    | (rename_i i; show List.take (l.length - clip l.length i) (List.drop (clip l.length i) l) = _; rw [clip_ix _ 0]; rfl)
    | (rename_i i j; show List.take (clip l.length j - clip l.length i) (List.drop (clip l.length i) l) = _; rw [clip_ix _ 0 i, clip_ix _ l.length j])
theorem cut_vs {l : List D} {vs : List V} (r : Reps T X.K a l vs) (lo hi : Option Int) : Reps T X.K a (cut l lo hi) (cutV vs lo hi) := by
  rw [cut_eq]
  unfold cutV
  rw [r.length]
  exact Reps.take _ (Reps.drop _ r)
theorem strOk_sub {x : Str} {l : List Nat} (h : PyData.strOk x = true) (hl : ∀ c ∈ l, c ∈ sL x) : PyData.strOk (sM l) = true := by
  unfold PyData.strOk at *
  simp only [sM, sL, Array.all_eq_true', Array.mem_toList_iff, List.mem_toArray] at *
  intro d hd
  exact h d (hl d hd)
theorem sl_any : SlR X (fun x lo hi H Q => ∃ a μ d z, HolM T X.K a μ H ∧ Rep T X.K a d x ∧ sliD (rd μ d) lo hi = some z ∧ ∀ b v H', Stp a H b H' → HolM T X.K b μ H' → Fresh T X.K H b H' z v → Q v H') := by
  intro pins s σ H x v vl vu lo hi sl Q I rx hs pl pu h
  obtain ⟨a, μ, d, z, m, r1, f, k⟩ := h
  have q1 := rd_rep m r1
  generalize e : rd μ d = d' at *
  unfold sliD at f
  split at f
  · rename_i l
    cases f
    obtain ⟨p, vs, rfl, sq, t⟩ := q1
    refine sl_tupF pins s σ H _ v vl vu lo hi sl Q I rx hs pl pu ⟨p, vs, rfl, sq, fun hw => ?_, fun q o ht hq => ?_⟩
    · refine k a _ H (Stp.refl _ _) m ?_
      have : cut l lo hi = l := by
        rw [cut_eq, t.length, hw.1, hw.2, List.drop_zero, Nat.sub_zero, List.take_of_length_le (by rw [t.length]; exact Nat.le_refl _)]
      rw [this]
      have hd := rd_tup e
      subst hd
      exact r1
    · obtain ⟨b, le, m2, r⟩ := fresh_tup ht m hq (cut_vs t lo hi)
      exact k b _ _ le m2 r
  · rename_i l
    cases f
    obtain ⟨p, vs, rfl, sq, t⟩ := q1
    refine sl_list pins s σ H _ v vl vu lo hi sl Q I rx hs pl pu ⟨p, vs, rfl, SqL.of sq, fun q hq => ?_⟩
    obtain ⟨st, m2, fr⟩ := fresh_lst m hq (cut_vs t lo hi)
    exact k a _ _ st m2 fr
  · rename_i l
    cases f
    obtain ⟨p, vs, rfl, sq, t⟩ := q1
    refine sl_list pins s σ H _ v vl vu lo hi sl Q I rx hs pl pu ⟨p, vs, rfl, sq, fun q hq => ?_⟩
    obtain ⟨st, m2, fr⟩ := fresh_lst m hq (cut_vs t lo hi)
    exact k a _ _ st m2 fr
  · rename_i w
    cases f
    have g := q1.str.2
    refine sl_str pins s σ H x v vl vu lo hi sl Q I rx hs pl pu ⟨w, q1.str.1, by rw [← sL_length, ← sizeLn_eq]; exact strG.len g, ?_⟩
    have e2 : cutS w lo hi = sM (cut (sL w) lo hi) := by
      unfold cutS sM
      rw [cut_eq, sL_length]
      rfl
    rw [e2]
    refine k a _ H (Stp.refl _ _) m (rep_str (strG.of (strOk_sub (strG.ok g) fun c hc => ?_) ?_))
    · rw [cut_eq] at hc
      exact List.mem_of_mem_drop (List.mem_of_mem_take hc)
    · have : (sL (sM (cut (sL w) lo hi))).length = (cut (sL w) lo hi).length := by simp [sL, sM]
      rw [this, cut_eq, List.length_take, List.length_drop]
      have := strG.len g
      omega
  · cases f
abbrev SO (T : Tab) (n : Nat) (X : Cx) (W : WX) (x : Option Expr) (o : O) : Prop := PO X x (fun σ H Q => ∃ a ρ μ, Hol T X.K a ρ μ σ H ∧ WpR (evO T.P (T.C n) T.reprS o ρ μ) (fun z μ' => ∀ b H', Stp a H b H' → Hol T X.K b ρ μ' σ H' → Q z H') (Kx T X.K a H ρ σ W))
theorem PO.imp {x : Option Expr} {t t' : TO} (h : PO X x t) (g : ∀ σ H Q, t' σ H Q → t σ H Q) : PO X x t' := ⟨fun pins s σ H Q I q => h.run pins s σ H Q I (g σ H Q q)⟩
theorem so_none : SO T n X W none .n := by
  refine PO.imp po_none fun σ H Q q => ?_
  obtain ⟨a, ρ, μ, ho, q⟩ := q
  simp only [evO] at q
  exact q a H (Stp.refl _ _) ho
theorem so_some {x : Expr} {e : E} (h : SE T n X W x e) : SO T n X W (some x) (.s e) := by
  refine PO.imp (po_some h) fun σ H Q q => ?_
  obtain ⟨a, ρ, μ, ho, q⟩ := q
  simp only [evO] at q
  refine ⟨a, ρ, μ, ho, q.bind.mono (fun d1 μ1 q1 b v H1 le1 ho1 r1 => ?_) fun _ _ k => k⟩
  split at q1
  · exact ⟨_, by simpa only [Rep] using r1, q1 b H1 le1 ho1⟩
  · exact q1.elim
theorem sf_sli {x : Expr} {d : E} {lo hi : Option Expr} {l h : O} {p2 : Pos} (h1 : SE T n X W x d) (hl : SO T n X W lo l) (hh : SO T n X W hi h) : SF T n X W (.Subscript x (.Slice lo hi none p2) pos) (.sli d l h) := by
  refine PE.imp (pe_slice (sl_any (T := T)) h1 hl hh) fun σ H Q q => ?_
  obtain ⟨a, ρ, μ, ho, q⟩ := q
  simp only [evE] at q
  refine ⟨a, ρ, μ, ho, q.bind.mono (fun d1 μ1 q1 b v H1 le1 ho1 r1 => ?_) fun _ _ k => k⟩
  refine ⟨b, ρ, μ1, ho1, q1.bind.mono (fun d2 μ2 q2 c H2 le2 ho2 => ?_) fun _ _ k => k.mono le1⟩
  refine ⟨c, ρ, μ2, ho2, q2.bind.mono (fun d3 μ3 q3 e H3 le3 ho3 => ?_) fun _ _ k => k.mono (le1.trans le2)⟩
  obtain ⟨z, e1, k⟩ := q3.of
  exact ⟨e, μ3, d1, z, ho3.m, Rep.mono (le2.trans le3).le _ _ r1, e1, fun b' v' H' le4 m4 fr => k b' v' H' (le1.trans (le2.trans (le3.trans le4))) (ho3.to le4.le m4) (fr.pre (le1.trans (le2.trans le3)).dom)⟩
end
end DI
end

section
set_option Elab.async false
set_option linter.all false
set_option maxRecDepth 100000
namespace DI
open PySem L2 PySem.Spec PyProof.Rows
section
variable {T : Tab} {n : Nat} {X : Cx} {W : WX} {pos : Pos} {a : Abs} {H : Hp} {v : V} {μ : Mem}
/-- one argument, by values -/
def rB1 (T : Tab) (K : PySem.W.Frag) (g : Mem → D → R D) : List V → Hp → VK → Prop := fun vs H Q => ∃ a μ d v, vs = [v] ∧ HolM T K a μ H ∧ Rep T K a d v ∧ WpR (g μ d) (fun d μ' => ∀ b v H', Stp a H b H' → HolM T K b μ' H' → Fresh T K H b H' d v → Q v H') (fun _ _ => False)
def rB2 (T : Tab) (K : PySem.W.Frag) (g : D → D → Option D) : List V → Hp → VK → Prop := fun vs H Q => ∃ a μ d e z v w, vs = [v, w] ∧ HolM T K a μ H ∧ Rep T K a d v ∧ Rep T K a e w ∧ g d e = some z ∧ ∀ b v H', Stp a H b H' → HolM T K b μ H' → Fresh T K H b H' z v → Q v H'
/-- len of an instance with an own __len__, and the like -/
def SpOwn (T : Tab) (n : Nat) (X : Cx) (f : Value) (g : Mem → D → R D) : Prop := CallR X f (fun vs H Q => ∃ a μ d v c ns fs, vs = [v] ∧ HolM T X.K a μ H ∧ Rep T X.K a d v ∧ rd μ d = .ins c ns fs ∧ WpR (g μ d) (fun d μ' => ∀ b v H', Stp a H b H' → HolM T X.K b μ' H' → Fresh T X.K H b H' d v → Q v H') (fun _ _ => False))
theorem cb_len (hO : SpOwn T n X (.builtin "len") (lenV T.P (T.C n))) : CallR X (.builtin "len") (rB1 T X.K (lenV T.P (T.C n))) := by
  intro pins s σ H vs us Q I r h
  obtain ⟨a, μ, d, v, rfl, m, r1, q⟩ := h
  have q1 := rd_rep m r1
  have q0 := q
  unfold lenV at q
  split at q
  · rename_i x e
    rw [e] at q1
    have g := q1.str.2
    exact call_len_str pins s σ H _ us Q I r ⟨x, by rw [q1.str.1], by rw [← sL_length, ← sizeLn_eq]; exact strG.len g, by rw [← sL_length]; exact q a _ H (Stp.refl _ _) m rep_int⟩
  · rename_i l e
    rw [e] at q1
    obtain ⟨p, ws, rfl, sq, t⟩ := q1
    exact call_len_seq pins s σ H _ us Q I r ⟨p, ws, rfl, .inr sq, by rw [← t.length]; exact q a _ H (Stp.refl _ _) m rep_int⟩
  · rename_i l e
    rw [e] at q1
    obtain ⟨p, ws, rfl, sq, t⟩ := q1
    exact call_len_seq pins s σ H _ us Q I r ⟨p, ws, rfl, .inl (SqL.of sq), by rw [← t.length]; exact q a _ H (Stp.refl _ _) m rep_int⟩
  · rename_i l e
    rw [e] at q1
    obtain ⟨p, ws, rfl, sq, t⟩ := q1
    exact call_len_seq pins s σ H _ us Q I r ⟨p, ws, rfl, .inl sq, by rw [← t.length]; exact q a _ H (Stp.refl _ _) m rep_int⟩
  · rename_i ks ds e
    rw [e] at q1
    obtain ⟨p, ws, rfl, t1, hl, xs, h1, h2⟩ := q1
    have e2 : (xs.zip ws).length = ks.length := by rw [List.length_zip, mapM_len h2, ← hl, Nat.min_self]
    exact call_lenD pins s σ H _ us Q I r ⟨p, _, rfl, h1, by rw [e2]; exact q a _ H (Stp.refl _ _) m rep_int⟩
  · rename_i c ns fs e
    exact hO pins s σ H _ us Q I r ⟨a, μ, d, v, c, ns, fs, rfl, m, r1, e, q0⟩
  · exact q.elim
theorem cb_int : CallR X (.type "int") (rB1 T X.K fun μ d => R.of μ (int1V d)) := by
  intro pins s σ H vs us Q I r h
  obtain ⟨a, μ, d, v, rfl, m, r1, q⟩ := h
  obtain ⟨z, e, k⟩ := q.of
  unfold int1V at e
  split at e
  · cases e
    exact call_int1 pins s σ H _ us Q I r (.inl ⟨_, by rw [show v = .int _ by simpa only [Rep] using r1], k a _ H (Stp.refl _ _) m rep_int⟩)
  · cases e
    exact call_int1 pins s σ H _ us Q I r (.inr ⟨_, by rw [show v = .bl _ by simpa only [Rep] using r1], k a _ H (Stp.refl _ _) m rep_int⟩)
  · cases e
theorem cb_abs : CallR X (.builtin "abs") (rB1 T X.K fun μ d => R.of μ (match d with | .int i => some (.int i.natAbs) | _ => none)) := by
  intro pins s σ H vs us Q I r h
  obtain ⟨a, μ, d, v, rfl, m, r1, q⟩ := h
  obtain ⟨z, e, k⟩ := q.of
  split at e
  · rename_i i
    cases e
    refine call_abs pins s σ H _ us Q I r ⟨i, by rw [show v = .int _ by simpa only [Rep] using r1], ?_⟩
    have : (if i < 0 then -i else i) = (i.natAbs : Int) := by split <;> omega
    rw [this]
    exact k a _ H (Stp.refl _ _) m rep_int
  · cases e
theorem reps_bls : ∀ {l : List D} {ns : List Bool} {vs : List V}, blsD l = some ns → Reps T X.K a l vs → vs = ns.map V.bl
  | [], ns, vs, h, r => by rw [r.inv0]; cases h; rfl
  | d :: l, ns, vs, h, r => by
    obtain ⟨v, ws, rfl, r1, r2⟩ := r.inv
    cases d <;> simp only [blsD] at h <;> first | (cases h; done) | skip
    obtain ⟨ns', e, rfl⟩ := Option.map_eq_some_iff.mp h
    rw [reps_bls e r2, show v = .bl _ by simpa only [Rep] using r1]; rfl
theorem reps_strs : ∀ {l : List D} {ns : List Str} {vs : List V}, strsD l = some ns → Reps T X.K a l vs → vs = ns.map V.str ∧ ∀ s ∈ ns, strG s = true
  | [], ns, vs, h, r => by rw [r.inv0]; cases h; exact ⟨rfl, fun s hs => by cases hs⟩
  | d :: l, ns, vs, h, r => by
    obtain ⟨v, ws, rfl, r1, r2⟩ := r.inv
    cases d <;> simp only [strsD] at h <;> first | (cases h; done) | skip
    obtain ⟨ns', e, rfl⟩ := Option.map_eq_some_iff.mp h
    obtain ⟨e1, e2⟩ := reps_strs e r2
    simp only [Rep] at r1
    refine ⟨by rw [e1, r1.1]; rfl, fun s hs => ?_⟩
    rcases List.mem_cons.mp hs with rfl | hs
    · exact r1.2
    · exact e2 s hs
theorem cb_all (hc : X.calm = true) : CallR X (.builtin "all") (rB1 T X.K fun μ d => R.of μ (allV (rd μ d))) := by
  intro pins s σ H vs us Q I r h
  obtain ⟨a, μ, d, v, rfl, m, r1, q⟩ := h
  obtain ⟨z, e, k⟩ := q.of
  have q1 := rd_rep m r1
  unfold allV at e
  split at e
  · rename_i l he
    rw [he] at q1
    obtain ⟨p, ws, rfl, sq, t⟩ := q1
    obtain ⟨ns, e2, rfl⟩ := Option.map_eq_some_iff.mp e
    exact cr_all hc pins s σ H _ us Q I r ⟨p, ns, rfl, by rw [← reps_bls e2 t]; exact SqL.of sq, k a _ H (Stp.refl _ _) m (by simp only [Fresh, Rep])⟩
  · cases e
theorem cb_any (hc : X.calm = true) : CallR X (.builtin "any") (rB1 T X.K fun μ d => R.of μ (anyV (rd μ d))) := by
  intro pins s σ H vs us Q I r h
  obtain ⟨a, μ, d, v, rfl, m, r1, q⟩ := h
  obtain ⟨z, e, k⟩ := q.of
  have q1 := rd_rep m r1
  unfold anyV at e
  split at e
  · rename_i l he
    rw [he] at q1
    obtain ⟨p, ws, rfl, sq, t⟩ := q1
    obtain ⟨ns, e2, rfl⟩ := Option.map_eq_some_iff.mp e
    exact cr_any hc pins s σ H _ us Q I r ⟨p, ns, rfl, by rw [← reps_bls e2 t]; exact SqL.of sq, k a _ H (Stp.refl _ _) m (by simp only [Fresh, Rep])⟩
  · cases e
theorem cb_tuple : CallR X (.type "tuple") (rB1 T X.K fun μ d => R.of μ (tupV (rd μ d))) := by
  intro pins s σ H vs us Q I r h
  obtain ⟨a, μ, d, v, rfl, m, r1, q⟩ := h
  obtain ⟨z, e, k⟩ := q.of
  have q1 := rd_rep m r1
  unfold tupV at e
  split at e
  · rename_i l he
    rw [he] at q1
    obtain ⟨p, ws, rfl, sq, t⟩ := q1
    cases e
    refine call_tupF pins s σ H _ us Q I r ⟨p, ws, rfl, .inl ⟨SqL.of sq, fun q o ht hq => ?_⟩⟩
    obtain ⟨b, le, m2, r⟩ := fresh_tup ht m hq t
    exact k b _ _ le m2 r
  · rename_i l he
    have hd := rd_tup he
    subst hd
    rw [he] at q1
    obtain ⟨p, ws, rfl, sq, t⟩ := q1
    cases e
    exact call_tuple_of pins s σ H _ us Q I r ⟨p, ws, rfl, .inr ⟨sq, k a _ H (Stp.refl _ _) m r1⟩⟩
  · cases e
theorem cb_min2 (hc : X.calm = true) : CallR X (.builtin "min") (rB2 T X.K (bi2V .min2)) := by
  intro pins s σ H vs us Q I r h
  obtain ⟨a, μ, d, e, z, v, w, rfl, m, r1, r2, f, k⟩ := h
  unfold bi2V at f
  split at f
  · cases f
    exact call_min2 hc pins s σ H _ us Q I r ⟨_, _, by rw [show v = .int _ by simpa only [Rep] using r1, show w = .int _ by simpa only [Rep] using r2], k a _ H (Stp.refl _ _) m rep_int⟩
  · cases f
theorem cb_max2 (hc : X.calm = true) : CallR X (.builtin "max") (rB2 T X.K (bi2V .max2)) := by
  intro pins s σ H vs us Q I r h
  obtain ⟨a, μ, d, e, z, v, w, rfl, m, r1, r2, f, k⟩ := h
  unfold bi2V at f
  split at f
  · cases f
    exact call_max2 hc pins s σ H _ us Q I r ⟨_, _, by rw [show v = .int _ by simpa only [Rep] using r1, show w = .int _ by simpa only [Rep] using r2], k a _ H (Stp.refl _ _) m rep_int⟩
  · cases f
theorem cb_divmod : CallR X (.builtin "divmod") (rB2 T X.K (bi2V .divmod)) := by
  intro pins s σ H vs us Q I r h
  obtain ⟨a, μ, d, e, z, v, w, rfl, m, r1, r2, f, k⟩ := h
  unfold bi2V at f
  split at f
  · rename_i i j
    simp only at f
    split at f
    · rename_i hl
      cases f
      refine call_divmod pins s σ H _ us Q I r ⟨_, _, by rw [show v = .int _ by simpa only [Rep] using r1, show w = .int _ by simpa only [Rep] using r2], hl, fun p hp => ?_⟩
      obtain ⟨b, le, m2, r⟩ := fresh_key m hp (Reps.cons (d := .int (i / j)) (v := .int (i / j)) (by simp only [Rep]) (Reps.cons (d := .int (i % j)) (v := .int (i % j)) (by simp only [Rep]) Reps.nil))
      exact k b _ _ le m2 r
    · cases f
  · cases f
/-- a built-in function called with one argument -/
theorem sf_b1 {x : Str} {p : Pos} {y : Expr} {e : E} {b : Bi} {g : Mem → D → R D} (hg : ∀ μ d, bi1V T.P (T.C n) T.reprS μ b d = g μ d)
    (hpe : ∀ {t : TA}, PA X [y] t → PE X (.Call (.Name x p) [y] [] pos) (tCB (rB1 T X.K g) t)) (h : SE T n X W y e) (hs : starEach [y] X.env = (false, eval y X.env) :: starEach [] X.env) : SF T n X W (.Call (.Name x p) [y] [] pos) (.bi b (.c e .n)) := by
  refine PE.imp (hpe (pa_cons h pa_nil hs)) fun σ H Q q => ?_
  obtain ⟨a, ρ, μ, ho, q⟩ := q
  simp only [evE, evEs] at q
  refine ⟨a, ρ, μ, ho, q.bind.bind.mono (fun d μ1 q1 b' v H1 le1 ho1 r1 => ?_) fun _ _ k => k⟩
  simp only [R.bind_ok, biV, hg] at q1
  exact ⟨b', μ1, d, v, rfl, ho1.m, r1, q1.nox.mono (fun z μ2 k b2 v2 H2 le2 m2 fr => k b2 v2 H2 (le1.trans le2) (ho1.to le2.le m2) (fr.pre le1.dom)) fun _ _ z => z⟩
theorem sf_b2 {x : Str} {p : Pos} {y z : Expr} {e f : E} {b : Bi} (hpe : ∀ {t : TA}, PA X [y, z] t → PE X (.Call (.Name x p) [y, z] [] pos) (tCB (rB2 T X.K (bi2V b)) t)) (h : SE T n X W y e) (h2 : SE T n X W z f)
    (hs : starEach [y, z] X.env = (false, eval y X.env) :: starEach [z] X.env) (hs2 : starEach [z] X.env = (false, eval z X.env) :: starEach [] X.env) : SF T n X W (.Call (.Name x p) [y, z] [] pos) (.bi b (.c e (.c f .n))) := by
  refine PE.imp (hpe (pa_cons h (pa_cons h2 pa_nil hs2) hs)) fun σ H Q q => ?_
  obtain ⟨a, ρ, μ, ho, q⟩ := q
  simp only [evE, evEs] at q
  refine ⟨a, ρ, μ, ho, q.bind.bind.mono (fun d μ1 q1 b' v H1 le1 ho1 r1 => ?_) fun _ _ k => k⟩
  refine ⟨b', ρ, μ1, ho1, q1.bind.bind.mono (fun d2 μ2 q2 c w H2 le2 ho2 r2 => ?_) fun _ _ k => k.mono le1⟩
  simp only [R.bind_ok, biV] at q2
  obtain ⟨z, e1, k⟩ := q2.nox.of
  exact ⟨c, μ2, d, d2, z, v, w, rfl, ho2.m, Rep.mono le2.le _ _ r1, r2, e1, fun b2 v2 H2 le3 m2 fr => k b2 v2 H2 (le1.trans (le2.trans le3)) (ho2.to le3.le m2) (fr.pre (le1.trans le2).dom)⟩
end
end DI
end

section
set_option Elab.async false
set_option linter.all false
set_option maxRecDepth 100000
namespace DI
open PySem L2 PySem.Spec PyProof.Rows
section
variable {T : Tab} {K : PySem.W.Frag} {a b : Abs} {ρ : Env} {μ : Mem} {σ : L2.St} {H H0 : Hp}
mutual
theorem seqD_eq : ∀ (d e : D), seqD d e = true → d = e
  | .non, e, h => by cases e <;> simp [seqD] at h ⊢
  | .bl _, e, h => by cases e <;> simp [seqD] at h ⊢ <;> exact h
  | .int _, e, h => by cases e <;> simp [seqD] at h ⊢ <;> exact h
  | .str _, e, h => by cases e <;> simp [seqD] at h ⊢ <;> exact h
  | .tup l, e, h => by cases e <;> simp [seqD] at h ⊢; exact seqs_eq _ _ h
  | .key l, e, h => by cases e <;> simp [seqD] at h ⊢; exact seqs_eq _ _ h
  | .lst l, e, h => by cases e <;> simp [seqD] at h ⊢; exact seqs_eq _ _ h
  | .rol l, e, h => by cases e <;> simp [seqD] at h ⊢; exact seqs_eq _ _ h
  | .dct t ks vs, e, h => by cases e <;> simp [seqD] at h ⊢; exact ⟨h.1.1, seqs_eq _ _ h.1.2, seqs_eq _ _ h.2⟩
  | .ins c ns vs, e, h => by cases e <;> simp [seqD] at h ⊢; exact ⟨h.1.1, h.1.2, seqs_eq _ _ h.2⟩
  | .exc c ns vs, e, h => by cases e <;> simp [seqD] at h ⊢; exact ⟨h.1.1, h.1.2, seqs_eq _ _ h.2⟩
  | .cls _, e, h => by cases e <;> simp [seqD] at h ⊢ <;> exact h
  | .fn _, e, h => by cases e <;> simp [seqD] at h ⊢ <;> exact h
  | .obj _, e, h => by cases e <;> simp [seqD] at h ⊢ <;> exact h
  | .clo k l, e, h => by cases e <;> simp [seqD] at h ⊢; exact ⟨h.1, seqo_eq _ _ h.2⟩
theorem seqo_eq : ∀ (l m : List (Option D)), seqo l m = true → l = m
  | [], [], _ => rfl
  | [], _ :: _, h => by simp [seqo] at h
  | none :: _, [], h => by simp [seqo] at h
  | some _ :: _, [], h => by simp [seqo] at h
  | none :: l, none :: m, h => by simp only [seqo] at h; rw [seqo_eq l m h]
  | none :: l, some _ :: m, h => by simp [seqo] at h
  | some _ :: l, none :: m, h => by simp [seqo] at h
  | some a :: l, some b :: m, h => by
    simp only [seqo, Bool.and_eq_true] at h
    rw [seqD_eq a b h.1, seqo_eq l m h.2]
theorem seqs_eq : ∀ (l m : List D), seqs l m = true → l = m
  | [], [], _ => rfl
  | [], _ :: _, h => by simp [seqs] at h
  | _ :: _, [], h => by simp [seqs] at h
  | d :: l, e :: m, h => by
    simp only [seqs, Bool.and_eq_true] at h
    rw [seqD_eq d e h.1, seqs_eq l m h.2]
end
theorem obEq_eq {x y : Ob} (h : obEq x y = true) : x = y := by
  cases x <;> cases y <;> simp [obEq] at h ⊢
  · exact seqs_eq _ _ h
  · exact ⟨h.1.1, seqs_eq _ _ h.1.2, seqs_eq _ _ h.2⟩
  · exact ⟨h.1.1, h.1.2, seqs_eq _ _ h.2⟩

theorem ObRep.notOwn {p q : Addr} {ob : Ob} (h : ObRep T K a H p ob) : H p ≠ some (.own q) := by
  intro e
  cases ob with
  | lst l => obtain ⟨vs, h, _⟩ := h; rw [h] at e; cases e
  | dct t ks vs =>
    obtain ⟨ws, _, _, h⟩ := h
    obtain ⟨o, h, g⟩ := h.there
    rw [h] at e; cases e; exact g _ rfl
  | ins c ns fs => obtain ⟨dx, ws, h, _⟩ := h; rw [h] at e; cases e
theorem ObRep.noTE {p : Addr} {ob : Ob} (h : ObRep T K a H p ob) : ∀ o, H p = some o → (∀ ps, o ≠ .tbl ps) ∧ ∀ φ, o ≠ .ext φ := fun o e => by
  cases ob with
  | lst l => obtain ⟨vs, h, _⟩ := h; rw [h] at e; cases e; exact ⟨fun _ z => by (cases z), fun _ z => by (cases z)⟩
  | dct t ks vs =>
    obtain ⟨ws, _, _, h⟩ := h
    cases t with
    | false => obtain ⟨xs, h, _⟩ := h; rw [h] at e; cases e; exact ⟨fun _ z => by (cases z), fun _ z => by (cases z)⟩
    | true => obtain ⟨xs, h, _⟩ := h; rw [h] at e; cases e; exact ⟨fun _ z => by (cases z), fun _ z => by (cases z)⟩
  | ins c ns fs => obtain ⟨dx, ws, h, _⟩ := h; rw [h] at e; cases e; exact ⟨fun _ z => by (cases z), fun _ z => by (cases z)⟩
/-- the tables, behind a write elsewhere -/
theorem tabs_upd {Tb : List (Addr × Str)} {p : Addr} {o' : HO} (t : LamX.Tabs Tb H) (n : ∀ o, H p = some o → (∀ ps, o ≠ .tbl ps) ∧ ∀ φ, o ≠ .ext φ) : LamX.Tabs Tb (upd H p o') := Tabs.keep t fun b o e z => by
  have hb : b ≠ p := by
    rintro rfl
    rcases z with ⟨ps, rfl⟩ | ⟨φ, rfl⟩
    · exact (n _ e).1 _ rfl
    · exact (n _ e).2 _ rfl
  rw [upd_ne hb]; exact e
/-- an object of the store is written -/
theorem HolM.put (m : HolM T K a μ H) {n : Nat} {p : Addr} {o' : HO} {ob' : Ob} (e : a.α[n]? = some p) (ho' : ObRep T K a (upd H p o') p ob') : HolM T K a (μ.set n ob') (upd H p o') ∧ Stp a H a (upd H p o') := by
  obtain ⟨ob, eo, g, r⟩ := m.at e
  refine ⟨⟨fun x u ex => ?_, by rw [List.length_set]; exact m.len, m.nd, fun k q ob2 e1 e2 => ?_, ow_upd m.ow fun q z => ho'.notOwn (by rw [upd_same, z]), tabs_upd m.tb r.noTE, m.tb2⟩, a.le_refl, fun x ex => ?_, fun x u e1 e2 e3 _ => ?_, fun x o2 ex t => ⟨o2, by
    have hx : x ≠ p := by
      rintro rfl
      rcases t with ⟨ps, rfl⟩ | ⟨φ, rfl⟩
      · exact (r.noTE _ ex).1 _ rfl
      · exact (r.noTE _ ex).2 _ rfl
    rw [upd_ne hx]; exact ex, t⟩⟩
  · have hx : x ≠ p := by rintro rfl; rw [g] at ex; cases ex
    rw [upd_ne hx]; exact m.le _ _ ex
  · by_cases hk : n = k
    · subst hk
      rw [e] at e1
      obtain rfl := Option.some.inj e1
      rw [List.getElem?_set_self (List.getElem?_eq_some_iff.mp eo).1] at e2
      obtain rfl := Option.some.inj e2
      exact ⟨g, ho'⟩
    · rw [List.getElem?_set_ne hk] at e2
      obtain ⟨g2, r2⟩ := m.st k q ob2 e1 e2
      have hq : q ≠ p := by
        rintro rfl
        obtain ⟨l1, m1⟩ := List.getElem?_eq_some_iff.mp e1
        obtain ⟨l2, m2⟩ := List.getElem?_eq_some_iff.mp e
        exact hk ((List.getElem_inj (h₀ := l2) (h₁ := l1) m.nd).mp (by rw [m1, m2]))
      refine ⟨g2, r2.keep a.le_refl (fun x u ex hx => ?_) fun x h _ => h⟩
      have hxp : x ≠ p := by
        rintro rfl
        rcases hx with hx | hx
        · exact hq hx.symm
        · subst hx; exact r.notOwn ex
      rw [upd_ne hxp]; exact ex
  · by_cases hx : x = p
    · subst hx; rw [upd_same] at ex; cases ex
    · rw [upd_ne hx] at ex; exact ex
  · have hx : x ≠ p := fun h => e3 (h ▸ List.mem_of_getElem? e)
    exact ⟨by rw [upd_ne hx]; exact e1, e2, e3⟩
/-- a list of nobody's is written -/
theorem HolM.write (m : HolM T K a μ H) {p : Addr} {o' : HO} (g : a.G p = none) (hp : p ∉ a.α) (no : ∀ q, H p ≠ some (.own q)) (no2 : ∀ o, H p = some o → (∀ ps, o ≠ .tbl ps) ∧ ∀ φ, o ≠ .ext φ) (hw : ∀ q, o' ≠ .own q := by intro q z; cases z) : HolM T K a μ (upd H p o') := by
  refine ⟨fun x u ex => ?_, m.len, m.nd, fun k q ob2 e1 e2 => ?_, ow_upd m.ow hw, tabs_upd m.tb no2, m.tb2⟩
  · have hx : x ≠ p := by rintro rfl; rw [g] at ex; cases ex
    rw [upd_ne hx]; exact m.le _ _ ex
  · obtain ⟨g2, r2⟩ := m.st k q ob2 e1 e2
    have hq : q ≠ p := fun h => hp (h ▸ List.mem_of_getElem? e1)
    refine ⟨g2, r2.keep a.le_refl (fun x u ex hx => ?_) fun x h _ => h⟩
    have hxp : x ≠ p := by
      rintro rfl
      rcases hx with hx | hx
      · exact hq hx.symm
      · subst hx; exact no _ ex
    rw [upd_ne hxp]; exact ex
theorem Stp.write {a0 : Abs} (s : Stp a0 H0 a H) {p : Addr} {o' : HO} (h0 : H0 p = none) : Stp a0 H0 a (upd H p o') := by
  refine ⟨s.le, fun x ex => ?_, fun x u e1 e2 e3 nt => ?_, fun x o2 ex t => let ⟨o1, e1, t1⟩ := s.tl x o2 ex t; ⟨o1, by rw [upd_ne (ne_of_none ex h0)]; exact e1, t1⟩⟩
  · by_cases hx : x = p
    · subst hx; exact h0
    · rw [upd_ne hx] at ex; exact s.dom _ ex
  · obtain ⟨x1, y1, z1⟩ := s.frame x u e1 e2 e3 nt
    have hx : x ≠ p := by rintro rfl; rw [h0] at e1; cases e1
    exact ⟨by rw [upd_ne hx]; exact x1, y1, z1⟩
/-- a list or a dict of nobody's goes into the store -/
theorem HolM.own (m : HolM T K a μ H) {p : Addr} {ob : Ob} (g : a.G p = none) (hp : p ∉ a.α) (r : ObRep T K a H p ob) (hi : ∀ c ns fs, ob ≠ .ins c ns fs) : HolM T K ⟨a.α ++ [p], a.G⟩ (μ ++ [ob]) H ∧ a.le ⟨a.α ++ [p], a.G⟩ := by
  have le : a.le ⟨a.α ++ [p], a.G⟩ := ⟨⟨[p], rfl⟩, fun _ _ h => h⟩
  refine ⟨⟨m.le, by simp [m.len], ?_, fun k q ob2 e1 e2 => ?_, m.ow, m.tb, m.tb2⟩, le⟩
  · show (a.α ++ [p]).Nodup
    rw [List.nodup_append]
    exact ⟨m.nd, by simp, fun x hx y hy => by
      rintro rfl
      have : x = p := by simpa using hy
      exact hp (this ▸ hx)⟩
  · have e1 : (a.α ++ [p])[k]? = some q := e1
    by_cases hk : k < a.α.length
    · rw [List.getElem?_append_left hk] at e1
      rw [List.getElem?_append_left (by rw [m.len]; exact hk)] at e2
      obtain ⟨g2, r2⟩ := m.st k q ob2 e1 e2
      exact ⟨g2, r2.keep le (fun _ _ h _ => h) fun x h _ => h⟩
    · have hk2 : k = a.α.length := by
        have := (List.getElem?_eq_some_iff.mp e1).1
        simp at this; omega
      subst hk2
      rw [List.getElem?_append_right (Nat.le_refl _)] at e1
      rw [List.getElem?_append_right (by rw [m.len]; exact Nat.le_refl _), m.len] at e2
      simp at e1 e2
      subst e1; subst e2
      refine ⟨g, r.keep le (fun _ _ h _ => h) fun x h _ => h⟩
theorem Stp.own {a0 : Abs} (s : Stp a0 H0 a H) {p : Addr} (h0 : H0 p = none) : Stp a0 H0 ⟨a.α ++ [p], a.G⟩ H := by
  refine ⟨s.le.trans ⟨⟨[p], rfl⟩, fun _ _ h => h⟩, s.dom, fun x u e1 e2 e3 nt => ?_, s.tl⟩
  obtain ⟨x1, y1, z1⟩ := s.frame x u e1 e2 e3 nt
  refine ⟨x1, y1, ?_⟩
  have hx : x ≠ p := by rintro rfl; rw [h0] at e1; cases e1
  simp [z1, hx]

theorem getE_set {ρ : Env} {i j : Nat} {d e : D} (h : getE (setE ρ i d) j = some e) : (i = j ∧ j < ρ.length ∧ e = d) ∨ (i ≠ j ∧ getE ρ j = some e) := by
  unfold getE setE at *
  by_cases hij : i = j
  · subst hij
    by_cases hl : i < ρ.length
    · rw [List.getElem?_set_self hl] at h
      exact .inl ⟨rfl, hl, by simpa using h.symm⟩
    · rw [List.getElem?_eq_none (by simpa using hl)] at h
      simp at h
  · rw [List.getElem?_set_ne hij] at h
    exact .inr ⟨hij, h⟩
theorem Hol.set (h : Hol T K a ρ μ σ H) {d : D} {v : V} (r : Rep T K a d v) (i : Nat) : Hol T K a (setE ρ i d) μ (σ.set i (some v)) H := by
  refine ⟨h.m, by unfold setE; rw [List.length_set, List.length_set]; exact h.len, fun j e he => ?_⟩
  rcases getE_set he with ⟨rfl, hl, rfl⟩ | ⟨hij, he⟩
  · exact ⟨v, List.getElem?_set_self (by rw [← h.len]; exact hl), EnvAt.of r⟩
  · obtain ⟨w, e1, r1⟩ := h.env j e he
    exact ⟨w, by rw [List.getElem?_set_ne hij]; exact e1, r1⟩
theorem Hol.wipe (h : Hol T K a ρ μ σ H) : ∀ vs : List Nat, Hol T K a (wipeE ρ vs) μ (L2.wipe σ vs) H
  | [] => h
  | i :: vs => by
    have q := Hol.wipe h vs
    refine ⟨q.m, by simp only [wipeE, L2.wipe, List.length_set]; exact q.len, fun j e he => ?_⟩
    simp only [wipeE, L2.wipe] at he ⊢
    unfold getE at he
    by_cases hij : i = j
    · subst hij
      by_cases hl : i < (wipeE ρ vs).length
      · rw [List.getElem?_set_self hl] at he; simp at he
      · rw [List.getElem?_eq_none (by simpa using hl)] at he; simp at he
    · rw [List.getElem?_set_ne hij] at he ⊢
      exact q.env j e he
theorem Hol.mem (h : Hol T K a ρ μ σ H) {μ' : Mem} {H' : Hp} (m : HolM T K a μ' H') : Hol T K a ρ μ' σ H' := h.to a.le_refl m
/-- a slot forgotten by the small interpreter -/
theorem Hol.drop (h : Hol T K a ρ μ σ H) (i : Nat) : Hol T K a (ρ.set i none) μ σ H := by
  refine ⟨h.m, by rw [List.length_set]; exact h.len, fun j e he => ?_⟩
  unfold getE at he
  by_cases hij : i = j
  · subst hij
    by_cases hl : i < ρ.length
    · rw [List.getElem?_set_self hl] at he; simp at he
    · rw [List.getElem?_eq_none (by simpa using hl)] at he; simp at he
  · rw [List.getElem?_set_ne hij] at he
    exact h.env j e he

theorem any_key {κ : Type} [DecidableEq κ] {f : D → Option κ} {d : D} {k : κ} (hq : ∀ a x, f a = some x → deq a d = decide (x = k)) : ∀ {ks : List D} {ws : List V} {xs : List κ}, ks.mapM f = some xs → ks.length = ws.length → (ks.any fun x => deq x d) = ((xs.zip ws).any fun kv => decide (kv.1 = k))
  | [], ws, xs, h, hl => by rw [mapM_nil h]; simp
  | x :: ks, [], xs, h, hl => by simp at hl
  | x :: ks, w :: ws, xs, h, hl => by
    obtain ⟨y, ys, e1, e2, rfl⟩ := mapM_cons h
    simp only [List.any_cons, List.zip_cons_cons, hq x y e1]
    rw [any_key hq e2 (by simpa using hl)]
theorem dputV_put {κ : Type} [DecidableEq κ] {f : D → Option κ} {d e : D} {k : κ} {w : V} (hq : ∀ a x, f a = some x → deq a d = decide (x = k)) (rw' : Rep T K a e w) : ∀ {ks ds : List D} {ws : List V} {xs : List κ}, ks.mapM f = some xs → ks.length = ws.length → Reps T K a ds ws →
    ∃ ws', ((xs.zip ws).map fun kv => if kv.1 = k then (kv.1, w) else kv) = xs.zip ws' ∧ ks.length = ws'.length ∧ Reps T K a (dputV d e ks ds) ws'
  | [], ds, ws, xs, h, hl, r => by
    rw [mapM_nil h]
    exact ⟨[], by simp, by simp, by simp only [dputV]; exact Reps.nil⟩
  | x :: ks, [], ws, xs, h, hl, r => by rw [r.inv0] at hl; simp at hl
  | x :: ks, c :: ds, ws, xs, h, hl, r => by
    obtain ⟨y, ys, e1, e2, rfl⟩ := mapM_cons h
    obtain ⟨v, vs, rfl, r1, r2⟩ := r.inv
    obtain ⟨ws', h1, h2, h3⟩ := dputV_put (w := w) hq rw' e2 (by simpa using hl) r2
    refine ⟨(if y = k then w else v) :: ws', ?_, by simp [h2], ?_⟩
    · simp only [List.zip_cons_cons, List.map_cons, h1]
      split <;> rfl
    · simp only [dputV, hq x y e1]
      by_cases hk : y = k
      · simp only [hk, decide_true, if_true]; exact Reps.cons rw' h3
      · simp only [hk, decide_false, if_false]; exact Reps.cons r1 h3
theorem dput_put {κ : Type} [DecidableEq κ] {f : D → Option κ} {d e : D} {k : κ} {w : V} (hq : ∀ a x, f a = some x → deq a d = decide (x = k)) (hd : f d = some k) (rw' : Rep T K a e w) {ks ds : List D} {ws : List V} {xs : List κ} (h : ks.mapM f = some xs) (hl : ks.length = ws.length) (r : Reps T K a ds ws) :
    ∃ xs' ws', putK (xs.zip ws) k w = xs'.zip ws' ∧ (dput d e ks ds).1.mapM f = some xs' ∧ (dput d e ks ds).1.length = ws'.length ∧ Reps T K a (dput d e ks ds).2 ws' := by
  unfold putK dput
  rw [any_key hq h hl]
  split
  · obtain ⟨ws', h1, h2, h3⟩ := dputV_put (w := w) hq rw' h hl r
    exact ⟨xs, ws', h1, h, h2, h3⟩
  · refine ⟨xs ++ [k], ws ++ [w], ?_, ?_, by simp [hl], Reps.append r (Reps.cons rw' Reps.nil)⟩
    · rw [List.zip_append (by rw [mapM_len h, hl])]; rfl
    · simp only [List.mapM_append, h, List.mapM_cons, hd, List.mapM_nil, Option.pure_def, Option.bind_eq_bind, Option.bind_some]
theorem reps_keys : ∀ {l : List D} {ks : List Key} {vs : List V}, l.mapM keyS = some ks → Reps T K a l vs → vs = ks.map kV
  | [], ks, vs, h, r => by rw [r.inv0, mapM_nil h]; rfl
  | d :: l, ks, vs, h, r => by
    obtain ⟨x, xs, e1, e2, rfl⟩ := mapM_cons h
    obtain ⟨v, ws, rfl, r1, r2⟩ := r.inv
    rw [reps_keys e2 r2]
    cases d <;> simp only [keyS] at e1 <;> first | (cases e1; done) | skip
    cases e1; simp only [Rep] at r1; rw [r1.1]; rfl
/-- a dict written at a key -/
theorem dput_at {t : Bool} {ks ds : List D} {ws : List V} {p : Addr} {d e : D} {v w : V} (hk : keyOk t d = true) (hd : DcAt H p t ks ws) (hl : ks.length = ws.length) (hz : ks.length < sizeLn) (r : Reps T K a ds ws) (le : ∀ q o, a.G q = some o → H q = some o) (rv : Rep T K a d v) (rw' : Rep T K a e w) :
    ∃ (o' : HO) (ws' : List V), DPut H p v w (upd H p o') ∧ DcAt (upd H p o') p t (dput d e ks ds).1 ws' ∧ (dput d e ks ds).1.length = ws'.length ∧ Reps T K a (dput d e ks ds).2 ws' := by
  cases t with
  | false =>
    obtain ⟨xs, ex, m⟩ := hd
    obtain ⟨k, hk⟩ := keyOk_f hk
    have hv : v = kV k := by
      cases d <;> simp only [toKey] at hk <;> first | (cases hk; done) | skip
      · cases hk; simp only [Rep] at rv; subst rv; rfl
      · cases hk; simp only [Rep] at rv; exact rv.1
    subst hv
    obtain ⟨xs', ws', h1, h2, h3, h4⟩ := dput_put (w := w) (fun b x hb => deq_key hb hk) hk rw' m hl r
    refine ⟨.dK (xs'.zip ws'), ws', ?_, ⟨xs', upd_same, h2⟩, h3, h4⟩
    rw [← h1]
    exact DPut.k ex (by rw [List.length_zip, mapM_len m, ← hl, Nat.min_self, ← sizeLn_eq]; exact hz)
  | true =>
    obtain ⟨xs, ex, m⟩ := hd
    obtain ⟨l, ls, rfl, hn, hk⟩ := keyOk_t hk
    have rv0 := rv
    simp only [Rep] at rv
    obtain ⟨q, us, rfl, tq, ru⟩ := rv
    obtain rfl := reps_keys hk ru
    have tq' : a.G q = some (.tup (ls.map kV)) := tq
    obtain ⟨xs', ws', h1, h2, h3, h4⟩ := dput_put (w := w) (d := .key l) (fun b x hb => deq_keyT hb hk) hk rw' m hl r
    refine ⟨.dT (xs'.zip ws'), ws', ?_, ⟨xs', upd_same, h2⟩, h3, h4⟩
    rw [← h1]
    exact DPut.t ex (le _ _ tq') (by rw [List.length_zip, mapM_len m, ← hl, Nat.min_self, ← sizeLn_eq]; exact hz)
end

def Ts.len : Ts → Nat
  | .n => 0
  | .c _ r => r.len + 1
section
def tG (T : Tab) (n : Nat) (K : PySem.W.Frag) (_ : WX) (t : DI.T) : TG := fun x σ H Q => ∃ a ρ μ d, Hol T K a ρ μ σ H ∧ Rep T K a d x ∧ WpR (asT T.P (T.C n) T.reprS t d ρ μ) (fun ρ' μ' => ∀ b σ' H', Stp a H b H' → Hol T K b ρ' μ' σ' H' → (∀ i, i ∉ t.vars → σ'[i]? = σ[i]?) → σ'.length = σ.length → Q σ' H') (fun _ _ => False)
def tGs (T : Tab) (n : Nat) (K : PySem.W.Frag) (_ : WX) (t : Ts) : TGs := fun xs σ H Q => ∃ a ρ μ ds, Hol T K a ρ μ σ H ∧ Reps T K a ds xs ∧ WpR (asTs T.P (T.C n) T.reprS t ds ρ μ) (fun ρ' μ' => ∀ b σ' H', Stp a H b H' → Hol T K b ρ' μ' σ' H' → (∀ i, i ∉ t.vars → σ'[i]? = σ[i]?) → σ'.length = σ.length → Q σ' H') (fun _ _ => False)
end
section
variable (T : Tab) (n : Nat) (X : Cx) (W : WX)
abbrev SG (x : Expr) (t : DI.T) : Prop := PG X x (tG T n X.K W t)
abbrev SGs (x : List Expr) (t : Ts) : Prop := PGs X x (tGs T n X.K W t)
end
section
variable {T : Tab} {n : Nat} {X : Cx} {W : WX} {pos : Pos}
theorem PG.imp {x : Expr} {t t' : TG} (h : PG X x t) (g : ∀ v σ H Q, t' v σ H Q → t v σ H Q) : PG X x t' := ⟨fun pins s σ H v u Q I r q => h.run pins s σ H v u Q I r (g v σ H Q q)⟩
theorem PGs.imp {x : List Expr} {t t' : TGs} (h : PGs X x t) (g : ∀ v σ H Q, t' v σ H Q → t v σ H Q) : PGs X x t' := ⟨fun pins s σ H v u Q I r q => h.run pins s σ H v u Q I r (g v σ H Q q)⟩
theorem sg_v {i : Nat} {x : Str} (hN : X.N.Nodup) (hi : X.N[i]? = some x) (hx : Loc X.env.scope x) (hf : X.fn x = true ∨ X.env.scope.names.lookup x = some .local) : SG T n X W (.Name x pos) (.v i) := by
  refine PG.imp (pg_name hN hi hx hf) fun v σ H Q q => ?_
  obtain ⟨a, ρ, μ, d, ho, r, q⟩ := q
  simp only [asT] at q
  refine q a _ H (Stp.refl _ _) (ho.set r i) (fun j hj => ?_) (List.length_set ..)
  rw [List.getElem?_set_ne (by intro e; subst e; exact hj (by simp only [DI.T.vars, List.mem_singleton]))]
theorem sgs_nil : SGs T n X W [] .n := by
  refine PGs.imp pgs_nil fun v σ H Q q => ?_
  obtain ⟨a, ρ, μ, ds, ho, r, q⟩ := q
  cases ds with
  | nil =>
    simp only [asTs] at q
    exact ⟨r.inv0, q a σ H (Stp.refl _ _) ho (fun _ _ => rfl) rfl⟩
  | cons d l => simp only [asTs] at q; exact q.elim
theorem sgs_cons {x : Expr} {xs : List Expr} {t : DI.T} {ts : Ts} (h : SG T n X W x t) (hs : SGs T n X W xs ts) (e : (assignEach (x :: xs) X.env).map (·.2) = assign x X.env :: (assignEach xs X.env).map (·.2)) : SGs T n X W (x :: xs) (.c t ts) := by
  refine PGs.imp (pgs_cons h hs e) fun v σ H Q q => ?_
  obtain ⟨a, ρ, μ, ds, ho, r, q⟩ := q
  cases ds with
  | nil => simp only [asTs] at q; exact q.elim
  | cons d l =>
    simp only [asTs] at q
    obtain ⟨w, ws, rfl, r1, r2⟩ := r.inv
    refine ⟨w, ws, rfl, a, ρ, μ, d, ho, r1, q.bind.mono (fun ρ1 μ1 q1 b σ1 H1 le1 ho1 f1 l1 => ?_) fun _ _ k => k⟩
    exact ⟨b, ρ1, μ1, l, ho1, Reps.mono le1.le _ _ r2, q1.mono (fun ρ2 μ2 k c σ2 H2 le2 ho2 f2 l2 => k c σ2 H2 (le1.trans le2) ho2 (fun i hi => by
      simp only [Ts.vars, List.mem_append, not_or] at hi
      rw [f2 i hi.2, f1 i hi.1]) (l2.trans l1)) fun _ _ k => k.elim⟩
theorem asTs_len (P : Prog) (C : Cal) (rs : D → Option Str) : ∀ (ts : Ts) (ds : List D) (ρ : Env) (μ : Mem) {k : Env → Mem → Prop}, WpR (asTs P C rs ts ds ρ μ) k (fun _ _ => False) → ds.length = ts.len
  | .n, [], _, _, _, _ => rfl
  | .n, _ :: _, _, _, _, h => by simp only [asTs] at h; exact h.elim
  | .c _ _, [], _, _, _, h => by simp only [asTs] at h; exact h.elim
  | .c t r, d :: l, ρ, μ, k, h => by
    simp only [asTs] at h
    have q := h.bind
    cases e : asT P C rs t d ρ μ with
    | ok ρ1 μ1 =>
      rw [e] at q
      have := asTs_len P C rs r l ρ1 μ1 q
      simp [Ts.len, this]
    | ex x μ1 => rw [e] at q; exact q.elim
    | no => rw [e] at q; exact q.elim
theorem sg_tup {xs : List Expr} {ts : Ts} {k : Nat} (hc : X.calm = true) (h : SGs T n X W xs ts) (hn : (assignEach xs X.env).length = ts.len) (hst : (assignEach xs X.env).findIdx? (·.1) = none) : SG T n X W (.Tuple xs k pos) (.tup ts) := by
  refine ⟨fun pins s σ H v u Q I rv q => ?_⟩
  obtain ⟨a, ρ, μ, d, ho, r, q⟩ := q
  simp only [asT] at q
  split at q
  · rename_i l
    simp only [Rep] at r
    obtain ⟨p, vs, rfl, sq, r⟩ := r
    have hl := asTs_len _ _ _ _ _ _ _ q
    exact (pg_tup (pos := pos) (k := k) hc h hn hst).run pins s σ H _ u Q I rv ⟨p, vs, rfl, SqT.up ho.m.le sq.sq, by rw [← r.length]; exact hl, a, ρ, μ, l, ho, r, q⟩
  · rename_i l
    simp only [Rep] at r
    obtain ⟨p, vs, rfl, sq, r⟩ := r
    have hl := asTs_len _ _ _ _ _ _ _ q
    exact (pg_tup (pos := pos) (k := k) hc h hn hst).run pins s σ H _ u Q I rv ⟨p, vs, rfl, .inl (.inl (ho.m.le _ _ sq)), by rw [← r.length]; exact hl, a, ρ, μ, l, ho, r, q⟩
  · rename_i l
    simp only [Rep] at r
    obtain ⟨p, vs, rfl, sq, r⟩ := r
    have hl := asTs_len _ _ _ _ _ _ _ q
    exact (pg_lst (pos := pos) (k := k) hc h hn hst).run pins s σ H _ u Q I rv ⟨p, vs, rfl, SqL.of (ho.m.le _ _ sq), by rw [← r.length]; exact hl, a, ρ, μ, l, ho, r, q⟩
  · exact q.elim
/-- o[i] = v of an instance with an own __setitem__ -/
def SetOwn (T : Tab) (n : Nat) (X : Cx) : Prop := PSet X (fun o i v H Q => ∃ a μ x y z c ns fs f, HolM T X.K a μ H ∧ Rep T X.K a x o ∧ Rep T X.K a y i ∧ Rep T X.K a z v ∧ rd μ x = .ins c ns fs ∧ specOf T.P c 7 = some f ∧
  WpR (calF T.P (T.C n) f [x, y, z] [] [] μ) (fun _ μ' => ∀ b H', Stp a H b H' → HolM T X.K b μ' H' → Q H') (fun _ _ => False))
theorem set_any (hu : X.A.units + 1 < cLine) (hS : SetOwn T n X) : PSet X (fun o i v H Q => ∃ a μ x y z, HolM T X.K a μ H ∧ Rep T X.K a x o ∧ Rep T X.K a y i ∧ Rep T X.K a z v ∧
    WpR (setV T.P (T.C n) μ x y z) (fun _ μ' => ∀ b H', Stp a H b H' → HolM T X.K b μ' H' → Q H') (fun _ _ => False)) := by
  intro pins s σ H o i v ov iv u Q I ro ri rv h
  obtain ⟨a, μ, x, y, z, m, rx, ry, rz, q⟩ := h
  have rx0 := rx
  unfold setV at q
  split at q
  · rename_i n'
    simp only [Rep] at rx
    obtain ⟨p, ep, rfl⟩ := rx
    obtain ⟨ob, eo, g, ob_r⟩ := m.at ep
    split at q
    · rename_i l eo2
      rw [eo2] at eo; cases eo
      obtain ⟨vs, hp, rl⟩ := ob_r
      split at q
      · rename_i k
        split at q
        · rename_i j hj
          have ey : i = .int k := by simpa only [Rep] using ry
          refine set_list pins s σ H _ i v ov iv u Q I ro ri rv ⟨p, vs, k, j, rfl, ey, hp, by rw [← atPl_ix, ← rl.length]; exact hj, ?_⟩
          obtain ⟨m2, st⟩ := m.put (o' := .lst (vs.set j v)) (ob' := .lst (l.set j z)) ep ⟨_, upd_same, Reps.set j rl rz⟩
          exact q a _ st m2
        · exact q.elim
      · exact q.elim
    · rename_i t ks vs eo2
      rw [eo2] at eo; cases eo
      obtain ⟨ws, rl, hl, hd⟩ := ob_r
      split at q
      · rename_i hk
        simp only [Bool.and_eq_true, decide_eq_true_eq] at hk
        obtain ⟨o', ws', d1, d2, d3, d4⟩ := dput_at hk.1 hd hl hk.2 rl m.le ry rz
        obtain ⟨m2, st⟩ := m.put (o' := o') (ob' := .dct t (dput y z ks vs).1 (dput y z ks vs).2) ep ⟨ws', d4, d3, d2⟩
        exact set_dict hu pins s σ H _ i v ov iv u Q I ro ri rv ⟨p, _, rfl, d1, q a _ st m2⟩
      · exact q.elim
    · rename_i c ns fs eo2
      rw [eo2] at eo; cases eo
      split at q
      · rename_i f hf
        exact hS pins s σ H _ i v ov iv u Q I ro ri rv ⟨a, μ, .obj n', y, z, c, ns, fs, f, m, rx0, ry, rz, by simp only [rd, eo2], hf, q.bind.mono (fun d μ1 q1 b H' st m' => q1 b H' st m') fun _ _ z => z⟩
      · exact q.elim
    · exact q.elim
  · exact q.elim
theorem sg_ix {x y : Expr} {o i : E} (hu : X.A.units + 1 < cLine) (hS : SetOwn T n X) (ho : SE T n X W x o) (hi : SE T n X W y i) (ha : ∀ v, assign (.Subscript x y pos) X.env v = (do
      let ov ← holding [v] (eval x X.env)
      let iv ← holding [v, ov] (eval y X.env)
      standAt pos
      holding [v, ov, iv] (setItem ov iv v)
      release [v, ov, iv] [])) : SG T n X W (.Subscript x y pos) (.ix o i) := by
  refine PG.imp (pg_sub ho hi (set_any (T := T) hu hS) ha) fun v σ H Q q => ?_
  obtain ⟨a, ρ, μ, d, hol, r, q⟩ := q
  simp only [asT] at q
  refine ⟨a, ρ, μ, hol, q.bind.mono (fun d1 μ1 q1 b w H1 le1 ho1 r1 => ?_) fun _ _ k => k.elim⟩
  refine ⟨b, ρ, μ1, ho1, q1.bind.mono (fun d2 μ2 q2 c u H2 le2 ho2 r2 => ?_) fun _ _ k => k.elim⟩
  refine ⟨c, μ2, d1, d2, d, ho2.m, Rep.mono le2.le _ _ r1, r2, Rep.mono (le1.trans le2).le _ _ r, ?_⟩
  exact q2.bind.mono (fun _ μ3 q3 b' H' st m' => q3 b' σ H' (le1.trans (le2.trans st)) (ho2.to st.le m') (fun _ _ => rfl) rfl) fun _ _ k => k.elim
end
end DI
end

section
set_option Elab.async false
set_option linter.all false
set_option maxRecDepth 100000
namespace DI
open PySem L2 PySem.Spec PyProof.Rows
section
variable {X : Cx} {tg : Expr}
def iSeq (K : PySem.W.Frag) (te : TE) : TI := fun σ H R => te σ H fun x H1 => (∃ a xs, x = .ref a ∧ SqL K H1 a xs ∧ R (Itl K a) H1) ∨ (∃ a xs, x = .ref a ∧ SqT K H1 a xs ∧ R (Itt K a) H1) ∨ ∃ s, x = .str s ∧ R (Its s) H1
theorem pi_seq {l : Expr} {tl : TE} (hl : PE X l tl) : PI X tg l (iSeq X.K tl) := by
  refine ⟨fun pins s σ H R I h => ?_⟩
  refine thn (hl.run pins s σ H _ I h) fun v s1 ⟨x, H1, I1, r1, q1⟩ => ?_
  rcases q1 with ⟨a, xs, e, hq, q⟩ | ⟨a, xs, e, hq, q⟩ | ⟨z, e, q⟩
  · subst e
    cases r1
    obtain ⟨its, rv, p, hz⟩ := I1.list hq
    refine wpAny_pyIter_list p.isList ?_
    refine ⟨s1.heap.objs.size, [s1.heap.objs.size], _, _, H1, rfl, I1.kept (t' := s1.toks) fun b o e => Heap.get?_push_of_some _ e, turn_list a _, ⟨_, Heap.get?_push_size _ rfl, rfl, rfl⟩, fun b hb => ?_, q⟩
    have e : b = s1.heap.objs.size := by simpa using hb
    subst e
    exact I1.fpOk (Nat.le_refl _) (I1.hok.fresh (Nat.le_refl _))
  · subst e
    cases r1
    obtain ⟨its, rv, p, hz⟩ := I1.tuple hq
    refine wpAny_pyIter_tuple (show s1.heap.IsTuple a its.toArray from p) ?_
    refine ⟨s1.heap.objs.size, [s1.heap.objs.size], _, _, H1, rfl, I1.kept (t' := s1.toks) fun b o e => Heap.get?_push_of_some _ e, turn_tuple a _, ⟨_, Heap.get?_push_size _ rfl, rfl, rfl⟩, fun b hb => ?_, q⟩
    have e : b = s1.heap.objs.size := by simpa using hb
    subst e
    exact I1.fpOk (Nat.le_refl _) (I1.hok.fresh (Nat.le_refl _))
  · subst e
    obtain ⟨t, rfl⟩ := r1
    cases ha : z.cps.all (· < 128)
    · exact wpAny_pyIter_wide ha (pi_one (tk := s1.toks) I1 _ (turn_str _ z t "str_iterator" (.inr rfl)) ⟨_, Heap.get?_push_size _ rfl, rfl, rfl⟩ q)
    · exact wpAny_pyIter_ascii ha (pi_one (tk := s1.toks) I1 _ (turn_str _ z t "str_ascii_iterator" (.inl rfl)) ⟨_, Heap.get?_push_size _ rfl, rfl, rfl⟩ q)
end
/-- the iterator J gives the items, as long as the source is as it was -/
def Walks (T : Tab) (K : PySem.W.Frag) (a : Abs) (src : Option (Nat × Ob)) (items : List D) (J : L2.It) : Prop :=
  ∀ b μ H, a.le b → HolM T K b μ H → srcOk src μ = true → (∀ i d, items[i]? = some d → J.go i H ∧ ∀ x H', J.yld i H x H' → ∃ c, Stp b H c H' ∧ HolM T K c μ H' ∧ Rep T K c d x) ∧ J.stop items.length H
section
variable (T : Tab) (n : Nat) (K : PySem.W.Frag) (W : WX)
def tI (it : DI.It) : TI := fun σ H R => ∃ a ρ μ, Hol T K a ρ μ σ H ∧ WpR (evIt T.P (T.C n) T.reprS it ρ μ) (fun p μ' => ∀ b J H', Stp a H b H' → Hol T K b ρ μ' σ H' → Walks T K b p.1 p.2 J → R J H') (Kx T K a H ρ σ W)
end
abbrev SI (T : Tab) (n : Nat) (X : Cx) (W : WX) (tg x : Expr) (it : DI.It) : Prop := PI X tg x (tI T n X.K W it)
def Es.len : Es → Nat
  | .n => 0
  | .c _ r => r.len + 1
theorem evEs_len {P : Prog} {C : Cal} {rs : D → Option Str} : ∀ {es : Es} {ρ : Env} {μ : Mem} {k : List D → Mem → Prop} {kx : D → Mem → Prop}, WpR (evEs P C rs es ρ μ) k kx → WpR (evEs P C rs es ρ μ) (fun l μ => l.length = es.len ∧ k l μ) kx
  | .n, ρ, μ, k, kx, h => by simp only [evEs] at h ⊢; exact ⟨rfl, h⟩
  | .c e r, ρ, μ, k, kx, h => by
    simp only [evEs] at h ⊢
    cases e1 : evE P C rs e ρ μ with
    | no => rw [e1] at h; exact h.elim
    | ex x μ1 => rw [e1] at h; exact h
    | ok d μ1 =>
      rw [e1] at h
      simp only [R.bind_ok] at h ⊢
      have q := evEs_len h.bind
      cases e2 : evEs P C rs r ρ μ1 with
      | no => rw [e2] at h; exact h.elim
      | ex x μ2 => rw [e2] at h; exact h
      | ok l μ2 =>
        rw [e2] at q
        exact ⟨by simp [Es.len, q.1], q.2⟩
section
variable {T : Tab} {n : Nat} {X : Cx} {W : WX} {pos : Pos} {tg : Expr} {a : Abs} {μ : Mem} {H : Hp}
theorem PI.imp {x : Expr} {t t' : TI} (h : PI X tg x t) (g : ∀ σ H Q, t' σ H Q → t σ H Q) : PI X tg x t' := ⟨fun pins s σ H R I q => h.run pins s σ H R I (g σ H R q)⟩
/-- the source read, as long as it stays -/
theorem src_lst {d : D} {v : V} {src : Option (Nat × Ob)} {l : List D} {p : Addr} (r : Rep T X.K a d v) (hv : v = .ref p)
    (h : (d = .lst l ∧ src = none) ∨ (d = .rol l ∧ src = none) ∨ ∃ k, d = .obj k ∧ src = some (k, .lst l)) {b : Abs} {μ : Mem} {H : Hp} (le : a.le b) (m : HolM T X.K b μ H) (ok : srcOk src μ = true) : ∃ vs, SqL X.K H p vs ∧ Reps T X.K b l vs := by
  subst hv
  rcases h with ⟨rfl, rfl⟩ | ⟨rfl, rfl⟩ | ⟨k, rfl, rfl⟩
  · simp only [Rep] at r
    obtain ⟨q, vs, e, s, r⟩ := r
    cases e
    exact ⟨vs, SqL.of (m.le _ _ (le.fr _ _ s)), Reps.mono le _ _ r⟩
  · simp only [Rep] at r
    obtain ⟨q, vs, e, s, r⟩ := r
    cases e
    exact ⟨vs, SqL.up m.le (SqL.mono le s), Reps.mono le _ _ r⟩
  · simp only [Rep] at r
    obtain ⟨q, ep, e⟩ := r
    cases e
    obtain ⟨ob, eo, g, rr⟩ := m.at (le.at ep)
    simp only [srcOk, eo] at ok
    have := obEq_eq ok
    subst this
    obtain ⟨vs, h1, h2⟩ := rr
    exact ⟨vs, SqL.of h1, h2⟩
theorem walks_list {src : Option (Nat × Ob)} {l : List D} {p : Addr} (h : ∀ b μ H, a.le b → HolM T X.K b μ H → srcOk src μ = true → ∃ vs, SqL X.K H p vs ∧ Reps T X.K b l vs) : Walks T X.K a src l (Itl X.K p) := by
  intro b μ H le m ok
  obtain ⟨vs, hs, r⟩ := h b μ H le m ok
  refine ⟨fun i d e => ?_, vs, hs, by rw [r.length]; exact Nat.le_refl _⟩
  obtain ⟨v, ev, rv⟩ := r.get e
  refine ⟨⟨vs, v, hs, ev⟩, fun x H' y => ?_⟩
  obtain ⟨rfl, y⟩ := y
  have := y vs hs
  rw [ev] at this; cases this
  exact ⟨b, Stp.refl _ _, m, rv⟩
theorem walks_tup {l : List D} {p : Addr} {vs : List V} (s : SqT X.K a.G p vs) (r : Reps T X.K a l vs) : Walks T X.K a none l (Itt X.K p) := by
  intro b μ H le m _
  have s2 : SqT X.K H p vs := SqT.up m.le (SqT.mono le s)
  have r2 := Reps.mono le _ _ r
  refine ⟨fun i d e => ?_, vs, s2, by rw [r2.length]; exact Nat.le_refl _⟩
  obtain ⟨v, ev, rv⟩ := r2.get e
  refine ⟨⟨vs, v, s2, ev⟩, fun x H' y => ?_⟩
  obtain ⟨rfl, y⟩ := y
  have := y vs s2
  rw [ev] at this; cases this
  exact ⟨b, Stp.refl _ _, m, rv⟩
theorem si_seq {x : Expr} {e : E} (h : SE T n X W x e) : SI T n X W tg x (.e e) := by
  refine PI.imp (pi_seq h) fun σ H R q => ?_
  obtain ⟨a, ρ, μ, ho, q⟩ := q
  simp only [evIt] at q
  refine ⟨a, ρ, μ, ho, q.bind.mono (fun d μ1 q1 b v H1 le1 ho1 r1 => ?_) fun _ _ k => k⟩
  obtain ⟨p, e1, k⟩ := q1.of
  have k := k b
  unfold itV at e1
  split at e1
  · rename_i l
    cases e1
    simp only [Rep] at r1
    obtain ⟨p, vs, rfl, s, r⟩ := r1
    exact .inr (.inl ⟨p, vs, rfl, SqT.up ho1.m.le s.sq, k _ H1 le1 ho1 (walks_tup s.sq r)⟩)
  · rename_i l
    cases e1
    have r0 := r1
    simp only [Rep] at r1
    obtain ⟨p, vs, rfl, s, r⟩ := r1
    exact .inl ⟨p, vs, rfl, SqL.of (ho1.m.le _ _ s), k _ H1 le1 ho1 (walks_list fun c μ H le m ok => src_lst r0 rfl (.inl ⟨rfl, rfl⟩) le m ok)⟩
  · rename_i l
    cases e1
    have r0 := r1
    simp only [Rep] at r1
    obtain ⟨p, vs, rfl, s, r⟩ := r1
    exact .inl ⟨p, vs, rfl, SqL.up ho1.m.le s, k _ H1 le1 ho1 (walks_list fun c μ H le m ok => src_lst r0 rfl (.inr (.inl ⟨rfl, rfl⟩)) le m ok)⟩
  · rename_i z
    cases e1
    simp only [Rep] at r1
    obtain ⟨rfl, g⟩ := r1
    refine .inr (.inr ⟨z, rfl, k _ H1 le1 ho1 fun c μ H le m ok => ⟨fun i d e => ?_, ?_⟩⟩)
    · simp only [List.getElem?_map, Option.map_eq_some_iff] at e
      obtain ⟨u, eu, rfl⟩ := e
      have eu : z.cps[i]? = some u := by simpa [sL] using eu
      refine ⟨(Array.getElem?_eq_some_iff.mp eu).1, fun x H' y => ?_⟩
      obtain ⟨rfl, w, ew, rfl⟩ := y
      rw [eu] at ew; cases ew
      refine ⟨c, Stp.refl _ _, m, ?_⟩
      simp only [Rep]
      exact ⟨rfl, strG.of (strOk_mem (strG.ok g) (by simp only [sL]; exact Array.mem_toList_iff.mpr (Array.mem_of_getElem? eu))) (by show 1 ≤ sizeLn; decide)⟩
    · show z.cps.size ≤ _
      simp [sL]
  · rename_i k2
    split at e1
    · rename_i l eo
      cases e1
      have r0 := r1
      simp only [Rep] at r1
      obtain ⟨p, ep, rfl⟩ := r1
      obtain ⟨ob, eo2, g, rr⟩ := ho1.m.at ep
      rw [eo] at eo2; cases eo2
      obtain ⟨vs, h1, h2⟩ := rr
      exact .inl ⟨p, vs, rfl, SqL.of h1, k _ H1 le1 ho1 (walks_list fun c μ H le m ok => src_lst r0 rfl (.inr (.inr ⟨k2, rfl, rfl⟩)) le m ok)⟩
    · cases e1
  · cases e1
theorem walks_rng {lo : Int} {m : Nat} : Walks T X.K a none ((List.range m).map fun (k : Nat) => .int (lo + k)) (Itr lo m) := by
  intro b μ H le hm _
  refine ⟨fun i d e => ?_, by show m ≤ _; simp⟩
  simp only [List.getElem?_map, Option.map_eq_some_iff] at e
  obtain ⟨k, ek, rfl⟩ := e
  obtain ⟨hk, rfl⟩ := List.getElem?_eq_some_iff.mp ek
  have hk : i < m := by simpa using hk
  refine ⟨hk, fun x H' y => ?_⟩
  obtain ⟨rfl, rfl⟩ := y
  exact ⟨b, Stp.refl _ _, hm, by simp only [Rep, List.getElem_range]⟩
theorem rep_ints1 {d : D} {vs : List V} {i : Int} (r : Reps T X.K a [.int i] vs) : vs = [.int i] := by
  obtain ⟨v, ws, rfl, r1, r2⟩ := r.inv
  rw [r2.inv0, show v = .int i by simpa only [Rep] using r1]
theorem si_rng1 {x : Expr} {es : Es} {p : Pos} (hg : Gl X "range") (hm : X.mg "range" = none) (h : SA T n X W [x] es) (hs : starEach [x] X.env = [(false, eval x X.env)]) (hl : es.len = 1) : SI T n X W tg (.Call (.Name "range" p) [x] [] pos) (.rng es) := by
  refine PI.imp (pi_range1 hg hm h hs) fun σ H R q => ?_
  obtain ⟨a, ρ, μ, ho, q⟩ := q
  simp only [evIt] at q
  refine ⟨a, ρ, μ, ho, (evEs_len q.bind).mono (fun l μ1 ⟨q0, q1⟩ b vs H1 le1 ho1 r1 => ?_) fun _ _ k => k⟩
  rw [hl] at q0
  obtain ⟨z, e1, k⟩ := q1.of
  obtain ⟨w, e2, rfl⟩ := Option.map_eq_some_iff.mp e1
  have k := k b
  unfold rngV at e2
  split at e2
  · rename_i j _
    split at e2
    · rename_i hj
      cases e2
      refine ⟨j, rep_ints1 (d := .non) r1, by omega, by omega, k _ H1 le1 ho1 ?_⟩
      have := walks_rng (T := T) (X := X) (a := b) (lo := 0) (m := j.toNat)
      simpa using this
    · cases e2
  · simp at q0
  · simp at q0
  · cases e2
theorem enuL_get : ∀ (l : List D) (k i : Nat) (d : D), (enuL k l)[i]? = some d → ∃ e, l[i]? = some e ∧ d = .key [.int ((k + i : Nat) : Int), e]
  | [], k, i, d, h => by simp [enuL] at h
  | a :: l, k, 0, d, h => by
    simp only [enuL, List.getElem?_cons_zero, Option.some.injEq] at h
    exact ⟨a, by simp, h.symm⟩
  | a :: l, k, i + 1, d, h => by
    simp only [enuL, List.getElem?_cons_succ] at h
    obtain ⟨e, e1, e2⟩ := enuL_get l (k + 1) i d h
    exact ⟨e, by simpa using e1, by rw [e2]; congr 4; omega⟩
theorem enuL_len : ∀ (l : List D) (k : Nat), (enuL k l).length = l.length
  | [], k => rfl
  | a :: l, k => by simp [enuL, enuL_len l (k + 1)]
theorem new_pair {b : Abs} {μ : Mem} {H : Hp} {d e : D} {v w : V} {p : Addr} (m : HolM T X.K b μ H) (hp : H p = none) (r1 : Rep T X.K b d v) (r2 : Rep T X.K b e w) :
    ∃ c, Stp b H c (upd H p (.tup [v, w])) ∧ HolM T X.K c μ (upd H p (.tup [v, w])) ∧ Rep T X.K c (.key [d, e]) (.ref p) := fresh_key m hp (Reps.cons r1 (Reps.cons r2 Reps.nil))
theorem walks_enuL {src : Option (Nat × Ob)} {l : List D} {p : Addr} (h : ∀ b μ H, a.le b → HolM T X.K b μ H → srcOk src μ = true → ∃ vs, SqL X.K H p vs ∧ Reps T X.K b l vs) : Walks T X.K a src (enuL 0 l) (Ite X.K p) := by
  intro b μ H le m ok
  obtain ⟨vs, hs, r⟩ := h b μ H le m ok
  refine ⟨fun i d e => ?_, vs, hs, by rw [enuL_len, r.length]; exact Nat.le_refl _⟩
  obtain ⟨e', e1, rfl⟩ := enuL_get _ _ _ _ e
  obtain ⟨v, ev, rv⟩ := r.get e1
  refine ⟨⟨vs, v, hs, ev⟩, fun x H' y => ?_⟩
  obtain ⟨q, u, rfl, hq, rfl, y⟩ := y
  have := y vs hs
  rw [ev] at this; cases this
  exact new_pair m hq (by simp only [Rep]; congr 1; omega) rv
theorem walks_enuT {l : List D} {p : Addr} {vs : List V} (s : SqT X.K a.G p vs) (r : Reps T X.K a l vs) : Walks T X.K a none (enuL 0 l) (IteT X.K p) := by
  intro b μ H le m _
  have s2 : SqT X.K H p vs := SqT.up m.le (SqT.mono le s)
  have r2 := Reps.mono le _ _ r
  refine ⟨fun i d e => ?_, vs, s2, by rw [enuL_len, r2.length]; exact Nat.le_refl _⟩
  obtain ⟨e', e1, rfl⟩ := enuL_get _ _ _ _ e
  obtain ⟨v, ev, rv⟩ := r2.get e1
  refine ⟨⟨vs, v, s2, ev⟩, fun x H' y => ?_⟩
  obtain ⟨q, u, rfl, hq, rfl, y⟩ := y
  have := y vs s2
  rw [ev] at this; cases this
  exact new_pair m hq (by simp only [Rep]; congr 1; omega) rv
theorem si_enu {x : Expr} {e : E} {p tpos : Pos} {elts : List Expr} {kk : Nat} (hg : Gl X "enumerate") (hm : X.mg "enumerate" = none) (h : SE T n X W x e) (hs : starEach [x] X.env = [(false, eval x X.env)]) : SI T n X W (.Tuple elts kk tpos) (.Call (.Name "enumerate" p) [x] [] pos) (.enu e) := by
  refine PI.imp (pi_enumA hg hm (pa_cons h pa_nil (by rw [hs]; rfl)) hs) fun σ H R q => ?_
  obtain ⟨a, ρ, μ, ho, q⟩ := q
  simp only [evIt] at q
  refine ⟨a, ρ, μ, ho, q.bind.mono (fun d μ1 q1 b v H1 le1 ho1 r1 => ?_) fun _ _ k => k⟩
  obtain ⟨z, e1, k⟩ := q1.of
  have k := k b
  split at e1
  · cases e1
  · rename_i hstr
    obtain ⟨w, e2, rfl⟩ := Option.map_eq_some_iff.mp e1
    unfold itV at e2
    split at e2
    · rename_i l
      cases e2
      simp only [Rep] at r1
      obtain ⟨p, vs, rfl, s, r⟩ := r1
      exact ⟨p, vs, rfl, .inr ⟨SqT.up ho1.m.le s.sq, k _ H1 le1 ho1 (walks_enuT s.sq r)⟩⟩
    · rename_i l
      cases e2
      have r0 := r1
      simp only [Rep] at r1
      obtain ⟨p, vs, rfl, s, r⟩ := r1
      exact ⟨p, vs, rfl, .inl ⟨SqL.of (ho1.m.le _ _ s), k _ H1 le1 ho1 (walks_enuL fun c μ H le m ok => src_lst r0 rfl (.inl ⟨rfl, rfl⟩) le m ok)⟩⟩
    · rename_i l
      cases e2
      have r0 := r1
      simp only [Rep] at r1
      obtain ⟨p, vs, rfl, s, r⟩ := r1
      exact ⟨p, vs, rfl, .inl ⟨SqL.up ho1.m.le s, k _ H1 le1 ho1 (walks_enuL fun c μ H le m ok => src_lst r0 rfl (.inr (.inl ⟨rfl, rfl⟩)) le m ok)⟩⟩
    · exact absurd rfl (hstr _)
    · rename_i k2
      split at e2
      · rename_i l eo
        cases e2
        have r0 := r1
        simp only [Rep] at r1
        obtain ⟨p, ep, rfl⟩ := r1
        obtain ⟨ob, eo2, g, rr⟩ := ho1.m.at ep
        rw [eo] at eo2; cases eo2
        obtain ⟨vs, h1, h2⟩ := rr
        exact ⟨p, vs, rfl, .inl ⟨SqL.of h1, k _ H1 le1 ho1 (walks_enuL fun c μ H le m ok => src_lst r0 rfl (.inr (.inr ⟨k2, rfl, rfl⟩)) le m ok)⟩⟩
      · cases e2
    · cases e2
end
end DI
end

section
set_option Elab.async false
set_option linter.all false
set_option maxRecDepth 100000
namespace DI
open PySem L2 PySem.Spec PyProof.Rows
def KxS (T : Tab) (K : PySem.W.Frag) (a : Abs) (H : Hp) (W : WX) : D → Env → Mem → Prop := fun x ρ μ => ∃ c ns vs, x = .exc c ns vs ∧
  ∀ b dd ws σ' H', Stp a H b H' → Hol T K b ρ μ σ' H' → Reps T K b vs ws → ns.length = ws.length → XdAt T b.G ns ws dd → W (.ref (T.ca c)) dd σ' H'
section
variable (T : Tab) (n : Nat) (K : PySem.W.Frag) (W : WX)
def Kn (a : Abs) (H : Hp) (D : Ends) : Env → Mem → Prop := fun ρ' μ' => ∀ b σ' H', Stp a H b H' → Hol T K b ρ' μ' σ' H' → D.nx σ' H'
def Kr (a : Abs) (H : Hp) (D : Ends) : DI.D → Mem → Prop := fun d μ' => ∀ b v H', Stp a H b H' → HolM T K b μ' H' → Rep T K b d v → D.rt v H'
def tS (s : S) : TS := fun D σ H => ∃ a ρ μ, Hol T K a ρ μ σ H ∧ WpS (evS T.P (T.C n) T.reprS s ρ μ) (Kn T K a H D) (Kr T K a H D) (KxS T K a H W)
def tSs (s : Ss) : TS := fun D σ H => ∃ a ρ μ, Hol T K a ρ μ σ H ∧ WpS (evSs T.P (T.C n) T.reprS s ρ μ) (Kn T K a H D) (Kr T K a H D) (KxS T K a H W)
end
abbrev SS (T : Tab) (n : Nat) (X : Cx) (W : WX) (x : Stmt) (s : S) : Prop := PS X x (tS T n X.K W s)
abbrev SSs (T : Tab) (n : Nat) (X : Cx) (W : WX) (x : List Stmt) (s : Ss) : Prop := PSs X x (tSs T n X.K W s)
section
variable {T : Tab} {n : Nat} {X : Cx} {W : WX} {pos : Pos} {a b : Abs} {H H' : Hp} {D : Ends} {K : PySem.W.Frag} {ρ : Env} {μ : Mem} {d : DI.D}
theorem PS.imp {x : Stmt} {t t' : TS} (h : PS X x t) (g : ∀ D σ H, t' D σ H → t D σ H) : PS X x t' := ⟨fun pins s σ H D I q => h.run pins s σ H D I (g D σ H q)⟩
theorem PSs.imp {x : List Stmt} {t t' : TS} (h : PSs X x t) (g : ∀ D σ H, t' D σ H → t D σ H) : PSs X x t' := ⟨fun pins s σ H D I q => h.run pins s σ H D I (g D σ H q)⟩
theorem Kn.mono (s : Stp a H b H') (k : Kn T K a H D ρ μ) : Kn T K b H' D ρ μ := fun c σ H2 st ho => k c σ H2 (s.trans st) ho
theorem Kr.mono (s : Stp a H b H') (k : Kr T K a H D d μ) : Kr T K b H' D d μ := fun c v H2 st ho r => k c v H2 (s.trans st) ho r
theorem KxS.mono (s : Stp a H b H') (k : KxS T K a H W d ρ μ) : KxS T K b H' W d ρ μ := by
  obtain ⟨c, ns, vs, e, k⟩ := k
  exact ⟨c, ns, vs, e, fun b dd ws σ' H2 st ho rv hl hd => k b dd ws σ' H2 (s.trans st) ho rv hl hd⟩
theorem KxS.kx {σ : L2.St} (k : KxS T K a H W d ρ μ) : Kx T K a H ρ σ W d μ := by
  obtain ⟨c, ns, vs, e, k⟩ := k
  exact ⟨c, ns, vs, e, fun b dd ws H2 st ho rv hl hd => k b dd ws σ H2 st ho rv hl hd⟩
theorem WpS.up {r : SR} (s : Stp a H b H') (h : WpS r (Kn T K a H D) (Kr T K a H D) (KxS T K a H W)) : WpS r (Kn T K b H' D) (Kr T K b H' D) (KxS T K b H' W) := h.mono (fun _ _ k => k.mono s) (fun _ _ k => k.mono s) fun _ _ _ k => k.mono s
theorem sss_nil : SSs T n X W [] .n := by
  refine PSs.imp pss_nil fun D σ H q => ?_
  obtain ⟨a, ρ, μ, ho, q⟩ := q
  simp only [evSs] at q
  exact q a σ H (Stp.refl _ _) ho
theorem sss_cons {x : Stmt} {xs : List Stmt} {s : S} {ss : Ss} (h : SS T n X W x s) (hs : SSs T n X W xs ss) : SSs T n X W (x :: xs) (.c s ss) := by
  refine PSs.imp (pss_cons h hs) fun D σ H q => ?_
  obtain ⟨a, ρ, μ, ho, q⟩ := q
  simp only [evSs] at q
  refine ⟨a, ρ, μ, ho, q.seq.mono (fun ρ1 μ1 q1 b σ1 H1 st ho1 => ?_) (fun _ _ k => k) fun _ _ _ k => k⟩
  exact ⟨b, ρ1, μ1, ho1, q1.up st⟩
theorem ss_ex {x : Expr} {e : E} (h : SE T n X W x e) (hs : swapsWith x none pos.line X.env = pure false) : SS T n X W (.Expr x pos) (.ex e) := by
  refine PS.imp (ps_expr h hs) fun D σ H q => ?_
  obtain ⟨a, ρ, μ, ho, q⟩ := q
  simp only [evS] at q
  exact ⟨a, ρ, μ, ho, q.seR.mono (fun d μ1 k b v H1 st ho1 r => k b σ H1 st ho1) fun _ _ k => k.kx⟩
theorem ss_ret {x : Expr} {e : E} (h : SE T n X W x e) : SS T n X W (.Return (some x) pos) (.ret e) := by
  refine PS.imp (ps_ret h) fun D σ H q => ?_
  obtain ⟨a, ρ, μ, ho, q⟩ := q
  simp only [evS] at q
  exact ⟨a, ρ, μ, ho, q.seR.mono (fun d μ1 k b v H1 st ho1 r => k b v H1 st ho1.m r) fun _ _ k => k.kx⟩
theorem ss_if {c : Expr} {e : E} {x y : List Stmt} {s t : Ss} (hc : ST T n X W c e) (h1 : SSs T n X W x s) (h2 : SSs T n X W y t) : SS T n X W (.If c x y pos) (.ite e s t) := by
  refine PS.imp (ps_if hc h1 h2) fun D σ H q => ?_
  obtain ⟨a, ρ, μ, ho, q⟩ := q
  simp only [evS] at q
  refine ⟨a, ρ, μ, ho, q.seR.mono (fun d μ1 q1 => ?_) fun _ _ k => k.kx⟩
  split at q1
  · rename_i e1
    exact ⟨true, e1, fun b H1 st ho1 => ⟨b, ρ, μ1, ho1, q1.up st⟩⟩
  · rename_i e1
    exact ⟨false, e1, fun b H1 st ho1 => ⟨b, ρ, μ1, ho1, q1.up st⟩⟩
  · exact q1.elim
theorem ss_asg {x y : Expr} {e : E} {t : DI.T} (he : SE T n X W y e) (hg : SG T n X W x t) (hs : swapsWithSole [x] y pos.line X.env = pure false) (hw : swappedStores [x] y X.env = pure none)
    (h1 : (assignEach [x] X.env).map (·.2) = [assign x X.env]) : SS T n X W (.Assign [x] y pos) (.asg t e) := by
  refine PS.imp (ps_asg he hg hs hw h1) fun D σ H q => ?_
  obtain ⟨a, ρ, μ, ho, q⟩ := q
  simp only [evS] at q
  refine ⟨a, ρ, μ, ho, q.seR.mono (fun d μ1 q1 b v H1 st ho1 r => ?_) fun _ _ k => k.kx⟩
  exact ⟨b, ρ, μ1, d, ho1, r, q1.seR.nox.mono (fun ρ2 μ2 k c σ2 H2 st2 ho2 _ _ => k c σ2 H2 (st.trans st2) ho2) fun _ _ k => k⟩
theorem ss_set {x : Str} {px : Pos} {y : Expr} {e : E} {i : Nat} (hN : X.N.Nodup) (hi : X.N[i]? = some x) (hx : Loc X.env.scope x) (he : SE T n X W y e) (hs : swapsWith y (some (.Name x px)) pos.line X.env = pure false) (hf : X.fn x = true ∨ X.env.scope.names.lookup x = some .local) : SS T n X W (.Assign [.Name x px] y pos) (.asg (.v i) e) := by
  refine PS.imp (ps_set hN hi hx he hs hf) fun D σ H q => ?_
  obtain ⟨a, ρ, μ, ho, q⟩ := q
  simp only [evS, asT, seR_ok] at q
  exact ⟨a, ρ, μ, ho, q.seR.mono (fun d μ1 k b v H1 st ho1 r => k b _ H1 st (ho1.set r i)) fun _ _ k => k.kx⟩
/-- a new list or dict is laid into the store -/
theorem lay_step {σ : L2.St} {v : V} {k : DI.D → Mem → Prop} {kx : DI.D → Mem → Prop} (ho1 : Hol T X.K b ρ μ σ H') (st : Stp a H b H') (f : Fresh T X.K H b H' d v)
    (q : WpR (match d with
      | .lst l => R.ok (.obj μ.length) (μ ++ [.lst l])
      | .dct t ks vs => .ok (.obj μ.length) (μ ++ [.dct t ks vs])
      | _ => .no) k kx) : ∃ c d' μ', Stp a H c H' ∧ Hol T X.K c ρ μ' σ H' ∧ Rep T X.K c d' v ∧ k d' μ' := by
  split at q
  · rename_i l
    obtain ⟨p, vs, rfl, hp, h0, g, hn, r⟩ := f
    obtain ⟨m2, le⟩ := ho1.m.own (ob := .lst l) g hn ⟨vs, hp, r⟩ (fun _ _ _ z => by cases z)
    refine ⟨_, _, _, st.own h0, ho1.to le m2, ?_, q⟩
    simp only [Rep]
    exact ⟨p, by rw [ho1.m.len]; simp, rfl⟩
  · rename_i t ks vs
    obtain ⟨p, ws, rfl, h0, g, hn, r, hl, hd⟩ := f
    obtain ⟨m2, le⟩ := ho1.m.own (ob := .dct t ks vs) g hn ⟨ws, r, hl, hd⟩ (fun _ _ _ z => by cases z)
    refine ⟨_, _, _, st.own h0, ho1.to le m2, ?_, q⟩
    simp only [Rep]
    exact ⟨p, by rw [ho1.m.len]; simp, rfl⟩
  · exact q.elim
theorem se_lay {x : Expr} {e : E} (h : SF T n X W x e) : SE T n X W x (.lay e) := by
  refine PE.imp h fun σ H Q q => ?_
  obtain ⟨a, ρ, μ, ho, q⟩ := q
  simp only [evE] at q
  refine ⟨a, ρ, μ, ho, q.bind.mono (fun d μ1 q1 b v H1 st ho1 f => ?_) fun _ _ k => k⟩
  obtain ⟨c, d', μ', s2, h2, r2, k⟩ := lay_step ho1 st f q1
  exact k c v H1 s2 h2 r2
/-- two plain names at once -/
theorem ss_par2 {i j : Nat} {x y : Str} {u v : Expr} {es : Es} {px py pt : Pos} {kt k2 pt2} (hc : X.calm = true) (hN : X.N.Nodup) (hi : X.N[i]? = some x) (hj : X.N[j]? = some y) (hij : i ≠ j)
    (hx : X.env.scope.names.lookup x = some .local) (hy : X.env.scope.names.lookup y = some .local) (ha : SA T n X W [u, v] es)
    (hw : swappedStores [.Tuple [.Name x px, .Name y py] kt pt] (.Tuple [u, v] k2 pt2) X.env = pure (some [x, y]))
    (hs : swapsWithSole [.Tuple [.Name x px, .Name y py] kt pt] (.Tuple [u, v] k2 pt2) pos.line X.env = pure false) : SS T n X W (.Assign [.Tuple [.Name x px, .Name y py] kt pt] (.Tuple [u, v] k2 pt2) pos) (.par (.c (.v i) (.c (.v j) .n)) es) := by
  refine PS.imp (ps_par hc hN hi hj hij hx hy ha hw hs) fun D σ H q => ?_
  obtain ⟨a, ρ, μ, ho, q⟩ := q
  simp only [evS] at q
  refine ⟨a, ρ, μ, ho, q.seR.mono (fun l μ1 q1 b vs H1 st ho1 r => ?_) fun _ _ k => k.kx⟩
  match l, q1, r with
  | [d, e], q1, r =>
    simp only [asTs, asT, R.bind_ok, seR_ok] at q1
    obtain ⟨w, ws, rfl, r1, r2⟩ := r.inv
    obtain ⟨w2, ws2, rfl, r3, r4⟩ := r2.inv
    rw [r4.inv0]
    exact ⟨w, w2, rfl, q1 b _ H1 st ((ho1.set r1 i).set r3 j)⟩
  | [], q1, r => simp only [asTs, seR_no] at q1; exact q1.elim
  | [d], q1, r => simp only [asTs, asT, R.bind_ok, seR_no] at q1; exact q1.elim
  | d :: e :: f :: l, q1, r => simp only [asTs, asT, R.bind_ok, seR_no] at q1; exact q1.elim
theorem forL_stop {f : DI.D → Env → Mem → SR} {src : Option (Nat × Ob)} {kn : Env → Mem → Prop} {kr : DI.D → Mem → Prop} {kx : DI.D → Env → Mem → Prop} (h : WpS (forL f src [] ρ μ) kn kr kx) : srcOk src μ = true ∧ kn ρ μ := by
  simp only [forL] at h
  split at h
  · rename_i hs; exact ⟨hs, h⟩
  · exact h.elim
theorem forL_go {f : DI.D → Env → Mem → SR} {src : Option (Nat × Ob)} {l : List DI.D} {kn : Env → Mem → Prop} {kr : DI.D → Mem → Prop} {kx : DI.D → Env → Mem → Prop} (h : WpS (forL f src (d :: l) ρ μ) kn kr kx) : srcOk src μ = true ∧ WpS (f d ρ μ) (fun ρ μ => WpS (forL f src l ρ μ) kn kr kx) kr kx := by
  simp only [forL] at h
  split at h
  · rename_i hs; exact ⟨hs, h.seq⟩
  · exact h.elim
theorem ss_for {x y : Expr} {body : List Stmt} {t : DI.T} {it : DI.It} {s : Ss} (hp : PassesOwn (model X.prog X.w) X.A X.env X.xe) (hc : X.calm = true) (hi : SI T n X W x y it) (hg : SG T n X W x t) (hb : SSs T n X W body s)
    (hs : ∀ v, foldedSetIterable y X.env v = pure v) : SS T n X W (.For x y body [] pos) (.for t it s) := by
  refine PS.imp (ps_for hp hc hi hg hb hs) fun D σ H q => ?_
  obtain ⟨a, ρ, μ, ho, q⟩ := q
  simp only [evS] at q
  refine ⟨a, ρ, μ, ho, q.seR.mono (fun p μ1 q1 b J H1 st ho1 w => ?_) fun _ _ k => k.kx⟩
  obtain ⟨src, items⟩ := p
  have inv : ∃ W0 : Nat → Nat → L2.St → Hp → Prop, W0 = fun i m σ' H' => m = items.length - i ∧ i ≤ items.length ∧ ∃ c ρ' μ', Stp b H1 c H' ∧ Hol T X.K c ρ' μ' σ' H' ∧
      WpS (forL (fun d ρ μ => seR (nox (asT T.P (T.C n) T.reprS t d ρ μ)) ρ fun ρ μ => evSs T.P (T.C n) T.reprS s ρ μ) src (items.drop i) ρ' μ') (Kn T X.K a H D) (Kr T X.K a H D) (KxS T X.K a H W) := ⟨_, rfl⟩
  obtain ⟨W0, hW⟩ := inv
  refine ⟨W0, ⟨items.length, by rw [hW]; exact ⟨by simp, Nat.zero_le _, b, ρ, μ1, Stp.refl _ _, ho1, q1⟩⟩, fun i m σ' H' w0 => ?_⟩
  rw [hW] at w0
  obtain ⟨rfl, hi, c, ρ', μ', st2, ho2, q2⟩ := w0
  by_cases hlt : i < items.length
  · right
    rw [List.drop_eq_getElem_cons hlt] at q2
    obtain ⟨hok, q3⟩ := forL_go q2
    obtain ⟨w1, w2⟩ := w c μ' H' st2.le ho2.m hok
    obtain ⟨g, y'⟩ := w1 i items[i] (by simp [hlt])
    refine ⟨g, fun σ3 H3 => W0 (i + 1) (items.length - (i + 1)) σ3 H3, fun σ3 H3 h3 => ⟨_, by omega, h3⟩, fun x' H3 hy => ?_⟩
    obtain ⟨e, st3, m3, r3⟩ := y' x' H3 hy
    refine ⟨e, ρ', μ', items[i], ho2.to st3.le m3, r3, q3.seR.nox.mono (fun ρ4 μ4 q4 f σ4 H4 st4 ho4 _ _ => ?_) fun _ _ k => k⟩
    refine ⟨f, ρ4, μ4, ho4, q4.mono (fun ρ5 μ5 q5 g5 σ5 H5 st5 ho5 => ?_) (fun d5 μ5 k g5 v5 H5 st5 ho5 r5 => k g5 v5 H5 (st.trans (st2.trans (st3.trans (st4.trans st5)))) ho5 r5) fun _ _ _ k => k.mono (st.trans (st2.trans (st3.trans st4)))⟩
    show W0 _ _ _ _
    rw [hW]
    exact ⟨rfl, hlt, g5, ρ5, μ5, st2.trans (st3.trans (st4.trans st5)), ho5, q5⟩
  · left
    have : i = items.length := by omega
    subst this
    rw [List.drop_of_length_le (Nat.le_refl _)] at q2
    obtain ⟨hok, k⟩ := forL_stop q2
    obtain ⟨w1, w2⟩ := w c μ' H' st2.le ho2.m hok
    exact ⟨w2, k c σ' H' (st.trans st2) ho2⟩
end
end DI
end

section
set_option Elab.async false
set_option linter.all false
set_option maxRecDepth 100000
namespace DI
open PySem L2 PySem.Spec PyProof.Rows
theorem wipe_get {σ : L2.St} {i : Nat} : ∀ {vs : List Nat}, (L2.wipe σ vs)[i]? = if i ∈ vs then (if i < σ.length then some none else none) else σ[i]?
  | [] => by simp [L2.wipe]
  | v :: vs => by
    simp only [L2.wipe]
    by_cases hv : v = i
    · subst hv
      by_cases hl : v < σ.length
      · rw [List.getElem?_set_self (by rw [L2.wipe_length]; exact hl)]; simp [hl]
      · rw [List.getElem?_eq_none (by simp [L2.wipe_length]; omega)]; simp [hl]
    · rw [List.getElem?_set_ne hv, wipe_get]
      have : i ∈ v :: vs ↔ i ∈ vs := by simp [Ne.symm hv]
      simp only [this]
theorem wipe_eq {σ σ2 : L2.St} {vs : List Nat} (h : ∀ i, i ∉ vs → σ2[i]? = σ[i]?) (hl : σ2.length = σ.length) : L2.wipe σ2 vs = L2.wipe σ vs := by
  apply List.ext_getElem?
  intro i
  rw [wipe_get, wipe_get, hl]
  split
  · rfl
  · rename_i hi; exact h i hi
theorem wipe_tg {σ σ2 : L2.St} {vs ts : List Nat} (hs : ∀ i ∈ ts, i ∈ vs) (h : ∀ i, i ∉ ts → σ2[i]? = (L2.wipe σ vs)[i]?) (hl : σ2.length = (L2.wipe σ vs).length) : L2.wipe σ2 vs = L2.wipe σ vs := by
  refine wipe_eq (fun i hi => ?_) (by rw [hl, L2.wipe_length])
  rw [h i (fun z => hi (hs i z)), wipe_get, if_neg hi]
abbrev SPs (T : Tab) (n : Nat) (X : Cx) (W : WX) (x : List Expr) (e : E) : Prop := PTs X x (tT T n X.K W e)
section
variable {T : Tab} {n : Nat} {X : Cx} {W : WX} {pos : Pos}
theorem PTs.imp {x : List Expr} {t t' : TT} (h : PTs X x t) (g : ∀ σ H Q, t' σ H Q → t σ H Q) : PTs X x t' := ⟨fun pins s σ H Q I q => h.run pins s σ H Q I (g σ H Q q)⟩
theorem sps_nil : SPs T n X W [] (.k (.bl true)) := by
  refine PTs.imp pts_nil fun σ H Q q => ?_
  obtain ⟨a, ρ, μ, ho, q⟩ := q
  simp only [evE] at q
  obtain ⟨c, e, k⟩ := q
  cases e
  exact k a H (Stp.refl _ _) ho
theorem sps_one {x : Expr} {e : E} (h : ST T n X W x e) : SPs T n X W [x] e := pts_one h
end
section
variable {T : Tab} {n : Nat} {X : Cx} {W : WX} {K : PySem.W.Frag} {a b : Abs} {ρ : Env} {μ : Mem} {σ : L2.St} {H : Hp}
theorem compL_go {f : D → Mem → R (Option D)} {src : Option (Nat × Ob)} {d : D} {l : List D} {k : List D → Mem → Prop} {kx : D → Mem → Prop} (h : WpR (compL f src (d :: l) μ) k kx) : srcOk src μ = true ∧ WpR (f d μ) (fun r μ => WpR (compL f src l μ) (fun rs μ => k (match r with | some x => x :: rs | none => rs) μ) kx) kx := by
  simp only [compL] at h
  split at h
  · rename_i hs; exact ⟨hs, h.bind.mono (fun r μ q => q.bind) fun _ _ k => k⟩
  · exact h.elim
theorem compL_stop {f : D → Mem → R (Option D)} {src : Option (Nat × Ob)} {k : List D → Mem → Prop} {kx : D → Mem → Prop} (h : WpR (compL f src [] μ) k kx) : srcOk src μ = true ∧ k [] μ := by
  simp only [compL] at h
  split at h
  · rename_i hs; exact ⟨hs, h⟩
  · exact h.elim
theorem WpR.some {α : Type} {r : R α} {k : α → Mem → Prop} (h : WpR r k (fun _ _ => False)) : ∃ d μ, k d μ := by
  cases r with
  | ok d μ => exact ⟨d, μ, h⟩
  | ex x μ => exact h.elim
  | no => exact h.elim
/-- the list that a comprehension builds, as it stands -/
structure Bld (T : Tab) (K : PySem.W.Frag) (a : Abs) (H0 : Hp) (ρ : Env) (σ : L2.St) (D : Addr) (b : Abs) (μ : Mem) (l : List DI.D) (acc : List V) (H : Hp) : Prop where
  st : Stp a H0 b H
  ho : Hol T K b ρ μ σ H
  at_ : H D = some (.lst acc)
  g : b.G D = none
  n : D ∉ b.α
  r : Reps T K b l acc
theorem Bld.step {D : Addr} {l : List DI.D} {acc : List V} {H0 H' : Hp} {c : Abs} {μ' : Mem} (B : Bld T K a H0 ρ σ D b μ l acc H) (s : Stp b H c H') (m : HolM T K c μ' H') : Bld T K a H0 ρ σ D c μ' l acc H' := by
  obtain ⟨x, y, z⟩ := s.frame D _ B.at_ B.g B.n (fun z => by rcases z with ⟨_, z⟩ | ⟨_, z⟩ <;> cases z)
  exact ⟨B.st.trans s, B.ho.to s.le m, x, y, z, Reps.mono s.le _ _ B.r⟩
theorem Bld.app {D : Addr} {l : List DI.D} {acc : List V} {H0 : Hp} (B : Bld T K a H0 ρ σ D b μ l acc H) (h0 : H0 D = none) {d : DI.D} {v : V} (r : Rep T K b d v) : Bld T K a H0 ρ σ D b μ (l ++ [d]) (acc ++ [v]) (upd H D (.lst (acc ++ [v]))) := by
  refine ⟨B.st.write h0, B.ho.to b.le_refl (B.ho.m.write B.g B.n (fun q e => by rw [B.at_] at e; cases e) fun o e => by rw [B.at_] at e; cases e; exact ⟨fun _ z => by (cases z), fun _ z => by (cases z)⟩), upd_same, B.g, B.n, Reps.append B.r (Reps.cons r Reps.nil)⟩
end
section
variable {T : Tab} {n : Nat} {X : Cx} {W : WX} {pos : Pos}
/-- [e for t in it if c], the turns; rest: what the loop is to give -/
theorem comp_turns {t : DI.T} {c e : E} {vs : List Nat} (hvs : ∀ i ∈ t.vars, i ∈ vs) {a : Abs} {H0 : Hp} {ρ : Env} {σ : L2.St} {D : Addr} (h0 : H0 D = none) {J : L2.It} {src : Option (Nat × Ob)} {items : List DI.D} {b1 : Abs} {μ1 : Mem} {l1 : List DI.D} {acc1 : List V} {H1 : Hp}
    (w : Walks T X.K b1 src items J) (B : Bld T X.K a H0 ρ σ D b1 μ1 l1 acc1 H1) {kk : List DI.D → Mem → Prop} (hz : ∀ l μ, kk l μ → l.length ≤ sizeLn) {f : DI.D → Mem → R (Option DI.D)}
    (hf : f = fun d μ => (asT T.P (T.C n) T.reprS t d (wipeE ρ vs) μ).bind fun ρ μ => (evE T.P (T.C n) T.reprS c ρ μ).bind fun b μ => match tru b with
      | some true => (evE T.P (T.C n) T.reprS e ρ μ).bind fun x μ => .ok (some x) μ
      | some false => .ok none μ
      | none => .no)
    (q : WpR (compL f src items μ1) (fun rs μ => kk (l1 ++ rs) μ) (fun _ _ => False)) (Fin : Hp → Prop) (hfin : ∀ b μ l acc H, b1.le b → Bld T X.K a H0 ρ σ D b μ l acc H → kk l μ → Fin H) :
    ∃ W0 : Nat → Nat → Hp → Prop, (∃ m, W0 0 m H1) ∧ ∀ i m H, W0 i m H → (J.stop i H ∧ Fin H) ∨ (J.go i H ∧ ∃ Nx : Hp → Prop, (∀ H', Nx H' → ∃ m', m' < m ∧ W0 (i + 1) m' H') ∧ ∀ x H', J.yld i H x H' →
      tG T n X.K Wn t x (L2.wipe σ vs) H' fun σ2 H2 => L2.wipe σ2 vs = L2.wipe σ vs ∧ tT T n X.K Wn c σ2 H2 fun b H3 =>
        if b = true then tE T n X.K Wn e σ2 H3 fun y H4 => ∃ acc, H4 D = some (.lst acc) ∧ acc.length < sizeLine ∧ Nx (upd H4 D (.lst (acc ++ [y]))) else Nx H3) := by
  subst hf
  generalize hf : (fun (d : DI.D) (μ : Mem) => (asT T.P (T.C n) T.reprS t d (wipeE ρ vs) μ).bind fun ρ μ => (evE T.P (T.C n) T.reprS c ρ μ).bind fun b μ => match tru b with
      | some true => (evE T.P (T.C n) T.reprS e ρ μ).bind fun x μ => R.ok (some x) μ
      | some false => .ok none μ
      | none => .no) = f at q
  have inv : ∃ W0 : Nat → Nat → Hp → Prop, W0 = fun i m H => m = items.length - i ∧ i ≤ items.length ∧ ∃ b μ l acc, b1.le b ∧ Bld T X.K a H0 ρ σ D b μ l acc H ∧ WpR (compL f src (items.drop i) μ) (fun rs μ => kk (l ++ rs) μ) (fun _ _ => False) := ⟨_, rfl⟩
  obtain ⟨W0, hW⟩ := inv
  refine ⟨W0, ⟨items.length, by rw [hW]; exact ⟨by simp, Nat.zero_le _, b1, μ1, l1, acc1, b1.le_refl, B, q⟩⟩, fun i m H w0 => ?_⟩
  rw [hW] at w0
  obtain ⟨rfl, hi, b, μ, l, acc, st, B, q⟩ := w0
  by_cases hlt : i < items.length
  · right
    rw [List.drop_eq_getElem_cons hlt] at q
    obtain ⟨hok, q⟩ := compL_go q
    obtain ⟨w1, w2⟩ := w b μ H st B.ho.m hok
    obtain ⟨g, y'⟩ := w1 i items[i] (by simp [hlt])
    refine ⟨g, fun H3 => W0 (i + 1) (items.length - (i + 1)) H3, fun H3 h3 => ⟨_, by omega, h3⟩, fun x' H3 hy => ?_⟩
    obtain ⟨e3, st3, m3, r3⟩ := y' x' H3 hy
    have B3 := B.step st3 m3
    rw [← hf] at q
    simp only [] at q
    rw [hf] at q
    refine ⟨e3, wipeE ρ vs, μ, items[i], B3.ho.wipe vs, r3, q.bind.mono (fun ρ4 μ4 q4 b4 σ4 H4 st4 ho4 f4 l4 => ?_) fun _ _ k => k⟩
    refine ⟨wipe_tg hvs f4 l4, b4, ρ4, μ4, ho4, q4.bind.mono (fun d5 μ5 q5 => ?_) fun _ _ k => k.elim⟩
    cases ht : tru d5 with
    | none => rw [ht] at q5; exact q5.elim
    | some bb =>
      rw [ht] at q5
      refine ⟨bb, rfl, fun b5 H5 st5 ho5 => ?_⟩
      cases bb with
      | false =>
        rw [if_neg Bool.false_ne_true]
        show W0 _ _ _
        rw [hW]
        exact ⟨rfl, hlt, b5, μ5, l, acc, st.trans (st3.trans (st4.trans st5)).le, B3.step (st4.trans st5) ho5.m, q5⟩
      | true =>
        rw [if_pos rfl]
        refine ⟨b5, ρ4, μ5, ho5, q5.bind.mono (fun d6 μ6 q6 b6 v6 H6 st6 ho6 r6 => ?_) fun _ _ k => k.elim⟩
        have B6 := B3.step (st4.trans (st5.trans st6)) ho6.m
        have q7 : WpR (compL f src (items.drop (i + 1)) μ6) (fun rs μ => kk ((l ++ [d6]) ++ rs) μ) (fun _ _ => False) := by
          have : WpR (compL f src (items.drop (i + 1)) μ6) (fun rs μ => kk (l ++ (d6 :: rs)) μ) (fun _ _ => False) := q6
          simpa using this
        refine ⟨acc, B6.at_, ?_, ?_⟩
        · obtain ⟨rs, μ7, k7⟩ := q7.some
          have := hz _ _ k7
          rw [← sizeLn_eq, ← B6.r.length]
          simp at this; omega
        · show W0 _ _ _
          rw [hW]
          have B7 := B6.app h0 r6
          exact ⟨rfl, hlt, b6, μ6, l ++ [d6], acc ++ [v6], st.trans (st3.trans (st4.trans (st5.trans st6))).le, B7, q7⟩
  · left
    have : i = items.length := by omega
    subst this
    rw [List.drop_of_length_le (Nat.le_refl _)] at q
    obtain ⟨hok, k⟩ := compL_stop q
    obtain ⟨w1, w2⟩ := w b μ H st B.ho.m hok
    exact ⟨w2, hfin b μ l acc H st B (by simpa using k)⟩
/-- the block's readings do not depend on the block's own context but by K -/
abbrev AllB (X : Cx) (scope : Scope) (P : Cx → Prop) : Prop := ∀ (s : Shared) (H : Hp) (C : Addr) (cl : List (Str × Addr)) (fp : List Addr), P (X.blk s H scope (compEnvC scope cl C X.env) fp)
theorem bld0 {a b : Abs} {H0 H : Hp} {ρ : Env} {μ : Mem} {σ : L2.St} {D : Addr} (st : Stp a H0 b H) (ho : Hol T X.K b ρ μ σ H) (hD : H D = none) : Bld T X.K a H0 ρ σ D b μ [] [] (upd H D (.lst [])) :=
  ⟨st.lay hD, ho.to b.le_refl (ho.m.lay hD), upd_same, (ho.m.fresh hD).1, (ho.m.fresh hD).2, Reps.nil⟩
theorem lc_imp {t : DI.T} {it : DI.It} {c e : E} {vs : List Nat} (hvs : ∀ i ∈ t.vars, i ∈ vs) {σ : L2.St} {H : Hp} {Q : VK} (q : tF T n X.K W (.lc vs t it c e) σ H Q) : tLc (tI T n X.K W it) (tG T n X.K Wn t) (tT T n X.K Wn c) (tE T n X.K Wn e) vs σ H Q := by
  obtain ⟨a, ρ, μ, ho, q⟩ := q
  simp only [evE] at q
  refine ⟨a, ρ, μ, ho, q.bind.mono (fun p μ1 q1 b J H1 st ho1 w D hD => ?_) fun _ _ k => k⟩
  obtain ⟨src, items⟩ := p
  refine comp_turns (kk := fun l μ => l.length ≤ sizeLn ∧ ∀ b v H', Stp a H b H' → Hol T X.K b ρ μ σ H' → Fresh T X.K H b H' (.lst l) v → Q v H') hvs (st.dom D hD) w (bld0 st ho1 hD) (fun _ _ h => h.1) rfl (q1.bind.nox.mono (fun l μ2 q2 => ?_) fun _ _ z => z) _ fun b2 μ2 l acc H2 le B k => ?_
  · simp only [List.nil_append]
    split at q2
    · rename_i hl; exact ⟨hl, q2⟩
    · exact q2.elim
  · exact k.2 b2 _ H2 B.st B.ho ⟨D, acc, rfl, B.at_, st.dom D hD, B.g, B.n, B.r⟩
theorem sf_lc {x tg y : Expr} {ifs : List Expr} {scope : Scope} {own : List (Str × Nat)} {t : DI.T} {it : DI.It} {c e : E} {vs : List Nat} (hv : own.map (·.2) = vs) (hvs : ∀ i ∈ t.vars, i ∈ vs) (hc : X.calm = true) (hN : X.N.Nodup) (hi : SI T n X W tg y it) (ok : BlkOk X.N X.env.scope scope own)
    (hg : AllB X scope fun X => SG T n X Wn tg t) (ht : AllB X scope fun X => SPs T n X Wn ifs c) (he : AllB X scope fun X => SE T n X Wn x e) (hs : ∀ v, foldedSetIterable y X.env v = pure v) : SF T n X W (.ListComp x [⟨tg, y, ifs, 0⟩] scope pos) (.lc vs t it c e) := by
  refine PE.imp (pe_lc (g := tG T n X.K Wn t) (tt := tT T n X.K Wn c) (te := tE T n X.K Wn e) hc hN hi ok hg ht he hs) fun σ H Q q => ?_
  rw [hv]
  exact lc_imp hvs q
/-- name = [..] on one line -/
theorem ss_setLc {i : Nat} {z : Str} {py spos : Pos} {x tg y : Expr} {ifs : List Expr} {scope : Scope} {own : List (Str × Nat)} {t : DI.T} {it : DI.It} {c e : E} {vs : List Nat} (hv : own.map (·.2) = vs) (hvs : ∀ i ∈ t.vars, i ∈ vs) (hc : X.calm = true) (hN : X.N.Nodup) (hy : X.N[i]? = some z) (hyl : X.env.scope.names.lookup z = some .local)
    (hsw : swapsWith (.ListComp x [⟨tg, y, ifs, 0⟩] scope pos) (some (.Name z py)) spos.line X.env = pure true) (hi : SI T n X W tg y it) (ok : BlkOk X.N X.env.scope scope own)
    (hg : AllB X scope fun X => SG T n X Wn tg t) (ht : AllB X scope fun X => SPs T n X Wn ifs c) (he : AllB X scope fun X => SE T n X Wn x e) (hs : ∀ v, foldedSetIterable y X.env v = pure v) : SS T n X W (.Assign [.Name z py] (.ListComp x [⟨tg, y, ifs, 0⟩] scope pos) spos) (.asg (.v i) (.lc vs t it c e)) := by
  refine PS.imp (ps_setLc (g := tG T n X.K Wn t) (tt := tT T n X.K Wn c) (te := tE T n X.K Wn e) hc hN hy hyl hsw hi ok hg ht he hs) fun D σ H q => ?_
  rw [hv]
  show tLc _ _ _ _ vs σ H _
  obtain ⟨a, ρ, μ, ho, q⟩ := q
  simp only [evS, asT, seR_ok] at q
  refine lc_imp hvs ⟨a, ρ, μ, ho, q.seR.mono (fun d μ1 k b v H1 st ho1 f => ?_) fun _ _ k => k.kx⟩
  obtain ⟨c', le2, s2, m, r⟩ := f.freeze st ho1.m
  exact k c' _ H1 s2 ((ho1.to le2 m).set r i)
theorem dcompL_go {f : DI.D → Mem → R (Option (DI.D × DI.D))} {src : Option (Nat × Ob)} {d : DI.D} {l : List DI.D} {p : List DI.D × List DI.D} {μ : Mem} {k : List DI.D × List DI.D → Mem → Prop} {kx : DI.D → Mem → Prop} (h : WpR (dcompL f src (d :: l) p μ) k kx) : srcOk src μ = true ∧ WpR (f d μ) (fun r μ => WpR (match r with | some (u, v) => if p.1.length < sizeLn then dcompL f src l (dput u v p.1 p.2) μ else .no | none => dcompL f src l p μ) k kx) kx := by
  simp only [dcompL] at h
  split at h
  · rename_i hs; exact ⟨hs, h.bind⟩
  · exact h.elim
theorem dcompL_stop {f : DI.D → Mem → R (Option (DI.D × DI.D))} {src : Option (Nat × Ob)} {p : List DI.D × List DI.D} {μ : Mem} {k : List DI.D × List DI.D → Mem → Prop} {kx : DI.D → Mem → Prop} (h : WpR (dcompL f src [] p μ) k kx) : srcOk src μ = true ∧ k p μ := by
  simp only [dcompL] at h
  split at h
  · rename_i hs; exact ⟨hs, h⟩
  · exact h.elim
structure BldD (T : Tab) (K : PySem.W.Frag) (a : Abs) (H0 : Hp) (ρ : Env) (σ : L2.St) (D : Addr) (b : Abs) (μ : Mem) (p : List DI.D × List DI.D) (xs : List Key) (ws : List V) (H : Hp) : Prop where
  st : Stp a H0 b H
  ho : Hol T K b ρ μ σ H
  at_ : H D = some (.dK (xs.zip ws))
  ks : p.1.mapM toKey = some xs
  len : p.1.length = ws.length
  g : b.G D = none
  n : D ∉ b.α
  r : Reps T K b p.2 ws
theorem BldD.step {K : PySem.W.Frag} {a b c : Abs} {ρ : Env} {σ : L2.St} {D : Addr} {p : List DI.D × List DI.D} {xs : List Key} {ws : List V} {μ μ' : Mem} {H0 H H' : Hp} (B : BldD T K a H0 ρ σ D b μ p xs ws H) (s : Stp b H c H') (m : HolM T K c μ' H') : BldD T K a H0 ρ σ D c μ' p xs ws H' := by
  obtain ⟨x, y, z⟩ := s.frame D _ B.at_ B.g B.n (fun z => by rcases z with ⟨_, z⟩ | ⟨_, z⟩ <;> cases z)
  exact ⟨B.st.trans s, B.ho.to s.le m, x, B.ks, B.len, y, z, Reps.mono s.le _ _ B.r⟩
theorem sf_dc {kx vx tg y : Expr} {ifs : List Expr} {scope : Scope} {own : List (Str × Nat)} {t : DI.T} {it : DI.It} {c ek ev : E} {vs : List Nat} (hv : own.map (·.2) = vs) (hvs : ∀ i ∈ t.vars, i ∈ vs) (hc : X.calm = true) (hN : X.N.Nodup) (hi : SI T n X W tg y it) (ok : BlkOk X.N X.env.scope scope own)
    (hg : AllB X scope fun X => SG T n X Wn tg t) (ht : AllB X scope fun X => SPs T n X Wn ifs c) (hk : AllB X scope fun X => SE T n X Wn kx ek) (he : AllB X scope fun X => SE T n X Wn vx ev) (hs : ∀ v, foldedSetIterable y X.env v = pure v) : SF T n X W (.DictComp kx vx [⟨tg, y, ifs, 0⟩] scope pos) (.dc vs t it c ek ev) := by
  refine PE.imp (pe_dc (g := tG T n X.K Wn t) (tt := tT T n X.K Wn c) (tk := tE T n X.K Wn ek) (tv := tE T n X.K Wn ev) hc hN hi ok hg ht hk he hs) fun σ H Q q => ?_
  rw [hv]
  obtain ⟨a, ρ, μ, ho, q⟩ := q
  simp only [evE] at q
  refine ⟨a, ρ, μ, ho, q.bind.mono (fun p μ1 q1 b1 J H1 st1 ho1 w D hD => ?_) fun _ _ k => k⟩
  obtain ⟨src, items⟩ := p
  have h0 := st1.dom D hD
  have outer : ∃ f : DI.D → Mem → R (Option (DI.D × DI.D)), f = fun d μ => (asT T.P (T.C n) T.reprS t d (wipeE ρ vs) μ).bind fun ρ μ => (evE T.P (T.C n) T.reprS c ρ μ).bind fun b μ => match tru b with
      | some true => (evE T.P (T.C n) T.reprS ek ρ μ).bind fun k μ => (evE T.P (T.C n) T.reprS ev ρ μ).bind fun v μ => if keyOk false k then .ok (some (k, v)) μ else .no
      | some false => .ok none μ
      | none => .no := ⟨_, rfl⟩
  obtain ⟨f, hf⟩ := outer
  have q1 : WpR ((nox (dcompL f src items ([], []) μ1)).bind fun l μ => R.ok (.dct false l.1 l.2) μ) (fun d μ' => ∀ b v H', Stp a H b H' → Hol T X.K b ρ μ' σ H' → Fresh T X.K H b H' d v → Q v H') (Kx T X.K a H ρ σ W) := by
    rw [hf]; exact q1
  have fin : ∃ kk : List DI.D × List DI.D → Mem → Prop, kk = fun l μ => ∀ b v H', Stp a H b H' → Hol T X.K b ρ μ σ H' → Fresh T X.K H b H' (.dct false l.1 l.2) v → Q v H' := ⟨_, rfl⟩
  obtain ⟨kk, hkk⟩ := fin
  have q2 : WpR (dcompL f src items ([], []) μ1) kk (fun _ _ => False) := q1.bind.nox.mono (fun l μ2 q2 => by rw [hkk]; exact q2) fun _ _ z => z
  have inv : ∃ W0 : Nat → Nat → Hp → Prop, W0 = fun i m H' => m = items.length - i ∧ i ≤ items.length ∧ ∃ b μ p xs ws, b1.le b ∧ BldD T X.K a H ρ σ D b μ p xs ws H' ∧ WpR (dcompL f src (items.drop i) p μ) kk (fun _ _ => False) := ⟨_, rfl⟩
  obtain ⟨W0, hW⟩ := inv
  refine ⟨W0, ⟨items.length, by rw [hW]; exact ⟨by simp, Nat.zero_le _, b1, μ1, ([], []), [], [], b1.le_refl, ⟨st1.lay hD, ho1.to b1.le_refl (ho1.m.lay hD), upd_same, rfl, rfl, (ho1.m.fresh hD).1, (ho1.m.fresh hD).2, Reps.nil⟩, q2⟩⟩, fun i m H' w0 => ?_⟩
  rw [hW] at w0
  obtain ⟨rfl, hi, b, μ, p, xs, ws, st, B, q⟩ := w0
  by_cases hlt : i < items.length
  · right
    rw [List.drop_eq_getElem_cons hlt] at q
    obtain ⟨hok, q⟩ := dcompL_go q
    obtain ⟨w1, w2⟩ := w b μ H' st B.ho.m hok
    obtain ⟨g, y'⟩ := w1 i items[i] (by simp [hlt])
    refine ⟨g, fun H3 => W0 (i + 1) (items.length - (i + 1)) H3, fun H3 h3 => ⟨_, by omega, h3⟩, fun x' H3 hy => ?_⟩
    obtain ⟨e3, st3, m3, r3⟩ := y' x' H3 hy
    have B3 := B.step st3 m3
    have q : WpR ((asT T.P (T.C n) T.reprS t items[i] (wipeE ρ vs) μ).bind fun ρ μ => (evE T.P (T.C n) T.reprS c ρ μ).bind fun b μ => match tru b with
      | some true => (evE T.P (T.C n) T.reprS ek ρ μ).bind fun k μ => (evE T.P (T.C n) T.reprS ev ρ μ).bind fun v μ => if keyOk false k then .ok (some (k, v)) μ else .no
      | some false => .ok none μ
      | none => .no) (fun r μ => WpR (match r with | some (u, v) => if p.1.length < sizeLn then dcompL f src (items.drop (i + 1)) (dput u v p.1 p.2) μ else .no | none => dcompL f src (items.drop (i + 1)) p μ) kk (fun _ _ => False)) (fun _ _ => False) := by
      rw [hf] at q ⊢; exact q
    refine ⟨e3, wipeE ρ vs, μ, items[i], B3.ho.wipe vs, r3, q.bind.mono (fun ρ4 μ4 q4 b4 σ4 H4 st4 ho4 f4 l4 => ?_) fun _ _ k => k⟩
    refine ⟨wipe_tg hvs f4 l4, b4, ρ4, μ4, ho4, q4.bind.mono (fun d5 μ5 q5 => ?_) fun _ _ k => k.elim⟩
    cases htr : tru d5 with
    | none => rw [htr] at q5; exact q5.elim
    | some bb =>
      rw [htr] at q5
      refine ⟨bb, rfl, fun b5 H5 st5 ho5 => ?_⟩
      cases bb with
      | false =>
        rw [if_neg Bool.false_ne_true]
        show W0 _ _ _
        rw [hW]
        exact ⟨rfl, hlt, b5, μ5, p, xs, ws, st.trans (st3.trans (st4.trans st5)).le, B3.step (st4.trans st5) ho5.m, q5⟩
      | true =>
        rw [if_pos rfl]
        refine ⟨b5, ρ4, μ5, ho5, q5.bind.mono (fun d6 μ6 q6 b6 v6 H6 st6 ho6 r6 => ?_) fun _ _ k => k.elim⟩
        refine ⟨b6, ρ4, μ6, ho6, q6.bind.mono (fun d7 μ7 q7 b7 v7 H7 st7 ho7 r7 => ?_) fun _ _ k => k.elim⟩
        have B7 := B3.step (st4.trans (st5.trans (st6.trans st7))) ho7.m
        split at q7
        · rename_i hkey
          have q8 : WpR (if p.1.length < sizeLn then dcompL f src (items.drop (i + 1)) (dput d6 d7 p.1 p.2) μ7 else .no) kk (fun _ _ => False) := q7
          split at q8
          · rename_i hlen
            obtain ⟨k, hk⟩ := keyOk_f hkey
            have hvk : v6 = kV k := by
              cases d6 <;> simp only [toKey] at hk <;> first | (cases hk; done) | skip
              · cases hk; simp only [Rep] at r6; exact r6
              · cases hk; simp only [Rep] at r6; exact r6.1
            obtain ⟨xs', ws', e1, e2, e3, e4⟩ := dput_put (w := v7) (d := d6) (fun b x hb => deq_key hb hk) hk r7 B7.ks B7.len B7.r
            refine ⟨xs.zip ws, k, hvk, B7.at_, by rw [List.length_zip, mapM_len B7.ks, ← B7.len, Nat.min_self, ← sizeLn_eq]; exact hlen, ?_⟩
            show W0 _ _ _
            rw [hW, e1]
            exact ⟨rfl, hlt, b7, μ7, _, xs', ws', st.trans (st3.trans (st4.trans (st5.trans (st6.trans st7)))).le, ⟨B7.st.write h0, B7.ho.to b7.le_refl (B7.ho.m.write B7.g B7.n (fun q e => by rw [B7.at_] at e; cases e) fun o e => by rw [B7.at_] at e; cases e; exact ⟨fun _ z => by (cases z), fun _ z => by (cases z)⟩), upd_same, e2, e3, B7.g, B7.n, e4⟩, q8⟩
          · exact q8.elim
        · exact q7.elim
  · left
    have : i = items.length := by omega
    subst this
    rw [List.drop_of_length_le (Nat.le_refl _)] at q
    obtain ⟨hok, k⟩ := dcompL_stop q
    obtain ⟨w1, w2⟩ := w b μ H' st B.ho.m hok
    refine ⟨w2, ?_⟩
    rw [hkk] at k
    exact k b _ H' B.st B.ho ⟨D, ws, rfl, h0, B.g, B.n, B.r, B.len, xs, B.at_, B.ks⟩
end
end DI
end

section
set_option Elab.async false
set_option linter.all false
set_option maxRecDepth 100000
namespace DI
open PySem L2 PySem.Spec PyProof.Rows
/-- exceptions that no other one was handled at -/
abbrev Takes := L2N.Takes
/-- an exception that leaves a def -/
def KxC (T : Tab) (K : PySem.W.Frag) (a : Abs) (H : Hp) (E : XK) : D → Mem → Prop := fun x μ => ∃ c ns vs, x = .exc c ns vs ∧
  ∀ b dd ws H', Stp a H b H' → HolM T K b μ H' → Reps T K b vs ws → ns.length = ws.length → XdAt T b.G ns ws dd → E (.ref (T.ca c)) dd H'
/-- a wish at these slots -/
abbrev WEs (W : WX) (σ : L2.St) : XK := fun cls d H => W cls d σ H
theorem Kx.toC {T : Tab} {K : PySem.W.Frag} {a a1 : Abs} {H H1 : Hp} {ρ : Env} {σ : L2.St} {W : WX} {x : D} {μ μ1 : Mem} (k : Kx T K a H ρ σ W x μ) (st : Stp a H a1 H1) (ho : Hol T K a1 ρ μ1 σ H1) : KxC T K a1 H1 (WEs W σ) x μ := by
  obtain ⟨c, ns, vs, e, k⟩ := k
  exact ⟨c, ns, vs, e, fun b dd ws H2 st2 hm rv hl hd => k b dd ws H2 (st.trans st2) (ho.to st2.le hm) rv hl hd⟩
theorem KxC.mono {T : Tab} {K : PySem.W.Frag} {a b : Abs} {H H' : Hp} {E : XK} (h : Stp a H b H') {x : D} {μ : Mem} (k : KxC T K a H E x μ) : KxC T K b H' E x μ := by
  obtain ⟨c, ns, vs, e, k⟩ := k
  exact ⟨c, ns, vs, e, fun b dd ws H2 st ho rv hl hd => k b dd ws H2 (h.trans st) ho rv hl hd⟩
/-- what a def promises: what the small interpreter makes of it at this level -/
def spD (T : Tab) (K : PySem.W.Frag) (n f : Nat) : Sp := fun vs H Q E => ∃ a μ ds, HolM T K a μ H ∧ Reps T K a ds vs ∧
  WpR ((T.C n).fn f ds μ) (fun d μ' => ∀ b v H', Stp a H b H' → HolM T K b μ' H' → Rep T K b d v → Q v H') (KxC T K a H E)
/-- how a call with m values and the keywords ks (the parameters ix) binds -/
structure BindOk (T : Tab) (K : PySem.W.Frag) (fd : FuncData) (ps : List Str) (F : Fn) (m : Nat) (ix : List Nat) (ks : List Str) : Prop where
  ex : ∃ g gV, KBn K fd ps m ks g gV ∧ ∀ a args vs kv zs ds, Reps T K a args vs → Reps T K a kv zs → args.length = m → kv.length = ks.length → bindK F.np F.dflt args ix kv = some ds → Reps T K a ds (gV vs zs)
/-- a def that keeps its promise wherever nothing is being told by repr -/
structure FnG (P : Program) (w : World) (K : PySem.W.Frag) (mg : Str → Option Value) (base : Heap) (k : Nat) (f : Addr) (fd : FuncData) (ps : List Str) (sp : Sp) : Prop where
  len : ∀ vs H Q E, sp vs H Q E → vs.length = ps.length
  run : ∀ (A : Around) (outer : List PySem.Env) (s : Shared) (H : Hp) (args : Args) (us : List Value) (vs : List V) (Q : VK) (E : XK), Room k A → A.guards = some [] → Env0 P w K mg base A outer s H → BindsTo s fd args (ps.zip us) → Vals vs us → sp vs H Q E →
    codeAny (model P w) A (.call (.ref f) args) (CR (L2N.CX P w) outer P w H s Q E) s
section
variable (T : Tab) (P : Program) (w : World) (K : PySem.W.Frag) (mg : Str → Option Value) (base : Heap) (n : Nat)
/-- a def of the text -/
structure FnF (f : Nat) (F : Fn) : Prop where
  ex : ∃ fd ps, FnG P w K mg base (3 * n) (T.fa f) fd ps (spD T K n f) ∧ PySem.W.keepIn K (.ref (T.fa f)) = true ∧ PySem.W.isFn K (.ref (T.fa f)) = true ∧ ∀ m ix ks, T.form f m ix = some ks → BindOk T K fd ps F m ix ks
def FnsOk : Prop := ∀ f F, T.P.fns f = some F → FnF T P w K mg base n f F
/-- a def's code object -/
def cdOf (K : PySem.W.Frag) (f : Addr) : Value := match K.lookup f with
  | some ⟨_, _, .func fd, _⟩ => fd.code
  | _ => .none
/-- a def that takes a lambda without parameters: its promise at each call; hap: the lambda called in its body -/
def ThkF (f : Nat) : Prop := ∃ (N : List Str) (qual : Str) (scope : Scope) (nm : Str), N[0]? = some nm ∧ Vis scope nm ∧ (nm == ("__debug__" : Str)) = false ∧ (nm == ("__classdict__" : Str)) = false ∧ PySem.W.keepIn K (.ref (T.fa f)) = true ∧
  ∀ (A : Around) (outer : List PySem.Env) (s : Shared) (H : Hp) (Q : VK) (E : XK) (p c : Addr) (q : Str) (k : Nat) (σ0 : L2.St) (a : Abs) (ρ' : Env) (μ : Mem), Room (3 * n) A → A.guards = some [] → Env0 P w K mg base A outer s H →
    (∀ m, n = m + 1 → ∀ (p1 p2 : Pos) (pn : List (Addr × Obj)) (xe : Value → Shared → Prop) (W' : WX), Takes ((cxOf (L2N.CX P w) P w K mg base N qual scope (T.fa f) (cdOf K (T.fa f)) A outer s H E).tr pn xe) W' →
      SE (T.sp none (some (p, c, q, k, σ0))) m ((cxOf (L2N.CX P w) P w K mg base N qual scope (T.fa f) (cdOf K (T.fa f)) A outer s H E).tr pn xe) W' (.Call (.Name nm p1) [] [] p2) (.app 0 .n)) →
    HolM T K a μ H → EnvAt (T.sp none (some (p, c, q, k, σ0))) K a 0 (.clo k ρ') (.ref p) →
    WpR ((T.C n).fn f [.clo k ρ'] μ) (fun d μ' => ∀ b v H', Stp a H b H' → HolM T K b μ' H' → Rep T K b d v → Q v H') (KxC T K a H E) →
    codeAny (model P w) A (.call (.ref (T.fa f)) ⟨[.ref p], []⟩) (CR (L2N.CX P w) outer P w H s Q E) s
end
def spName : Nat → Str
  | 0 => "__eq__" | 1 => "__len__" | 2 => "__str__" | 3 => "__repr__" | 4 => "__bool__" | 5 => "__contains__" | 6 => "__getitem__" | 7 => "__setitem__" | 8 => "__enter__" | _ => "__exit__"
/-- what the text tells of its classes -/
structure TabOk (T : Tab) (K : PySem.W.Frag) : Prop where
  sysm : (K.lookup sysModules).isSome = true
  an : ∀ i j, T.an i = T.an j → i = j
  meth : ∀ c k m f, T.P.cls c = some k → k.meths.lookup m = some f → L2.Cls K (T.ca c) ∧ Meth K (T.ca c) (T.an m) (T.fa f)
  prop : ∀ c k m f, T.P.cls c = some k → k.props.lookup m = some f → L2.Cls K (T.ca c) ∧ ∃ p, PropOf K (T.ca c) (T.an m) p (T.fa f)
  fld : ∀ c k m, T.P.cls c = some k → k.flds.contains m = true → L2.Cls K (T.ca c) ∧ NoAttr K (T.ca c) (T.an m)
  init : ∀ c k f, T.P.cls c = some k → k.init = some f → Mk K (T.ca c) (T.fa f)
  xf : ∀ c k f, T.P.cls c = some k → k.xfl.contains f = true → XfC K (T.ca c) ∧ PySem.W.findIn K (.ref (T.ca c)) (T.an f) = some none
  spec : ∀ c k j f, T.P.cls c = some k → k.spec.lookup j = some f → PySem.W.findIn K (.ref (T.ca c)) (spName j) = some (some (.ref (T.fa f))) ∧ PySem.W.isFn K (.ref (T.fa f)) = true
  nosp : ∀ c k j, T.P.cls c = some k → k.spec.lookup j = none → (j = 1 ∨ j = 4 ∨ j = 5 ∨ j = 6) → PySem.W.findIn K (.ref (T.ca c)) (spName j) = some none
/-- what holds in every body of level n -/
structure Own (T : Tab) (n : Nat) (X : Cx) : Prop where
  calm : X.calm = true
  room : Room (3 * n + 2) X.A
  gd : X.A.guards = some []
  fnA : ∀ j, j ≤ n → FnsOk T X.prog X.w X.K X.mg X.base j
  thkA : T.clo = none → ∀ j, j ≤ n → ∀ f, T.thk.contains f = true → ThkF T X.prog X.w X.K X.mg X.base j f
  tab : TabOk T X.K
  tabs : ∀ q ∈ T.cds, LamX.TabB X.base X.mg q.1 q.2
  nex : T.ex = none
theorem Own.fns {T : Tab} {n : Nat} {X : Cx} (O : Own T n X) : FnsOk T X.prog X.w X.K X.mg X.base n := O.fnA n (Nat.le_refl n)
section
variable {T : Tab} {n : Nat} {X : Cx} {W : WX} {pos : Pos} {a : Abs} {H : Hp} {μ : Mem}
theorem CR.ep {pins : List (Addr × Obj)} {σ : L2.St} {s s' : Shared} {Q : VK} {E : XK} {E2 : Value → Shared → Prop} {r : Result} (I : L2.Inv X pins σ H s) (hx : ∀ e s', L2N.CX X.prog X.w X.stack H s E e s' → E2 e s') (h : CR (L2N.CX X.prog X.w) X.stack X.prog X.w H s Q E r s') : wants (EP X pins σ Q) E2 r s' := by
  cases r with
  | error e => exact hx e s' h
  | ok fl =>
    cases fl with
    | ret u => exact I.after h
    | next => exact False.elim h
    | brk => exact False.elim h
    | cont => exact False.elim h
/-- what a call lets out is taken -/
theorem out_takes (tk : Takes X W) {pins : List (Addr × Obj)} {σ : L2.St} {s : Shared} (I : L2.Inv X pins σ H s) (e : Value) (s' : Shared) (c : L2N.CX X.prog X.w X.stack H s (WEs W σ) e s') : X.xe e s' := tk e s' (L2N.XE.of_call I (fun _ _ _ h => h) c)
/-- nothing is let out -/
theorem out_none {E2 : Value → Shared → Prop} {s : Shared} (e : Value) (s' : Shared) (c : L2N.CX X.prog X.w X.stack H s (fun _ _ _ => False) e s') : E2 e s' := by
  obtain ⟨_, _, _, _, _, _, _, _, _, _, _, _, z⟩ := c
  exact z.elim
theorem KxC.none {T : Tab} {K : PySem.W.Frag} {a : Abs} {H : Hp} {E : XK} {x : D} {μ : Mem} (z : False) : KxC T K a H E x μ := z.elim
/-- a def called, by what the small interpreter makes of it -/
theorem run_d (O : Own T n X) {pins : List (Addr × Obj)} {σ : L2.St} {s : Shared} {Q : VK} {E : XK} {A : Around} {E2 : Value → Shared → Prop} {f m : Nat} {ix : List Nat} {ks : List Str} {args kv : List D} {us ws : List Value} {vs zs : List V}
    (hx : ∀ e s', L2N.CX X.prog X.w X.stack H s E e s' → E2 e s') (hA : Room (3 * n) A) (hG : A.guards = some []) (e0 : Env0 X.prog X.w X.K X.mg X.base A X.stack s H) (I : L2.Inv X pins σ H s) (hf : T.form f m ix = some ks) (r : Vals vs us) (rz : Vals zs ws) (ra : Reps T X.K a args vs) (rk : Reps T X.K a kv zs) (l1 : args.length = m) (l2 : kv.length = ks.length) (hm : HolM T X.K a μ H)
    (q : WpR (calF T.P (T.C n) f args ix kv μ) (fun d μ' => ∀ b v H', Stp a H b H' → HolM T X.K b μ' H' → Rep T X.K b d v → Q v H') (KxC T X.K a H E)) :
    codeAny (model X.prog X.w) A (.call (.ref (T.fa f)) ⟨us, ks.zip ws⟩) (wants (EP X pins σ Q) E2) s := by
  unfold calF at q
  split at q
  · rename_i F hF
    split at q
    · rename_i ds hds
      obtain ⟨fd, ps, Fo, kp, fn, hB⟩ := (O.fns f F hF).ex
      obtain ⟨g, gV, kb, rel⟩ := (hB m ix ks hf).ex
      have rd := rel a args vs kv zs ds ra rk l1 l2 hds
      have z1 : us.length = m := by rw [← r.length, ← ra.length]; exact l1
      have z2 : ws.length = ks.length := by rw [← rz.length, ← rk.length]; exact l2
      exact codeAny_mono (Fo.run A X.stack s H ⟨us, ks.zip ws⟩ (g us ws) (gV vs zs) Q E hA hG e0 (kb.to s us ws I.kIn z1 z2) (kb.rel r rz) ⟨a, μ, ds, hm, rd, q⟩) fun r s' hq => CR.ep I hx hq
    · exact q.elim
  · exact q.elim
theorem Own.r0 (O : Own T n X) : Room (3 * n) X.A := O.room.mono (by omega)
theorem run_dc (O : Own T n X) (tk : Takes X W) {pins : List (Addr × Obj)} {σ : L2.St} {s : Shared} {Q : VK} {f m : Nat} {ix : List Nat} {ks : List Str} {args kv : List D} {us ws : List Value} {vs zs : List V} (I : L2.Inv X pins σ H s) (hf : T.form f m ix = some ks) (r : Vals vs us) (rz : Vals zs ws)
    (ra : Reps T X.K a args vs) (rk : Reps T X.K a kv zs) (l1 : args.length = m) (l2 : kv.length = ks.length) (hm : HolM T X.K a μ H)
    (q : WpR (calF T.P (T.C n) f args ix kv μ) (fun d μ' => ∀ b v H', Stp a H b H' → HolM T X.K b μ' H' → Rep T X.K b d v → Q v H') (KxC T X.K a H (WEs W σ))) :
    wpAny (model X.prog X.w) X.A (call (.ref (T.fa f)) us (ks.zip ws)) (EP X pins σ Q) X.xe s := wpAny_call (run_d O (out_takes tk I) O.r0 O.gd I.env0 I hf r rz ra rk l1 l2 hm q)
theorem Own.keep (O : Own T n X) {f : Nat} {args kv : List D} {ix : List Nat} {k : D → Mem → Prop} {kx : D → Mem → Prop} (q : WpR (calF T.P (T.C n) f args ix kv μ) k kx) : PySem.W.keepIn X.K (.ref (T.fa f)) = true ∧ PySem.W.isFn X.K (.ref (T.fa f)) = true := by
  unfold calF at q
  split at q
  · rename_i F hF
    obtain ⟨fd, ps, _, kp, fn, _⟩ := (O.fns f F hF).ex
    exact ⟨kp, fn⟩
  · exact q.elim
theorem PK.imp {x : List Keyword} {t t' : TA} (h : PK X x t) (g : ∀ σ H Q, t' σ H Q → t σ H Q) : PK X x t' := ⟨fun pos pins s σ H Q I q => h.run pos pins s σ H Q I (g σ H Q q)⟩
/-- f(e, ..) -/
theorem se_cal (O : Own T n X) (tk : Takes X W) {x : Str} {p : Pos} {y : Expr} {ys : List Expr} {es : Es} {f : Nat} (hf : T.form f es.len [] = some []) (hg : Gl X x) (hm : X.mg x = some (.ref (T.fa f))) (kp : PySem.W.keepIn X.K (.ref (T.fa f)) = true) (ha : SA T n X W (y :: ys) es) (hdb : (x == ("__debug__" : Str)) = false)
    (he : starEach (y :: ys) X.env = (false, eval y X.env) :: starEach ys X.env) (hpl : (backTo pos (starEach ys X.env)).any (·.1) = false) : SE T n X W (.Call (.Name x p) (y :: ys) [] pos) (.cal f es) := by
  refine ⟨fun pins s σ H Q I q => ?_⟩
  obtain ⟨a, ρ, μ, ho, q⟩ := q
  simp only [evE] at q
  refine wpAny_Call_Name_kw (ld_glob I hg hm ?_ hdb)
  refine PySem.W.callWith_K (h₀ := X.base) I.ok.mod.kin kp (thn (ha.run pos pins s σ H (fun vs H1 => ∃ b l μ1, Stp a H b H1 ∧ Hol T X.K b ρ μ1 σ H1 ∧ Reps T X.K b l vs ∧ l.length = es.len ∧
    WpR (calF T.P (T.C n) f l [] [] μ1) (fun d μ' => ∀ b v H', Stp a H b H' → Hol T X.K b ρ μ' σ H' → Rep T X.K b d v → Q v H') (Kx T X.K a H ρ σ W)) I ?_) fun us s1 ⟨vs, H1, I1, r, b, l, μ1, st, ho1, rl, hl, q1⟩ => ⟨I1.kIn, ?_⟩) he hpl
  · exact ⟨a, ρ, μ, ho, (evEs_len q.bind).mono (fun l μ1 ⟨hl, q1⟩ b vs H1 st ho1 r => ⟨b, l, μ1, st, ho1, r, hl, q1⟩) fun _ _ k => k⟩
  · exact run_dc (ks := []) (ws := []) (zs := []) (kv := []) O tk I1 hf r .nil rl Reps.nil hl rfl ho1.m (q1.mono (fun d μ2 k c v H2 st2 m2 r2 => k c v H2 (st.trans st2) (ho1.to st2.le m2) r2) fun _ _ k => k.toC st ho1)
end
end DI
end

section
set_option Elab.async false
set_option linter.all false
set_option maxRecDepth 100000
namespace DI
open PySem L2 PySem.Spec PyProof.Rows
section
variable {T : Tab} {K : PySem.W.Frag}
mutual
theorem lim_rep {a : Abs} : ∀ (d : D) (v : V), Rep T K a d v → lim d ≤ a.α.length
  | .non, _, _ => by simp [lim]
  | .bl _, _, _ => by simp [lim]
  | .int _, _, _ => by simp [lim]
  | .str _, _, _ => by simp [lim]
  | .tup l, _, x => by simp only [Rep] at x; obtain ⟨p, vs, _, _, r⟩ := x; simp only [lim]; exact lims_rep l vs r
  | .key l, _, x => by simp only [Rep] at x; obtain ⟨p, vs, _, _, r⟩ := x; simp only [lim]; exact lims_rep l vs r
  | .lst l, _, x => by simp only [Rep] at x; obtain ⟨p, vs, _, _, r⟩ := x; simp only [lim]; exact lims_rep l vs r
  | .rol l, _, x => by simp only [Rep] at x; obtain ⟨p, vs, _, _, r⟩ := x; simp only [lim]; exact lims_rep l vs r
  | .dct t ks ds, _, x => by
    simp only [Rep] at x; obtain ⟨p, ws, _, r, hl, hd⟩ := x
    simp only [lim]
    have h1 := lims_rep ds ws r
    have h2 : lims ks = 0 := by
      cases t with
      | false => obtain ⟨xs, _, m⟩ := hd; exact lims_keys m
      | true => obtain ⟨xs, _, m⟩ := hd; exact lims_keysT m
    omega
  | .ins c ns fs, _, x => by simp only [Rep] at x; obtain ⟨p, dx, ws, _, _, _, _, r⟩ := x; simp only [lim]; exact lims_rep fs ws r
  | .exc _ _ _, _, x => by simp only [Rep] at x
  | .cls _, _, _ => by simp [lim]
  | .fn _, _, _ => by simp [lim]
  | .clo _ _, _, x => by simp only [Rep] at x
  | .obj n, _, x => by simp only [Rep] at x; obtain ⟨p, e, _⟩ := x; simp only [lim]; exact (List.getElem?_eq_some_iff.mp e).1
theorem lims_rep {a : Abs} : ∀ (l : List D) (vs : List V), Reps T K a l vs → lims l ≤ a.α.length
  | [], _, _ => by simp [lims]
  | d :: l, _, x => by
    obtain ⟨v, ws, _, r, rs⟩ := x.inv
    have h1 := lim_rep d v r
    have h2 := lims_rep l ws rs
    simp only [lims]; omega
theorem lims_keys : ∀ {l : List D} {xs : List Key}, l.mapM toKey = some xs → lims l = 0
  | [], _, _ => by simp [lims]
  | d :: l, xs, h => by
    obtain ⟨y, ys, e1, e2, rfl⟩ := mapM_cons h
    have := lims_keys e2
    cases d <;> simp only [toKey] at e1 <;> first | (cases e1; done) | skip <;> simp [lims, lim, this]
theorem lims_keysT : ∀ {l : List D} {xs : List (List Key)}, l.mapM toKeyT = some xs → lims l = 0
  | [], _, _ => by simp [lims]
  | d :: l, xs, h => by
    obtain ⟨y, ys, e1, e2, rfl⟩ := mapM_cons h
    have := lims_keysT e2
    cases d <;> simp only [toKeyT] at e1 <;> first | (cases e1; done) | skip
    rename_i m
    have h3 : ∀ {m : List D} {z : List Key}, (m.mapM fun d => match d with | .str s => some (Sum.inr s : Key) | _ => none) = some z → lims m = 0 := by
      intro m
      induction m with
      | nil => intro z _; simp [lims]
      | cons e m ih =>
        intro z hz
        obtain ⟨u, us, f1, f2, rfl⟩ := mapM_cons hz
        have := ih f2
        cases e <;> simp only at f1 <;> first | (cases f1; done) | skip
        simp [lims, lim, this]
    simp [lims, lim, this, h3 e1]
end
mutual
/-- a value that names no later store object stands in the store cut back, too -/
theorem Rep.cut {a b : Abs} {r : List Addr} (e : b.α = a.α ++ r) : ∀ (d : D) (v : V), lim d ≤ a.α.length → Rep T K b d v → Rep T K ⟨a.α, b.G⟩ d v
  | .non, _, _, x => by simpa only [Rep] using x
  | .bl _, _, _, x => by simpa only [Rep] using x
  | .int _, _, _, x => by simpa only [Rep] using x
  | .str _, _, _, x => by simpa only [Rep] using x
  | .tup l, _, h, x => by
    simp only [Rep] at x ⊢
    simp only [lim] at h
    obtain ⟨p, vs, e1, s, q⟩ := x
    exact ⟨p, vs, e1, s, Reps.cut e l vs h q⟩
  | .key l, _, h, x => by
    simp only [Rep] at x ⊢
    simp only [lim] at h
    obtain ⟨p, vs, e1, s, q⟩ := x
    exact ⟨p, vs, e1, s, Reps.cut e l vs h q⟩
  | .lst l, _, h, x => by
    simp only [Rep] at x ⊢
    simp only [lim] at h
    obtain ⟨p, vs, e1, s, q⟩ := x
    exact ⟨p, vs, e1, s, Reps.cut e l vs h q⟩
  | .rol l, _, h, x => by
    simp only [Rep] at x ⊢
    simp only [lim] at h
    obtain ⟨p, vs, e1, s, q⟩ := x
    exact ⟨p, vs, e1, s, Reps.cut e l vs h q⟩
  | .dct t ks ds, _, h, x => by
    simp only [Rep] at x ⊢
    simp only [lim] at h
    obtain ⟨p, ws, e1, q, hl, s⟩ := x
    exact ⟨p, ws, e1, Reps.cut e ds ws (by omega) q, hl, s⟩
  | .ins c ns fs, _, h, x => by
    simp only [Rep] at x ⊢
    simp only [lim] at h
    obtain ⟨p, dx, ws, e1, g, g2, hl, q⟩ := x
    exact ⟨p, dx, ws, e1, g, g2, hl, Reps.cut e fs ws h q⟩
  | .exc _ _ _, _, _, x => by simp only [Rep] at x
  | .cls _, _, _, x => by simpa only [Rep] using x
  | .fn _, _, _, x => by simpa only [Rep] using x
  | .clo _ _, _, _, x => by simp only [Rep] at x
  | .obj n, _, h, x => by
    simp only [Rep] at x ⊢
    simp only [lim] at h
    obtain ⟨p, e1, f⟩ := x
    refine ⟨p, ?_, f⟩
    rw [e, List.getElem?_append_left (by omega)] at e1
    exact e1
theorem Reps.cut {a b : Abs} {r : List Addr} (e : b.α = a.α ++ r) : ∀ (l : List D) (vs : List V), lims l ≤ a.α.length → Reps T K b l vs → Reps T K ⟨a.α, b.G⟩ l vs
  | [], _, _, x => by simpa only [Reps] using x
  | d :: l, _, h, x => by
    simp only [lims] at h
    obtain ⟨v, ws, rfl, q, qs⟩ := x.inv
    exact Reps.cons (Rep.cut e d v (by omega) q) (Reps.cut e l ws (by omega) qs)
end
theorem lim_ob {a : Abs} {H : Hp} {p : Addr} {ob : Ob} (h : ObRep T K a H p ob) : limOb ob ≤ a.α.length := by
  cases ob with
  | lst l => obtain ⟨vs, _, r⟩ := h; exact lims_rep l vs r
  | dct t ks ds =>
    obtain ⟨ws, r, hl, hd⟩ := h
    have h1 := lims_rep ds ws r
    have h2 : lims ks = 0 := by
      cases t with
      | false => obtain ⟨xs, _, m⟩ := hd; exact lims_keys (T := T) (K := K) m
      | true => obtain ⟨xs, _, m⟩ := hd; exact lims_keysT (T := T) (K := K) m
    show max (lims ks) (lims ds) ≤ _
    omega
  | ins c ns fs => obtain ⟨dx, ws, _, _, _, _, r⟩ := h; exact lims_rep fs ws r
theorem ObRep.cut {a b : Abs} {r : List Addr} {H : Hp} {p : Addr} {ob : Ob} (e : b.α = a.α ++ r) (hl : limOb ob ≤ a.α.length) (h : ObRep T K b H p ob) : ObRep T K ⟨a.α, b.G⟩ H p ob := by
  cases ob with
  | lst l => obtain ⟨vs, h1, q⟩ := h; exact ⟨vs, h1, Reps.cut e l vs hl q⟩
  | dct t ks ds =>
    obtain ⟨ws, q, h2, h3⟩ := h
    have hl : max (lims ks) (lims ds) ≤ a.α.length := hl
    exact ⟨ws, Reps.cut e ds ws (by omega) q, h2, h3⟩
  | ins c ns fs => obtain ⟨dx, ws, h1, h2, h3, h4, q⟩ := h; exact ⟨dx, ws, h1, h2, h3, h4, Reps.cut e fs ws hl q⟩
theorem chkOld_at : ∀ {μ0 μ : Mem} {n : Nat}, chkOld μ0 μ n = true → ∀ (i : Nat) (x y : Ob), μ0[i]? = some x → (μ : List Ob)[i]? = some y → x = y ∨ limOb y ≤ n
  | [], μ, n, _, i, x, y, h1, _ => by simp at h1
  | _ :: _, [], n, h, i, x, y, h1, h2 => by simp at h2
  | a :: l, b :: m, n, h, 0, x, y, h1, h2 => by
    simp only [chkOld, Bool.and_eq_true, Bool.or_eq_true, decide_eq_true_eq] at h
    simp at h1 h2; subst h1; subst h2
    rcases h.1 with h | h
    · exact .inl (obEq_eq h)
    · exact .inr h
  | a :: l, b :: m, n, h, i + 1, x, y, h1, h2 => by
    simp only [chkOld, Bool.and_eq_true] at h
    exact chkOld_at h.2 i x y (by simpa using h1) (by simpa using h2)
/-- the store cut back to what it was long -/
theorem HolM.cut {a b : Abs} {μ0 μ : Mem} {H0 H : Hp} (m0 : HolM T K a μ0 H0) (m : HolM T K b μ H) (le : a.le b) (hc : chkOld μ0 μ μ0.length = true) : HolM T K ⟨a.α, b.G⟩ (μ.take μ0.length) H := by
  obtain ⟨⟨r, e⟩, _⟩ := le
  have hl : μ0.length ≤ μ.length := by rw [m.len, m0.len, e]; simp
  refine ⟨m.le, ?_, m0.nd, fun i p ob e1 e2 => ?_, m.ow, m.tb, m.tb2⟩
  · rw [List.length_take, Nat.min_eq_left hl]
    exact m0.len
  · have e1 : a.α[i]? = some p := e1
    have hi : i < μ0.length := by rw [m0.len]; exact (List.getElem?_eq_some_iff.mp e1).1
    rw [List.getElem?_take_of_lt hi] at e2
    obtain ⟨g, q⟩ := m.st i p ob (by rw [e, List.getElem?_append_left (by rw [← m0.len]; exact hi)]; exact e1) e2
    refine ⟨g, q.cut e ?_⟩
    obtain ⟨ob0, eo, _, q0⟩ := m0.at e1
    rcases chkOld_at hc i ob0 ob eo e2 with rfl | h
    · exact lim_ob q0
    · rw [← m0.len]; exact h
theorem Stp.cut {a b : Abs} {H0 H : Hp} (s : Stp a H0 b H) : Stp a H0 ⟨a.α, b.G⟩ H := by
  refine ⟨⟨⟨[], by simp⟩, s.le.fr⟩, s.dom, fun p o e1 e2 e3 nt => ?_, s.tl⟩
  obtain ⟨x, y, z⟩ := s.frame p o e1 e2 e3 nt
  exact ⟨x, y, e3⟩
/-- at a def's end -/
theorem fin_ok {a : Abs} {μ : Mem} {H : Hp} (m0 : HolM T K a μ H) {keep : Bool} {d : D} {μ' : Mem} {k : D → Mem → Prop} {kx : D → Mem → Prop} (q : WpR (fin keep μ d μ') k kx) {b : Abs} {v : V} {H' : Hp} (st : Stp a H b H') (m : HolM T K b μ' H') (r : Rep T K b d v) :
    ∃ c d' μ2, Stp a H c H' ∧ HolM T K c μ2 H' ∧ Rep T K c d' v ∧ k d' μ2 := by
  unfold fin at q
  split at q
  · exact ⟨b, d, μ', st, m, r, q⟩
  · split at q
    · rename_i hc
      obtain ⟨hl, hc⟩ := hc
      have m2 := m0.cut m st.le hc
      obtain ⟨⟨rr, e⟩, _⟩ := id st.le
      -- what is frozen
      have plain : ∀ {d0 : D}, frz μ.length μ' d = d0 → d0 = d → ∃ c d' μ2, Stp a H c H' ∧ HolM T K c μ2 H' ∧ Rep T K c d' v ∧ k d' μ2 := fun {d0} h1 h2 => by
        subst h2
        rw [h1] at hl q
        exact ⟨_, _, _, st.cut, m2, Rep.cut e _ v (by rw [← m0.len]; exact hl) r, q⟩
      cases d with
      | obj n =>
        by_cases hn : μ.length ≤ n
        · simp only [Rep] at r
          obtain ⟨p, ep, rfl⟩ := r
          obtain ⟨ob, eo, g, q2⟩ := m.at ep
          have hp0 : p ∉ a.α := fun hp => by
            obtain ⟨i, hi⟩ := List.mem_iff_getElem?.mp hp
            have hi2 := (List.getElem?_eq_some_iff.mp hi).1
            have e2 : b.α[i]? = some p := by rw [e, List.getElem?_append_left hi2]; exact hi
            obtain ⟨l1, m1⟩ := List.getElem?_eq_some_iff.mp e2
            obtain ⟨l2, m3⟩ := List.getElem?_eq_some_iff.mp ep
            have : i = n := (List.getElem_inj (h₀ := l1) (h₁ := l2) m.nd).mp (by rw [m1, m3])
            have hml := m0.len
            omega
          have gn : (⟨a.α, b.G⟩ : Abs).G p = none := g
          have h0 : H p = none := by
            cases hh : H p with
            | none => rfl
            | some o =>
              cases hg : a.G p with
              | some u => rw [st.le.fr _ _ hg] at g; cases g
              | none =>
                have nt : ¬ IsTE o := fun z => by
                  obtain ⟨o9, e9, z9⟩ := st.tl _ _ hh z
                  rcases z9 with ⟨_, rfl⟩ | ⟨_, rfl⟩
                  · exact (q2.noTE _ e9).1 _ rfl
                  · exact (q2.noTE _ e9).2 _ rfl
                have := (st.frame p o hh hg hp0 nt).2.2
                exact absurd (List.mem_of_getElem? ep) this
          cases ob with
          | lst l =>
            have ef : frz μ.length μ' (.obj n) = .lst l := by simp only [frz, if_pos hn, eo]
            rw [ef] at hl q
            obtain ⟨vs, hv, rv⟩ := q2
            obtain ⟨m3, le3⟩ := m2.freezeAt hv gn hp0 (fun _ z => by cases z) (fun _ z => by cases z)
            refine ⟨_, _, _, st.cut.freezeAt h0 le3, m3, ?_, q⟩
            simp only [Rep]
            exact ⟨p, vs, rfl, upd_same, Reps.mono le3 _ _ (Reps.cut e l vs (by rw [← m0.len]; simpa [lim] using hl) rv)⟩
          | dct t ks ds =>
            have ef : frz μ.length μ' (.obj n) = .dct t ks ds := by simp only [frz, if_pos hn, eo]
            rw [ef] at hl q
            obtain ⟨ws, rv, hl2, hd⟩ := q2
            obtain ⟨o, ho, hw⟩ := hd.there
            obtain ⟨m3, le3⟩ := m2.freezeAt ho gn hp0 hw (by first | exact hd.noT ho | exact DcAt.noT (by assumption) ho)
            refine ⟨_, _, _, st.cut.freezeAt h0 le3, m3, ?_, q⟩
            simp only [Rep]
            refine ⟨p, ws, rfl, Reps.mono le3 _ _ (Reps.cut e ds ws (by rw [← m0.len]; simp only [lim] at hl; omega) rv), hl2, hd.of ho upd_same⟩
          | ins c ns fs => exact plain (by simp only [frz, if_pos hn, eo]) rfl
        · exact plain (by simp only [frz, if_neg hn]) rfl
      | _ => exact plain (by simp only [frz]) rfl
    · exact q.elim
end
end DI
end

section
set_option Elab.async false
set_option linter.all false
set_option maxRecDepth 100000
namespace DI
open PySem L2 PySem.Spec PyProof.Rows
section
variable {T : Tab} {K : PySem.W.Frag}
theorem reps_start {a : Abs} : ∀ {ds : List D} {vs : List V} {k i : Nat} {d : D}, Reps T K a ds vs → getE (ds.map some ++ List.replicate k none) i = some d → ∃ v, (vs.map some ++ List.replicate k (none : Option V))[i]? = some (some v) ∧ Rep T K a d v
  | [], vs, k, i, d, r, e => by
    unfold getE at e
    rw [r.inv0] at *
    simp only [List.map_nil, List.nil_append] at e
    rw [List.getElem?_replicate] at e
    split at e <;> simp at e
  | x :: ds, vs, k, 0, d, r, e => by
    obtain ⟨v, ws, rfl, r1, r2⟩ := r.inv
    simp [getE] at e; subst e
    exact ⟨v, by simp, r1⟩
  | x :: ds, vs, k, i + 1, d, r, e => by
    obtain ⟨v, ws, rfl, r1, r2⟩ := r.inv
    obtain ⟨w, h1, h2⟩ := reps_start (k := k) (i := i) r2 (by simpa [getE] using e)
    exact ⟨w, by simpa using h1, h2⟩
theorem hol_start {a : Abs} {ds : List D} {vs : List V} {μ : Mem} {H : Hp} {N : List Str} {nn np : Nat} (m : HolM T K a μ H) (r : Reps T K a ds vs) (h1 : ds.length = np) (h2 : nn = N.length) : Hol T K a (ds.map some ++ List.replicate (nn - np) none) μ (L2.start N vs) H := by
  unfold L2.start
  rw [← r.length, h1, ← h2]
  exact ⟨m, by simp [r.length], fun i d e => let ⟨v, h1, h2⟩ := reps_start r e; ⟨v, h1, EnvAt.of h2⟩⟩
end
/-- what a def's body is to show: at each entry, where all defs of one level less keep their promises -/
def BodyOk (T : Tab) (P : Program) (w : World) (K : PySem.W.Frag) (mg : Str → Option Value) (base : Heap) (n : Nat) (N : List Str) (qual : Str) (scope : Scope) (f : Addr) (body : List Stmt) (b : Ss) : Prop :=
  ∀ (A : Around) (outer : List PySem.Env) (s : Shared) (H : Hp) (E : XK) (W : WX), Own T n (cxOf (L2N.CX P w) P w K mg base N qual scope f (cdOf K f) A outer s H E) → Takes (cxOf (L2N.CX P w) P w K mg base N qual scope f (cdOf K f) A outer s H E) W → SSs T n (cxOf (L2N.CX P w) P w K mg base N qual scope f (cdOf K f) A outer s H E) W body b
/-- an exception at a def's end -/
theorem finX_ok {T : Tab} {K : PySem.W.Frag} {a : Abs} {μ : Mem} {H : Hp} (m0 : HolM T K a μ H) {keep : Bool} {x : D} {μ' : Mem} {k : D → Mem → Prop} {E : XK} (q : WpR (finX keep μ x μ') k (KxC T K a H E)) :
    ∃ c ns vs, x = .exc c ns vs ∧ ∀ b dd ws H', Stp a H b H' → HolM T K b μ' H' → Reps T K b vs ws → ns.length = ws.length → XdAt T b.G ns ws dd → E (.ref (T.ca c)) dd H' := by
  unfold finX at q
  split at q
  · exact q
  · split at q
    · rename_i hc
      obtain ⟨hl, hc⟩ := hc
      obtain ⟨c, ns, vs, rfl, q⟩ := q
      refine ⟨c, ns, vs, rfl, fun b dd ws H' st m rv hn hx => ?_⟩
      obtain ⟨⟨rr, e⟩, _⟩ := id st.le
      exact q ⟨a.α, b.G⟩ dd ws H' st.cut (m0.cut m st.le hc) (Reps.cut e vs ws (by rw [← m0.len]; simpa [lim] using hl) rv) hn hx
    · exact q.elim
section
variable {T : Tab} {P : Program} {w : World} {K : PySem.W.Frag} {mg : Str → Option Value} {base : Heap} {n : Nat}
/-- a def by its body, where nothing is being told by repr -/
theorem fnG_of {k : Nat} {x qual : Str} {params : Arguments} {body : List Stmt} {scope : Scope} {dvs : List V} {kws : List (Str × V)} {f : Addr} {fd : FuncData} {N ps : List Str} {sp : Sp} (Fd : FunD K x qual params body scope dvs kws f fd) (S : FnScope N ps scope) (len : ∀ vs H Q E, sp vs H Q E → vs.length = ps.length)
    (hb : ∀ (A : Around) (outer : List PySem.Env) (s : Shared) (H : Hp) (vs : List V) (Q : VK) (E : XK), Room k (A.deeper (envOfC qual scope s.heap.objs.size f (cdOf K f))) → (A.deeper (envOfC qual scope s.heap.objs.size f (cdOf K f))).guards = some [] → sp vs H Q E →
      ∃ t, PSs (cxOf (L2N.CX P w) P w K mg base N qual scope f (cdOf K f) A outer s H E) body t ∧ t { nx := fun _ H' => Q .non H', rt := Q } (L2.start N vs) H) : FnG P w K mg base (k + 1) f fd ps sp := by
  obtain ⟨oc, od, dV, kV, doc, pm, an, cdv, ct, osl, rfl, lk, hcd, _, _⟩ := Fd.ex
  have ecd : cdOf K f = cdv := by unfold cdOf; rw [lk]
  refine ⟨len, fun A outer s H args us vs Q E hr hg e0 hbi r h => ?_⟩
  have old : ∀ b o, base.get? b = some o → s.heap.get? b = some o := fun b o e => (e0.bs b o e).1
  have inK := e0.mod.kin.keeps old
  refine codeAny_call_function hr.depth (inK _ _ lk) rfl S.co S.gen rfl (PySem.W.codeRec_of inK hcd) (hbi _ _ _ _ ?_)
  refine wpAny_newFunctionEnv_cells S.kind (fun y hy => ?_) fun env he s1 z => ?_
  · obtain ⟨nm, v⟩ := y
    cases S.par nm (List.of_mem_zip hy).1 with
    | inl q => exact .inl q
    | inr q => exact .inr ⟨q, PySem.W.cellsFrom_some _ _ _ (.inl q)⟩
  · subst he
    rw [ecd] at hb
    obtain ⟨t, ht, hq⟩ := hb A outer s H vs Q E (hr.deeper _) hg h
    have I := inv_start (CX := L2N.CX P w) (E := E) (qual := qual) (f := f) (cd := cdv) S hr.hd e0 (len _ _ _ _ h) r z
    refine ⟨(e0.mod.nolimit.keeps old).keeps z.toInCall.keep, codeAny_func (wpAny_mono (ht.run [] s1 _ H _ I hq) (fun fl s2 q => ?_) fun _ _ q => q)⟩
    cases fl with
    | ret u =>
      obtain ⟨v, σ', H', J, rv, q⟩ := q
      exact ⟨v, H', J.os, J.bare, J.base, J.hok, rv, q⟩
    | next =>
      obtain ⟨σ', H', J, q⟩ := q
      exact ⟨.non, H', J.os, J.bare, J.base, J.hok, rfl, q⟩
    | brk => obtain ⟨_, _, _, q⟩ := q; exact q.elim
    | cont => obtain ⟨_, _, _, q⟩ := q; exact q.elim
theorem def_ok {x qual : Str} {params : Arguments} {body : List Stmt} {scope : Scope} {dvs : List V} {kws : List (Str × V)} {i : Nat} {fd : FuncData} {N ps : List Str} {F : Fn} (hF : T.P.fns i = some F) (Fd : FunD K x qual params body scope dvs kws (T.fa i) fd) (S : FnScope N ps scope)
    (h1 : F.np = ps.length) (h2 : F.nn = N.length) (tab : TabOk T K) (tabs : ∀ q ∈ T.cds, LamX.TabB base mg q.1 q.2) (nex : T.ex = none) (fns : ∀ j, j ≤ n → FnsOk T P w K mg base j) (thk : T.clo = none → ∀ j, j ≤ n → ∀ f, T.thk.contains f = true → ThkF T P w K mg base j f) (hb : BodyOk T P w K mg base n N qual scope (T.fa i) body F.body) : FnG P w K mg base (3 * (n + 1)) (T.fa i) fd ps (spD T K (n + 1) i) := by
  have key : ∀ vs H Q E, spD T K (n + 1) i vs H Q E → ∃ a μ ds, HolM T K a μ H ∧ Reps T K a ds vs ∧ ds.length = F.np ∧
      WpS (evSs T.P (T.C n) T.reprS F.body (ds.map some ++ List.replicate (F.nn - F.np) none) μ) (fun _ μ' => WpR (fin F.keep μ .non μ') (fun d μ' => ∀ b v H', Stp a H b H' → HolM T K b μ' H' → Rep T K b d v → Q v H') (KxC T K a H E)) (fun d μ' => WpR (fin F.keep μ d μ') (fun d μ' => ∀ b v H', Stp a H b H' → HolM T K b μ' H' → Rep T K b d v → Q v H') (KxC T K a H E)) (fun x _ μ' => WpR (finX F.keep μ x μ') (fun d μ' => ∀ b v H', Stp a H b H' → HolM T K b μ' H' → Rep T K b d v → Q v H') (KxC T K a H E)) := by
    intro vs H Q E h
    obtain ⟨a, μ, ds, m, r, q⟩ := h
    have q : WpR (calD T.P T.reprS (n + 1) i ds μ) _ _ := q
    simp only [calD, hF] at q
    split at q
    · rename_i hl
      refine ⟨a, μ, ds, m, r, hl, ?_⟩
      have e : T.C n = ⟨calD T.P T.reprS n, lamD T.P T.reprS n⟩ := rfl
      rw [e]
      cases h : evSs T.P ⟨calD T.P T.reprS n, lamD T.P T.reprS n⟩ T.reprS F.body (ds.map some ++ List.replicate (F.nn - F.np) none) μ with
      | nx ρ μ' => rw [h] at q; exact q
      | rt d μ' => rw [h] at q; exact q
      | ex x ρ μ' => rw [h] at q; exact q
      | no => rw [h] at q; exact q
    · exact q.elim
  refine fnG_of (k := 3 * n + 2) Fd S (fun vs H Q E h => ?_) fun A outer s H vs Q E hr hg h => ?_
  · obtain ⟨a, μ, ds, m, r, hl, _⟩ := key vs H Q E h
    rw [← r.length, hl, h1]
  · obtain ⟨a, μ, ds, m, r, hl, q⟩ := key vs H Q E h
    refine ⟨_, hb A outer s H E (fun cls d _ H => E cls d H) ⟨rfl, hr, hg, fns, thk, tab, tabs, nex⟩ (L2N.takes_of rfl rfl rfl rfl), ?_⟩
    refine ⟨a, _, μ, hol_start m r hl h2, q.mono (fun ρ' μ' k b σ' H' st ho => ?_) (fun d μ' k b v H' st hm rv => ?_) fun x ρ' μ' k => ?_⟩
    · obtain ⟨c, d', μ2, s2, m2, r2, k2⟩ := fin_ok m k st ho.m (d := .non) (v := .non) (by simp only [Rep])
      exact k2 c _ H' s2 m2 r2
    · obtain ⟨c, d', μ2, s2, m2, r2, k2⟩ := fin_ok m k st hm rv
      exact k2 c _ H' s2 m2 r2
    · obtain ⟨c, ns, vs, e, k⟩ := finX_ok m k
      exact ⟨c, ns, vs, e, fun b dd ws σ' H' st ho rv hn hx => k b dd ws H' st ho.m rv hn hx⟩
/-- at level 0 nothing is promised -/
theorem def_ok0 {x qual : Str} {params : Arguments} {body : List Stmt} {scope : Scope} {dvs : List V} {kws : List (Str × V)} {i : Nat} {fd : FuncData} {ps : List Str} : FnG P w K mg base (3 * 0) (T.fa i) fd ps (spD T K 0 i) :=
  ⟨fun vs H Q E h => by obtain ⟨a, μ, ds, m, r, q⟩ := h; exact q.elim, fun A outer s H args us vs Q E hr hg e0 hb r h => by obtain ⟨a, μ, ds, m, r, q⟩ := h; exact q.elim⟩
end
section
variable {T : Tab} {n : Nat} {X : Cx} {W : WX} {pos : Pos} {a : Abs} {H : Hp} {μ : Mem}
theorem fget_zip (an : ∀ i j, T.an i = T.an j → i = j) {m : Nat} {d : D} : ∀ {ns : List Nat} {ws : List V} {fs : List D}, ns.length = ws.length → Reps T X.K a fs ws → fget m ns fs = some d → ∃ w, ((ns.map T.an).zip ws).lookup (T.an m) = some w ∧ Rep T X.K a d w
  | [], ws, fs, _, _, h => by simp [fget] at h
  | i :: ns, ws, [], _, _, h => by simp [fget] at h
  | i :: ns, ws, e :: fs, hl, r, h => by
    obtain ⟨w, ws', rfl, r1, r2⟩ := r.inv
    simp only [fget] at h
    simp only [List.map_cons, List.zip_cons_cons, List.lookup_cons]
    by_cases hi : i = m
    · subst hi
      rw [if_pos rfl] at h; cases h
      exact ⟨w, by simp, r1⟩
    · rw [if_neg hi] at h
      have : (T.an m == T.an i) = false := by
        rw [beq_eq_false_iff_ne]
        intro e
        exact hi (an _ _ e).symm
      rw [this]
      exact fget_zip an (by simpa using hl) r2 h
end
end DI
end

section
set_option Elab.async false
set_option linter.all false
set_option maxRecDepth 100000
namespace DI
open PySem L2 PySem.Spec PyProof.Rows
section
variable {T : Tab} {n : Nat} {X : Cx} {W : WX} {pos : Pos} {a : Abs} {H : Hp} {μ : Mem}
/-- o.f: a property, or an attribute of the instance -/
theorem se_att (O : Own T n X) {x : Expr} {nm : Str} {o : E} {f : Nat} (hn : nm = T.an f) (hf : ∀ c k g, T.P.cls c = some k → k.props.lookup f = some g → T.form g 1 [] = some []) (he : SE T n X W x o) (hb : attributeBase x nm X.env (eval x X.env) = eval x X.env) : SE T n X W (.Attribute x nm pos) (.att o f) := by
  subst hn
  refine ⟨fun pins s σ H Q I q => ?_⟩
  obtain ⟨a, ρ, μ, ho, q⟩ := q
  simp only [evE] at q
  refine attr_of hb (thn (he.run pins s σ H (fun v H1 => ∃ b d μ1, Stp a H b H1 ∧ Hol T X.K b ρ μ1 σ H1 ∧ Rep T X.K b d v ∧ WpR (attV T.P (T.C n) μ1 d f) (fun d μ' => ∀ b v H', Stp a H b H' → Hol T X.K b ρ μ' σ H' → Rep T X.K b d v → Q v H') (fun _ _ => False)) I
    ⟨a, ρ, μ, ho, q.bind.mono (fun d μ1 q1 b v H1 st ho1 r => ⟨b, d, μ1, st, ho1, r, q1.nox⟩) fun _ _ k => k⟩) fun u s1 ⟨xv, H1, I1, rx, b, d, μ1, st, ho1, rd1, q1⟩ => ?_)
  have rdv := rd_rep ho1.m rd1
  unfold attV at q1
  split at q1
  · rename_i c ns fs hrd
    rw [hrd] at rdv
    obtain ⟨p, dx, ws, rfl, ea, eo, hl, rr⟩ := rdv
    obtain rfl : u = Value.ref p := rx
    split at q1
    · rename_i k hk
      split at q1
      · rename_i g hg
        obtain ⟨hc, pp, hp⟩ := O.tab.prop c k f g hk hg
        obtain ⟨mA, Om, _, _, _, _⟩ := ins_get I1.hok ea
        obtain ⟨od, J, _⟩ := Om.look
        obtain ⟨rest, hrec⟩ := hp.rec_
        have I2 := I1.tok (s1.toks + 1)
        have hcs : (PySem.W.clsIn X.K (T.ca c)).isSome = true := by
          obtain ⟨cd, hc, _⟩ := PySem.W.any_some hc.hd
          rw [hc]
          rfl
        have kr : Room (3 * n) X.A.in1 := (O.room.mono (by omega : 3 * n + 1 ≤ 3 * n + 2)).in1
        refine PySem.W.get_bind I1.kIn J (PySem.W.plainGet_of (hc.get (T.an f))).1 (PySem.W.findObj_data hcs hp.at_ hp.get hp.tak) (PySem.W.plainGet_of (hc.get (T.an f))).2 (wpAny_call (PySem.W.prop_get (s := { s1 with toks := s1.toks + 1 }) I1.kIn hrec ?_))
        refine codeAny_mono (run_d (ks := []) (ws := []) (zs := []) (kv := []) (us := [.ref p]) (vs := [.ref p]) (E := fun _ _ _ => False) (E2 := fun _ _ => False) (Q := Q) O out_none kr O.gd I2.env0.in1 I2 (hf c k g hk hg) (.cons rfl .nil) .nil (Reps.cons rd1 Reps.nil) Reps.nil rfl rfl ho1.m (q1.mono (fun d μ3 kk e v H3 st3 m3 r3 => kk e v H3 (st.trans st3) (ho1.to st3.le m3) r3) fun _ _ k => k.elim)) fun r s' hq => ?_
        cases r with
        | error er => exact False.elim hq
        | ok fl =>
          cases fl with
          | ret u2 =>
            obtain ⟨v, H', I3, rv, q3⟩ := hq
            show wpAny _ _ (handedOut u2) _ _ _
            rw [PySem.W.handedOut_of (handed_of rv)]
            exact wpAny_pure ⟨v, H', I3, rv, q3⟩
          | next => exact False.elim hq
          | brk => exact False.elim hq
          | cont => exact False.elim hq
      · split at q1
        · rename_i hfl
          obtain ⟨hc, hno⟩ := O.tab.fld c k f hk hfl
          obtain ⟨z, e1, k1⟩ := q1.of
          obtain ⟨w, e2, rw'⟩ := fget_zip O.tab.an hl rr e1
          exact getattr_ok I1 ea hc hno e2 fun u' s2 I2 ru => ⟨w, H1, I2, ru, k1 b w H1 st ho1 rw'⟩
        · exact q1.elim
    · exact q1.elim
  · rename_i c ns fs hrd
    cases d <;> simp only [rd] at hrd <;> first | (cases hrd; done) | skip
    · simp only [Rep] at rd1
    · split at hrd <;> cases hrd
  · exact q1.elim
end
end DI
end

section
set_option Elab.async false
set_option linter.all false
set_option maxRecDepth 100000
namespace DI
open PySem L2 PySem.Spec PyProof.Rows
section
variable {T : Tab} {n : Nat} {X : Cx} {W : WX} {pos : Pos} {a : Abs} {H : Hp} {μ : Mem}
/-- a new instance and its dict stand in the store -/
theorem HolM.ins (m : HolM T X.K a μ H) {x dx C : Addr} {c : Nat} (hc : C = T.ca c) (nx : H x = none) (nd : H dx = none) (ne : dx ≠ x) :
    HolM T X.K ⟨a.α ++ [x], a.G⟩ (μ ++ [.ins c [] []]) (upd (upd H dx (.own x)) x (.ins C dx [])) ∧ Stp a H ⟨a.α ++ [x], a.G⟩ (upd (upd H dx (.own x)) x (.ins C dx [])) := by
  subst hc
  have nx1 : upd H dx (.own x) x = none := by rw [upd_ne (Ne.symm ne)]; exact nx
  have h2 : HolM T X.K a μ (upd (upd H dx (.own x)) x (.ins (T.ca c) dx [])) := m.grow (fun q u e => by rw [upd_ne (ne_of_none e nx), upd_ne (ne_of_none e nd)]; exact e) fun q r e => by
    have hq : q ≠ x := by rintro rfl; rw [upd_same] at e; cases e
    rw [upd_ne hq] at e
    by_cases hr : r = x
    · subst hr; rw [upd_same]; simp
    · rw [upd_ne hr]
      by_cases hq2 : q = dx
      · subst hq2; rw [upd_same] at e; cases e; exact absurd rfl hr
      · rw [upd_ne hq2] at e
        have := m.ow q r e
        rw [upd_ne (by rintro rfl; exact this nd)]; exact this
  have f := m.fresh nx
  have le : a.le ⟨a.α ++ [x], a.G⟩ := ⟨⟨[x], rfl⟩, fun _ _ h => h⟩
  have r : ObRep T X.K a (upd (upd H dx (.own x)) x (.ins (T.ca c) dx [])) x (.ins c [] []) := ⟨dx, [], upd_same, by rw [upd_ne ne, upd_same], (m.fresh nd).1, rfl, Reps.nil⟩
  have s1 : Stp a H a (upd (upd H dx (.own x)) x (.ins (T.ca c) dx [])) := ((Stp.refl a H).lay nd).lay nx1
  refine ⟨⟨h2.le, by simp [m.len], ?_, fun k q ob2 e1 e2 => ?_, h2.ow, h2.tb, h2.tb2⟩, s1.own nx⟩
  · show (a.α ++ [x]).Nodup
    rw [List.nodup_append]
    exact ⟨m.nd, by simp, fun y hy z hz => by
      rintro rfl
      have : y = x := by simpa using hz
      exact f.2 (this ▸ hy)⟩
  · have e1 : (a.α ++ [x])[k]? = some q := e1
    by_cases hk : k < a.α.length
    · rw [List.getElem?_append_left hk] at e1
      rw [List.getElem?_append_left (by rw [m.len]; exact hk)] at e2
      obtain ⟨g2, r2⟩ := h2.st k q ob2 e1 e2
      exact ⟨g2, r2.keep le (fun _ _ h _ => h) fun x h _ => h⟩
    · have hk2 : k = a.α.length := by
        have := (List.getElem?_eq_some_iff.mp e1).1
        simp at this; omega
      subst hk2
      rw [List.getElem?_append_right (Nat.le_refl _)] at e1
      rw [List.getElem?_append_right (by rw [m.len]; exact Nat.le_refl _), m.len] at e2
      simp at e1 e2
      subst e1; subst e2
      exact ⟨f.1, r.keep le (fun _ _ h _ => h) fun x h _ => h⟩
/-- an instance that is not changed any more -/
theorem freeze_ins {b : Abs} {μ' : Mem} {H' : Hp} {x : Addr} {c' : Nat} {ns : List Nat} {vs : List D} (m0 : HolM T X.K a μ H) (st : Stp a H b H') (m : HolM T X.K b μ' H') (hx : b.α[μ.length]? = some x) (e : μ'[μ.length]? = some (.ins c' ns vs)) (h0 : H x = none)
    (hl : μ'.length = μ.length + 1) (hv : lims vs ≤ μ.length) (hc : chkOld μ μ' μ.length = true) : ∃ d, Stp a H d H' ∧ HolM T X.K d (μ'.take μ.length) H' ∧ Rep T X.K d (.ins c' ns vs) (.ref x) := by
  have m2 := m0.cut m st.le hc
  obtain ⟨⟨rr, er⟩, _⟩ := id st.le
  obtain ⟨g, dx, ws, h1, h2, h3, h4, r⟩ := m.st _ _ _ hx e
  have hxa : x ∉ a.α := fun h => by
    obtain ⟨i, hi⟩ := List.mem_iff_getElem?.mp h
    have l2 := (List.getElem?_eq_some_iff.mp hi).1
    have e2 : b.α[i]? = some x := by rw [er, List.getElem?_append_left l2]; exact hi
    obtain ⟨l1, m1⟩ := List.getElem?_eq_some_iff.mp e2
    obtain ⟨l3, m3⟩ := List.getElem?_eq_some_iff.mp hx
    have : i = μ.length := (List.getElem_inj (h₀ := l1) (h₁ := l3) m.nd).mp (by rw [m1, m3])
    have := m0.len; omega
  have da : dx ∉ a.α := fun h => by
    obtain ⟨i, hi⟩ := List.mem_iff_getElem?.mp h
    obtain ⟨ob, _, _, q⟩ := m.at (st.le.at hi)
    exact q.notOwn h2
  have d0 : H dx = none := by
    cases e0 : H dx with
    | none => rfl
    | some o =>
      cases e1 : a.G dx with
      | some u => rw [st.le.fr _ _ e1] at h3; cases h3
      | none =>
        have nt : ¬ IsTE o := fun z => by
          obtain ⟨o9, e9, z9⟩ := st.tl _ _ e0 z
          rw [h2] at e9; cases e9
          rcases z9 with ⟨_, z9⟩ | ⟨_, z9⟩ <;> cases z9
        have := (st.frame dx o e0 e1 da nt).1
        rw [h2] at this; cases this
        exact absurd h0 (m0.ow _ _ e0)
  have rc := Reps.cut (K := X.K) er vs ws (by rw [← m0.len]; exact hv) r
  -- first the dict, then the instance
  have nxd : dx ≠ x := fun h => by rw [h, h1] at h2; cases h2
  have le1 : (⟨a.α, b.G⟩ : Abs).le ⟨a.α, upd (upd b.G dx (.own x)) x (.ins (T.ca c') dx ((ns.map T.an).zip ws))⟩ := ⟨⟨[], by simp⟩, fun q u e => by
    show upd (upd b.G dx _) x _ q = _
    rw [upd_ne (ne_of_none e g), upd_ne (ne_of_none e h3)]; exact e⟩
  refine ⟨⟨a.α, upd (upd b.G dx (.own x)) x (.ins (T.ca c') dx ((ns.map T.an).zip ws))⟩, ⟨st.cut.le.trans le1, st.dom, fun q u e1 e2 e3 nt => ?_, st.tl⟩, ⟨fun q u eq => ?_, m2.len, m2.nd, fun k q ob e1 e2 => ?_, m2.ow, m2.tb, fun q hq => by
    obtain ⟨ps, e9, _⟩ := m2.tb q hq
    have n1 : q.1 ≠ x := fun z => by rw [z] at e9; rw [h1] at e9; cases e9
    have n2 : q.1 ≠ dx := fun z => by rw [z] at e9; rw [h2] at e9; cases e9
    exact (upd_ne n1).trans ((upd_ne n2).trans (m2.tb2 q hq))⟩, ?_⟩
  · obtain ⟨z1, z2, z3⟩ := st.frame q u e1 e2 e3 nt
    refine ⟨z1, ?_, e3⟩
    show upd (upd b.G dx _) x _ q = none
    rw [upd_ne (ne_of_none e1 h0), upd_ne (ne_of_none e1 d0)]; exact z2
  · have eq : upd (upd b.G dx (.own x)) x (.ins (T.ca c') dx ((ns.map T.an).zip ws)) q = some u := eq
    by_cases hq : q = x
    · subst hq; rw [upd_same] at eq; cases eq; exact h1
    · rw [upd_ne hq] at eq
      by_cases hq2 : q = dx
      · subst hq2; rw [upd_same] at eq; cases eq; exact h2
      · rw [upd_ne hq2] at eq; exact m.le _ _ eq
  · obtain ⟨g2, r2⟩ := m2.st k q ob e1 e2
    have e1 : a.α[k]? = some q := e1
    have hqx : q ≠ x := fun h => hxa (h ▸ List.mem_of_getElem? e1)
    have hqd : q ≠ dx := fun h => da (h ▸ List.mem_of_getElem? e1)
    refine ⟨?_, r2.keep le1 (fun _ _ h _ => h) fun y hy1 hy2 => ?_⟩
    · show upd (upd b.G dx _) x _ q = none
      rw [upd_ne hqx, upd_ne hqd]; exact g2
    · show upd (upd b.G dx _) x _ y = none
      have n1 : y ≠ x := fun h => by rw [h, h1] at hy2; cases hy2
      have n2 : y ≠ dx := fun h => by rw [h, h2] at hy2; exact hqx (by injection hy2 with z; injection z with z; exact z.symm)
      rw [upd_ne n1, upd_ne n2]; exact hy1
  · simp only [Rep]
    refine ⟨x, dx, ws, rfl, upd_same, ?_, h4, Reps.mono le1 _ _ rc⟩
    show upd (upd b.G dx _) x _ dx = _
    rw [upd_ne nxd, upd_same]
/-- C(..) -/
theorem run_new (O : Own T n X) (tk : Takes X W) {pins : List (Addr × Obj)} {σ : L2.St} {s : Shared} {Q : VK} {c m : Nat} {ix : List Nat} {ks : List Str} {args kv : List D} {us ws : List Value} {vs zs : List V} (I : L2.Inv X pins σ H s) (hf : ∀ k f, T.P.cls c = some k → k.init = some f → T.form f (m + 1) ix = some ks) (r : Vals vs us) (rz : Vals zs ws)
    (ra : Reps T X.K a args vs) (rk : Reps T X.K a kv zs) (l1 : args.length = m) (l2 : kv.length = ks.length) (hm : HolM T X.K a μ H)
    (q : WpR (newV T.P (T.C n) c args ix kv μ) (fun d μ' => ∀ b v H', Stp a H b H' → HolM T X.K b μ' H' → Rep T X.K b d v → Q v H') (KxC T X.K a H (WEs W σ))) :
    wpAny (model X.prog X.w) X.A (call (.ref (T.ca c)) us (ks.zip ws)) (EP X pins σ Q) X.xe s := by
  unfold newV at q
  split at q
  · exact q.elim
  · rename_i k hk
    split at q
    · exact q.elim
    · rename_i f hfi
      have M := O.tab.init c k f hk hfi
      have hx := I.hok.fresh (Nat.le_succ s.heap.objs.size)
      have hd := I.hok.fresh (Nat.le_refl s.heap.objs.size)
      have ne : s.heap.objs.size ≠ s.heap.objs.size + 1 := Nat.ne_of_lt (Nat.lt_succ_self _)
      obtain ⟨m2, st2⟩ := hm.ins (C := T.ca c) rfl hx hd ne
      have I2 := Inv.made (C := T.ca c) I
      have kr : Room (3 * n + 1) X.A := O.room.mono (by omega)
      have hxa : (⟨a.α ++ [s.heap.objs.size + 1], a.G⟩ : Abs).α[μ.length]? = some (s.heap.objs.size + 1) := by rw [hm.len]; simp
      refine wpAny_call (make_map (f := T.fa f) I.kIn M.makes M.init (beq_iff_eq.mp M.fn) (codeAny_mono (run_d (E := WEs W σ) (E2 := X.xe) (Q := fun v H2 => v = .non ∧ Q (.ref (s.heap.objs.size + 1)) H2) (us := .ref (s.heap.objs.size + 1) :: us) (vs := .ref (s.heap.objs.size + 1) :: vs) (args := .obj μ.length :: args) O (out_takes tk I2) (kr.make (T.ca c) us (ks.zip ws)) (by simp [Around.under, Code.guards, Code.isGuard, guardIds, pushGuards, O.gd]) (I2.env0.make (T.ca c) us (ks.zip ws)) I2 (hf k f hk hfi) (.cons rfl r) rz
        (Reps.cons (by simp only [Rep]; exact ⟨_, hxa, rfl⟩) (Reps.mono st2.le _ _ ra)) (Reps.mono st2.le _ _ rk) (by simp [l1]) l2 m2 (q.newX.bind.mono (fun d μ' q1 b v H' st m' r' => ?_) fun x μ' kx => ?_)) fun rr s' hq' => ?_))
      · split at q1
        · refine ⟨by simpa only [Rep] using r', ?_⟩
          have hxb := st.le.at hxa
          split at q1
          · exact q1 b _ H' (st2.trans st) m' (by simp only [Rep]; exact ⟨_, hxb, rfl⟩)
          · split at q1
            · rename_i c' ns vs' eo
              split at q1
              · rename_i hcond
                obtain ⟨d2, s3, m3, r3⟩ := freeze_ins hm (st2.trans st) m' hxb eo hx hcond.1 hcond.2.1 hcond.2.2
                exact q1 d2 _ H' s3 m3 r3
              · exact q1.elim
            · exact q1.elim
        · exact q1.elim
      · obtain ⟨c', ns, vs', e, kx⟩ := finX_ok hm kx
        exact ⟨c', ns, vs', e, fun b dd ws H' st m' rv hn hx => kx b dd ws H' (st2.trans st) m' rv hn hx⟩
      · cases rr with
        | error e => exact hq'
        | ok fl =>
          cases fl with
          | ret u =>
            obtain ⟨v, H', I3, rv, ev, q3⟩ := hq'
            subst ev
            exact ⟨rv, ⟨V.ref (s.heap.objs.size + 1), H', I3, rfl, q3⟩⟩
          | next => exact False.elim hq'
          | brk => exact False.elim hq'
          | cont => exact False.elim hq'
end
end DI
end

section
set_option Elab.async false
set_option linter.all false
set_option maxRecDepth 100000
namespace DI
open PySem L2 PySem.Spec PyProof.Rows
section
variable {T : Tab} {n : Nat} {X : Cx} {W : WX} {pos : Pos} {a : Abs} {H : Hp} {μ : Mem}
theorem se_new (O : Own T n X) (tk : Takes X W) {x : Str} {p : Pos} {y : Expr} {ys : List Expr} {es : Es} {c : Nat} (kp : PySem.W.keepIn X.K (.ref (T.ca c)) = true) (hf : ∀ k f, T.P.cls c = some k → k.init = some f → T.form f (es.len + 1) [] = some []) (hg : Gl X x) (hm : X.mg x = some (.ref (T.ca c))) (ha : SA T n X W (y :: ys) es) (hdb : (x == ("__debug__" : Str)) = false)
    (he : starEach (y :: ys) X.env = (false, eval y X.env) :: starEach ys X.env) (hpl : (backTo pos (starEach ys X.env)).any (·.1) = false) : SE T n X W (.Call (.Name x p) (y :: ys) [] pos) (.new c es) := by
  refine ⟨fun pins s σ H Q I q => ?_⟩
  obtain ⟨a, ρ, μ, ho, q⟩ := q
  simp only [evE] at q
  refine wpAny_Call_Name_kw (ld_glob I hg hm ?_ hdb)
  refine PySem.W.callWith_K (h₀ := X.base) I.ok.mod.kin kp (thn (ha.run pos pins s σ H (fun vs H1 => ∃ b l μ1, Stp a H b H1 ∧ Hol T X.K b ρ μ1 σ H1 ∧ Reps T X.K b l vs ∧ l.length = es.len ∧
    WpR (newV T.P (T.C n) c l [] [] μ1) (fun d μ' => ∀ b v H', Stp a H b H' → Hol T X.K b ρ μ' σ H' → Rep T X.K b d v → Q v H') (Kx T X.K a H ρ σ W)) I ?_) fun us s1 ⟨vs, H1, I1, r, b, l, μ1, st, ho1, rl, hl, q1⟩ => ⟨I1.kIn, ?_⟩) he hpl
  · exact ⟨a, ρ, μ, ho, (evEs_len q.bind).mono (fun l μ1 ⟨hl, q1⟩ b vs H1 st ho1 r => ⟨b, l, μ1, st, ho1, r, hl, q1⟩) fun _ _ k => k⟩
  · exact run_new (ks := []) (ws := []) (zs := []) (kv := []) O tk I1 hf r .nil rl Reps.nil hl rfl ho1.m (q1.mono (fun d μ2 k c v H2 st2 m2 r2 => k c v H2 (st.trans st2) (ho1.to st2.le m2) r2) fun _ _ k => k.toC st ho1)
theorem se_g {x : Str} {p : Pos} {i : Nat} {d : D} {v : V} {u : Value} (hg : Gl X x) (hm : X.mg x = some u) (r : RelV v u) (hd : (x == ("__debug__" : Str)) = false) (e : T.P.gl i = some d) (rr : ∀ a, Rep T X.K a d v) : SE T n X W (.Name x p) (.g i) := se_c (d := d) (pe_glob hg hm r hd) (fun _ _ => by simp only [evE, e]; rfl) rr
theorem se_cm (O : Own T n X) (tk : Takes X W) {x nm : Str} {p apos : Pos} {y : Expr} {ys : List Expr} {es : Es} {c f : Nat} {mc : Value} {pr : Addr} {pl : Sem Bool} (hf : T.form f (es.len + 1) [] = some []) (hg : Gl X x) (hm : X.mg x = some (.ref (T.ca c))) (hdb : (x == ("__debug__" : Str)) = false) (hr : ClX.CRead X.K (T.ca c) mc) (hc : ClX.CMet X.K (T.ca c) mc nm pr (T.fa f)) (ha : SA T n X W (y :: ys) es)
    (hst : starEach (y :: ys) X.env = (false, eval y X.env) :: starEach ys X.env) (hpl : (backTo pos (starEach ys X.env)).any (·.1) = false)
    (ht : eval (.Call (.Attribute (.Name x p) nm apos) (y :: ys) [] pos) X.env = (do
      let ov ← eval (.Name x p) X.env
      standAt apos.atName
      let (f, first) ← holding [ov] (getMethod ov nm pl)
      callWith pos f first (backTo pos (starEach (y :: ys) X.env)) (backToKw pos (keywordEach [] X.env)))) : SE T n X W (.Call (.Attribute (.Name x p) nm apos) (y :: ys) [] pos) (.cal f (.c (.k (.cls c)) es)) := by
  refine ⟨fun pins s σ H Q I q => ?_⟩
  obtain ⟨a, ρ, μ, ho, q⟩ := q
  simp only [evE, evEs, R.bind_ok] at q
  refine PySem.W.methodCall_KW (pl := pl) (thn ((pe_glob (pos := p) (v := .ref (T.ca c)) hg hm rfl hdb).run pins s σ H (fun v H1 => v = .ref (T.ca c) ∧ H1 = H) I ⟨rfl, rfl⟩) fun u s1 ⟨xv, H1, I1, rx, ex, eH⟩ => ?_) ht
  subst ex; subst eH
  obtain rfl : u = Value.ref (T.ca c) := rx
  refine ClX.getmethcm_ok I1 hr hc fun s2 I2 => ?_
  refine ClX.callwith_cm I2 (ClX.base_none I1 (Nat.le_refl _)) hc.fi (thn (ha.run pos _ s2 σ H1 (fun vs H2 => ∃ b l μ2, Stp a H1 b H2 ∧ Hol T X.K b ρ μ2 σ H2 ∧ Reps T X.K b l vs ∧ l.length = es.len ∧
      WpR (calF T.P (T.C n) f (.cls c :: l) [] [] μ2) (fun d μ' => ∀ b v H', Stp a H1 b H' → Hol T X.K b ρ μ' σ H' → Rep T X.K b d v → Q v H') (Kx T X.K a H1 ρ σ W)) I2
    ⟨a, ρ, μ, ho, (evEs_len q.bind.bind).mono (fun l μ2 ⟨hl, q2⟩ b vs H2 st2 ho2 r2 => ⟨b, l, μ2, st2, ho2, r2, hl, q2⟩) fun _ _ k => k⟩) fun us s3 ⟨vs, H2, I3, rv, b, l, μ2, st2, ho2, rl, hl, q2⟩ => ⟨⟨ClX.pin_at I3, I3.kIn⟩, ?_⟩) hst hpl
  have z := run_d (E := WEs W σ) (E2 := X.xe) (ks := []) (ws := []) (zs := []) (kv := []) (us := .ref (T.ca c) :: us) (vs := .ref (T.ca c) :: vs) (args := .cls c :: l) O (out_takes tk I3) O.r0 O.gd I3.env0 I3 hf (.cons rfl rv) .nil (Reps.cons (by simp only [Rep]) rl) Reps.nil (by simp [hl]) rfl ho2.m (q2.mono (fun d μ3 kk e v H3 st4 m3 r3 => kk e v H3 (st2.trans st4) (ho2.to st4.le m3) r3) fun _ _ k => k.toC st2 ho2)
  exact thn (wpAny_call (PySem.W.method_call (ClX.pin_at I3) z)) fun _ _ y => ClX.unpinE y
theorem putF_zip (an : ∀ i j, T.an i = T.an j → i = j) {m : Nat} {d : D} {w : V} (rw' : Rep T X.K a d w) : ∀ {ns : List Nat} {ws : List V} {fs : List D}, ns.length = ws.length → Reps T X.K a fs ws → ∃ ws', putF (T.an m) w ((ns.map T.an).zip ws) = ((fput m d ns fs).1.map T.an).zip ws' ∧ (fput m d ns fs).1.length = ws'.length ∧ Reps T X.K a (fput m d ns fs).2 ws'
  | [], [], fs, hl, r => by
    have := List.eq_nil_of_length_eq_zero (l := fs) (by rw [r.length]; rfl)
    subst this
    exact ⟨[w], by simp [fput, putF], by simp [fput], by simp only [fput]; exact Reps.cons rw' Reps.nil⟩
  | i :: ns, [], fs, hl, r => by simp at hl
  | [], w' :: ws, fs, hl, r => by simp at hl
  | i :: ns, w' :: ws, [], hl, r => by rw [Reps.inv0 r] at hl; simp at hl
  | i :: ns, w0 :: ws0, e :: fs, hl, r => by
    obtain ⟨w', ws, hh, r1, r2⟩ := r.inv
    obtain ⟨rfl, rfl⟩ := List.cons.inj hh
    simp only [List.map_cons, List.zip_cons_cons, putF, fput]
    by_cases hi : i = m
    · subst hi
      rw [if_pos rfl, if_pos rfl]
      exact ⟨w :: ws0, by simp, by simpa using hl, Reps.cons rw' r2⟩
    · rw [if_neg hi, if_neg fun e => hi (an _ _ e)]
      obtain ⟨ws', h1, h2, h3⟩ := putF_zip an rw' (by simpa using hl) r2
      exact ⟨w0 :: ws', by simp [h1], by simp [h2], Reps.cons r1 h3⟩
theorem ss_fld (O : Own T n X) {x y : Expr} {nm : Str} {pos' : Pos} {o e : E} {f : Nat} (hn : nm = T.an f) (ha : SE T n X W x o) (hv : SE T n X W y e) (hs : swapsWith y (some (.Attribute x nm pos')) pos.line X.env = pure false) : SS T n X W (.Assign [.Attribute x nm pos'] y pos) (.asg (.at o f) e) := by
  subst hn
  refine PS.imp (ps_fld ha hv hs) fun D σ H q => ?_
  obtain ⟨a, ρ, μ, ho, q⟩ := q
  simp only [evS, asT] at q
  refine ⟨a, ρ, μ, ho, q.seR.mono (fun d μ1 q1 b w H1 st ho1 r => ?_) fun _ _ k => k.kx⟩
  refine ⟨b, ρ, μ1, ho1, q1.seR.nox.bind.mono (fun d2 μ2 q2 c u H2 st2 ho2 r2 => ?_) fun _ _ k => k.elim⟩
  split at q2
  · rename_i k
    split at q2
    · rename_i c' ns fs eo
      split at q2
      · rename_i kk hk
        split at q2
        · rename_i hcond
          simp only [Bool.and_eq_true, decide_eq_true_eq] at hcond
          simp only [Rep] at r2
          obtain ⟨p, ep, rfl⟩ := r2
          obtain ⟨ob, eo2, g, q3⟩ := ho2.m.at ep
          rw [eo] at eo2; cases eo2
          obtain ⟨dx, ws, h1, h2, h3, h4, rr⟩ := q3
          obtain ⟨hc, hno⟩ := O.tab.fld c' kk f hk hcond.1
          obtain ⟨ws', e1, e2, e3⟩ := putF_zip (m := f) O.tab.an (Rep.mono st2.le _ _ r) h4 rr
          have nxd : dx ≠ p := fun h => by rw [h, h1] at h2; cases h2
          refine ⟨p, T.ca c', dx, _, rfl, h1, hc, hno, ?_, ?_⟩
          · simp only [List.length_zip, List.length_map]; omega
          · rw [e1]
            obtain ⟨m3, s3⟩ := ho2.m.put (o' := .ins (T.ca c') dx (((fput f d ns fs).1.map T.an).zip ws')) (ob' := .ins c' (fput f d ns fs).1 (fput f d ns fs).2) ep ⟨dx, ws', upd_same, by rw [upd_ne nxd]; exact h2, h3, e2, e3⟩
            exact q2 c _ _ (st.trans (st2.trans s3)) (ho2.mem m3)
        · exact q2.elim
      · exact q2.elim
    · exact q2.elim
  · exact q2.elim
end
end DI
end

section
set_option Elab.async false
set_option linter.all false
set_option maxRecDepth 100000
namespace DI
open PySem L2 PySem.Spec PyProof.Rows
def tyS : Nat → String
  | 0 => "str" | 1 => "int" | 2 => "bool" | 3 => "tuple" | 4 => "list" | 5 => "dict" | _ => "NoneType"
theorem kit_py : ∀ t n : Nat, (t ≤ 5 ∨ t = 15) → n ≤ 5 → kitB (tyS t) (tyS n) = some (t == n || (t == 2 && n == 1)) := by
  intro t n ht hn
  have h1 : ∀ m, m ≤ 5 → m = 0 ∨ m = 1 ∨ m = 2 ∨ m = 3 ∨ m = 4 ∨ m = 5 := fun m h => by omega
  rcases ht with ht | rfl
  · rcases h1 t ht with rfl | rfl | rfl | rfl | rfl | rfl <;> rcases h1 n hn with rfl | rfl | rfl | rfl | rfl | rfl <;> decide +kernel
  · rcases h1 n hn with rfl | rfl | rfl | rfl | rfl | rfl <;> decide +kernel
/-- a class as the second argument -/
def tyV (T : Tab) : Ty → V
  | .py n => .ty (tyS n)
  | .own c => .ref (T.ca c)
def tyU (T : Tab) : Ty → Value
  | .py n => .type (tyS n)
  | .own c => .ref (T.ca c)
/-- what the text tells of its classes for isinstance -/
structure IsOk (T : Tab) (K : PySem.W.Frag) : Prop where
  nam : ∀ c k, T.P.cls c = some k → k.init.isSome = true → L2.Cls K (T.ca c) ∧ PySem.W.findIn K (.ref (T.ca c)) "__class__" = some (some (.builtin "object.__class__")) ∧ PySem.W.mroIn K (T.ca c) (.type "object") = some true
  hn : PySem.W.specialIn K (.builtin "object.__class__") "__get__" = some (some (.builtin "getset_descriptor.__get__"))
  htk : PySem.W.takesIn K (.builtin "object.__class__") = some true
  dat : ∀ t c, (t ≤ 5 ∨ t = 15) → T.isc.contains c = true → PySem.W.kitOne K (.type (tyS t)) (.ref (T.ca c)) = some false
  ipy : ∀ c k n, T.P.cls c = some k → k.init.isSome = true → n ≤ 5 → PySem.W.kitOne K (.ref (T.ca c)) (.type (tyS n)) = some false
  iow : ∀ c k e, T.P.cls c = some k → k.init.isSome = true → T.isc.contains e = true → PySem.W.kitOne K (.ref (T.ca c)) (.ref (T.ca e)) = some (k.sup.contains e)
def tysOk (T : Tab) : List Ty → Bool
  | [] => true
  | .py n :: r => decide (n ≤ 5) && tysOk T r
  | .own c :: r => T.isc.contains c && tysOk T r
section
variable {T : Tab} {n : Nat} {X : Cx} {W : WX} {pos : Pos} {a : Abs} {H : Hp} {μ : Mem}
theorem tyNo_le {d : D} {t : Nat} (h : tyNo d = some t) : t ≤ 5 ∨ t = 15 := by
  cases d <;> simp only [tyNo] at h <;> first | (cases h; done) | (cases h; omega)
/-- the type of what is read -/
theorem ty_of (hm : HolM T X.K a μ H) {d : D} {v : V} (r : Rep T X.K a d v) {t : Nat} (h : tyNo (rd μ d) = some t) : TyX X.K H v (.type (tyS t)) := by
  have q := rd_rep hm r
  generalize rd μ d = d' at *
  cases d' <;> simp only [tyNo] at h <;> first | (cases h; done) | (obtain rfl := Option.some.inj h)
  · simp only [RdV, Rep] at q; subst q; exact .base .non
  · simp only [RdV, Rep] at q; subst q; exact .base (.bl _)
  · simp only [RdV, Rep] at q; subst q; exact .base (.int _)
  · simp only [RdV, Rep] at q; obtain ⟨rfl, _⟩ := q; exact .base (.str _)
  · obtain ⟨p, vs, rfl, s, _⟩ := q
    rcases s with (s | ⟨o, s⟩) | ⟨o, _, _, s, c, _⟩
    · exact .base (.tup s)
    · exact .fTuple s
    · exact .kTuple s c
  · obtain ⟨p, vs, rfl, s, _⟩ := q
    exact .base (.lst s)
  · obtain ⟨p, vs, rfl, s, _⟩ := q
    exact .base (.tup s)
  · rename_i t ks vs
    obtain ⟨p, vs, rfl, _, _, s⟩ := q
    cases t with
    | false => obtain ⟨xs, s, _⟩ := s; exact .base (.dK s)
    | true => obtain ⟨xs, s, _⟩ := s; exact .base (.dT s)
  · obtain ⟨p, vs, rfl, s, _⟩ := q
    rcases s with (s | ⟨o, s⟩) | ⟨o, _, _, s, c, _⟩
    · exact .base (.lst s)
    · exact .base (.frz s)
    · exact .kList s c
def tyVal (T : Tab) : D → Option Value
  | .ins c _ _ => some (.ref (T.ca c))
  | d => (tyNo d).map fun t => .type (tyS t)
theorem tyVal_of {d : D} {t : Nat} (h : tyNo d = some t) : tyVal T d = some (.type (tyS t)) := by
  cases d <;> simp only [tyNo] at h <;> first | (cases h; done) | (cases h; rfl)
theorem isTy_ok (S : IsOk T X.K) (hm : HolM T X.K a μ H) {d : D} {v : V} (r : Rep T X.K a d v) {y : Ty} {b : Bool} (hy : tysOk T [y] = true) (hb : isTy T.P μ d y = some b) : ∃ t, tyVal T (rd μ d) = some t ∧ TyX X.K H v t ∧ PySem.W.kitOne X.K t (tyU T y) = some b := by
  have rv := rd_rep hm r
  by_cases hi : ∃ c ns fs, rd μ d = .ins c ns fs
  · obtain ⟨c, ns, fs, hr⟩ := hi
    rw [hr] at rv
    obtain ⟨p, dx, ws, rfl, h1, h2, h3, h4⟩ := rv
    refine ⟨.ref (T.ca c), by rw [hr]; rfl, ?_⟩
    cases y with
    | py m =>
      simp only [tysOk, Bool.and_true, decide_eq_true_eq] at hy
      simp only [isTy, if_pos hy, hr] at hb
      obtain ⟨k, hk, hb⟩ := Option.bind_eq_some_iff.mp hb
      split at hb
      · rename_i hin
        cases hb
        obtain ⟨n1, n2, n3⟩ := S.nam c k hk hin
        exact ⟨.base (.ins h1 n1 n2 S.hn S.htk n3), S.ipy c k m hk hin hy⟩
      · cases hb
    | own e =>
      simp only [tysOk, Bool.and_true] at hy
      simp only [isTy, hr] at hb
      obtain ⟨k, hk, hb⟩ := Option.bind_eq_some_iff.mp hb
      split at hb
      · rename_i hin
        cases hb
        obtain ⟨n1, n2, n3⟩ := S.nam c k hk hin
        exact ⟨.base (.ins h1 n1 n2 S.hn S.htk n3), S.iow c k e hk hin hy⟩
      · cases hb
  · have ni : ∀ c ns fs, rd μ d = .ins c ns fs → False := fun c ns fs h => hi ⟨c, ns, fs, h⟩
    cases y with
    | py m =>
      simp only [tysOk, Bool.and_true, decide_eq_true_eq] at hy
      simp only [isTy, if_pos hy] at hb
      obtain ⟨t, ht, rfl⟩ := Option.map_eq_some_iff.mp hb
      exact ⟨_, tyVal_of ht, ty_of hm r ht, kit_ty (kit_py t m (tyNo_le ht) hy)⟩
    | own e =>
      simp only [tysOk, Bool.and_true] at hy
      simp only [isTy] at hb
      split at hb
      · rename_i c ns fs h; exact (ni _ _ _ h).elim
      · rename_i c ns fs h
        rw [h] at rv
        simp only [RdV, Rep] at rv
      · obtain ⟨t, ht, rfl⟩ := Option.map_eq_some_iff.mp hb
        exact ⟨_, tyVal_of ht, ty_of hm r ht, S.dat t e (tyNo_le ht) hy⟩
/-- the value of a class named in the text -/
def SCls (T : Tab) (X : Cx) (x : Expr) (y : Ty) : Prop := PE X x (tC (tyV T y))
theorem scls_own {x : Str} {p : Pos} {c : Nat} (hg : Gl X x) (hm : X.mg x = some (.ref (T.ca c))) (hd : (x == ("__debug__" : Str)) = false) : SCls T X (.Name x p) (.own c) := pe_glob (v := .ref (T.ca c)) hg hm rfl hd
theorem scls_py {x : Str} {p : Pos} {m : Nat} (hg : Gl X x) (hm : X.mg x = none) (hv : bootBuiltins x = some (.type (tyS m))) (hn : x ≠ "__name__") (hd : (x == ("__debug__" : Str)) = false) : SCls T X (.Name x p) (.py m) := pe_bltn (v := .ty (tyS m)) hg hm hv rfl hn hd
theorem clsV_of (y : Ty) : ClsV (tyV T y) (tyU T y) := by
  cases y with
  | py n => exact .ty _
  | own c => exact .own _
theorem se_isi (S : IsOk T X.K) {x z : Expr} {p : Pos} {e : E} {y : Ty} (hg : Gl X "isinstance") (hm : X.mg "isinstance" = none) (h : SE T n X W x e) (hz : SCls T X z y) (hy : tysOk T [y] = true)
    (hs : starEach [x, z] X.env = (false, eval x X.env) :: starEach [z] X.env) (hs2 : starEach [z] X.env = (false, eval z X.env) :: starEach [] X.env) (hpl : (backTo pos (starEach [z] X.env)).any (·.1) = false) : SE T n X W (.Call (.Name "isinstance" p) [x, z] [] pos) (.isi e [y]) := by
  refine PE.imp (pe_callB call_isi hg hm (by rfl) (pa_cons h (pa_cons hz pa_nil hs2) hs) (by decide) (by decide) hs hpl) fun σ H Q q => ?_
  obtain ⟨a, ρ, μ, ho, q⟩ := q
  simp only [evE] at q
  refine ⟨a, ρ, μ, ho, q.bind.mono (fun d μ1 q1 b v H1 st ho1 r => ?_) fun _ _ k => k⟩
  obtain ⟨w, e1, k⟩ := q1.of
  obtain ⟨c, e2, rfl⟩ := Option.map_eq_some_iff.mp e1
  simp only [isTys] at e2
  have e3 : isTy T.P μ1 d y = some c := by
    cases e : isTy T.P μ1 d y with
    | none => rw [e] at e2; cases e2
    | some b => rw [e] at e2; cases b <;> simpa using e2
  obtain ⟨t, t1, t2, t3⟩ := isTy_ok S ho1.m r hy e3
  exact ⟨_, _, t, _, c, rfl, clsV_of y, t2, t3, k b _ H1 st ho1 rep_bl⟩
end
end DI
end

section
set_option Elab.async false
set_option linter.all false
set_option maxRecDepth 100000
namespace DI
open PySem L2 PySem.Spec PyProof.Rows
section
variable {T : Tab} {n : Nat} {X : Cx} {W : WX} {pos : Pos}
theorem chainC {o p : Cop} {d e f : E} {σ : L2.St} {H : Hp} {Q : VK} {a : Abs} {ρ : Env} {μ : Mem} {kk : D → Mem → Prop} (ho : Hol T X.K a ρ μ σ H)
    (q : WpR (evE T.P (T.C n) T.reprS (.cmp2 o p d e f) ρ μ) kk (Kx T X.K a H ρ σ W))
    (hk : ∀ c μ1 b H1, Stp a H b H1 → Hol T X.K b ρ μ1 σ H1 → kk (.bl c) μ1 → Q (.bl c) H1) :
    tChain (rCmp T n X.K o) (rCmp T n X.K p) (tE T n X.K W d) (tE T n X.K W e) (tE T n X.K W f) σ H Q := by
  simp only [evE] at q
  refine ⟨a, ρ, μ, ho, q.bind.mono (fun d1 μ1 q1 b v H1 le1 ho1 r1 => ?_) fun _ _ k => k⟩
  refine ⟨b, ρ, μ1, ho1, q1.bind.mono (fun d2 μ2 q2 c w H2 le2 ho2 r2 => ?_) fun _ _ k => k.mono le1⟩
  refine ⟨c, μ2, d1, d2, ho2.m, Rep.mono le2.le _ _ r1, r2, q2.bind.nox.mono (fun x μ3 q3 b3 H3 le3 m3 => ?_) fun _ _ z => z⟩
  have ho3 := ho2.to le3.le m3
  have le := le1.trans (le2.trans le3)
  refine ⟨x, rfl, ?_⟩
  cases x with
  | false =>
    simp only [Bool.false_eq_true, if_false] at q3 ⊢
    exact hk _ _ b3 H3 le ho3 q3
  | true =>
    simp only [if_true] at q3 ⊢
    refine ⟨b3, ρ, μ3, ho3, q3.bind.mono (fun d4 μ4 q4 b4 u H4 le4 ho4 r4 => ?_) fun _ _ k => k.mono le⟩
    exact ⟨b4, μ4, d2, d4, ho4.m, Rep.mono (le3.trans le4).le _ _ r2, r4, q4.bind.nox.mono (fun y μ5 q5 b5 H5 le5 m5 => hk y μ5 b5 H5 (le.trans (le4.trans le5)) (ho4.to le5.le m5) q5) fun _ _ z => z⟩
theorem se_cmp2 {x y z : Expr} {d e f : E} (o p : Cop) (hc : CmpOk T n X) (hm : lastMarks [toCmp o, toCmp p] [y, z] = false) (h1 : SE T n X W x d) (h2 : SE T n X W y e) (h3 : SE T n X W z f) : SE T n X W (.Compare x [toCmp o, toCmp p] [y, z] pos) (.cmp2 o p d e f) := by
  refine PE.imp (pe_chain (op_cmpV (T := T) (n := n) o hc.units hc.eq hc.inn) (op_cmpV (T := T) (n := n) p hc.units hc.eq hc.inn) h1 h2 h3 hm) fun σ H Q q => ?_
  obtain ⟨a, ρ, μ, ho, q⟩ := q
  exact chainC ho q fun c μ1 b H1 le1 ho1 q1 => q1 b _ H1 le1 ho1 rep_bl
/-- a method of a built-in's, by values -/
def rBm (T : Tab) (K : PySem.W.Frag) (m : Bm) : V → List V → Hp → VK → Prop := fun x vs H Q => ∃ a μ d ds kx, HolM T K a μ H ∧ Rep T K a d x ∧ Reps T K a ds vs ∧
  WpR (bmV μ m d ds) (fun d μ' => ∀ b v H', Stp a H b H' → HolM T K b μ' H' → Fresh T K H b H' d v → Q v H') kx
def rBmE (T : Tab) (K : PySem.W.Frag) (m : Bm) : V → List V → Hp → VK → Prop := fun x vs H Q => ∃ a μ d ds kx, HolM T K a μ H ∧ Rep T K a d x ∧ Reps T K a ds vs ∧
  WpR (bmV μ m d ds) (fun d μ' => ∀ b v H', Stp a H b H' → HolM T K b μ' H' → Rep T K b d v → Q v H') kx
theorem lst_of {a : Abs} {μ : Mem} {H : Hp} {k : Nat} {l : List D} {v : V} (m : HolM T X.K a μ H) (r : Rep T X.K a (.obj k) v) (e : μ[k]? = some (.lst l)) : ∃ p vs, v = .ref p ∧ a.α[k]? = some p ∧ H p = some (.lst vs) ∧ Reps T X.K a l vs := by
  simp only [Rep] at r
  obtain ⟨p, ep, rfl⟩ := r
  obtain ⟨ob, eo, g, o⟩ := m.at ep
  rw [e] at eo; cases eo
  obtain ⟨vs, h, q⟩ := o
  exact ⟨p, vs, rfl, ep, h, q⟩
theorem rep_nonF {H0 H : Hp} {a : Abs} : Fresh T X.K H0 a H .non .non := by simp only [Fresh, Rep]
theorem bm_append : MtR X "list.append" (rBm T X.K .append) := by
  intro pins s σ H x vs v us Q I rx rs h
  obtain ⟨a, μ, d, ds, kx, m, r1, r2, q⟩ := h
  simp only [bmV] at q
  split at q
  · rename_i k e
    unfold appV at q
    split at q
    · rename_i l eo
      split at q
      · rename_i hz
        obtain ⟨p, ws, rfl, ep, hp, rl⟩ := lst_of m r1 eo
        obtain ⟨y, zs, rfl, r3, r4⟩ := r2.inv
        rw [r4.inv0] at rs
        obtain ⟨m2, st⟩ := m.put (o' := .lst (ws ++ [y])) (ob' := .lst (l ++ [e])) ep ⟨_, upd_same, Reps.append rl (Reps.cons r3 Reps.nil)⟩
        exact mt_append pins s σ H _ _ v us Q I rx rs ⟨p, ws, y, rfl, rfl, hp, by rw [← rl.length, ← sizeLn_eq]; exact hz, q a _ _ st m2 rep_nonF⟩
      · exact q.elim
    · exact q.elim
  · exact q.elim
theorem bm_insert : MtR X "list.insert" (rBm T X.K .insert) := by
  intro pins s σ H x vs v us Q I rx rs h
  obtain ⟨a, μ, d, ds, kx, m, r1, r2, q⟩ := h
  simp only [bmV] at q
  split at q
  · rename_i k i e
    unfold insV at q
    split at q
    · rename_i l eo
      split at q
      · rename_i hz
        obtain ⟨p, ws, rfl, ep, hp, rl⟩ := lst_of m r1 eo
        obtain ⟨y, zs, rfl, r3, r4⟩ := r2.inv
        obtain ⟨y2, zs, rfl, r5, r6⟩ := r4.inv
        rw [r6.inv0, rep_intI r3] at rs
        obtain ⟨m2, st⟩ := m.put (o' := .lst (ws.take i.toNat ++ [y2] ++ ws.drop i.toNat)) (ob' := .lst (l.take i.toNat ++ e :: l.drop i.toNat)) ep ⟨_, upd_same, by
          have := Reps.append (rl.take i.toNat) (Reps.cons r5 (rl.drop i.toNat))
          rw [List.append_assoc]; exact this⟩
        have hl : l.length < 16777216 := hz.1
        exact mt_insert pins s σ H _ _ v us Q I rx rs ⟨p, ws, i, y2, rfl, rfl, hp, by rw [← rl.length, ← sizeLn_eq]; exact hz.1, hz.2.1, by have := hz.2.2; omega, q a _ _ st m2 rep_nonF⟩
      · exact q.elim
    · exact q.elim
  · exact q.elim
theorem Reps.dropLast : ∀ {l : List D} {vs : List V}, Reps T X.K a l vs → Reps T X.K a l.dropLast vs.dropLast
  | [], vs, h => by rw [h.inv0]; exact Reps.nil
  | [d], vs, h => by
    obtain ⟨v, ws, rfl, r1, r2⟩ := h.inv
    rw [r2.inv0]; exact Reps.nil
  | d :: e :: l, vs, h => by
    obtain ⟨v, ws, rfl, r1, r2⟩ := h.inv
    obtain ⟨w, us, rfl, r3, r4⟩ := r2.inv
    exact Reps.cons r1 (Reps.dropLast r2)
theorem bm_pop0 : MtR X "list.pop" (fun x vs H Q => vs = [] ∧ rBmE T X.K .pop x vs H Q) := by
  intro pins s σ H x vs v us Q I rx rs h
  obtain ⟨ev, a, μ, d, ds, kx, m, r1, r2, q⟩ := h
  subst ev
  have ed : ds = [] := List.length_eq_zero_iff.mp (by rw [r2.length]; rfl)
  subst ed
  simp only [bmV] at q
  split at q
  · rename_i k e
    unfold pop0V at q
    split at q
    · rename_i l eo
      split at q
      · rename_i d hd
        obtain ⟨p, ws, rfl, ep, hp, rl⟩ := lst_of m r1 eo
        rw [List.getLast?_eq_getElem?] at hd
        obtain ⟨y, ey, ry⟩ := rl.get hd
        rw [rl.length] at ey
        obtain ⟨m2, st⟩ := m.put (o' := .lst ws.dropLast) (ob' := .lst l.dropLast) ep ⟨_, upd_same, Reps.dropLast rl⟩
        exact mt_pop pins s σ H _ _ v us Q I rx rs ⟨p, ws, y, rfl, rfl, hp, ey, q a _ _ st m2 ry⟩
      · exact q.elim
    · exact q.elim
  · rename_i h1 h2; cases h2
  · exact q.elim
end
end DI
end

section
set_option Elab.async false
set_option linter.all false
set_option maxRecDepth 100000
namespace DI
open PySem L2 PySem.Spec PyProof.Rows
theorem sM_sL (x : Str) : sM (sL x) = x := by
  cases x with
  | mk c => simp [sM, sL]
theorem sL_app (x y : Str) : sL (x ++ y) = sL x ++ sL y := by
  rw [sM_app]; simp [sM, sL]
theorem sL_join (s : Str) : ∀ xs : List Str, sL (Str.join s xs) = joinL (sL s) (xs.map sL)
  | [] => rfl
  | [x] => rfl
  | x :: y :: r => by
    show sL (x ++ s ++ Str.join s (y :: r)) = _
    rw [sL_app, sL_app, sL_join s (y :: r)]
    rfl
theorem join_eq (s : Str) (xs : List Str) : Txt.join s xs = sM (joinL (sL s) (xs.map sL)) := by
  rw [← sL_join, sM_sL]
  exact StrLaws.glued_eq_join s xs
theorem join_ok {s : Str} (hs : PyData.strOk s = true) : ∀ {xs : List Str}, (∀ x ∈ xs, PyData.strOk x = true) → PyData.strOk (Str.join s xs) = true
  | [], _ => by show PyData.strOk Str.empty = true; simp [PyData.strOk, Str.empty]
  | [x], h => h x (List.mem_cons_self ..)
  | x :: y :: r, h => by
    show PyData.strOk (x ++ s ++ Str.join s (y :: r)) = true
    rw [sM_app]
    refine strOk_app ?_ (join_ok hs fun z hz => h z (List.mem_cons_of_mem _ hz))
    rw [sM_app]
    exact strOk_app (h x (List.mem_cons_self ..)) hs
section
variable {T : Tab} {n : Nat} {X : Cx} {W : WX} {pos : Pos}
theorem bm_join : MtR X "str.join" (rBm T X.K .join) := by
  intro pins s σ H x vs v us Q I rx rs h
  obtain ⟨a, μ, d, ds, kx, m, r1, r2, q⟩ := h
  simp only [bmV] at q
  split at q
  · rename_i sp e
    obtain ⟨z, ez, k⟩ := q.of
    simp only [Rep] at r1
    obtain ⟨rfl, g⟩ := r1
    obtain ⟨y, zs, rfl, r3, r4⟩ := r2.inv
    have q1 := rd_rep m r3
    obtain rfl := r4.inv0
    have main : ∀ (l : List D) (p : Addr) (ws : List V) (xs : List Str), y = .ref p → Reps T X.K a l ws → strsD l = some xs → (SqL X.K H p ws ∨ SqT X.K H p ws) →
        (if (xs.map fun x => (sL x).length).sum + xs.length * (sL sp).length ≤ sizeLn then some (D.str (sM (joinL (sL sp) (xs.map sL)))) else none) = some z → wpAny (model X.prog X.w) X.A (call (.builtin "str.join") (v :: us)) (EP X pins σ Q) X.xe s := by
      intro l p ws xs ey rl es sq e2
      subst ey
      obtain ⟨e3, gs⟩ := reps_strs es rl
      subst e3
      split at e2
      · rename_i hz
        cases e2
        have hz2 : (xs.map (·.length)).sum + xs.length * sp.length ≤ 16777216 := by
          have : (fun x : Str => (sL x).length) = fun x : Str => x.length := funext sL_length
          rw [this, sL_length] at hz
          exact hz
        refine mt_join pins s σ H _ _ v us Q I rx rs ⟨sp, p, xs, rfl, rfl, sq, hz2, ?_⟩
        rw [join_eq]
        refine k a _ H (Stp.refl _ _) m (rep_str (strG.of ?_ ?_))
        · rw [← sL_join, sM_sL]
          exact join_ok (strG.ok g) fun x hx => strG.ok (gs x hx)
        · rw [← sL_join, sM_sL, sL_length]
          exact Nat.le_trans (StrLaws.join_length_le sp xs) hz2
      · cases e2
    unfold joinV at ez
    split at ez
    · rename_i l he
      rw [he] at q1
      obtain ⟨p, ws, rfl, sq, t⟩ := q1
      obtain ⟨xs, es, e2⟩ := Option.bind_eq_some_iff.mp ez
      exact main l p ws xs rfl t es (.inl (SqL.of sq)) e2
    · rename_i l he
      rw [he] at q1
      obtain ⟨p, ws, rfl, sq, t⟩ := q1
      obtain ⟨xs, es, e2⟩ := Option.bind_eq_some_iff.mp ez
      exact main l p ws xs rfl t es (.inr sq) e2
    · cases ez
  · exact q.elim
/-- the receiver's type -/
def tyOf (m : Bm) (T : String) : Prop := ∀ d, bmTy m d = true → (T = "str" ∧ ∃ s, d = .str s) ∨ (T = "list" ∧ ∃ l, d = .lst l) ∨ (T = "dict" ∧ ∃ t ks vs, d = .dct t ks vs)
theorem tyOf_append : tyOf .append "list" := by intro d h; cases d <;> simp [bmTy] at h ⊢
theorem tyOf_insert : tyOf .insert "list" := by intro d h; cases d <;> simp [bmTy] at h ⊢
theorem tyOf_pop : tyOf .pop "list" := by intro d h; cases d <;> simp [bmTy] at h ⊢
theorem tyOf_join : tyOf .join "str" := by intro d h; cases d <;> simp [bmTy] at h ⊢
theorem tyOf_split : tyOf .split "str" := by intro d h; cases d <;> simp [bmTy] at h ⊢
theorem tyV_of {a : Abs} {μ : Mem} {H : Hp} {Ty : String} {bm : Bm} (hT : tyOf bm Ty) (m : HolM T X.K a μ H) {d : D} {v : V} (r : Rep T X.K a d v) (h : bmTy bm (rd μ d) = true) : L2.tyV X.K Ty v H := by
  have q := rd_rep m r
  rcases hT _ h with ⟨rfl, s, e⟩ | ⟨rfl, l, e⟩ | ⟨rfl, t, ks, ds, e⟩
  · rw [e] at q
    rw [q.str.1]; rfl
  · rw [e] at q
    obtain ⟨p, ws, rfl, sq, t⟩ := q
    exact .inl ⟨rfl, ws, SqL.of sq⟩
  · rw [e] at q
    obtain ⟨p, ws, rfl, t1, hl, hd⟩ := q
    refine .inr (.inr (.inl ⟨rfl, ?_⟩))
    cases t with
    | false => obtain ⟨xs, h1, _⟩ := hd; exact .inl ⟨_, h1⟩
    | true => obtain ⟨xs, h1, _⟩ := hd; exact .inr ⟨_, h1⟩
/-- o.m(a, ..) -/
theorem sf_bm {o e : Expr} {es : List Expr} {y : E} {ys : Es} {name : Str} {apos cpos : Pos} {Ty id : String} {bm : Bm} (hT : tyOf bm Ty) (pa : PlainAttrs Ty) (slot : Slot Ty name id) (hty : typeOf (.builtin id) = pure (.type "method_descriptor")) (hm : MtR X id (rBm T X.K bm)) (ho : SE T n X W o y) (ha : SA T n X W (e :: es) ys)
    (hbase : attributeBase o name X.env (eval o X.env) = eval o X.env)
    (hfew : ((backTo cpos (starEach (e :: es) X.env)).all (fun x => !x.1) && (backToKw cpos (keywordEach [] X.env)).all (fun x => x.1.isSome)
      && decide ((e :: es).length + ([] : List Keyword).length + (if ([] : List Keyword).isEmpty then 0 else 1) < 30)) = true)
    (hline : (apos.endLine == cpos.line) = true) (hs : starEach (e :: es) X.env = (false, eval e X.env) :: starEach es X.env) (hplain : (backTo cpos (starEach es X.env)).any (·.1) = false) : SF T n X W (.Call (.Attribute o name apos) (e :: es) [] cpos) (.bm bm y ys) := by
  refine PE.imp (pe_bm pa slot hty hm ho ha hbase hfew hline hs hplain) fun σ H Q q => ?_
  obtain ⟨a, ρ, μ, hol, q⟩ := q
  simp only [evE] at q
  refine ⟨a, ρ, μ, hol, q.bind.mono (fun d μ1 q1 b v H1 le1 ho1 r1 => ?_) fun _ _ k => k⟩
  split at q1
  · rename_i hb
    refine ⟨tyV_of hT ho1.m r1 hb, b, ρ, μ1, ho1, q1.bind.mono (fun l μ2 q2 c vs H2 le2 ho2 r2 => ?_) fun _ _ k => k.mono le1⟩
    exact ⟨c, μ2, d, l, _, ho2.m, Rep.mono le2.le _ _ r1, r2, WpR.mono q2 (fun z μ3 k b2 v2 H2 le3 m3 fr => k b2 v2 H2 (le1.trans (le2.trans le3)) (ho2.to le3.le m3) (fr.pre (le1.trans le2).dom)) fun _ _ z => z⟩
  · exact q1.elim
theorem se_bm {o e : Expr} {es : List Expr} {y : E} {ys : Es} {name : Str} {apos cpos : Pos} {Ty id : String} {bm : Bm} (hT : tyOf bm Ty) (pa : PlainAttrs Ty) (slot : Slot Ty name id) (hty : typeOf (.builtin id) = pure (.type "method_descriptor")) (hm : MtR X id (rBmE T X.K bm)) (ho : SE T n X W o y) (ha : SA T n X W (e :: es) ys)
    (hbase : attributeBase o name X.env (eval o X.env) = eval o X.env)
    (hfew : ((backTo cpos (starEach (e :: es) X.env)).all (fun x => !x.1) && (backToKw cpos (keywordEach [] X.env)).all (fun x => x.1.isSome)
      && decide ((e :: es).length + ([] : List Keyword).length + (if ([] : List Keyword).isEmpty then 0 else 1) < 30)) = true)
    (hline : (apos.endLine == cpos.line) = true) (hs : starEach (e :: es) X.env = (false, eval e X.env) :: starEach es X.env) (hplain : (backTo cpos (starEach es X.env)).any (·.1) = false) : SE T n X W (.Call (.Attribute o name apos) (e :: es) [] cpos) (.bm bm y ys) := by
  refine PE.imp (pe_bm pa slot hty hm ho ha hbase hfew hline hs hplain) fun σ H Q q => ?_
  obtain ⟨a, ρ, μ, hol, q⟩ := q
  simp only [evE] at q
  refine ⟨a, ρ, μ, hol, q.bind.mono (fun d μ1 q1 b v H1 le1 ho1 r1 => ?_) fun _ _ k => k⟩
  split at q1
  · rename_i hb
    refine ⟨tyV_of hT ho1.m r1 hb, b, ρ, μ1, ho1, q1.bind.mono (fun l μ2 q2 c vs H2 le2 ho2 r2 => ?_) fun _ _ k => k.mono le1⟩
    exact ⟨c, μ2, d, l, _, ho2.m, Rep.mono le2.le _ _ r1, r2, WpR.mono q2 (fun z μ3 k b2 v2 H2 le3 m3 fr => k b2 v2 H2 (le1.trans (le2.trans le3)) (ho2.to le3.le m3) fr) fun _ _ z => z⟩
  · exact q1.elim
theorem Reps.eraseIdx : ∀ {l : List D} {vs : List V} {a : Abs} (i : Nat), Reps T X.K a l vs → Reps T X.K a (l.eraseIdx i) (vs.eraseIdx i)
  | [], vs, a, i, h => by rw [h.inv0]; exact Reps.nil
  | d :: l, vs, a, 0, h => by
    obtain ⟨v, ws, rfl, r1, r2⟩ := h.inv
    exact r2
  | d :: l, vs, a, i + 1, h => by
    obtain ⟨v, ws, rfl, r1, r2⟩ := h.inv
    exact Reps.cons r1 (Reps.eraseIdx i r2)
theorem bm_popAt : MtR X "list.pop" (fun x vs H Q => vs ≠ [] ∧ rBmE T X.K .pop x vs H Q) := by
  intro pins s σ H x vs v us Q I rx rs h
  obtain ⟨hne, a, μ, d, ds, kx, m, r1, r2, q⟩ := h
  simp only [bmV] at q
  split at q
  · exact absurd r2.inv0 hne
  · rename_i k i
    unfold popV at q
    split at q
    · rename_i l eo
      split at q
      · rename_i j hj
        split at q
        · rename_i d hd
          obtain ⟨p, ws, rfl, ep, hp, rl⟩ := lst_of m r1 eo
          obtain ⟨y, ey, ry⟩ := rl.get hd
          obtain ⟨z, zs, rfl, r3, r4⟩ := r2.inv
          obtain rfl := r4.inv0
          rw [rep_intI r3] at rs
          obtain ⟨m2, st⟩ := m.put (o' := .lst (ws.eraseIdx j)) (ob' := .lst (l.eraseIdx j)) ep ⟨_, upd_same, Reps.eraseIdx j rl⟩
          obtain ⟨hz, _⟩ := I.lstM hp
          have hz2 : ws.length ≤ 16777216 := hz
          have hb : -(2 ^ 63) ≤ i ∧ i < 2 ^ 63 := by
            unfold atPl at hj
            have := rl.length
            split at hj
            · split at hj
              · omega
              · cases hj
            · split at hj
              · omega
              · cases hj
          rw [atPl_ix, rl.length] at hj
          exact mt_popAt pins s σ H _ _ v us Q I rx rs ⟨p, ws, i, j, y, rfl, rfl, hp, hb.1, hb.2, (ixN_seq hj).1, ey, q a _ _ st m2 ry⟩
        · exact q.elim
      · exact q.elim
    · exact q.elim
  · exact q.elim
/-- o.pop(), o.pop(i) -/
theorem bm_pop : MtR X "list.pop" (rBmE T X.K .pop) := by
  intro pins s σ H x vs v us Q I rx rs h
  cases vs with
  | nil => exact bm_pop0 (T := T) pins s σ H x _ v us Q I rx rs ⟨rfl, h⟩
  | cons y ys => exact bm_popAt (T := T) pins s σ H x _ v us Q I rx rs ⟨by simp, h⟩
end
end DI
end

section
set_option Elab.async false
set_option linter.all false
set_option maxRecDepth 100000
namespace DI
open PySem L2 PySem.Spec PyProof.Rows
section
variable {T : Tab} {n : Nat} {X : Cx} {W : WX} {pos : Pos}
/-- {} -/
theorem sf_dct0 (t : Bool) : SF T n X W (.Dict [] [] pos) (.dct t .n) := by
  cases t with
  | false =>
    refine PE.imp pe_dnewK fun σ H Q q => ?_
    obtain ⟨a, ρ, μ, ho, q⟩ := q
    simp only [evE, evKV, R.bind_ok, List.all_nil, if_true] at q
    intro p hp
    exact q a _ _ ((Stp.refl _ _).lay hp) (ho.mem (ho.m.lay hp)) ⟨p, [], rfl, hp, (ho.m.fresh hp).1, (ho.m.fresh hp).2, Reps.nil, rfl, [], upd_same, rfl⟩
  | true =>
    refine PE.imp pe_dnewT fun σ H Q q => ?_
    obtain ⟨a, ρ, μ, ho, q⟩ := q
    simp only [evE, evKV, R.bind_ok, List.all_nil, if_true] at q
    intro p hp
    exact q a _ _ ((Stp.refl _ _).lay hp) (ho.mem (ho.m.lay hp)) ⟨p, [], rfl, hp, (ho.m.fresh hp).1, (ho.m.fresh hp).2, Reps.nil, rfl, [], upd_same, rfl⟩
end
end DI
end

section
set_option Elab.async false
set_option linter.all false
set_option maxRecDepth 100000
namespace DI
open PySem L2 PySem.Spec PyProof.Rows
theorem splitC_one {c : Nat} : ∀ {p : List Nat}, c ∉ p → splitC c p = [p]
  | [], _ => rfl
  | x :: p, h => by
    have hx : x ≠ c := fun e => h (e ▸ List.mem_cons_self ..)
    simp only [splitC, hx, if_false, splitC_one (p := p) fun m => h (List.mem_cons_of_mem _ m)]
theorem splitC_app {c : Nat} {l : List Nat} : ∀ {p : List Nat}, c ∉ p → splitC c (p ++ c :: l) = p :: splitC c l
  | [], _ => by simp [splitC]
  | x :: p, h => by
    have hx : x ≠ c := fun e => h (e ▸ List.mem_cons_self ..)
    simp only [List.cons_append, splitC, hx, if_false, splitC_app (l := l) (p := p) fun m => h (List.mem_cons_of_mem _ m)]
theorem splitC_join {c : Nat} : ∀ {L : List (List Nat)}, L ≠ [] → (∀ p ∈ L, c ∉ p) → splitC c (joinL [c] L) = L
  | [], h, _ => absurd rfl h
  | [p], _, h => splitC_one (h p (List.mem_cons_self ..))
  | p :: q :: r, _, h => by
    show splitC c (p ++ [c] ++ joinL [c] (q :: r)) = _
    rw [List.append_assoc, List.singleton_append, splitC_app (h p (List.mem_cons_self ..)), splitC_join (by simp) fun z hz => h z (List.mem_cons_of_mem _ hz)]
theorem split_eq (x : Str) (c : Nat) : (splitC c (sL x)).map sM = Txt.split x ⟨#[c]⟩ := by
  have h := StrLaws.join_split x ⟨#[c]⟩
  have h1 : sL x = joinL [c] ((Txt.split x ⟨#[c]⟩).map sL) := by
    rw [← congrArg sL h, sL_join]; rfl
  have ne : (Txt.split x ⟨#[c]⟩) ≠ [] := by
    intro e
    have := split_pos x ⟨#[c]⟩
    rw [e] at this; simp at this
  rw [h1, splitC_join (by simpa using ne) ?_, List.map_map]
  · have : (sM ∘ sL) = id := funext sM_sL
    rw [this, List.map_id]
  · intro p hp
    obtain ⟨q, hq, rfl⟩ := List.mem_map.mp hp
    exact StrLaws.split_free x c q hq
section
variable {T : Tab} {n : Nat} {X : Cx} {W : WX} {pos : Pos}
theorem splitC_mem {c : Nat} : ∀ {l p : List Nat}, p ∈ splitC c l → ∀ z ∈ p, z ∈ l
  | [], p, h, z, hz => by
    simp only [splitC, List.mem_singleton] at h
    subst h; cases hz
  | x :: l, p, h, z, hz => by
    simp only [splitC] at h
    split at h
    · rcases List.mem_cons.mp h with rfl | h
      · cases hz
      · exact List.mem_cons_of_mem _ (splitC_mem h z hz)
    · split at h
      · rename_i w r e
        rcases List.mem_cons.mp h with rfl | h
        · rcases List.mem_cons.mp hz with rfl | hz
          · exact List.mem_cons_self ..
          · exact List.mem_cons_of_mem _ (splitC_mem (l := l) (p := w) (by rw [e]; exact List.mem_cons_self ..) z hz)
        · exact List.mem_cons_of_mem _ (splitC_mem (l := l) (p := p) (by rw [e]; exact List.mem_cons_of_mem _ h) z hz)
      · simp only [List.mem_singleton] at h
        subst h
        simp only [List.mem_singleton] at hz
        subst hz; exact List.mem_cons_self ..
theorem reps_ofStrs {a : Abs} : ∀ {l : List Str}, (∀ s ∈ l, strG s = true) → Reps T X.K a (l.map D.str) (l.map V.str)
  | [], _ => Reps.nil
  | s :: l, h => Reps.cons (by simp only [Rep]; exact ⟨trivial, h s (List.mem_cons_self ..)⟩) (reps_ofStrs fun z hz => h z (List.mem_cons_of_mem _ hz))
theorem bm_split : MtR X "str.split" (rBm T X.K .split) := by
  intro pins s σ H x vs v us Q I rx rs h
  obtain ⟨a, μ, d, ds, kx, m, r1, r2, q⟩ := h
  simp only [bmV] at q
  split at q
  · rename_i x y
    obtain ⟨z, ez, k⟩ := q.of
    simp only [Rep] at r1
    obtain ⟨rfl, g⟩ := r1
    obtain ⟨y2, zs, rfl, r3, r4⟩ := r2.inv
    obtain rfl := r4.inv0
    simp only [Rep] at r3
    obtain ⟨rfl, g2⟩ := r3
    unfold splitV at ez
    split at ez
    · rename_i c ec
      split at ez
      · rename_i hz
        cases ez
        have ey : y = ⟨#[c]⟩ := by
          have := congrArg sM ec
          rw [sM_sL] at this
          rw [this]; rfl
        subst ey
        refine mt_split pins s σ H _ _ v us Q I rx rs ⟨x, _, rfl, rfl, rfl, by rw [← sL_length, ← sizeLn_eq]; exact hz, fun p hp => ?_⟩
        rw [← split_eq]
        have hg : ∀ t ∈ (splitC c (sL x)).map sM, strG t = true := by
          intro t ht
          have ht2 := ht
          rw [split_eq] at ht2
          obtain ⟨u, hu, rfl⟩ := List.mem_map.mp ht
          refine strG.of (strOk_sub (strG.ok g) fun b hb => splitC_mem hu b hb) ?_
          have := part_short ht2
          rw [← sL_length, ← sL_length] at this
          exact Nat.le_trans this (strG.len g)
        have hr := reps_ofStrs (T := T) (X := X) (a := a) hg
        rw [List.map_map] at hr
        obtain ⟨st, m2, fr⟩ := fresh_lst m hp hr
        exact k a _ _ st m2 fr
      · cases ez
    · cases ez
  · exact q.elim
end
end DI
end

section
set_option Elab.async false
set_option linter.all false
set_option maxRecDepth 100000
namespace DI
open PySem L2 PySem.Spec PyProof.Rows
def isStar : E → Bool
  | .star _ => true
  | _ => false
theorem evX_cons {P : Prog} {C : Cal} {rs : D → Option Str} {e : E} {r : Es} {ρ : Env} {μ : Mem} (h : isStar e = false) : evX P C rs (.c e r) ρ μ = (evE P C rs e ρ μ).bind fun d μ => (evX P C rs r ρ μ).bind fun l μ => .ok (d :: l) μ := by
  cases e <;> first
    | (simp [isStar] at h; done)
    | (simp only [evX]; done)
section
variable (T : Tab) (n : Nat) (K : PySem.W.Frag) (W : WX)
def tXs (es : Es) : TA := fun σ H Q => ∃ a ρ μ, Hol T K a ρ μ σ H ∧ WpR (evX T.P (T.C n) T.reprS es ρ μ) (fun l μ' => ∀ b vs H', Stp a H b H' → Hol T K b ρ μ' σ H' → Reps T K b l vs → Q vs H') (Kx T K a H ρ σ W)
end
section
variable (T : Tab) (n : Nat) (X : Cx) (W : WX)
abbrev SX (x : List Expr) (e : Es) : Prop := PA X x (tXs T n X.K W e)
end
section
variable {T : Tab} {n : Nat} {X : Cx} {W : WX} {pos : Pos}
theorem sx_nil : SX T n X W [] .n := by
  refine PA.imp pa_nil fun σ H Q q => ?_
  obtain ⟨a, ρ, μ, ho, q⟩ := q
  simp only [evX] at q
  exact q a [] H (Stp.refl _ _) ho Reps.nil
theorem sx_cons {x : Expr} {xs : List Expr} {e : E} {es : Es} (hs0 : isStar e = false) (h : SE T n X W x e) (hs : SX T n X W xs es) (hst : starEach (x :: xs) X.env = (false, eval x X.env) :: starEach xs X.env) : SX T n X W (x :: xs) (.c e es) := by
  refine PA.imp (pa_cons h hs hst) fun σ H Q q => ?_
  obtain ⟨a, ρ, μ, ho, q⟩ := q
  rw [evX_cons hs0] at q
  refine ⟨a, ρ, μ, ho, q.bind.mono (fun d μ1 q1 b v H1 le1 ho1 r1 => ?_) fun _ _ k => k⟩
  refine ⟨b, ρ, μ1, ho1, q1.bind.mono (fun l μ2 q2 c vs H2 le2 ho2 r2 => ?_) fun _ _ k => k.mono le1⟩
  exact q2 c (v :: vs) H2 (le1.trans le2) ho2 (Reps.cons (Rep.mono le2.le _ _ r1) r2)
theorem sx_star {x : Expr} {p : Pos} {xs : List Expr} {e : E} {es : Es} (h : SE T n X W x e) (hs : SX T n X W xs es) (hst : starEach (.Starred x p :: xs) X.env = (true, eval x X.env) :: starEach xs X.env) : SX T n X W (.Starred x p :: xs) (.c (.star e) es) := by
  refine PA.imp (StX.pa_star h hs hst) fun σ H Q q => ?_
  obtain ⟨a, ρ, μ, ho, q⟩ := q
  simp only [evX] at q
  refine ⟨a, ρ, μ, ho, q.bind.mono (fun d μ1 q1 b v H1 le1 ho1 r1 => ?_) fun _ _ k => k⟩
  have f := rd_rep ho1.m r1
  split at q1
  · rename_i l e1
    rw [e1] at f
    obtain ⟨pp, ws, rfl, sq, t⟩ := f
    refine ⟨pp, ws, rfl, .inl sq, b, ρ, μ1, ho1, q1.bind.mono (fun m μ2 q2 c vs H2 le2 ho2 r2 => ?_) fun _ _ k => k.mono le1⟩
    exact q2 c _ H2 (le1.trans le2) ho2 (Reps.append (Reps.mono le2.le _ _ t) r2)
  · rename_i l e1
    rw [e1] at f
    obtain ⟨pp, ws, rfl, sq, t⟩ := f
    refine ⟨pp, ws, rfl, .inr (SqL.of sq), b, ρ, μ1, ho1, q1.bind.mono (fun m μ2 q2 c vs H2 le2 ho2 r2 => ?_) fun _ _ k => k.mono le1⟩
    exact q2 c _ H2 (le1.trans le2) ho2 (Reps.append (Reps.mono le2.le _ _ t) r2)
  · exact q1.elim
theorem sf_lstX {xs : List Expr} {es : Es} (h : SX T n X W xs es) : SF T n X W (.List xs pos) (.lst es) := by
  refine PE.imp (pe_lst h) fun σ H Q q => ?_
  obtain ⟨a, ρ, μ, ho, q⟩ := q
  simp only [evE] at q
  refine ⟨a, ρ, μ, ho, q.bind.mono (fun l μ1 q1 b vs H1 le1 ho1 r1 => ?_) fun _ _ k => k⟩
  split at q1
  · rename_i hl
    refine ⟨by rw [← r1.length, ← sizeLn_eq]; exact hl, fun p hp => ?_⟩
    obtain ⟨f1, f2⟩ := ho1.m.fresh hp
    exact q1 b _ _ (le1.lay hp) (ho1.to b.le_refl (ho1.m.lay hp)) ⟨p, vs, rfl, upd_same, le1.dom _ hp, f1, f2, r1⟩
  · exact q1.elim
end
end DI
end

section
set_option Elab.async false
set_option linter.all false
set_option maxRecDepth 100000
namespace DI
open PySem L2 PySem.Spec PyProof.Rows
section
variable {T : Tab} {n : Nat} {X : Cx} {W : WX} {pos : Pos}
theorem se_fmt {x : Expr} {e : E} (h : SE T n X W x e) : SE T n X W (.FormattedValue x (-1) none pos) (.fmt e) := by
  refine PE.imp (pe_fmt h) fun σ H Q q => ?_
  obtain ⟨a, ρ, μ, ho, q⟩ := q
  simp only [evE] at q
  refine ⟨a, ρ, μ, ho, q.bind.mono (fun d μ1 q1 b v H1 le1 ho1 r1 => ?_) fun _ _ k => k⟩
  obtain ⟨z, e1, k⟩ := q1.of
  unfold fmtV at e1
  split at e1
  · rename_i i
    split at e1
    · rename_i hz
      cases e1
      refine .inr ⟨i, by simpa only [Rep] using r1, hz.1, ?_⟩
      have := k b (.str (intS i)) H1 le1 ho1 (by
        simp only [Rep]
        refine ⟨trivial, strG.of ?_ ?_⟩
        · have h2 := hz.2
          unfold okS at h2
          simp only [Bool.and_eq_true] at h2
          have h3 := h2.1
          unfold PyData.strOk
          simp only [sL, Array.all_eq_true', List.all_eq_true, Array.mem_toList_iff] at h3 ⊢
          exact h3
        · have h2 := hz.2
          unfold okS at h2
          simp only [Bool.and_eq_true] at h2
          exact of_decide_eq_true h2.2)
      exact this
    · cases e1
  · rename_i y
    cases e1
    simp only [Rep] at r1
    obtain ⟨rfl, g⟩ := r1
    exact .inl ⟨y, rfl, by rw [← sL_length, ← sizeLn_eq]; exact strG.len g, k b _ H1 le1 ho1 (by simp only [Rep]; exact ⟨trivial, g⟩)⟩
  · cases e1
end
end DI
end

section
set_option Elab.async false
set_option linter.all false
set_option maxRecDepth 100000
namespace DI
open PySem L2 PySem.Spec PyProof.Rows
def spAr : Nat → Nat
  | 0 => 2 | 5 => 2 | 6 => 2 | 7 => 3 | 9 => 4 | _ => 1
/-- the forms of the calls of special methods -/
def SpForm (T : Tab) : Prop := ∀ c k j f, T.P.cls c = some k → k.spec.lookup j = some f → T.form f (spAr j) [] = some []
section
variable {T : Tab} {n : Nat} {X : Cx} {W : WX} {pos : Pos} {a : Abs} {H : Hp} {μ : Mem} {pins : List (Addr × Obj)} {σ : L2.St} {s : Shared}
theorem Own.room1 (O : Own T n X) : Room (3 * n) X.A.in1 := (O.room.mono (by omega : 3 * n + 1 ≤ 3 * n + 2)).in1
theorem Own.room2 (O : Own T n X) : Room (3 * n) X.A.in1.in1 := ((O.room.mono (by omega : 3 * n + 1 + 1 ≤ 3 * n + 2)).in1).in1
theorem env0_in1 {A : Around} {P : Program} {w : World} {K : PySem.W.Frag} {mg : Str → Option Value} {base : Heap} {outer : List PySem.Env} {s : Shared} {H : Hp} (e : Env0 P w K mg base A outer s H) : Env0 P w K mg base A.in1 outer s H :=
  ⟨e.frames, e.mod, e.bs, e.bsz, e.funs, e.frf, e.hok, e.bare⟩
/-- an own instance where it stands -/
theorem inst_at (I : L2.Inv X pins σ H s) {p C dx : Addr} {fs : List (Str × V)} (h : H p = some (.ins C dx fs)) : ∃ ox od, PySem.W.InstAt s.heap p ox C od := by
  obtain ⟨mA, J, _⟩ := ins_get I.hok h
  obtain ⟨od, J, _⟩ := J.look
  exact ⟨_, od, J⟩
/-- a special method called -/
theorem run_sp (O : Own T n X) (SF : SpForm T) (I : L2.Inv X pins σ H s) {A : Around} {Q : VK} {R : Value → Shared → Prop} {c j f : Nat} {k : DI.Cls} {ds : List D} {vs : List V} {us : List Value} (hA : Room (3 * n) A) (hG : A.guards = some []) (e0 : Env0 X.prog X.w X.K X.mg X.base A X.stack s H)
    (hk : T.P.cls c = some k) (hs : k.spec.lookup j = some f) (hl : ds.length = spAr j) (m : HolM T X.K a μ H) (r : Reps T X.K a ds vs) (ru : Vals vs us)
    (q : WpR (calF T.P (T.C n) f ds [] [] μ) (fun d μ' => ∀ b v H', Stp a H b H' → HolM T X.K b μ' H' → Rep T X.K b d v → Q v H') (fun _ _ => False))
    (hR : ∀ u s', EP X pins σ Q u s' → R u s') : wpAny (model X.prog X.w) A (call (.ref (T.fa f)) us []) R X.xe s := by
  have z := run_d (E := fun _ _ _ => False) (E2 := X.xe) (ks := []) (ws := []) (zs := []) (kv := []) O out_none hA hG e0 I (SF c k j f hk hs) ru .nil r Reps.nil hl rfl m (q.mono (fun _ _ k => k) fun _ _ z => z.elim)
  exact thn (wpAny_call z) fun u s' h => hR u s' h
theorem own_len (O : Own T n X) (SF : SpForm T) : SpOwn T n X (.builtin "len") (lenV T.P (T.C n)) := by
  intro pins s σ H vs us Q I r h
  obtain ⟨a, μ, d, v, c, ns, fs, rfl, m, r1, e, q⟩ := h
  have rv := rd_rep m r1
  rw [e] at rv
  obtain ⟨p, dx, ws, rfl, h1, h2, h3, h4⟩ := rv
  unfold lenV at q
  rw [e] at q
  simp only [specOf] at q
  cases hk : T.P.cls c with
  | none => rw [hk] at q; exact q.elim
  | some k =>
    cases hs : k.spec.lookup 1 with
    | none => rw [hk] at q; simp only [Option.bind_some, hs] at q; exact q.elim
    | some f =>
      rw [hk] at q
      simp only [Option.bind_some, hs] at q
      obtain ⟨t1, t2⟩ := O.tab.spec c k 1 f hk hs
      obtain ⟨ox, od, J⟩ := inst_at I h1
      obtain ⟨mm, hF⟩ := I.fr
      cases r with
      | cons r0 rn =>
        cases rn
        obtain rfl := r0
        refine PySem.W.len_K (Q := EP X pins σ Q) hF I.ok.mod.kin J t1 t2 ?_
        refine run_sp (j := 1) (ds := [d]) (vs := [.ref p]) O SF I O.room1 O.gd I.env0.in1 hk hs rfl m (Reps.cons r1 Reps.nil) (.cons rfl .nil) (Q := fun v H' => ∃ i : Int, v = .int i ∧ (0 ≤ i ∧ i < 1000000) ∧ Q (.int i) H') (q.bind.mono (fun d2 μ2 q2 b v2 H2 st m2 r2 => ?_) fun _ _ z => z) fun u s' h => ?_
        · split at q2
          · split at q2
            · rename_i hb
              simp only [Rep] at r2
              exact ⟨_, r2, hb, q2 b _ H2 st m2 rep_int⟩
            · exact q2.elim
          · exact q2.elim
        · obtain ⟨v2, H2, I2, rv2, i, rfl, hb, q2⟩ := h
          obtain ⟨t, rfl⟩ := rv2
          show (0 ≤ i ∧ i < 2 ^ 63) ∧ _
          exact ⟨by omega, .int i, H2, I2.tok _, ⟨_, rfl⟩, q2⟩
end
end DI
end

section
set_option Elab.async false
set_option linter.all false
set_option maxRecDepth 100000
namespace DI
open PySem L2 PySem.Spec PyProof.Rows
section
variable {T : Tab} {n : Nat} {X : Cx} {W : WX} {pos : Pos} {a : Abs} {H : Hp} {μ : Mem} {pins : List (Addr × Obj)} {σ : L2.St} {s : Shared}
theorem okS_G {x : Str} (h : okS x = true) : strG x = true := by
  unfold okS at h
  rw [Bool.and_eq_true] at h
  refine strG.of ?_ (of_decide_eq_true h.2)
  have h1 := h.1
  unfold PyData.strOk
  simp only [sL, Array.all_eq_true', List.all_eq_true, Array.mem_toList_iff] at h1 ⊢
  exact h1
theorem cb_str (O : Own T n X) (SF : SpForm T) : CallR X (.type "str") (rB1 T X.K (strV T.P (T.C n))) := by
  intro pins s σ H vs us Q I r h
  obtain ⟨a, μ, d, v, rfl, m, r1, q⟩ := h
  have rv := rd_rep m r1
  unfold strV at q
  split at q
  · rename_i i e
    rw [e] at rv
    split at q
    · rename_i hz
      refine call_str_int pins s σ H _ us Q I r ⟨i, by rw [rv.int], hz.1, ?_⟩
      exact q a (.str (intS i)) H (Stp.refl _ _) m (rep_str (okS_G hz.2))
    · exact q.elim
  · rename_i x e
    rw [e] at rv
    exact SkE.call_str_str pins s σ H _ us Q I r ⟨x, by rw [rv.str.1], q a (.str x) H (Stp.refl _ _) m (rep_str rv.str.2)⟩
  · rename_i c ns fs e
    rw [e] at rv
    obtain ⟨p, dx, ws, rfl, h1, h2, h3, h4⟩ := rv
    simp only [specOf] at q
    cases hk : T.P.cls c with
    | none => rw [hk] at q; exact q.elim
    | some k =>
      cases hs : k.spec.lookup 2 with
      | none => rw [hk] at q; simp only [Option.bind_some, hs] at q; exact q.elim
      | some f =>
        rw [hk] at q
        simp only [Option.bind_some, hs] at q
        obtain ⟨t1, t2⟩ := O.tab.spec c k 2 f hk hs
        obtain ⟨ox, od, J⟩ := inst_at I h1
        cases r with
        | cons r0 rn =>
          cases rn
          obtain rfl := r0
          refine PySem.W.kso_call (Q := EP X pins σ Q) (by have := O.room2.un; omega) I.kIn J t1 t2 ?_
          refine run_sp (j := 2) (ds := [d]) (vs := [.ref p]) O SF I O.room2 O.gd (env0_in1 I.env0.in1) hk hs rfl m (Reps.cons r1 Reps.nil) (.cons rfl .nil) (Q := fun v H' => ∃ x : Str, v = .str x ∧ Q (.str x) H') (q.bind.mono (fun d2 μ2 q2 b v2 H2 st m2 r2 => ?_) fun _ _ z => z) fun u s' h => ?_
          · split at q2
            · simp only [Rep] at r2
              exact ⟨_, r2.1, q2 b _ H2 st m2 (rep_str r2.2)⟩
            · exact q2.elim
          · obtain ⟨v2, H2, I2, rv2, x, rfl, q2⟩ := h
            obtain ⟨t, rfl⟩ := rv2
            exact ⟨.str x, H2, I2, ⟨_, rfl⟩, q2⟩
  · exact q.elim
mutual
def toPyR : D → PyData
  | .dct _ [] _ => .dict []
  | .tup l => .tuple (toPyRs l) | .key l => .tuple (toPyRs l) | .lst l => .list (toPyRs l)
  | .bl b => .bool b | .int i => .int i | .str s => .str s
  | _ => .none
def toPyRs : List D → List PyData
  | [] => []
  | d :: l => toPyR d :: toPyRs l
end
mutual
def smR : Nat → D → Bool
  | _, .non => true | _, .bl _ => true | _, .int _ => true | _, .str _ => true
  | _, .dct _ [] _ => true
  | n + 1, .tup l => smRs n l
  | n + 1, .lst l => smRs n l
  | _, _ => false
def smRs : Nat → List D → Bool
  | _, [] => true
  | n, d :: l => smR n d && smRs n l
end
mutual
theorem smR_depth : ∀ (n : Nat) (d : D), smR n d = true → (toPyR d).depth ≤ n + 1
  | n, .non, _ => by simp [toPyR, PyData.depth]
  | n, .bl _, _ => by simp [toPyR, PyData.depth]
  | n, .int _, _ => by simp [toPyR, PyData.depth]
  | n, .str _, _ => by simp [toPyR, PyData.depth]
  | n, .dct _ [] _, _ => by simp [toPyR, PyData.depth, PyData.depthKv]
  | n, .dct _ (_ :: _) _, h => by cases n <;> simp [smR] at h
  | n + 1, .tup l, h => by
    have := smRs_depth n l (by simpa only [smR] using h)
    simp only [toPyR, PyData.depth]; omega
  | n + 1, .lst l, h => by
    have := smRs_depth n l (by simpa only [smR] using h)
    simp only [toPyR, PyData.depth]; omega
  | 0, .tup _, h => by simp [smR] at h
  | 0, .lst _, h => by simp [smR] at h
  | n, .key _, h => by cases n <;> simp [smR] at h
  | n, .rol _, h => by cases n <;> simp [smR] at h
  | n, .ins _ _ _, h => by cases n <;> simp [smR] at h
  | n, .exc _ _ _, h => by cases n <;> simp [smR] at h
  | n, .cls _, h => by cases n <;> simp [smR] at h
  | n, .fn _, h => by cases n <;> simp [smR] at h
  | n, .clo _ _, h => by cases n <;> simp [smR] at h
  | n, .obj _, h => by cases n <;> simp [smR] at h
theorem smRs_depth : ∀ (n : Nat) (l : List D), smRs n l = true → PyData.depthAll (toPyRs l) ≤ n + 1
  | _, [], _ => by simp [toPyRs, PyData.depthAll]
  | n, d :: l, h => by
    simp only [smRs, Bool.and_eq_true] at h
    have h1 := smR_depth n d h.1
    have h2 := smRs_depth n l h.2
    simp only [toPyRs, PyData.depthAll]; omega
end
theorem not_sys (hs : (X.K.lookup sysModules).isSome = true) (I : L2.Inv X pins σ H s) {p : Addr} {u : HO} (h : H p = some u) : p ≠ sysModules := by
  rintro rfl
  obtain ⟨o, e⟩ := Option.isSome_iff_exists.mp hs
  have := (I.bs _ _ (I.ok.mod.kin _ _ e)).2
  rw [h] at this; cases this
mutual
theorem rep_reads (hs : (X.K.lookup sysModules).isSome = true) (I : L2.Inv X pins σ H s) (le : ∀ p o, a.G p = some o → H p = some o) : ∀ (n : Nat) (d : D) (v : V) (u : Value), smR n d = true → Rep T X.K a d v → RelV v u → ∃ as, Reads s.heap u (toPyR d) as ∧ sysModules ∉ as
  | _, .non, v, u, _, r, ru => by simp only [Rep] at r; subst r; cases ru; exact ⟨_, .none, by simp⟩
  | _, .bl b, v, u, _, r, ru => by simp only [Rep] at r; subst r; cases ru; exact ⟨_, .bool b, by simp⟩
  | _, .int i, v, u, _, r, ru => by simp only [Rep] at r; subst r; obtain ⟨t, rfl⟩ := ru; exact ⟨_, .int i t, by simp⟩
  | _, .str x, v, u, _, r, ru => by simp only [Rep] at r; obtain ⟨rfl, _⟩ := r; obtain ⟨t, rfl⟩ := ru; exact ⟨_, .str x t, by simp⟩
  | n, .dct t [] vs, v, u, _, r, ru => by
    simp only [Rep] at r
    obtain ⟨p, ws, rfl, rs, hl, hd⟩ := r
    cases ru
    obtain rfl : ws = [] := List.eq_nil_of_length_eq_zero hl.symm
    have fin : ∀ (o : Obj) (es : Array DictEntry) (ep : Nat), s.heap.get? p = some o → o.ExactDict → o.data = .dict es ep → es.toList = [] → H p = some (.dK []) ∨ H p = some (.dT []) → ∃ as, Reads s.heap (.ref p) (.dict []) as ∧ sysModules ∉ as := fun o es ep ho ex hd he hp => by
      refine ⟨_, Reads.dict ho ex.1 hd (by rw [he]; exact .nil) (by rw [he]; exact .nil), ?_⟩
      have : p ≠ sysModules := hp.elim (not_sys hs I) (not_sys hs I)
      simpa using fun e => this e.symm
    cases t with
    | false =>
      obtain ⟨xs, g, hm⟩ := hd
      have hp := le _ _ g
      rw [List.zip_nil_right] at hp
      obtain ⟨_, _, vs, kv, o, es, ep, ho, ex, hd, _, pr, _⟩ := I.hok p _ hp
      cases kv
      have he : es.toList = [] := by
        generalize es.toList = l at pr
        cases l with
        | nil => rfl
        | cons e l => exact (nomatch pr)
      exact fin o es ep ho ex hd he (.inl hp)
    | true =>
      obtain ⟨xs, g, hm⟩ := hd
      have hp := le _ _ g
      rw [List.zip_nil_right] at hp
      obtain ⟨_, _, ys, pr, o, es, ep, ho, ex, hd, he, _⟩ := I.hok p _ hp
      cases pr
      exact fin o es ep ho ex hd (by simpa using he) (.inr hp)
  | n + 1, .tup l, v, u, h, r, ru => by
    simp only [Rep] at r
    obtain ⟨p, vs, rfl, sq, q⟩ := r
    cases ru
    obtain ⟨its, rv, ⟨o, ho, hc, m, hd⟩, _⟩ := I.tuple (SqT.up le sq.sq)
    obtain ⟨as, hr, na⟩ := reps_reads hs I le n l vs its (by simpa only [smR] using h) q rv
    exact ⟨_, Reads.tuple ho hc hd hr, na⟩
  | n + 1, .lst l, v, u, h, r, ru => by
    simp only [Rep] at r
    obtain ⟨p, vs, rfl, sq, q⟩ := r
    cases ru
    obtain ⟨its, rv, ⟨o, m, ho, hc, _, hd⟩, _⟩ := I.list (SqL.of (le _ _ sq))
    obtain ⟨as, hr, na⟩ := reps_reads hs I le n l vs its (by simpa only [smR] using h) q rv
    exact ⟨_, Reads.list ho hc hd hr, by
      intro z
      rcases List.mem_cons.mp z with z | z
      · exact not_sys hs I (le _ _ sq) z.symm
      · exact na z⟩
  | n, .dct _ (_ :: _) _, _, _, h, _, _ => by cases n <;> simp [smR] at h
  | 0, .tup _, _, _, h, _, _ => by simp [smR] at h
  | 0, .lst _, _, _, h, _, _ => by simp [smR] at h
  | n, .key _, _, _, h, _, _ => by cases n <;> simp [smR] at h
  | n, .rol _, _, _, h, _, _ => by cases n <;> simp [smR] at h
  | n, .ins _ _ _, _, _, h, _, _ => by cases n <;> simp [smR] at h
  | n, .exc _ _ _, _, _, h, _, _ => by cases n <;> simp [smR] at h
  | n, .cls _, _, _, h, _, _ => by cases n <;> simp [smR] at h
  | n, .fn _, _, _, h, _, _ => by cases n <;> simp [smR] at h
  | n, .clo _ _, _, _, h, _, _ => by cases n <;> simp [smR] at h
  | n, .obj _, _, _, h, _, _ => by cases n <;> simp [smR] at h
theorem reps_reads (hs : (X.K.lookup sysModules).isSome = true) (I : L2.Inv X pins σ H s) (le : ∀ p o, a.G p = some o → H p = some o) : ∀ (n : Nat) (l : List D) (vs : List V) (us : List Value), smRs n l = true → Reps T X.K a l vs → Vals vs us → ∃ as, ReadsAll s.heap us (toPyRs l) as ∧ sysModules ∉ as
  | _, [], vs, us, _, r, ru => by
    obtain rfl := r.inv0
    cases ru
    exact ⟨_, .nil, by simp⟩
  | n, d :: l, vs, us, h, r, ru => by
    simp only [smRs, Bool.and_eq_true] at h
    obtain ⟨v, ws, rfl, r1, r2⟩ := r.inv
    cases ru with
    | cons u1 u2 =>
      obtain ⟨as, e1, n1⟩ := rep_reads hs I le n d v _ h.1 r1 u1
      obtain ⟨bs, e2, n2⟩ := reps_reads hs I le n l ws _ h.2 r2 u2
      exact ⟨_, .cons e1 e2, by simp [n1, n2]⟩
end
def blS (b : Bool) : Str := if b then "True" else "False"
/-- what repr shows of small data -/
def shownD (d : D) : Option Str :=
  match d with
  | .tup l => if sms 20 l = true ∧ (toPy (.tup l)).showable = true ∧ okS (toPy (.tup l)).shown = true then some (toPy (.tup l)).shown else none
  | .lst l => if sms 20 l = true ∧ (toPy (.lst l)).showable = true ∧ okS (toPy (.lst l)).shown = true then some (toPy (.lst l)).shown
    else if smRs 20 l = true ∧ (toPyR (.lst l)).showable = true ∧ okS (toPyR (.lst l)).shown = true then some (toPyR (.lst l)).shown else none
  | .int i => if i.natAbs.log2 < 1920 ∧ okS (intS i) = true then some (intS i) else none
  | .bl b => if okS (blS b) = true then some (blS b) else none
  | .non => if okS ("None" : Str) = true then some "None" else none
  | .str x => if okS (reprText x) = true then some (reprText x) else none
  | _ => none
theorem cb_repr (O : Own T n X) (SF : SpForm T) (hR : T.reprS = shownD) : CallR X (.builtin "repr") (rB1 T X.K (reprV T.P (T.C n) T.reprS)) := by
  intro pins s σ H vs us Q I r h
  obtain ⟨a, μ, d, v, rfl, m, r1, q⟩ := h
  have rv := rd_rep m r1
  rw [hR] at q
  unfold reprV at q
  split at q
  · rename_i c ns fs e
    rw [e] at rv
    obtain ⟨p, dx, ws, rfl, h1, h2, h3, h4⟩ := rv
    simp only [specOf] at q
    cases hk : T.P.cls c with
    | none => rw [hk] at q; exact q.elim
    | some k =>
      cases hs : k.spec.lookup 3 with
      | none => rw [hk] at q; simp only [Option.bind_some, hs] at q; exact q.elim
      | some f =>
        rw [hk] at q
        simp only [Option.bind_some, hs] at q
        obtain ⟨t1, t2⟩ := O.tab.spec c k 3 f hk hs
        obtain ⟨ox, od, J⟩ := inst_at I h1
        obtain ⟨mm, hF⟩ := I.fr
        cases r with
        | cons r0 rn =>
          cases rn
          obtain rfl := r0
          refine PySem.W.repr_K (Q := EP X pins σ Q) (by have := O.room1.un; omega) hF I.ok.mod.kin J t1 t2 ?_
          refine run_sp (j := 3) (ds := [d]) (vs := [.ref p]) O SF I O.room1 O.gd I.env0.in1 hk hs rfl m (Reps.cons r1 Reps.nil) (.cons rfl .nil) (Q := fun v H' => ∃ x : Str, v = .str x ∧ Q (.str x) H') (q.bind.mono (fun d2 μ2 q2 b v2 H2 st m2 r2 => ?_) fun _ _ z => z) fun u s' h => ?_
          · split at q2
            · simp only [Rep] at r2
              exact ⟨_, r2.1, q2 b _ H2 st m2 (rep_str r2.2)⟩
            · exact q2.elim
          · obtain ⟨v2, H2, I2, rv2, x, rfl, q2⟩ := h
            obtain ⟨t, rfl⟩ := rv2
            exact ⟨.str x, H2, I2, ⟨_, rfl⟩, q2⟩
  · obtain ⟨z, e1, k⟩ := q.of
    obtain ⟨x, e2, rfl⟩ := Option.map_eq_some_iff.mp e1
    have main : ∀ (hm : sm 21 (rd μ d) = true) (p : Addr), v = .ref p → (toPy (rd μ d)).showable = true → okS (toPy (rd μ d)).shown = true → (toPy (rd μ d)).depth ≤ 21 → x = (toPy (rd μ d)).shown → wpAny (model X.prog X.w) X.A (call (.builtin "repr") us []) (EP X pins σ Q) X.xe s := by
      intro hm p ev hsh hok hdp ex
      subst ev
      obtain ⟨p1, cl⟩ := rdv_dp m hm r1
      cases r with
      | cons r0 rn =>
        cases rn
        obtain ⟨as, t1⟩ := Dp.reads I _ _ _ p1 r0
        obtain rfl := r0
        refine repr_of_reads' t1 hsh (PyData.noDict_hsm (PyData.hasDict_of_canLay _ cl)) O.gd (by have := O.room.un; omega) (fun _ _ e => e) (fun h' u tk hk => ?_) (by have := strG.len (okS_G hok); rw [← sL_length, ← sizeLn_eq]; exact this)
        subst ex
        exact ⟨.str _, H, I.kept hk, ⟨_, rfl⟩, k a (.str _) H (Stp.refl _ _) m (rep_str (okS_G hok))⟩
    generalize hg : rd μ d = d' at *
    unfold shownD at e2
    split at e2
    · rename_i l
      split at e2
      · rename_i hc
        cases e2
        obtain ⟨p, ws, ev, _⟩ := rv
        refine main (by simpa only [sm] using hc.1) p ev hc.2.1 hc.2.2 ?_ rfl
        have := sms_depth 20 _ hc.1
        simp only [toPy, PyData.depth]; omega
      · cases e2
    · rename_i l _
      split at e2
      · rename_i hc
        cases e2
        obtain ⟨p, ws, ev, _⟩ := rv
        refine main (by simpa only [sm] using hc.1) p ev hc.2.1 hc.2.2 ?_ rfl
        have := sms_depth 20 _ hc.1
        simp only [toPy, PyData.depth]; omega
      · split at e2
        · rename_i hc
          cases e2
          obtain ⟨p, ws, ev, hp, rs⟩ := rv
          subst ev
          cases r with
          | cons r0 rn =>
            cases rn
            obtain rfl := r0
            obtain ⟨its, rv2, ⟨o, m', ho, hco, _, hd⟩, _⟩ := I.list (SqL.of hp)
            obtain ⟨as, hr, na⟩ := reps_reads O.tab.sysm I m.le 20 l ws its hc.1 rs rv2
            have t1 := Reads.list ho hco hd hr
            have nas : sysModules ∉ p :: as := by
              intro z
              rcases List.mem_cons.mp z with z | z
              · exact not_sys O.tab.sysm I hp z.symm
              · exact na z
            have hdp := smRs_depth 20 l hc.1
            refine repr_of_reads' (d := toPyR (.lst l)) t1 hc.2.1 (fun _ => nas) O.gd (by have := O.room.un; simp only [toPyR, PyData.depth]; omega) (fun _ _ e => e) (fun h' u tk hk => ?_) (by have := strG.len (okS_G hc.2.2); rw [← sL_length, ← sizeLn_eq]; exact this)
            exact ⟨.str _, H, I.kept hk, ⟨_, rfl⟩, k a (.str _) H (Stp.refl _ _) m (rep_str (okS_G hc.2.2))⟩
        · cases e2
    · rename_i i _
      split at e2
      · rename_i hz
        cases e2
        exact SkE.call_repr_int pins s σ H _ us Q I r ⟨i, by rw [rv.int], hz.1, k a (.str (intS i)) H (Stp.refl _ _) m (rep_str (okS_G hz.2))⟩
      · cases e2
    · rename_i b _
      split at e2
      · rename_i hz
        cases e2
        simp only [RdV, Rep] at rv
        subst rv
        cases r with
        | cons r0 rn =>
          cases rn
          cases r0
          exact PySem.P.repr_of_bool ⟨.str _, H, I.tok _, ⟨_, rfl⟩, k a (.str _) H (Stp.refl _ _) m (rep_str (okS_G hz))⟩
      · cases e2
    · split at e2
      · rename_i hz
        cases e2
        simp only [RdV, Rep] at rv
        subst rv
        cases r with
        | cons r0 rn =>
          cases rn
          cases r0
          exact PySem.P.repr_of_none ⟨.str _, H, I.tok _, ⟨_, rfl⟩, k a (.str _) H (Stp.refl _ _) m (rep_str (okS_G hz))⟩
      · cases e2
    · rename_i x _
      split at e2
      · rename_i hz
        cases e2
        simp only [RdV, Rep] at rv
        obtain ⟨rfl, _⟩ := rv
        cases r with
        | cons r0 rn =>
          cases rn
          obtain ⟨t, rfl⟩ := r0
          exact PySem.P.repr_of_str ⟨.str _, H, I.tok _, ⟨_, rfl⟩, k a (.str _) H (Stp.refl _ _) m (rep_str (okS_G hz))⟩ (by have := strG.len (okS_G hz); rw [← sL_length, ← sizeLn_eq]; exact this)
      · cases e2
    · cases e2
end
end DI
end

section
set_option Elab.async false
set_option linter.all false
set_option maxRecDepth 100000
namespace DI
open PySem L2 PySem.Spec PyProof.Rows
section
variable {prog : Program} {w : World} {A : Around} {E : Value → Shared → Prop} {s : Shared} {K : PySem.W.Frag} {x C f : Addr} {ox : Obj} {od : Option Obj}
end
section
variable {T : Tab} {n : Nat} {X : Cx} {W : WX} {pos : Pos} {a : Abs} {H : Hp} {μ : Mem} {pins : List (Addr × Obj)} {σ : L2.St} {s : Shared}
def DisL (T : Tab) (n : Nat) (X : Cx) (W : WX) : List Expr → Es → Prop
  | [], .n => True
  | x :: xs, .c e es => SE T n X W x e ∧ DisL T n X W xs es
  | _, _ => False
theorem strs_cons {d : D} {l : List D} {xs : List Str} (h : strsD (d :: l) = some xs) : ∃ x r, d = .str x ∧ strsD l = some r ∧ xs = x :: r := by
  cases d <;> simp only [strsD] at h <;> first | (cases h; done) | skip
  rename_i x
  obtain ⟨r, e, rfl⟩ := Option.map_eq_some_iff.mp h
  exact ⟨x, r, rfl, e, rfl⟩
def tsOf (T : Tab) (n : Nat) (X : Cx) (W : WX) : Es → List TE
  | .n => []
  | .c e es => tE T n X.K W e :: tsOf T n X W es
theorem pj_of : ∀ {es : Es} {xs : List Expr}, DisL T n X W xs es → PJ X xs (tsOf T n X W es)
  | .n, [], _ => .nil
  | .n, _ :: _, d => d.elim
  | .c e es, [], d => d.elim
  | .c e es, x :: xs, d => .cons d.1 (pj_of d.2)
theorem WpR.sure {α : Type} {r : R α} {k : α → Mem → Prop} (h : WpR r k fun _ _ => False) : ∃ d μ, r = .ok d μ ∧ k d μ := by
  cases r with
  | ok d μ => exact ⟨d, μ, rfl, h⟩
  | ex x μ => exact h.elim
  | no => exact h.elim
/-- the parts one behind the other -/
theorem tJs_of {σ : L2.St} {Q : Str → Hp → Prop} {a0 : Abs} {H0 : Hp} {ρ : Env} : ∀ {es : Es} {acc : Str} {a : Abs} {μ : Mem} {H : Hp}, PyData.strOk acc = true → Stp a0 H0 a H → Hol T X.K a ρ μ σ H →
    WpR (evEs T.P (T.C n) T.reprS es ρ μ) (fun l μ' => ∃ xs, strsD l = some xs ∧ (sL acc).length + (xs.map sL).flatten.length ≤ sizeLn ∧ ∀ b H', PyData.strOk (sM (sL acc ++ (xs.map sL).flatten)) = true → Stp a0 H0 b H' → Hol T X.K b ρ μ' σ H' → Q (sM (sL acc ++ (xs.map sL).flatten)) H') (fun _ _ => False) →
    tJs (tsOf T n X W es) acc σ H Q
  | .n, acc, a, μ, H, hg, st, ho, q => by
    simp only [evEs] at q
    obtain ⟨xs, e, hz, k⟩ := q
    cases e
    simp only [List.map_nil, List.flatten_nil, List.append_nil, sM_sL] at k
    exact k a H hg st ho
  | .c e es, acc, a, μ, H, hg, st, ho, q => by
    simp only [evEs] at q
    refine ⟨a, ρ, μ, ho, q.bind.mono (fun d μ1 q1 b v H1 st1 ho1 r1 => ?_) fun _ _ z => z.elim⟩
    have q1 := q1.bind
    obtain ⟨l, μ2, e2, xs, e3, hz, k⟩ := q1.sure
    obtain ⟨y, r, rfl, e4, rfl⟩ := strs_cons e3
    simp only [Rep] at r1
    obtain ⟨rfl, hy⟩ := r1
    simp only [List.map_cons, List.flatten_cons, List.length_append] at hz
    have e5 : sL (acc ++ y) = sL acc ++ sL y := sL_app acc y
    refine ⟨y, rfl, ?_, tJs_of (by rw [sM_app]; exact strOk_app hg (strG.ok hy)) (st.trans st1) ho1 ?_⟩
    · rw [← sL_length, e5, ← sizeLn_eq, List.length_append]; omega
    · rw [e2]
      refine ⟨r, e4, by rw [e5, List.length_append]; omega, fun b' H' g' st' ho' => ?_⟩
      rw [e5, List.append_assoc] at g' ⊢
      have := k b' H' (by simpa only [List.map_cons, List.flatten_cons] using g') st' ho'
      simpa only [List.map_cons, List.flatten_cons] using this
/-- f'..' of two parts or more -/
theorem se_fst {v1 v2 : Expr} {rest : List Expr} {es : Es} (h : DisL T n X W (v1 :: v2 :: rest) es) : SE T n X W (.JoinedStr (v1 :: v2 :: rest) pos) (.fst es) := by
  refine PE.imp (pe_joined (pj_of h)) fun σ H Q q => ?_
  obtain ⟨a, ρ, μ, ho, q⟩ := q
  simp only [evE] at q
  refine tJs_of (acc := Str.empty) (by simp [PyData.strOk, Str.empty]) (Stp.refl a H) ho (q.bind.nox.mono (fun l μ1 q1 => ?_) fun _ _ z => z.elim)
  obtain ⟨d, e1, k⟩ := q1.of
  obtain ⟨xs, e2, e3⟩ := Option.bind_eq_some_iff.mp e1
  split at e3
  · rename_i hz
    cases e3
    refine ⟨xs, e2, by simpa [Str.empty, sL] using hz, fun b H' g' st ho' => ?_⟩
    have e4 : sL Str.empty ++ (xs.map sL).flatten = (xs.map sL).flatten := rfl
    rw [e4] at g' ⊢
    refine k b (.str _) H' st ho' ?_
    simp only [Rep]
    refine ⟨trivial, strG.of ?_ ?_⟩
    · exact g'
    · show (sM _).cps.toList.length ≤ _
      simpa [sM] using hz
  · cases e3
end
end DI
end

section
set_option Elab.async false
set_option linter.all false
set_option maxRecDepth 100000
namespace DI
open PySem L2 PySem.Spec PyProof.Rows
def hiZ (z : Bool) : Option Int := if z then some 0 else none
theorem adjust_back (z : Bool) (n : Nat) : Builtin.Slice.sliceAdjust none (hiZ z) (-1) (n : Int) = ((n : Int) - 1, if z then (if n = 0 then -1 else 0) else -1) := by
  unfold Builtin.Slice.sliceAdjust hiZ
  cases z with
  | false => simp
  | true =>
    by_cases hn : n = 0
    · subst hn; decide
    · simp [hn]; omega
theorem places_back (z : Bool) (n : Nat) : Builtin.Slice.slicePlaces ((n : Int) - 1) (if z then (if n = 0 then -1 else 0) else -1) (-1) = if z then n - 1 else n := by
  unfold Builtin.Slice.slicePlaces
  rw [if_neg (by omega)]
  have e : ∀ x : Int, x / (-(-1)) = x := fun x => by rw [show (-(-1) : Int) = 1 by omega, Int.ediv_one]
  cases z with
  | false =>
    simp only [Bool.false_eq_true, if_false, e]
    split <;> omega
  | true =>
    simp only [if_true, e]
    by_cases hn : n = 0
    · subst hn; simp
    · rw [if_neg hn]
      split <;> omega
theorem pick_back {α : Type} (xs : List α) (z : Bool) : ((List.range (if z then xs.length - 1 else xs.length)).filterMap fun (k : Nat) => xs.toArray[(((xs.length : Int) - 1) + (k : Int) * (-1)).toNat]?) = cutR xs z := by
  have gen : ∀ m, m ≤ xs.length → ((List.range m).filterMap fun (k : Nat) => xs.toArray[(((xs.length : Int) - 1) + (k : Int) * (-1)).toNat]?) = xs.reverse.take m := by
    intro m hm
    induction m with
    | zero => simp
    | succ m ih =>
      rw [List.range_succ, List.filterMap_append, ih (by omega)]
      have h1 : (((xs.length : Int) - 1) + (m : Int) * (-1)).toNat = xs.length - 1 - m := by omega
      have h2 : xs.length - 1 - m < xs.length := by omega
      have h3 : m < xs.reverse.length := by simp; omega
      rw [List.take_succ_eq_append_getElem h3]
      congr 1
      simp only [List.filterMap_cons, List.filterMap_nil, h1, List.getElem?_toArray, List.getElem?_eq_getElem h2]
      simp [List.getElem_reverse]
  rw [gen _ (by split <;> omega)]
  cases z with
  | false => simp only [cutR, Bool.false_eq_true, if_false]; exact List.take_of_length_le (by simp)
  | true =>
    simp only [if_true, cutR]
    cases xs with
    | nil => simp
    | cons x xs =>
      simp only [List.length_cons, Nat.add_sub_cancel, List.tail_cons, List.reverse_cons]
      rw [List.take_append_of_le_length (by simp)]
      exact List.take_of_length_le (by simp)
section
variable {prog : Program} {w : World} {A : Around} {E : Value → Shared → Prop} {s : Shared}
theorem applied_back {sl : Addr} {vu vs : Value} {z : Bool} {n : Nat} {Q : Int × Int × Nat → Shared → Prop} (hs : s.heap.IsSliceOf sl .none vu vs) (pu : IsPart vu (hiZ z)) (ps : IsPart vs (some (-1)))
    (h : Q ((n : Int) - 1, -1, if z then n - 1 else n) s) : wpAny (model prog w) A (Builtin.Slice.sliceApplied (.ref sl) (pure (n : Int))) Q E s := by
  obtain ⟨os, hos, hcs, hds⟩ := id hs
  unfold Builtin.Slice.sliceApplied Builtin.Slice.sliceFields
  refine wpAny_bind (wpAny_bind (wpAny_field hos hds (x := .none) rfl (wpAny_bind (wpAny_field hos hds (x := vu) rfl (wpAny_bind (wpAny_field hos hds (x := vs) rfl (wpAny_pure ?_)))))))
  refine wpAny_bind (HT.slicePart_ ps ?_)
  show wpAny _ _ (if ((-1 : Int) == 0) = true then _ else _) _ _ s
  rw [if_neg (by decide)]
  refine wpAny_bind (HT.slicePart_ .none (wpAny_bind (HT.slicePart_ pu (wpAny_bind (wpAny_pure ?_)))))
  show wpAny _ _ (match Builtin.Slice.sliceAdjust none (hiZ z) (-1) (n : Int) with | (lo, hi) => pure (lo, (-1 : Int), Builtin.Slice.slicePlaces lo hi (-1))) _ _ s
  rw [adjust_back z n]
  show wpAny _ _ (pure (_, (-1 : Int), Builtin.Slice.slicePlaces _ _ (-1))) _ _ s
  rw [places_back]
  exact wpAny_pure h
theorem getItem_tuple_back {t sl : Addr} {is : List Value} {vu vs : Value} {z : Bool} {Q : Value → Shared → Prop} (ht : IsTup s.heap t is.toArray) (hs : s.heap.IsSliceOf sl .none vu vs) (pu : IsPart vu (hiZ z)) (ps : IsPart vs (some (-1)))
    (h : Q (.ref s.heap.objs.size) { s with heap := s.heap.push { cls := .type "tuple", data := .seq (cutR is z).toArray } }) (hsz : is.length ≤ sizeLine) : wpAny (model prog w) A (getItem (.ref t) (.ref sl)) Q E s := by
  have fits : sizeOk (.seq (cutR is z).toArray) := by
    show (cutR is z).toArray.size ≤ sizeLine
    rw [List.size_toArray]
    unfold cutR
    split <;> simp <;> omega
  obtain ⟨os, hos, hcs, hds⟩ := id hs
  have hTs : s.TypeIs (.ref sl) "slice" := ⟨os, hos, hcs⟩
  unfold getItem
  try with_reducible refine wpAny_holding ?_
  first | refine wpAny_bind (wpAny_pure ?_) | skip
  refine wpAny_bind (wpAny_sequenceKey ht.typeIs (by decide) ?_)
  refine wpAny_bind (wpAny_callSpecial?_slot (name := Str.ofString "__getitem__") ht.typeIs PyProof.Rows.slot_tuple_getitem
    (wpAny_call_entry PyProof.Rows.slot_tuple_getitem ht.typeIs entry_tuple_getitem ?_ (args_tuple_getitem _ _)))
  show wpAny _ _ (Builtin.Tuple.tupleItemsOf (.ref t) >>= _) _ _ s
  refine wpAny_bind (tupleItemsOf_ ht ?_)
  refine wpAny_bind (wpAny_typeOf hTs ?_)
  rw [if_pos (by decide)]
  refine wpAny_bind (applied_back (n := is.toArray.size) hs pu ps ?_)
  have no : ¬ ((((is.toArray.size : Int) - 1) == 0 && (-1 : Int) == 1 && (if z then is.toArray.size - 1 else is.toArray.size) == is.toArray.size) = true) := by
    intro q
    rw [Bool.and_eq_true, Bool.and_eq_true] at q
    exact absurd q.1.2 (by decide)
  show wpAny _ _ (if ((((is.toArray.size : Int) - 1) == 0 && (-1 : Int) == 1 && (if z then is.toArray.size - 1 else is.toArray.size) == is.toArray.size) = true) then _ else _) _ _ s
  rw [if_neg no]
  have e : ((List.range (if z then is.toArray.size - 1 else is.toArray.size)).filterMap fun (k : Nat) => is.toArray[(((is.toArray.size : Int) - 1) + (k : Int) * (-1)).toNat]?) = cutR is z := by
    rw [List.size_toArray]; exact pick_back is z
  rw [e]
  first
    | exact wpAny_bind (m := Builtin.Tuple.tupleExact _) (wpAny_newObj_type (wpAny_pure ⟨_, rfl, wpAny_pure h⟩) fits)
    | exact wpAny_bind (m := Builtin.Tuple.tupleExact _) (wpAny_newObj_type (wpAny_bind (wpAny_pure (wpAny_pure ⟨_, rfl, wpAny_pure h⟩))) fits)
    | exact wpAny_bind (wpAny_bind (m := Builtin.Tuple.tupleExact _) (wpAny_newObj_type (wpAny_pure (wpAny_pure ⟨_, rfl, wpAny_pure h⟩)) fits))
    | exact wpAny_bind (wpAny_bind (m := Builtin.Tuple.tupleExact _) (wpAny_newObj_type (wpAny_pure ⟨_, rfl, wpAny_pure h⟩) fits))
end
theorem pick_list (items : List Value) (z : Bool) : slicePick items.toArray none (hiZ z) (some (-1)) = (cutR items z).toArray := by
  cases z with
  | false =>
    show slicePick items.toArray none none (some (-1)) = _
    rw [PySem.W.krv_pick]; rfl
  | true =>
    have hb : sliceBounds none (hiZ true) (some (-1)) items.length = ((items.length : Int) - 1, (if items.length = 0 then -1 else 0), -1) := by
      unfold sliceBounds hiZ
      by_cases hn : items.length = 0
      · rw [hn]; decide
      · simp [hn]; omega
    have hr : sliceRange ((items.length : Int) - 1) (if items.length = 0 then -1 else 0) (-1) = (List.range (items.length - 1)).map fun (k : Nat) => (((items.length : Int) - 1) + (k : Int) * (-1)).toNat := by
      unfold sliceRange
      rw [if_neg (by omega)]
      dsimp only
      have e : ((if ((items.length : Int) - 1) > (if items.length = 0 then -1 else 0) then (((items.length : Int) - 1) - (if items.length = 0 then -1 else 0) - (-1) - 1) / (-(-1)) else 0)).toNat = items.length - 1 := by
        rw [show (-(-1) : Int) = 1 by omega, Int.ediv_one]
        by_cases hn : items.length = 0
        · simp [hn]
        · simp only [hn, if_false]; split <;> omega
      rw [e]
      refine List.map_congr_left fun k _ => ?_
      congr 1; omega
    unfold slicePick
    rw [List.size_toArray, hb]
    show ((sliceRange ((items.length : Int) - 1) (if items.length = 0 then -1 else 0) (-1)).filterMap (items.toArray[·]?)).toArray = _
    rw [hr, List.filterMap_map]
    have := pick_back items true
    simp only [if_true] at this
    rw [← this]; rfl
theorem vals_tail {xs : List V} {us : List Value} (r : Vals xs us) : Vals xs.tail us.tail := by
  cases r with
  | nil => exact .nil
  | cons _ r => exact r
theorem vals_cutR {xs : List V} {us : List Value} (r : Vals xs us) (z : Bool) : Vals (cutR xs z) (cutR us z) := by
  cases z with
  | false => exact r.reverse
  | true => exact (vals_tail r).reverse
theorem Reps.tail' {T : Tab} {K : PySem.W.Frag} {a : Abs} {l : List D} {vs : List V} (r : Reps T K a l vs) : Reps T K a l.tail vs.tail := by
  cases l with
  | nil => rw [r.inv0]; exact Reps.nil
  | cons d l => obtain ⟨v, ws, rfl, _, r2⟩ := r.inv; exact r2
theorem reps_cutR {T : Tab} {K : PySem.W.Frag} {a : Abs} {l : List D} {vs : List V} (r : Reps T K a l vs) (z : Bool) : Reps T K a (cutR l z) (cutR vs z) := by
  cases z with
  | false => exact r.reverse
  | true => exact (Reps.tail' r).reverse
theorem cutR_length {α : Type} (l : List α) (z : Bool) : (cutR l z).length ≤ l.length := by
  unfold cutR; split <;> simp
section
variable {T : Tab} {n : Nat} {X : Cx} {W : WX} {pos : Pos}
/-- e[::-1], e[:0:-1] -/
theorem sf_rev {e : Expr} {y : E} {z : Bool} {k : Nat} {hi : Option Expr} {p1 p2 p3 : Pos} (he : SE T n X W e y) (hh : PO X hi (fun σ H Q => Q (hiZ z) H)) : SF T n X W (.Subscript e (.Slice none hi (some (.UnaryOp .USub (.Constant (.int 1) k p1) p2)) p3) pos) (.rev y z) := by
  refine ⟨fun pins s σ H Q I q => ?_⟩
  obtain ⟨a, ρ, μ, ho, q⟩ := q
  simp only [evE] at q
  refine Subscript_ (thn (he.run pins s σ H (fun x H1 => ∃ b d μ1, Stp a H b H1 ∧ Hol T X.K b ρ μ1 σ H1 ∧ Rep T X.K b d x ∧ ∃ w, revV μ1 d z = some w ∧ ∀ b v H', Stp a H b H' → Hol T X.K b ρ μ1 σ H' → Fresh T X.K H b H' w v → Q v H') I
    ⟨a, ρ, μ, ho, q.bind.mono (fun d μ1 q1 b v H1 st ho1 r => let ⟨w, e1, k⟩ := q1.of; ⟨b, d, μ1, st, ho1, r, w, e1, k⟩) fun _ _ k => k⟩) fun v s1 ⟨x, H1, I1, rx, b, d, μ1, st, ho1, rd1, w, e1, k1⟩ => ?_)
  have hst : PO X (some (.UnaryOp .USub (.Constant (.int 1) k p1) p2)) (tPart (tUn (rU fun i => .int (-i)) (tC (.int 1)))) := po_some (pe_un un_neg pe_int)
  refine wpAny_Slice (thn (po_none.run pins s1 σ H1 (fun o H2 => o = none ∧ H2 = H1) I1 ⟨rfl, rfl⟩) fun vl s2 ⟨l, H2, I2, pl, el, e2⟩ => ?_)
  subst el e2
  refine thn (hh.run pins s2 σ H2 (fun o H3 => o = hiZ z ∧ H3 = H2) I2 ⟨rfl, rfl⟩) fun vu s3 ⟨u, H3, I3, pu, eu, e3⟩ => ?_
  subst eu e3
  refine thn (hst.run pins s3 σ H3 (fun o H4 => o = some (-1) ∧ H4 = H3) I3 ⟨1, rfl, -1, rfl, rfl, rfl⟩) fun vs s4 ⟨o, H4, I4, ps, eo, e4⟩ => ?_
  subst eo e4
  have I5 : L2.Inv X pins σ H4 { s4 with heap := s4.heap.push { cls := .type "slice", data := .fields #[vl, vu, vs] } } := I4.kept (t' := s4.toks) fun b ob q => Heap.get?_push_of_some _ q
  have rv := rd_rep ho1.m rd1
  cases pl
  unfold revV at e1
  split at e1
  · rename_i l eq
    cases e1
    rw [eq] at rv
    obtain ⟨p, ws, rfl, sq, t⟩ := rv
    cases rx
    obtain ⟨its, r, ht, hz⟩ := I5.tuple sq
    have hlen := r.length
    show wpAny (model X.prog X.w) X.A (subscriptTail e (.Slice none hi (some (.UnaryOp .USub (.Constant (.int 1) k p1) p2)) p3) (.ref p) (.ref s4.heap.objs.size)) (EP X pins σ Q) X.xe { s4 with heap := s4.heap.push { cls := .type "slice", data := .fields #[.none, vu, vs] } }
    refine tail_any (ops := [.ref p, .ref s4.heap.objs.size]) ht.typeIs (PyProof.Rows.slot_tuple_getitem.lookup) ?_ (by with_unfolding_all rfl)
    refine getItem_tuple_back (z := z) ht (Heap.IsSliceOf.new _ _ vu vs) pu ps ?_ (by omega)
    refine newT_at I5 (vals_cutR r z) (Nat.le_trans (cutR_length _ _) hz) fun q o to hq => ?_
    obtain ⟨b', le, m2, r2⟩ := fresh_tup to ho1.m hq (reps_cutR t z)
    exact k1 b' _ _ (st.trans le) (ho1.to le.le m2) r2
  · rename_i l eq
    cases e1
    rw [eq] at rv
    obtain ⟨p, ws, rfl, sq, t⟩ := rv
    cases rx
    obtain ⟨its, r, ht, hz⟩ := I5.list (SqL.of sq)
    have hlen := r.length
    show wpAny (model X.prog X.w) X.A (subscriptTail e (.Slice none hi (some (.UnaryOp .USub (.Constant (.int 1) k p1) p2)) p3) (.ref p) (.ref s4.heap.objs.size)) (EP X pins σ Q) X.xe { s4 with heap := s4.heap.push { cls := .type "slice", data := .fields #[.none, vu, vs] } }
    refine tail_any (ops := [.ref p, .ref s4.heap.objs.size]) ht.isList.typeIs (PySem.slot_list_getitem.lookup) ?_ (by with_unfolding_all rfl)
    refine wpAny_getItem_list_slice ht.isList (Heap.IsSliceOf.new _ _ vu vs) .none pu ps (by decide) ?_ (by rw [List.size_toArray]; omega)
    rw [pick_list]
    have hq := I5.hok.fresh (Nat.le_refl _)
    obtain ⟨st2, m2, fr⟩ := fresh_lst ho1.m hq (reps_cutR t z)
    refine ⟨.ref _, _, I5.laid (t' := s4.toks) (o := .lst (cutR ws z)) (fun b ob q => Heap.get?_push_of_some _ q) (Nat.le_refl _) ?_, rfl, k1 b _ _ (st.trans st2) (ho1.to st2.le m2) (fr.pre st.dom)⟩
    exact ⟨Nat.le_trans (cutR_length _ _) hz, _, 0, vals_cutR r z, Heap.get?_push_size _ rfl⟩
  · cases e1
theorem ph_none : PO X none (fun σ H Q => Q (hiZ false) H) := po_none
end
end DI
end

section
set_option Elab.async false
set_option linter.all false
set_option autoImplicit false
set_option maxRecDepth 100000
namespace DI
open PySem PySem.W PySem.Calls PyProof.Rows PySem.SeqAt
section
variable {A : Around} {s : Shared}
variable {prog : Program} {w : World} {E : Value → Shared → Prop}
end
end DI
end

section
set_option Elab.async false
set_option linter.all false
set_option maxRecDepth 100000
namespace DI
open PySem PySem.Calls PySem.W PyProof.Rows
section
variable {pg : Program} {wd : World} {B : Around} {Ex : Value → Shared → Prop} {t : Shared} {p : Addr} {ob : Obj} {us : List Value} {c : Nat}
variable {β : Type} {bs : List β} {enc : β → PyData} {R : Value → β → Prop}
end
end DI
end

section
set_option Elab.async false
set_option linter.all false
set_option maxRecDepth 100000
namespace DI
open PySem L2 PySem.Spec PyProof.Rows
section
variable {T : Tab} {n : Nat} {X : Cx} {W : WX} {pos : Pos}
end
section
variable {prog : Program} {w : World} {A : Around} {E : Value → Shared → Prop} {s : Shared}
set_option maxHeartbeats 3200000 in
end
section
variable {T : Tab} {n : Nat} {X : Cx} {W : WX} {pos : Pos}
end
end DI
end

section
set_option Elab.async false
set_option linter.all false
set_option maxRecDepth 100000
namespace DI
open PySem L2 PySem.Spec PyProof.Rows
section
variable {T : Tab} {n : Nat} {X : Cx} {W : WX} {pos : Pos}
end
end DI
namespace DI
open PySem L2 PySem.Spec PyProof.Rows
section
variable {T : Tab} {n : Nat} {X : Cx} {W : WX} {pos : Pos}
end
end DI
end

section
set_option Elab.async false
set_option linter.all false
set_option maxRecDepth 100000
namespace DI
namespace Z
open PySem
section
variable {P : Program} {w : World} {A : Around} {E : Value → Shared → Prop} {s : Shared}
variable {z TI TO i1 i2 l1 l2 : Addr} {xs ys : Array Value} {I1 I2 : Nat → Heap → Prop}
end
open PySem.Spec PyProof.Rows L2

end Z
end DI
end

section
set_option Elab.async false
set_option linter.all false
set_option maxRecDepth 100000
namespace DI
open PySem L2 PySem.Spec PyProof.Rows
section
variable {T : Tab} {n : Nat} {X : Cx} {W : WX} {pos : Pos}
end
end DI
end

section
set_option Elab.async false
set_option linter.all false
set_option maxRecDepth 100000
namespace DI
open PySem L2 PySem.Spec PyProof.Rows
/-- where a parameter's value comes from -/
inductive Sr where
  | p (i : Nat) | k (i : Nat) | d (i : Nat)
def pk {α : Type} (us its ws : List α) : Sr → Option α
  | .p i => us[i]?
  | .k i => ws[i]?
  | .d i => its[i]?
def gS {α : Type} (ss : List Sr) (us its ws : List α) : List α := ss.filterMap (pk us its ws)
/-- the i-th parameter of np, with nd defaults, m values, keywords for ix -/
def srOf (np nd m : Nat) (ix : List Nat) (i : Nat) : Sr := if i < m then .p i else match ix.findIdx? (fun j => j == i) with
  | some j => .k j
  | none => .d (i + nd - np)
def srs (np nd m : Nat) (ix : List Nat) : List Sr := (List.range np).map (srOf np nd m ix)
theorem vals_get {vs : List V} {us : List Value} (r : Vals vs us) : ∀ i : Nat, (vs[i]? = none ∧ us[i]? = none) ∨ ∃ v u, vs[i]? = some v ∧ us[i]? = some u ∧ RelV v u := by
  induction r with
  | nil => intro i; exact .inl ⟨by simp, by simp⟩
  | cons h r ih =>
    intro i
    cases i with
    | zero => exact .inr ⟨_, _, by simp, by simp, h⟩
    | succ i => simpa using ih i
theorem vals_gS {vs ds zs : List V} {us its ws : List Value} (r1 : Vals vs us) (r2 : Vals ds its) (r3 : Vals zs ws) : ∀ ss : List Sr, Vals (gS ss vs ds zs) (gS ss us its ws)
  | [] => .nil
  | s :: ss => by
    have ih := vals_gS r1 r2 r3 ss
    have one : (pk vs ds zs s = none ∧ pk us its ws s = none) ∨ ∃ v u, pk vs ds zs s = some v ∧ pk us its ws s = some u ∧ RelV v u := by
      cases s with
      | p i => exact vals_get r1 i
      | k i => exact vals_get r3 i
      | d i => exact vals_get r2 i
    unfold gS at ih ⊢
    rcases one with ⟨e1, e2⟩ | ⟨v, u, e1, e2, r⟩
    · rw [List.filterMap_cons_none e1, List.filterMap_cons_none e2]; exact ih
    · rw [List.filterMap_cons_some e1, List.filterMap_cons_some e2]; exact .cons r ih
theorem zip_lookup {α : Type} : ∀ (ps : List Nat) (kv : List α) (i : Nat), (ps.zip kv).lookup i = (match ps.findIdx? (fun j => j == i) with | some j => kv[j]? | none => none)
  | [], kv, i => by simp
  | p :: ps, [], i => by
    simp only [List.zip_nil_right, List.lookup_nil, List.getElem?_nil]
    split <;> rfl
  | p :: ps, z :: kv, i => by
    simp only [List.zip_cons_cons, List.lookup_cons, List.findIdx?_cons]
    by_cases h : p = i
    · subst h; simp
    · have h1 : (i == p) = false := by simpa using fun e => h e.symm
      have h2 : (p == i) = false := by simpa using h
      rw [h1, h2, zip_lookup ps kv i]
      simp only [Bool.false_eq_true, if_false]
      cases e : ps.findIdx? (fun j => j == i) with
      | none => simp
      | some j => simp
section
variable {T : Tab} {K : PySem.W.Frag} {a : Abs}
theorem reps_map {np nd m : Nat} {ix : List Nat} {dflt args kv : List D} {vs zs dvs : List V} (ra : Reps T K a args vs) (rk : Reps T K a kv zs) (rd : Reps T K a dflt dvs) (hm : args.length = m) (hnd : dflt.length = nd) (hk : ix.length = kv.length) :
    ∀ {l : List Nat} {ds : List D}, (l.mapM fun i => match args[i]? with
      | some d => some d
      | none => match (ix.zip kv).lookup i with
        | some d => some d
        | none => if np ≤ i + dflt.length then dflt[i + dflt.length - np]? else none) = some ds → Reps T K a ds (gS (l.map (srOf np nd m ix)) vs dvs zs)
  | [], ds, h => by
    simp only [List.mapM_nil, Option.pure_def, Option.some.injEq] at h
    subst h; exact Reps.nil
  | i :: l, ds, h => by
    rw [List.mapM_cons] at h
    obtain ⟨d, e1, h⟩ := Option.bind_eq_some_iff.mp h
    obtain ⟨ds', e2, h⟩ := Option.bind_eq_some_iff.mp h
    simp only [Option.pure_def, Option.some.injEq] at h
    subst h
    have ih := reps_map ra rk rd hm hnd hk e2
    have one : ∃ v, pk vs dvs zs (srOf np nd m ix i) = some v ∧ Rep T K a d v := by
      unfold srOf
      by_cases hi : i < m
      · rw [if_pos hi]
        cases e : args[i]? with
        | none => rw [List.getElem?_eq_none_iff] at e; omega
        | some d' =>
          rw [e] at e1; cases e1
          obtain ⟨v, e3, r⟩ := ra.get e
          exact ⟨v, e3, r⟩
      · rw [if_neg hi]
        have e : args[i]? = none := List.getElem?_eq_none (by omega)
        rw [e] at e1
        simp only [zip_lookup] at e1
        cases ej : ix.findIdx? (fun j => j == i) with
        | some j =>
          simp only [ej] at e1 ⊢
          have hj : j < kv.length := by
            rw [← hk]
            exact (List.findIdx?_eq_some_iff_findIdx_eq.mp ej).1
          have e4 : kv[j]? = some kv[j] := by simp [hj]
          rw [e4] at e1; cases e1
          obtain ⟨v, e3, r⟩ := rk.get e4
          exact ⟨v, e3, r⟩
        | none =>
          simp only [ej] at e1 ⊢
          split at e1
          · rename_i hle
            rw [hnd] at e1
            obtain ⟨v, e3, r⟩ := rd.get e1
            exact ⟨v, e3, r⟩
          · cases e1
    obtain ⟨v, e3, r⟩ := one
    unfold gS at ih ⊢
    rw [List.map_cons, List.filterMap_cons_some e3]
    exact Reps.cons r ih
end
/-- the values of the defaults -/
def DfOk (T : Tab) (K : PySem.W.Frag) (dflt : List D) (dvs : List V) : Prop := ∀ a : Abs, Reps T K a dflt dvs
section
variable {T : Tab} {K : PySem.W.Frag} {x qual : Str} {params : Arguments} {body : List Stmt} {scope : Scope} {dvs : List V} {f : Addr} {fd : FuncData} {ps ks : List Str} {F : Fn} {m : Nat} {ix : List Nat}
theorem bind_d (Fd : FunD K x qual params body scope dvs [] f fd) (hd : dvs ≠ []) (df : DfOk T K F.dflt dvs) (hk : ix.length = ks.length)
    (h : ∀ (T : Addr) (kV doc pm : Value) (an : Option Addr) (cdv ct : Value) (us its ws : List Value), us.length = m → its.length = dvs.length → ws.length = ks.length →
      ∃ k, bindArgs (PySem.W.fnOf x qual params body scope (.ref T) kV doc pm an cdv ct) ⟨us, ks.zip ws⟩ = seqItems? (.ref T) >>= k ∧ k (some its.toArray) = pure (ps.zip (gS (srs F.np F.dflt.length m ix) us its ws))) : BindOk T K fd ps F m ix ks := by
  obtain ⟨its, kb⟩ := Fd.kbindsD (ps := ps) m ks (fun us its ws => gS (srs F.np F.dflt.length m ix) us its ws) hd (fun r1 r2 r3 => vals_gS r1 r2 r3 _) h
  exact ⟨_, _, kb, fun a args vs kv zs ds ra rk l1 l2 e => reps_map ra rk (df a) l1 rfl (by rw [hk, l2]) e⟩
theorem bind_n (Fd : FunD K x qual params body scope [] [] f fd) (hd : F.dflt = []) (hk : ix.length = ks.length)
    (h : ∀ (kV doc pm : Value) (an : Option Addr) (cdv ct : Value) (us ws : List Value), us.length = m → ws.length = ks.length →
      bindArgs (PySem.W.fnOf x qual params body scope .none kV doc pm an cdv ct) ⟨us, ks.zip ws⟩ = pure (ps.zip (gS (srs F.np 0 m ix) us [] ws))) : BindOk T K fd ps F m ix ks := by
  obtain ⟨oc, od, dV, kV, doc, pm, an, cdv, ct, osl, rfl, lk, hcd, hD, hK⟩ := Fd.ex
  rcases hD with ⟨_, rfl⟩ | ⟨e, _⟩
  · refine ⟨fun us ws => gS (srs F.np 0 m ix) us [] ws, fun vs zs => gS (srs F.np 0 m ix) vs [] zs, ⟨fun s us ws X l1 l2 => .of_eq (h kV doc pm an cdv ct us ws l1 l2), fun r1 r2 => vals_gS r1 .nil r2 _⟩, fun a args vs kv zs ds ra rk l1 l2 e => ?_⟩
    refine reps_map (nd := 0) (dflt := []) (dvs := []) ra rk Reps.nil l1 rfl (by rw [hk, l2]) ?_
    rw [← hd]; exact e
  · exact absurd rfl e
end
end DI
end

section
set_option Elab.async false
set_option linter.all false
set_option maxRecDepth 100000
namespace DI
open PySem L2 PySem.Spec PyProof.Rows
/-- what is known of a built-in base class -/
structure BaseX (B newId initId : String) (bmB : List Value) : Prop where
  F : ExcBaseFacts B newId initId bmB
  S : StoreFacts B bmB "object.__setattr__" "object"
  K : PySem.W.KxsFacts B initId
theorem baseVE : BaseX "ValueError" "ValueError.__new__" "ValueError.__init__" [.type "ValueError", .type "Exception", .type "BaseException", .type "object"] := ⟨PySem.F.excBase_ValueError, PySem.F.store_ValueError, PySem.W.kxs_ValueError⟩
theorem baseLE : BaseX "LookupError" "LookupError.__new__" "LookupError.__init__" [.type "LookupError", .type "Exception", .type "BaseException", .type "object"] := ⟨PySem.F.excBase_LookupError, PySem.F.store_LookupError, PySem.W.kxs_LookupError⟩
theorem baseAE : BaseX "ArithmeticError" "ArithmeticError.__new__" "ArithmeticError.__init__" [.type "ArithmeticError", .type "Exception", .type "BaseException", .type "object"] := ⟨PySem.F.excBase_ArithmeticError, PySem.F.store_ArithmeticError, PySem.W.kxs_ArithmeticError⟩
def xiA (ps : List (Str × Pos)) : Arguments := { posonlyargs := [], args := ps.map fun q => { arg := q.1, annotation := none, pos := q.2 }, vararg := none, kwonlyargs := [], kw_defaults := [], kwarg := none, defaults := [] }
def xiSup (p0 p1 p2 p3 p4 : Pos) : Stmt := .Expr (.Call (.Attribute (.Call (.Name "super" p0) [] [] p1) "__init__" p2) [] [] p3) p4
def xiSet (f : Str) (p0 p1 p2 p3 : Pos) : Stmt := .Assign [.Attribute (.Name "self" p0) f p1] (.Name f p2) p3
def xiS (fs : List Str) : Scope := { kind := .function, names := (PySem.Str.ofString "self", .local) :: (fs.map (fun f => (f, NameKind.local)) ++ [(PySem.Str.ofString "__class__", .free), (PySem.Str.ofString "super", .globalImplicit)]), isGenerator := false, isCoroutine := false, more := [] }
section
open PySem.W PySem.Calls
variable {prog : Program} {w : World} {A : Around} {E : Value → Shared → Prop} {s : Shared} {K : Frag} {mg mb : Str → Option Value} {m : Str → Option Value}
variable {C fI cda cc L x t0 : Addr} {qual name : Str} {scope : Scope} {params : Arguments} {body : List Stmt} {dV kV doc pm ct oc ccl cl : Value} {an od cdd cld : Option Addr} {osl ccs csl : Array (Option Value)} {vs : Array Value} {file : Str} {tf : Tok}
variable {B newId initId : String} {bmB : List Value}
theorem kept_x {h h' : Heap} (X : K.In h) (hx : K.lookup x = none) (k : ∀ b o, b ≠ x → h.get? b = some o → h'.get? b = some o) : K.In h' := fun a o e => k a o (fun z => by rw [z, hx] at e; cases e) (X a o e)
/-- super() -/
theorem xi_base {ar : Arg} {attr : Str} {whole : Sem Value} {p0 p1 : Pos} {Q : Value → Shared → Prop} {cdD : ClassData} (X : K.In s.heap) (hns : s.heap.Ns L m) (hg : s.heap.Ns mainGlobals mg) (hb : s.heap.Ns builtinsNs mb) (hbb : ∀ y : Str, y ≠ "__name__" → mb y = bootBuiltins y)
    (hf : K.lookup fI = some ⟨oc, od, .func (ksFn name qual params body scope dV kV doc pm an (.ref cda) ct cc), osl⟩) (hp : (params.posonlyargs ++ params.args).head? = some ar) (hv : m ar.arg = some (.ref x)) (hx : s.heap.get? x = some (excObj C t0 none .none))
    (hcode : K.lookup cda = some ⟨ccl, cdd, .fields vs, ccs⟩) (hvs : vs[2]? = some (.str file tf)) (hfile : ((prog.main.file : Str) == file) = true) (hcell : K.lookup cc = some ⟨cl, cld, .cell (some (.ref C)), csl⟩) (hD : clsIn K C = some cdD) (hsub : mroIn K C (.ref C) = some true)
    (hsuper : nsIn K mainGlobals "super" = some none) (hat : (attr == ("__class__" : Str)) = false) (hks : scope.names.lookup ("super" : Str) = some .globalImplicit) (hkc : scope.names.lookup ("__class__" : Str) = some .free) (hka : scope.names.lookup ar.arg = some .local) (hk : scope.kind = .function)
    (htop : (prog.main.scope.names.lookup ("super" : Str)).isSome = false) (hm0 : mg "super" = none)
    (h : ∀ h', h'.get? s.heap.objs.size = some (ks_superObj C x C) → (∀ y o, s.heap.get? y = some o → h'.get? y = some o) → Q (.ref s.heap.objs.size) { s with heap := h' }) :
    _root_.PySem.wpAt (model prog w) A (.func body (ksEnv qual scope L fI (.ref cda) cc)) (attributeBase (.Call (.Name "super" p0) [] [] p1) attr (ksEnv qual scope L fI (.ref cda) cc) whole) Q E s := by
  obtain ⟨hh, g, d, t, os⟩ := s
  obtain ⟨oD, hD1, hD2⟩ : ∃ oD, hh.get? C = some oD ∧ oD.data = .cls cdD := by
    unfold clsIn at hD
    split at hD
    · rename_i c d cd' sl ho
      cases hD
      exact ⟨_, X _ _ ho, rfl⟩
    · cases hD
  refine ks_wpAt_super_base (env := ksEnv qual scope L fI (.ref cda) cc) hks hkc hat rfl (X _ _ hf) rfl hp rfl (X _ _ hcode) rfl hvs hfile htop ?_
  refine ks_loadName_global hk hks (loadGlobal_builtin (env := ksEnv qual scope L fI (.ref cda) cc) hg hm0 hb ((hbb _ (by decide +kernel)).trans (by first | rfl | kernel_rfl)) ⟨rfl, ?_⟩)
  refine wpAny_loadName_free hk hkc rfl ⟨_, X _ _ hcell, rfl⟩ ?_
  refine wpAny_loadName_local hk hka hns hv ?_
  refine ks_wpAny_isType_cls hD1 hD2 ⟨rfl, ?_⟩
  refine ks_wpAny_call_super hD1 hD2 hx rfl (fun c e => by cases e) (looks_mroIn X hsub) (fun h' e k => ?_)
  exact h h' e k
/-- how the call of super().__init__ is read -/
def SupOk (qual : Str) (scope : Scope) (p0 p1 p2 p3 : Pos) : Prop := ∀ (L f : Addr) (cd : Value) (cc : Addr), ∃ pl : Sem Bool,
  eval (.Call (.Attribute (.Call (.Name "super" p0) [] [] p1) "__init__" p2) [] [] p3) (ksEnv qual scope L f cd cc) = (do
      let ov ← attributeBase (.Call (.Name "super" p0) [] [] p1) "__init__" (ksEnv qual scope L f cd cc) (eval (.Call (.Name "super" p0) [] [] p1) (ksEnv qual scope L f cd cc))
      standAt p2.atName
      let (f', first) ← holding [ov] (getMethod ov "__init__" pl)
      callWith p3 f' first (backTo p3 (starEach [] (ksEnv qual scope L f cd cc))) [])
/-- super().__init__() -/
theorem xi_super {ar : Arg} {p0 p1 p2 p3 p4 : Pos} {Q : Flow → Shared → Prop} {cdD : ClassData} (SO : SupOk qual scope p0 p1 p2 p3) (BX : BaseX B newId initId bmB) (X : K.In s.heap) (nx : K.lookup x = none) (hns : s.heap.Ns L m) (hg : s.heap.Ns mainGlobals mg) (hb : s.heap.Ns builtinsNs mb) (hbb : ∀ y : Str, y ≠ "__name__" → mb y = bootBuiltins y)
    (hf : K.lookup fI = some ⟨oc, od, .func (ksFn name qual params body scope dV kV doc pm an (.ref cda) ct cc), osl⟩) (hp : (params.posonlyargs ++ params.args).head? = some ar) (hv : m ar.arg = some (.ref x)) (hx : s.heap.get? x = some (excObj C t0 none .none))
    (hcode : K.lookup cda = some ⟨ccl, cdd, .fields vs, ccs⟩) (hvs : vs[2]? = some (.str file tf)) (hfile : ((prog.main.file : Str) == file) = true) (hcell : K.lookup cc = some ⟨cl, cld, .cell (some (.ref C)), csl⟩) (hD : clsIn K C = some cdD) (hsub : mroIn K C (.ref C) = some true)
    (hsuper : nsIn K mainGlobals "super" = some none) (hks : scope.names.lookup ("super" : Str) = some .globalImplicit) (hkc : scope.names.lookup ("__class__" : Str) = some .free) (hka : scope.names.lookup ar.arg = some .local) (hk : scope.kind = .function)
    (htop : (prog.main.scope.names.lookup ("super" : Str)).isSome = false) (hm0 : mg "super" = none) (ho : nsIn K cStatics "thirdparty.any" = some none) (hs : ks_superIn K C C "__init__" = some (some (.builtin initId))) (hB : subIn K (.ref C) (.type B) = some true) (q : excInitIn K C bmB newId = true)
    (h : ∀ h' t1 tk, (∀ b o, b ≠ x → s.heap.get? b = some o → h'.get? b = some o) → h'.get? x = some (excObj C t1 none .none) → Q .next { s with heap := h', toks := tk }) :
    _root_.PySem.wpAt (model prog w) A (.func body (ksEnv qual scope L fI (.ref cda) cc)) (exec (xiSup p0 p1 p2 p3 p4) (ksEnv qual scope L fI (.ref cda) cc)) Q E s := by
  refine ks_wpAt_Expr_any ?_ (hi := by unfold interactive; simp [hk])
  obtain ⟨pl, he⟩ := SO L fI (.ref cda) cc
  refine ks_wpAt_MethodCall (pl := pl) ?_ he
  refine xi_base X hns hg hb hbb hf hp hv hx hcode hvs hfile hcell hD hsub hsuper (by decide) hks hkc hka hk htop hm0 fun h1 e1 k1 => ?_
  have hx1 := k1 _ _ hx
  have X1 : K.In h1 := X.keeps k1
  have I1 : InstAt h1 x (excObj C t0 none .none) C none := ⟨hx1, rfl, rfl, trivial⟩
  have hI : Looks (model prog w) h1 (isInstance (.ref x) (.type B)) true := I1.type.andThen (looks_subIn X1 hB)
  have hs1 : alongIn K "__init__" ((cdD.mro.dropWhile (· != .ref C)).drop 1) = some (some (.builtin initId)) := by
    unfold ks_superIn at hs
    rw [hD] at hs
    exact hs
  refine kxs_getMethod (D := C) (l := (cdD.mro.dropWhile (· != .ref C)).drop 1) BX.K e1 (looks_opaque X1 ho) (l₀ := cdD.mro) (fun A Q E s k q => wpAny_bind ((looks_clsIn X1 hD) A _ E s k (wpAny_pure q))) rfl X1 hs1 hI (ks_ne X1 I1 hD) (by decide) ?_
  have e2 : (h1.push (kxs_mw initId x)).get? h1.objs.size = some (kxs_mw initId x) := Heap.get?_push_size _ rfl
  have hx2 : (h1.push (kxs_mw initId x)).get? x = some (excObj C t0 none .none) := Heap.get?_push_of_some _ hx1
  have X2 : K.In (h1.push (kxs_mw initId x)) := X1.keeps fun b o e => Heap.get?_push_of_some _ e
  refine kxs_callWith (i := initId) (x := x) rfl (evalArgs_empty ⟨e2, ?_⟩)
  obtain ⟨nm, N', qn, bs, bm, hdct, sn, sub, ab, col, dd, k0, k1', k2, k3, k5, hC, hT⟩ := excInit_of X2 q
  refine wpAny_call (codeAny_of_tree ?_)
  show wpAny _ A.in1 (callAny (.ref h1.objs.size) ⟨[], []⟩) _ _ _
  simp only [callAny]
  refine wpAny_bind (wpAny_load e2 ?_)
  simp only [kxs_mw, show (Value.type "method-wrapper" == Value.type "method" || Value.type "method-wrapper" == Value.type "builtin_function_or_method" || Value.type "method-wrapper" == Value.type "method-wrapper") = true by decide, if_true]
  refine KFB.if_so (by decide) ?_
  refine wpAny_bind (check_bound_init BX.F.toExcCallFacts hC hx2 rfl ?_)
  refine wpAny_bind (wpAny_pure (wpAny_pure ?_))
  refine ⟨plainId_quiet BX.F.init.plain _, codeAny_builtin BX.F.initEntry ?_⟩
  refine exc_init_tree (cls := .ref C) (t0 := t0) (dv := none) (c2 := .none) (c3 := .none) (b4 := .bool false) hx2 (by simp) fun h' k' e' t' => ?_
  exact h h' _ _ (fun b o hb e => k' b o hb (Heap.get?_push_of_some _ (k1 _ _ e))) e'
/-- the first store: the object's dict is made -/
theorem xi_set0 {t1 : Addr} {name : Str} {v : Value} {Q : Unit → Shared → Prop} (BX : BaseX B newId initId bmB) (X : K.In s.heap) (hx : s.heap.get? x = some (excObj C t1 none .none)) (hs : findIn K (.ref C) "__setattr__" = some (some (.builtin "object.__setattr__"))) (hp : excOver K C bmB = true) (ha : findIn K (.ref C) name = some none) (hh : hasDictIn K C = true)
    (h : ∀ h' tk dx, (∀ b o, b ≠ x → s.heap.get? b = some o → h'.get? b = some o) → s.heap.objs.size ≤ dx → dx ≠ x → h'.get? x = some (excObj C t1 (some dx) .none) → h'.Ns1 dx (fun y => if y = name then some v else none) → Q () { s with heap := h', toks := tk }) :
    wpAny (model prog w) A (setAttr (.ref x) name v) Q E s := by
  obtain ⟨hp0, g, d, t, os⟩ := s
  have ht : takerIn K C name = some none := by unfold takerIn; rw [ha]; rfl
  have hxs : x ≠ hp0.objs.size := Nat.ne_of_lt (Heap.lt_size hx)
  obtain ⟨cd, hc, hd'⟩ := any_some hh
  refine set_plain (od := none) X ⟨hx, rfl, rfl, trivial⟩ hs (osa_openX (od := none) (C := C) BX.S X ⟨hx, rfl, rfl, trivial⟩ hp ht fun b => ?_)
  refine wpAny_bind (wpAny_pure (wpAny_bind (instanceDict_exc hx (looks_clsIn X hc) hd' ?_)))
  refine HandSPX.store_in_new ?_ fun h' tk' hn' hs' => ?_
  · exact ⟨_, #[], _, (Heap.get?_update_ne _ _ _ _ hxs.symm).trans (Heap.get?_push_at rfl rfl), rfl, fun e he => absurd he (by simp), fun _ => rfl⟩
  · have hx₁ : (hp0.push { cls := .type "dict", data := .dict #[] }).get? x = some (excObj C t1 none .none) := Heap.get?_push_of_some _ hx
    refine h h' tk' hp0.objs.size (fun b o hb ho => ?_) (Nat.le_refl _) hxs.symm ?_ hn'
    · exact (hs'.2 b (Nat.ne_of_lt (Heap.lt_size ho))).trans ((Heap.get?_update_ne _ _ _ _ hb).trans (Heap.get?_push_of_some _ ho))
    · exact (hs'.2 x hxs).trans (Heap.get?_update_self _ hx₁ rfl)
end
/-- what the written part says of an exception class at C -/
structure XCls (K : PySem.W.Frag) (C : Addr) : Prop where
  base : ∃ B newId initId bmB, BaseX B newId initId bmB ∧ PySem.W.excInitIn K C bmB newId = true ∧ PySem.W.excOver K C bmB = true ∧ PySem.W.ks_superIn K C C "__init__" = some (some (.builtin initId)) ∧ PySem.W.subIn K (.ref C) (.type B) = some true
  sa : PySem.W.findIn K (.ref C) "__setattr__" = some (some (.builtin "object.__setattr__"))
  hd : PySem.W.hasDictIn K C = true
  sub : PySem.W.mroIn K C (.ref C) = some true
  kC : PySem.W.keepIn K (.ref C) = true
  exC : PySem.W.subIn K (.ref C) (.type "BaseException") = some true
  tyC : PySem.W.typeIn K (.ref C) = some (.type "type")
/-- .. and of its __init__ at fI, with the parameters fs -/
structure XIni (P : Program) (K : PySem.W.Frag) (C fI : Addr) (fs : List Str) : Prop where
  iC : PySem.W.findIn K (.ref C) "__init__" = some (some (.ref fI))
  fnI : PySem.W.isFn K (.ref fI) = true
  noN : ∀ f ∈ fs, PySem.W.findIn K (.ref C) f = some none
  op : PySem.W.nsIn K cStatics "thirdparty.any" = some none
  nsup : PySem.W.nsIn K mainGlobals "super" = some none
  htop : (P.main.scope.names.lookup ("super" : Str)).isSome = false
  sc : (xiS fs).names.lookup ("super" : Str) = some .globalImplicit ∧ (xiS fs).names.lookup ("__class__" : Str) = some .free ∧ (xiS fs).names.lookup ("self" : Str) = some .local ∧ (∀ f ∈ fs, (xiS fs).names.lookup f = some .local ∧ (f == ("__debug__" : Str)) = false ∧ f ≠ ("self" : Str)) ∧ fs.Nodup ∧ ∀ x ∈ (xiS fs).names, x.2 ≠ .cell
  fn : ∃ (qual : Str) (pps : List Pos) (sets : List (Pos × Pos × Pos × Pos)) (p0 p1 p2 p3 p4 : Pos) (doc pm ct oc ccl cl : Value) (an od cdd cld : Option Addr) (osl ccs csl : Array (Option Value)) (cda cc : Addr) (vs : Array Value) (file : Str) (tf : Tok),
    pps.length = fs.length + 1 ∧ sets.length = fs.length ∧
    K.lookup fI = some ⟨oc, od, .func (PySem.W.ksFn "__init__" qual (xiA ((("self" : Str) :: fs).zip pps)) (xiSup p0 p1 p2 p3 p4 :: (fs.zip sets).map fun q => xiSet q.1 q.2.1 q.2.2.1 q.2.2.2.1 q.2.2.2.2) (xiS fs) .none .none doc pm an (.ref cda) ct cc), osl⟩ ∧ PySem.W.codeIn K (.ref cda) qual = true ∧
    K.lookup cda = some ⟨ccl, cdd, .fields vs, ccs⟩ ∧ vs[2]? = some (.str file tf) ∧ ((P.main.file : Str) == file) = true ∧ K.lookup cc = some ⟨cl, cld, .cell (some (.ref C)), csl⟩ ∧ SupOk qual (xiS fs) p0 p1 p2 p3 ∧
    (∀ (oc : Value) (us : List Value), us.length = fs.length + 1 → bindArgs (PySem.W.ksFn "__init__" qual (xiA ((("self" : Str) :: fs).zip pps)) (xiSup p0 p1 p2 p3 p4 :: (fs.zip sets).map fun q => xiSet q.1 q.2.1 q.2.2.1 q.2.2.2.1 q.2.2.2.2) (xiS fs) .none .none doc pm an (.ref cda) ct cc) ⟨us, []⟩ = pure ((("self" : Str) :: fs).zip us)) ∧
    ∀ q ∈ fs.zip sets, ∀ (L f : Addr) (cd : Value) (cc : Addr), swapsWith (.Name q.1 q.2.2.2.1) (some (.Attribute (.Name "self" q.2.1) q.1 q.2.2.1)) q.2.2.2.2.line (PySem.W.ksEnv qual (xiS fs) L f cd cc) = pure false
section
open PySem.W PySem.Calls
variable {prog : Program} {w : World} {A : Around} {E : Value → Shared → Prop} {R : Result → Shared → Prop} {s : Shared} {K : Frag} {mg mb : Str → Option Value}
variable {C fI x t0 : Addr}
/-- the names, behind a write at x -/
theorem ns_keep {h h' : Heap} {L x : Addr} {m : Str → Option Value} (n : h.Ns L m) (ne : L ≠ x) (k : ∀ b o, b ≠ x → h.get? b = some o → h'.get? b = some o) : h'.Ns L m := by
  obtain ⟨o, es, ep, e, r⟩ := n
  exact ⟨o, es, ep, k _ _ ne e, r⟩
/-- self.f = f -/
theorem xi_assign {M : Model} {qual : Str} {scope : Scope} {L cc : Addr} {cd : Value} {m : Str → Option Value} {f : Str} {v : Value} {body : List Stmt} {q0 q1 q2 q3 : Pos} {A' : Around} {Q : Flow → Shared → Prop} (hns : s.heap.Ns L m) (hf : m f = some v) (hs : m "self" = some (.ref x)) (hk : scope.kind = .function) (hlf : scope.names.lookup f = some .local) (hls : scope.names.lookup ("self" : Str) = some .local) (hdf : (f == ("__debug__" : Str)) = false)
    (hsw : swapsWith (.Name f q2) (some (.Attribute (.Name "self" q0) f q1)) q3.line (ksEnv qual scope L fI cd cc) = pure false) (h : wpAny M A' (setAttr (.ref x) f v) (fun _ => Q .next) E s) :
    _root_.PySem.wpAt M A' (.func body (ksEnv qual scope L fI cd cc)) (exec (xiSet f q0 q1 q2 q3) (ksEnv qual scope L fI cd cc)) Q E s := by
  refine ks_wpAt_Assign_Attr (wpAt_of_wpAny (wpAny_Name (wpAny_loadName_local hk hlf hns hf (wpAny_Name (wpAny_loadName_local hk hls hns hs h) (by decide))) hdf)) hsw
/-- what __init__ leaves of a fresh exception at x -/
structure XEnd (h h' : Heap) (x C dx t1 : Addr) (m : Str → Option Value) : Prop where
  keep : ∀ b o, b ≠ x → h.get? b = some o → h'.get? b = some o
  obj : h'.get? x = some (excObj C t1 (some dx) .none)
  dbig : h.objs.size ≤ dx
  dne : dx ≠ x
  ns : h'.Ns1 dx m
theorem xi_init1 {f : Str} {v : Value} (C' : XCls K C) (T : XIni prog K C fI [f]) (X : K.In s.heap) (hlim : s.heap.NoLimit) (hg : s.heap.Ns mainGlobals mg) (hb : s.heap.Ns builtinsNs mb) (hbb : ∀ y : Str, y ≠ "__name__" → mb y = bootBuiltins y) (hm0 : mg "super" = none)
    (hx : s.heap.get? x = some (excObj C t0 none .none)) (nx : K.lookup x = none) (hroom : A.depth < recursionLimit)
    (hq : ∀ h' tk dx t1, XEnd s.heap h' x C dx t1 (fun y => if y = f then some v else none) → R (.ok (.ret .none)) { s with heap := h', toks := tk }) :
    codeAny (model prog w) A (.call (.ref fI) ⟨[.ref x, v], []⟩) R s := by
  obtain ⟨B, newId, initId, bmB, BX, q1, q2, q3, q4⟩ := C'.base
  obtain ⟨qual, pps, sets, p0, p1, p2, p3, p4, doc, pm, ct, oc, ccl, cl, an, od, cdd, cld, osl, ccs, csl, cda, cc, vs, file, tf, hl1, hl2, hfn, hcd, hcode, hvs, hfile, hcell, SO, hbind, hsw⟩ := T.fn
  obtain ⟨s1, s2, s3, s4, s5, s6⟩ := T.sc
  obtain ⟨f1, f2, f3⟩ := s4 f (by simp)
  match pps, hl1, sets, hl2, hfn, hbind, hsw with
  | [pa, pb], _, [(a0, a1, a2, a3)], _, hfn, hbind, hsw =>
    refine ks_codeAny_call_defAt hroom (X _ _ hfn) rfl hlim (codeRec_of X hcd) rfl (BindsTo.of_eq (hbind oc [.ref x, v] rfl)) s6 (fun y hy => ?_) (fun h₀ hns k => ?_) rfl rfl rfl
    · simp only [List.zip_cons_cons, List.zip_nil_right, List.mem_cons, List.not_mem_nil, or_false] at hy
      rcases hy with rfl | rfl
      · exact s3
      · exact f1
    have hx0 := k _ _ hx
    have hne : s.heap.objs.size ≠ x := Nat.ne_of_gt (Heap.lt_size hx)
    have X0 : K.In h₀ := X.keeps k
    obtain ⟨cdD, hD⟩ : ∃ cdD, clsIn K C = some cdD := by
      obtain ⟨cd, hc, _⟩ := any_some q2
      exact ⟨cd, hc⟩
    have ml : ∀ y : Str, ([((("self" : Str)), Value.ref x), (f, v)].reverse.lookup y) = if y = f then some v else if y = ("self" : Str) then some (.ref x) else none := fun y => by
      have bq : ∀ a b : Str, (a == b) = decide (a = b) := fun a b => by by_cases h : a = b <;> simp [h]
      simp only [List.reverse_cons, List.reverse_nil, List.nil_append, List.singleton_append, List.lookup_cons, List.lookup_nil, bq]
      by_cases h1 : y = f
      · simp only [h1, decide_true, if_true]
      · by_cases h2 : y = ("self" : Str)
        · simp only [h1, decide_false, h2, decide_true, if_true]
          rw [if_neg (by rw [← h2]; exact h1), decide_eq_false (by rw [← h2]; exact h1)]
        · simp only [h1, h2, decide_false, if_false]
    have hns' : h₀.Ns s.heap.objs.size (fun y => if y = f then some v else if y = ("self" : Str) then some (.ref x) else none) := by
      have e : (fun y => (([("self" : Str), f].zip [Value.ref x, v]).reverse).lookup y) = fun y => if y = f then some v else if y = ("self" : Str) then some (.ref x) else none := funext ml
      rw [← e]; exact hns
    have ms : (fun y : Str => if y = f then some v else if y = ("self" : Str) then some (Value.ref x) else none) ("self" : Str) = some (.ref x) := by
      show (if _ then _ else _) = _
      rw [if_neg (Ne.symm f3), if_pos rfl]
    have mf : (fun y : Str => if y = f then some v else if y = ("self" : Str) then some (Value.ref x) else none) f = some v := if_pos rfl
    have hg0 : h₀.Ns mainGlobals mg := hg.keeps k
    have hb0 : h₀.Ns builtinsNs mb := hb.keeps k
    refine ks_wpAt_execs_cons (xi_super (ar := ⟨"self", none, pa⟩) SO BX (s := { s with heap := h₀, toks := _ }) X0 nx hns' hg0 hb0 hbb hfn rfl ms hx0 hcode hvs hfile hcell hD C'.sub T.nsup s1 s2 s3 rfl T.htop hm0 T.op q3 q4 q1 fun h1 t1 tk1 k1 e1 => ?_)
    have X1 : K.In h1 := kept_x X0 nx k1
    have hns1 := ns_keep hns' hne k1
    refine ks_wpAt_execs_cons (xi_assign (s := { s with heap := h1, toks := tk1 }) hns1 mf ms rfl f1 s3 f2 (hsw (f, a0, a1, a2, a3) (by simp) _ _ _ _) (xi_set0 BX X1 e1 C'.sa q2 (T.noN f (by simp)) C'.hd fun h2 tk2 dx k2 d1 d2 e2 n2 => ?_))
    refine wpAt_of_wpAny (wpAny_execs_nil (hq h2 tk2 dx t1 ⟨fun b o hb e => k2 b o hb (k1 b o hb (k b o e)), e2, ?_, d2, n2⟩))
    have z : s.heap.objs.size < h1.objs.size := hns1.lt
    exact Nat.le_trans (Nat.le_of_lt z) d1
end
/-- what a call of __init__ with these values makes of a fresh exception -/
def InitsTo (prog : Program) (w : World) (K : PySem.W.Frag) (mg : Str → Option Value) (C fI : Addr) (rest : List Value) (m : Str → Option Value) : Prop :=
  ∀ (A : Around) (s : Shared) (mb : Str → Option Value) (x t0 : Addr) (R : Result → Shared → Prop), K.In s.heap → s.heap.NoLimit → s.heap.Ns mainGlobals mg → s.heap.Ns builtinsNs mb → (∀ y : Str, y ≠ "__name__" → mb y = bootBuiltins y) → s.heap.get? x = some (PySem.W.excObj C t0 none .none) → K.lookup x = none → A.depth < recursionLimit →
    (∀ h' tk dx t1, XEnd s.heap h' x C dx t1 m → R (.ok (.ret .none)) { s with heap := h', toks := tk }) → codeAny (model prog w) A (.call (.ref fI) ⟨.ref x :: rest, []⟩) R s
theorem inits1 {prog : Program} {w : World} {K : PySem.W.Frag} {mg : Str → Option Value} {C fI : Addr} {f : Str} {v : Value} (C' : XCls K C) (T : XIni prog K C fI [f]) (hm0 : mg "super" = none) : InitsTo prog w K mg C fI [v] (fun y => if y = f then some v else none) :=
  fun _ _ _ _ _ _ X hlim hg hb hbb hx nx hr hq => xi_init1 C' T X hlim hg hb hbb hm0 hx nx hr hq
/-- a made exception -/
structure XMade (h h' : Heap) (e C d : Addr) (m : Str → Option Value) : Prop where
  keep : ∀ b o, h.get? b = some o → h'.get? b = some o
  new : h.objs.size ≤ e
  obj : ∃ oe vs, h'.get? e = some oe ∧ oe.cls = .ref C ∧ oe.dict = some d ∧ oe.data = .fields vs ∧ vs[1]? = some .none ∧ vs[2]? = some .none
  dbig : h.objs.size ≤ d
  dne : d ≠ e
  ns : h'.Ns1 d m
section
open PySem.W PySem.Calls
variable {prog : Program} {w : World} {A : Around} {R : Result → Shared → Prop} {s : Shared} {K : Frag} {mg mb : Str → Option Value}
variable {C fI : Addr} {rest : List Value} {m : Str → Option Value} {fs : List Str}
theorem xi_make (C' : XCls K C) (T : XIni prog K C fI fs) (hI : InitsTo prog w K mg C fI rest m) (X : K.In s.heap) (hlim : s.heap.NoLimit) (hg : s.heap.Ns mainGlobals mg) (hb : s.heap.Ns builtinsNs mb) (hbb : ∀ y : Str, y ≠ "__name__" → mb y = bootBuiltins y) (hroom : A.depth + 1 < recursionLimit) (hrest : rest.length ≤ sizeLine)
    (hq : ∀ h' tk e d, XMade s.heap h' e C d m → R (.ok (.ret (.ref e))) { s with heap := h', toks := tk }) : codeAny (model prog w) A (.call (.ref C) ⟨rest, []⟩) R s := by
  obtain ⟨B, newId, initId, bmB, BX, q1, q2, q3, q4⟩ := C'.base
  obtain ⟨nm, N', qn, bs, bm, hdct, sn, sub, ab, col, dd, k0, k1, k2, k3, k5, hC, hT⟩ := excInit_of X q1
  obtain ⟨hp, g, dr, tk, os⟩ := s
  have k : ∀ b o, hp.get? b = some o → ((hp.push (kdv_tup rest)).push (HandSPX.excO C hp.objs.size)).get? b = some o := fun b o e => Heap.get?_push_of_some _ (Heap.get?_push_of_some _ e)
  have hget : ((hp.push (kdv_tup rest)).push (HandSPX.excO C hp.objs.size)).get? (hp.objs.size + 1) = some (excObj C hp.objs.size none .none) := by heap_get
  have hnx : K.lookup (hp.objs.size + 1) = none := by
    cases e : K.lookup (hp.objs.size + 1) with
    | none => rfl
    | some o =>
      have z : hp.get? (hp.objs.size + 1) = some o := X _ _ e
      exact absurd (Nat.lt_of_succ_lt (Heap.lt_size z)) (Nat.lt_irrefl _)
  refine HandSPX.call_own BX.F hT hC (looks_findIn X T.iC) (fun self => bind_fn X self (beq_iff_eq.mp T.fnI)) hrest ?_
  refine hI _ ⟨(hp.push (kdv_tup rest)).push (HandSPX.excO C hp.objs.size), g, dr, tk, os⟩ mb (hp.objs.size + 1) hp.objs.size _ (X.keeps k) (hlim.keeps k) (hg.keeps k) (hb.keeps k) hbb hget hnx ?_ fun h' tk' dx t1 M => ?_
  · show A.depth + 1 < recursionLimit
    exact hroom
  · have old : ∀ b o, hp.get? b = some o → h'.get? b = some o := fun b o e => M.keep b o (Nat.ne_of_lt (Nat.lt_succ_of_lt (Heap.lt_size e))) (k b o e)
    have z : hp.objs.size + 1 + 1 ≤ dx := by
      have q := M.dbig
      rw [Heap.size_push, Heap.size_push] at q; exact q
    exact ⟨rfl, hq h' tk' (hp.objs.size + 1) dx ⟨old, Nat.le_succ _, ⟨_, _, M.obj, rfl, rfl, rfl, rfl, rfl⟩, Nat.le_trans (Nat.le_trans (Nat.le_succ _) (Nat.le_succ _)) z, M.dne, M.ns⟩⟩
end
end DI
end

section
set_option Elab.async false
set_option linter.all false
set_option maxRecDepth 100000
namespace DI
open PySem L2 PySem.Spec PyProof.Rows
/-- C(e, ..), C an exception class whose __init__ stores its parameters fs -/
def tMkX (C : Addr) (fs : List Str) (ta : TA) : L2.St → Hp → XK → Prop := fun σ H Q => ta σ H fun vs H1 => vs.length = fs.length ∧ ∀ d, H1 d = none → Q (.ref C) (some d) (upd H1 d (.xd (fs.zip vs)))
theorem relO_1 {f : Str} {v : V} {v' : Value} (r : L2.RelV v v') (y : Str) : RelO (List.lookup y [(f, v)]) (if y = f then some v' else none) := by
  by_cases h : y = f
  · subst h; simp [List.lookup]; exact r
  · have q : (y == f) = false := by simpa using h
    rw [if_neg h]
    have : List.lookup y [(f, v)] = none := by simp [List.lookup, q]
    rw [this]; trivial
section
variable {X : Cx} {C fI : Addr} {fs : List Str}
/-- what is left of a made exception, as the layer sees it -/
theorem mk_made {pins : List (Addr × Obj)} {σ : L2.St} {H1 : Hp} {Q : XK} {hp h' : Heap} {g : Array GenState} {dr : Drawn} {tk tk' : Nat} {os : OsState} {e d : Addr} {m : Str → Option Value} {kvs : List (Str × V)} (C' : XCls X.K C) (I1 : L2.Inv X pins σ H1 ⟨hp, g, dr, tk, os⟩) (M : XMade hp h' e C d m) (rel : ∀ y, RelO (List.lookup y kvs) (m y))
    (q : Q (.ref C) (some d) (upd H1 d (.xd kvs))) : L2N.MkP X pins σ Q (.ref e) ⟨h', g, dr, tk', os⟩ := by
  obtain ⟨oe, fv, hoe, hc, hd, hdat, h1, h2⟩ := M.obj
  have hns := M.ns
  obtain ⟨G', g1, g2⟩ := restrict h' fun b => decide (b ≠ e)
  have gk : ∀ b, b ≠ e → G'.get? b = h'.get? b := fun b hb => g1 b (decide_eq_true hb)
  have ge : G'.get? e = none := g2 e (by simp)
  have old : ∀ b o, hp.get? b = some o → G'.get? b = some o := fun b o q => (gk b (Nat.ne_of_lt (Nat.lt_of_lt_of_le (Heap.lt_size q) M.new))).trans (M.keep b o q)
  have ob : ObjOk X.prog X.w (upd H1 d (.xd kvs)) G' d (.xd kvs) := ⟨_, hns.at (fun o q => (gk d M.dne).trans q), rel⟩
  have J : L2.Inv X pins σ (upd H1 d (.xd kvs)) ⟨G', g, dr, tk', os⟩ := I1.laid (t' := tk') old M.dbig ob
  refine ⟨e, oe, fv, ⟨G', g, dr, tk', os⟩, _, .ref C, some d, rfl, J, fun b o q => ?_, ge, hoe, ⟨hc, hd, fun vs e => by rw [hdat] at e; cases e; exact h2⟩, hdat, h1, ?_, rfl, I1.bare, raises_own C'.exC C'.tyC, q⟩
  · by_cases hb : b = e
    · have q' : G'.get? b = some o := q
      rw [hb, ge] at q'; cases q'
    · exact (gk b hb).symm.trans q
  · rw [upd_ne (Ne.symm M.dne)]
    exact I1.hok.fresh M.new
theorem pmk_x1 {x f : Str} {e : Expr} {ta : TA} {p pos : Pos} {k : Nat} (C' : XCls X.K C) (T : XIni X.prog X.K C fI [f]) (hm0 : X.mg "super" = none) (hr : Room k X.A) (hg : Gl X x) (hm : X.mg x = some (.ref C)) (hdb : (x == ("__debug__" : Str)) = false) (ha : PA X [e] ta)
    (he : starEach (e :: []) X.env = (false, eval e X.env) :: starEach [] X.env) (hpl : (backTo pos (starEach [] X.env)).any (·.1) = false) : L2N.PMk X (.Call (.Name x p) [e] [] pos) (tMkX C [f] ta) := by
  intro pins s σ H Q I h
  refine wpAny_Call_Name_kw (ld_glob I hg hm ?_ hdb)
  refine PySem.W.callWith_K (h₀ := X.base) I.ok.mod.kin C'.kC (thn (ha.run pos pins s σ H _ I h) fun us s1 hh => ?_) he hpl
  obtain ⟨vs, H1, I1, r1, el, q1⟩ := hh
  refine ⟨I1.kIn, ?_⟩
  match vs, el, r1, q1 with
  | [v], _, .cons rv .nil, q1 =>
    rename_i u
    have hlim := I1.nolimit
    obtain ⟨mb, hb, hbb⟩ := I1.mod.blt
    have hg1 := I1.mod.glob.keeps I1.bk
    have hb1 := hb.keeps I1.bk
    obtain ⟨hp, g, dr, tk, os⟩ := s1
    refine wpAny_call (xi_make C' T (inits1 C' T hm0) I1.kIn hlim hg1 hb1 hbb (by have := hr.dp; omega) (by show 1 ≤ sizeLine; rw [sizeLine_eq]; omega) fun h' tk' e d M => ?_)
    exact mk_made C' I1 M (relO_1 rv) (q1 d (I1.hok.fresh M.dbig))
end
section
variable {T : Tab} {n : Nat} {X : Cx} {W : WX} {pos : Pos}
theorem evE_exc {P : Prog} {C : Cal} {r : D → Option Str} {c : Nat} {ns : List Nat} {es : Es} {ρ : Env} {μ : Mem} : evE P C r (.exc c ns es) ρ μ = (evEs P C r es ρ μ).bind fun l μ => if l.length = ns.length then .ok (.exc c ns l) μ else .no := by simp only [evE]
/-- raise C(e, ..) -/
theorem ss_rai {x : Expr} {c : Nat} {ns : List Nat} {es : Es} {fs : List Str} (hc : X.calm = true) (tk : Takes X W) (hf : fs = ns.map T.an) (pm : L2N.PMk X x (tMkX (T.ca c) fs (tEs T n X.K W es))) : SS T n X W (.Raise (some x) none pos) (.rai (.exc c ns es)) := by
  subst hf
  refine PS.imp (L2N.ps_raise hc tk pm) fun D σ H q => ?_
  obtain ⟨a, ρ, μ, ho, q⟩ := q
  simp only [evS] at q
  have q := q.seR
  rw [evE_exc] at q
  refine ⟨a, ρ, μ, ho, q.bind.mono (fun l μ1 q1 b vs H1 st ho1 r => ?_) fun _ _ k => k.kx⟩
  split at q1
  · rename_i hl
    obtain ⟨c', ns', vs', e, k⟩ := q1
    cases e
    refine ⟨by rw [← r.length, hl, List.length_map], fun d hd => ?_⟩
    obtain ⟨ho2, st2⟩ := ho1.freeze (o := .xd ((ns.map T.an).zip vs)) hd
    exact k _ _ vs σ _ (st.trans st2) ho2 (Reps.mono st2.le _ _ r) (by rw [← hl, r.length]) (.inl ⟨d, rfl, upd_same⟩)
  · exact q1.elim
end
end DI
end

section
set_option Elab.async false
set_option linter.all false
set_option maxRecDepth 100000
namespace DI
open PySem L2 PySem.Spec PyProof.Rows
/-- the test of an except clause: a class, or two, or three -/
inductive TestOk (X : Cx) : Expr → List Value → Prop
  | one {x : Str} {c : Value} {p : Pos} (h : Names X x c) : TestOk X (.Name x p) [c]
  | two {x y : Str} {c d : Value} {p q r : Pos} {k : Nat} (h : Names X x c) (g : Names X y d) : TestOk X (.Tuple [.Name x p, .Name y q] k r) [c, d]
  | three {x y z : Str} {c d e : Value} {p q u r : Pos} {k : Nat} (h : Names X x c) (g : Names X y d) (i : Names X z e) : TestOk X (.Tuple [.Name x p, .Name y q, .Name z u] k r) [c, d, e]
abbrev TSx := Addr → Value → Option Addr → TS
/-- an except clause -/
structure ClauseT where
  cs : List Value
  nm : Option Nat
  ts : TSx
def ends_as (i : Nat) (D : Ends) : Ends := { nx := fun σ' H' => D.nx (σ'.set i none) H', rt := D.rt, bk := fun σ' H' => D.bk (σ'.set i none) H', ct := fun σ' H' => D.ct (σ'.set i none) H' }
/-- what the clauses wish of an exception of the body, one after the other -/
def wTry (K : PySem.W.Frag) (Wout : WX) (D : Ends) : List ClauseT → WX
  | [] => Wout
  | q :: r => fun cls d σ H => ∃ b, PySem.W.exmAny K cls q.cs = some b ∧ (b = true → ∀ a, H a = none → match q.nm with
      | none => q.ts a cls d D σ H
      | some i => q.ts a cls d (ends_as i D) (σ.set i (some (.ref a))) H) ∧ (b = false → wTry K Wout D r cls d σ H)
inductive HdsT (X : Cx) : List ExceptHandler → List ClauseT → Prop
  | nil : HdsT X [] []
  | cons {tx : Expr} {cs : List Value} {ts : TSx} {b₀ : Stmt} {suite : List Stmt} {pos' : Pos} {hds : List ExceptHandler} {l : List ClauseT} (hc : TestOk X tx cs)
      (hsu : ∀ (a : Addr) (oe : Obj) (cls : Value) (d : Option Addr) (pn : List (Addr × Obj)), L2N.Zn cls d oe → (∃ vs, oe.data = .fields vs) → PSs (X.suite a ((a, oe) :: pn)) (b₀ :: suite) (ts a cls d)) (r : HdsT X hds l) :
      HdsT X (.ExceptHandler (some tx) none (b₀ :: suite) pos' :: hds) (⟨cs, none, ts⟩ :: l)
  | consAs {tx : Expr} {n : Str} {i : Nat} {cs : List Value} {ts : TSx} {b₀ : Stmt} {suite : List Stmt} {pos' : Pos} {hds : List ExceptHandler} {l : List ClauseT} (hi : X.N[i]? = some n) (hln : X.env.kindOf n = some .local) (hc : TestOk X tx cs)
      (hsu : ∀ (a : Addr) (oe : Obj) (cls : Value) (d : Option Addr) (pn : List (Addr × Obj)), L2N.Zn cls d oe → (∃ vs, oe.data = .fields vs) → PSs (X.suite a ((a, oe) :: pn)) (b₀ :: suite) (ts a cls d)) (r : HdsT X hds l) :
      HdsT X (.ExceptHandler (some tx) (some n) (b₀ :: suite) pos' :: hds) (⟨cs, some i, ts⟩ :: l)
section
variable {X : Cx} {body : List Stmt} {h₀ : ExceptHandler} {hds : List ExceptHandler} {l : List ClauseT} {pos : Pos} {tb : WX → TS} {Wout : WX}
theorem flying_keeps {B h h' : Heap} {fs : List PySem.Env} {a : Addr} {Z : Obj → Prop} (f : HandSPX.FlyingZ B fs a Z h) (k : ∀ b o, h.get? b = some o → h'.get? b = some o) : HandSPX.FlyingZ B fs a Z h' := by
  obtain ⟨k1, k2, k3, oe, vs, T, oT, ts, he, hz, hd, h1, hn, hne, hT, hdT, h3⟩ := f
  exact ⟨fun b o e => k b o (k1 b o e), k2, Heap.FunFrames.of_keeps (fun b o e _ => ⟨o, k b o e, rfl⟩) k3, oe, vs, T, oT, ts, k _ _ he, hz, hd, h1, hn, hne, k _ _ hT, hdT, h3⟩
/-- the test, and whether it fits -/
theorem test_run {Y : Cx} {pins : List (Addr × Obj)} {σ : L2.St} {H : Hp} {s : Shared} {tx : Expr} {cs : List Value} {cls : Value} {a : Addr} {b : Bool} {Q : Bool → Shared → Prop} {E : Value → Shared → Prop} (I : L2.Inv Y pins σ H s) (hc : TestOk Y tx cs) (LT : PySem.W.Looks (model Y.prog Y.w) s.heap (typeOf (.ref a)) cls) (hb : PySem.W.exmAny Y.K cls cs = some b)
    (h : ∀ s', (∃ h' tk, s' = { s with heap := h', toks := tk } ∧ ∀ b o, s.heap.get? b = some o → h'.get? b = some o) → Q b s') :
    wpAny (model Y.prog Y.w) Y.A (eval tx Y.env) (fun v s1 => wpAny (model Y.prog Y.w) Y.A (excMatches (.ref a) v) Q E s1) E s := by
  have nm : ∀ {x : Str} {c : Value} {p : Pos} {Q' : Value → Shared → Prop} {s1 : Shared}, L2.Inv Y pins σ H s1 → Names Y x c → Q' c s1 → wpAny (model Y.prog Y.w) Y.A (eval (.Name x p) Y.env) Q' E s1 := fun {x c p Q' s1} J hn q => by
    obtain ⟨hg, hdbg, hm | ⟨hm, hv, hnn⟩⟩ := hn
    · exact ld_glob J hg hm q hdbg
    · exact ld_blt J hg hm hv q hnn hdbg
  have same : ∃ h' tk, s = { s with heap := h', toks := tk } ∧ ∀ b o, s.heap.get? b = some o → h'.get? b = some o := ⟨s.heap, s.toks, rfl, fun _ _ e => e⟩
  cases hc with
  | one hn =>
    obtain ⟨b1, d1, h1, h2, rfl⟩ := PySem.W.exmAny_cons hb
    cases h2
    refine nm I hn ((PySem.W.exm_one I.kIn LT h1).here ?_)
    rw [Bool.or_false] at h
    exact h s same
  | @two x1 x2 c1 c2 _ _ _ _ hn gn =>
    refine Tuple_ ?_
    refine Calls.spliced_cons (nm I hn (Calls.spliced_cons (nm I gn (Calls.spliced_nil ?_))))
    refine wpAny_newObj_type ?_ (by show 2 ≤ sizeLine; decide)
    have e := Heap.get?_push_size s.heap (o := { cls := .type "tuple", data := .seq [c1, c2].toArray }) rfl
    have k : ∀ b o, s.heap.get? b = some o → (s.heap.push { cls := .type "tuple", data := .seq [c1, c2].toArray }).get? b = some o := fun b o z => Heap.get?_push_of_some _ z
    refine (PySem.W.exm_tup2 (I.kIn.keeps k) (LT.keeps k) e hb).here ?_
    exact h _ ⟨_, s.toks, rfl, k⟩
  | @three x1 x2 x3 c1 c2 c3 _ _ _ _ _ hn gn jn =>
    refine Tuple_ ?_
    refine Calls.spliced_cons (nm I hn (Calls.spliced_cons (nm I gn (Calls.spliced_cons (nm I jn (Calls.spliced_nil ?_))))))
    refine wpAny_newObj_type ?_ (by show 3 ≤ sizeLine; decide)
    have e := Heap.get?_push_size s.heap (o := { cls := .type "tuple", data := .seq [c1, c2, c3].toArray }) rfl
    have k : ∀ b o, s.heap.get? b = some o → (s.heap.push { cls := .type "tuple", data := .seq [c1, c2, c3].toArray }).get? b = some o := fun b o z => Heap.get?_push_of_some _ z
    refine (PySem.W.exm_tup3 (I.kIn.keeps k) (LT.keeps k) e hb).here ?_
    exact h _ ⟨_, s.toks, rfl, k⟩
theorem testOk_suite {tx : Expr} {cs : List Value} {a : Addr} {pn : List (Addr × Obj)} (h : TestOk X tx cs) : TestOk (X.suite a pn) tx cs := by
  cases h with
  | one h => exact .one h
  | two h g => exact .two h g
  | three h g i => exact .three h g i
theorem ps_tryD (hs : X.stack = X.env :: X.outer) (hf : X.env.frame = some X.env.locals) (hN : X.N.Nodup) (tk : Takes X Wout)
    (hb : ∀ (W : WX) (pn : List (Addr × Obj)) (xe : Value → Shared → Prop), Takes (X.tr pn xe) W → PassesOwn (model X.prog X.w) X.A X.env xe → PSs (X.tr pn xe) body (tb W))
    (hh : HdsT X (h₀ :: hds) l) : PS X (.Try body (h₀ :: hds) [] [] pos) (fun D σ H => tb (wTry X.K Wout D l) D σ H) := by
  refine ⟨fun pins s σ H D I h => ?_⟩
  have ok := I.ok
  have hfr : X.A.frames = some (X.env :: X.outer) := by rw [ok.frames, hs]
  refine wpAny_Try_except ?_
  refine wpAny_mono ((hb (wTry X.K Wout D l) (X.pn ++ pins) (fun e s₁ => wpAny (model X.prog X.w) X.A (noteFrame e X.env) (fun _ s₂ => wpAny (model X.prog X.w) X.A (setFlight e none) (fun _ s₃ =>
    wpAny (model X.prog X.w) X.A (handleBy e X.env (h₀ :: hds)) (SP X pins D) X.xe s₃) X.xe s₂) X.xe s₁) (fun u s' xx => ?_) PassesOwn.looking).run [] s σ H D (I.toTry _) h) (fun f s1 hsp => ?_) (fun e s1 he => he)
  · -- the catch
    obtain ⟨a, B, sI, pins', σ', H', cls, d, rfl, J', nb, up, sky, na, os, ag, w⟩ := xx
    have J : L2.Inv X pins σ' H' sI := J'.ofTry ok
    have sky' : Sky B (X.env :: X.outer) a (L2N.Zn cls d) X.env.locals s'.heap := by rw [← hs]; exact sky
    show wpAny (model X.prog X.w) X.A (noteFrame (.ref a) X.env) _ _ _
    refine L2N.Sky.land L2N.Zn.steady hfr hf sky' fun h3 fl3 up3 => ?_
    have nfr : a ∉ frs (X.env :: X.outer) := fun hm => by
      obtain ⟨oe, vs, he, hz, hd⟩ := fl3.there
      obtain ⟨_, o', e', hnf⟩ := fl3.2.2.1.mem hm
      rw [he] at e'; cases e'
      exact hnf _ hd
    have nL : a ≠ X.env.locals := fun z => nfr (List.mem_filterMap.mpr ⟨X.env, List.mem_cons_self, by rw [hf, z]⟩)
    have nF : a ∉ X.fs := fun hm => by
      obtain ⟨e, he, q⟩ := List.mem_filterMap.mp hm
      exact nfr (List.mem_filterMap.mpr ⟨e, List.mem_cons_of_mem _ he, q⟩)
    have go : ∀ {hds' : List ExceptHandler} {l' : List ClauseT}, HdsT X hds' l' → wTry X.K Wout D l' cls d σ' H' → ∀ (g3 : Heap) (tk3 : Nat), HandSPX.FlyingZ B (X.env :: X.outer) a (L2N.Zn cls d) g3 → sI.heap.UpToSlots g3 →
        wpAny (model X.prog X.w) X.A (handleBy (.ref a) X.env hds') (SP X pins D) X.xe { s' with heap := g3, toks := tk3 } := by
      intro hds' l' hk
      induction hk with
      | nil =>
        intro w g3 tk3 fl3 up3
        refine wpAny_handleBy_nil ?_
        obtain ⟨k1, k2, k3, oe, vs, T, oT, ts', he, hz, hd, h1, hr⟩ := id fl3
        unfold PySem.passOn
        refine wpAny_bind (wpAny_field he hd h1 ?_)
        rw [if_neg (show ¬ ((Value.ref T == Value.none) = true) from by simp)]
        have fin : wpAny (model X.prog X.w) X.A (setFlight (.ref a) X.env.frame) (fun _ s4 => wpAny (model X.prog X.w) X.A (throw (.ref a) : Sem Flow) (SP X pins D) X.xe s4) X.xe { s' with heap := g3, toks := tk3 } := by
          rw [hf]
          refine HandSPX.setFlight_upZ fl3 fun h4 hh4 up4 => wpAny_throw (tk _ _ ?_)
          exact ⟨a, B, sI, pins, σ', H', cls, d, rfl, J, nb, up3.trans up4, .inr (.inr (by rw [hs]; exact hh4)), na, os, ag, w⟩
        first
          | exact wpAny_bind (wpAny_pure (wpAny_bind fin))
          | exact wpAny_bind fin
      | @cons tx cs ts b₀ suite pos' hds2 l2 hc hsu r ih =>
        intro w g3 tk3 fl3 up3
        obtain ⟨b, hb1, hyes, hno⟩ := w
        refine wpAny_handleBy_cons (codeAny_handlers_test ?_) (by intro q; cases q)
        have J3 : L2.Inv X pins σ' H' { s' with heap := g3, toks := tk3 } := J.landed nb fl3.1 up3 os ag
        obtain ⟨oe3, vs3, he3, hz3, hd3⟩ := fl3.there
        have S3 := J3.suite he3 hd3 na nL nF
        have LT : PySem.W.Looks (model X.prog X.w) g3 (typeOf (.ref a)) cls := fun A Q E s k q => wpAny_typeOf_ref (k _ _ he3) (by rw [hz3.1]; exact q)
        refine test_run (Y := X.suite a ((a, oe3) :: (X.pn ++ pins))) S3 (testOk_suite hc) LT hb1 ?_
        rintro s9 ⟨g9, tk9, rfl, k9⟩
        have fl9 := flying_keeps fl3 k9
        have up9 : sI.heap.UpToSlots g9 := up3.trans (Heap.UpToSlots.of_keeps k9)
        cases b with
        | true =>
          refine codeAny_handlers_suite ?_
          refine HandSPX.lands_againZ fl9 fun h4 fl4 up4 => ?_
          have J4 : L2.Inv X pins σ' H' { s' with heap := h4, toks := tk9 } := J.landed nb fl4.1 (up9.trans up4) os ag
          obtain ⟨oe4, vs4, he4, hz4, hd4⟩ := fl4.there
          have S4 := J4.suite he4 hd4 na nL nF
          refine wpAny_mono ((hsu a oe4 cls d (X.pn ++ pins) hz4 ⟨_, hd4⟩).run [] _ _ H' _ S4 (hyes rfl a na)) (fun f s6 hsp => ?_) (fun _ _ z => False.elim z)
          cases f with
          | next =>
            obtain ⟨σ6, H6, S6, q6⟩ := hsp
            exact ⟨_, _, S6.unsuite ok, q6⟩
          | brk =>
            obtain ⟨σ6, H6, S6, q6⟩ := hsp
            exact ⟨_, _, S6.unsuite ok, q6⟩
          | cont =>
            obtain ⟨σ6, H6, S6, q6⟩ := hsp
            exact ⟨_, _, S6.unsuite ok, q6⟩
          | ret u =>
            obtain ⟨v6, σ6, H6, S6, r6, q6⟩ := hsp
            exact ⟨_, _, _, S6.unsuite ok, r6, q6⟩
        | false =>
          show wpAny _ X.A (handleBy (.ref a) X.env hds2) _ _ _
          exact ih (hno rfl) g9 tk9 fl9 up9
      | @consAs tx n i cs ts b₀ suite pos' hds2 l2 hi hln hc hsu r ih =>
        intro w g3 tk3 fl3 up3
        have hloc : Loc X.env.scope n := .inl hln
        obtain ⟨b, hb1, hyes, hno⟩ := w
        refine wpAny_handleBy_cons (codeAny_handlers_test ?_) (by intro q; cases q)
        have J3 : L2.Inv X pins σ' H' { s' with heap := g3, toks := tk3 } := J.landed nb fl3.1 up3 os ag
        obtain ⟨oe3, vs3, he3, hz3, hd3⟩ := fl3.there
        have S3 := J3.suite he3 hd3 na nL nF
        have LT : PySem.W.Looks (model X.prog X.w) g3 (typeOf (.ref a)) cls := fun A Q E s k q => wpAny_typeOf_ref (k _ _ he3) (by rw [hz3.1]; exact q)
        refine test_run (Y := X.suite a ((a, oe3) :: (X.pn ++ pins))) S3 (testOk_suite hc) LT hb1 ?_
        rintro s9 ⟨g9, tk9, rfl, k9⟩
        have fl9 := flying_keeps fl3 k9
        have up9 : sI.heap.UpToSlots g9 := up3.trans (Heap.UpToSlots.of_keeps k9)
        cases b with
        | true =>
          refine codeAny_handlers_suite_as ?_
          refine HandSPX.lands_againZ fl9 fun h4 fl4 up4 => ?_
          have J4 : L2.Inv X pins σ' H' { s' with heap := h4, toks := tk9 } := J.landed nb fl4.1 (up9.trans up4) os ag
          obtain ⟨oe4, vs4, he4, hz4, hd4⟩ := fl4.there
          have S4 := J4.suite he4 hd4 na nL nF
          refine store_ok (X := X.suite a ((a, oe4) :: (X.pn ++ pins))) (v := .ref a) S4 hN hi hloc rfl (fun s5 S5 => ?_) (.inr hln)
          refine wpAny_mono ((hsu a oe4 cls d (X.pn ++ pins) hz4 ⟨_, hd4⟩).run [] s5 _ H' _ S5 (hyes rfl a na)) (fun f s6 hsp => ?_) (fun _ _ z => False.elim z)
          have end_ : ∀ {σ6 : L2.St} {H6 : Hp} {Q : Shared → Prop}, L2.Inv (X.suite a ((a, oe4) :: (X.pn ++ pins))) [] σ6 H6 s6 → (∀ s7, L2.Inv X pins (σ6.set i none) H6 s7 → Q s7) →
              wpAny (model X.prog X.w) X.A (do bindName X.env n .none; unbindBehindTheSuite X.env n pos') (fun _ s7 => Q s7) X.xe s6 := fun {σ6 H6 Q} S6 hq => gone_ok (S6.unsuite ok) hN hi hln hq
          cases f with
          | next =>
            obtain ⟨σ6, H6, S6, q6⟩ := hsp
            exact end_ S6 fun s7 J7 => ⟨_, _, J7, q6⟩
          | brk =>
            obtain ⟨σ6, H6, S6, q6⟩ := hsp
            exact end_ S6 fun s7 J7 => ⟨_, _, J7, q6⟩
          | cont =>
            obtain ⟨σ6, H6, S6, q6⟩ := hsp
            exact end_ S6 fun s7 J7 => ⟨_, _, J7, q6⟩
          | ret u =>
            obtain ⟨v6, σ6, H6, S6, r6, q6⟩ := hsp
            exact end_ S6 fun s7 J7 => ⟨_, _, _, J7, r6, q6⟩
        | false =>
          show wpAny _ X.A (handleBy (.ref a) X.env hds2) _ _ _
          exact ih (hno rfl) g9 tk9 fl9 up9
    exact go hh w h3 s'.toks fl3 (up.trans up3)
  · cases f with
    | next =>
      obtain ⟨σ', H', J', q⟩ := hsp
      exact wpAny_execs_nil ⟨σ', H', J'.ofTry ok, q⟩
    | brk =>
      obtain ⟨σ', H', J', q⟩ := hsp
      exact ⟨σ', H', J'.ofTry ok, q⟩
    | cont =>
      obtain ⟨σ', H', J', q⟩ := hsp
      exact ⟨σ', H', J'.ofTry ok, q⟩
    | ret u =>
      obtain ⟨v, σ', H', J', r, q⟩ := hsp
      exact ⟨v, σ', H', J'.ofTry ok, r, q⟩
end
end DI
end

section
set_option Elab.async false
set_option linter.all false
set_option maxRecDepth 100000
namespace DI
open PySem L2 PySem.Spec PyProof.Rows
section
variable {T : Tab} {K : PySem.W.Frag} {a : Abs} {e : Option (Nat × Addr × Value × Option Addr)} {c : Option (Addr × Addr × Str × Nat × List (Option V))}
mutual
theorem Rep.sp : ∀ (d : D) (v : V), Rep T K a d v → Rep (T.sp e c) K a d v
  | .non, _, x => by simpa only [Rep] using x
  | .bl _, _, x => by simpa only [Rep] using x
  | .int _, _, x => by simpa only [Rep] using x
  | .str _, _, x => by simpa only [Rep] using x
  | .tup l, _, x => by
    simp only [Rep] at x ⊢
    obtain ⟨p, vs, e, s, r⟩ := x
    exact ⟨p, vs, e, s, Reps.sp l vs r⟩
  | .key l, _, x => by
    simp only [Rep] at x ⊢
    obtain ⟨p, vs, e, s, r⟩ := x
    exact ⟨p, vs, e, s, Reps.sp l vs r⟩
  | .lst l, _, x => by
    simp only [Rep] at x ⊢
    obtain ⟨p, vs, e, s, r⟩ := x
    exact ⟨p, vs, e, s, Reps.sp l vs r⟩
  | .rol l, _, x => by
    simp only [Rep] at x ⊢
    obtain ⟨p, vs, e, s, r⟩ := x
    exact ⟨p, vs, e, s, Reps.sp l vs r⟩
  | .dct t ks vs, _, x => by
    simp only [Rep] at x ⊢
    obtain ⟨p, ws, e, r, hl, s⟩ := x
    exact ⟨p, ws, e, Reps.sp vs ws r, hl, s⟩
  | .ins c ns fs, _, x => by
    simp only [Rep] at x ⊢
    obtain ⟨p, dx, ws, e, g, g2, hl, r⟩ := x
    exact ⟨p, dx, ws, e, g, g2, hl, Reps.sp fs ws r⟩
  | .exc _ _ _, _, x => by simp only [Rep] at x
  | .cls _, _, x => by simpa only [Rep] using x
  | .fn _, _, x => by simpa only [Rep] using x
  | .clo _ _, _, x => by simp only [Rep] at x
  | .obj n, _, x => by simpa only [Rep] using x
theorem Reps.sp : ∀ (l : List D) (vs : List V), Reps T K a l vs → Reps (T.sp e c) K a l vs
  | [], _, x => by simpa only [Reps] using x
  | d :: l, _, x => by
    simp only [Reps] at x ⊢
    obtain ⟨v, ws, e, r, rs⟩ := x
    exact ⟨v, ws, e, Rep.sp d v r, Reps.sp l ws rs⟩
end
theorem ObRep.sp {H : Hp} {p : Addr} {ob : Ob} (h : ObRep T K a H p ob) : ObRep (T.sp e c) K a H p ob := by
  cases ob with
  | lst l => obtain ⟨vs, h, r⟩ := h; exact ⟨vs, h, Reps.sp l vs r⟩
  | dct t ks vs => obtain ⟨ws, r, hl, h⟩ := h; exact ⟨ws, Reps.sp vs ws r, hl, h⟩
  | ins c ns fs => obtain ⟨dx, ws, h1, h2, h3, h4, r⟩ := h; exact ⟨dx, ws, h1, h2, h3, h4, Reps.sp fs ws r⟩
theorem HolM.sp {μ : Mem} {H : Hp} (h : HolM T K a μ H) : HolM (T.sp e c) K a μ H :=
  ⟨h.le, h.len, h.nd, fun n p ob e1 e2 => let ⟨x, y⟩ := h.st n p ob e1 e2; ⟨x, y.sp⟩, h.ow, h.tb, h.tb2⟩
/-- the way back -/
theorem Rep.spr {d : D} {v : V} (h : Rep (T.sp e c) K a d v) : Rep T K a d v := Rep.sp (T := T.sp e c) (e := T.ex) (c := T.clo) d v h
theorem Reps.spr {l : List D} {vs : List V} (h : Reps (T.sp e c) K a l vs) : Reps T K a l vs := Reps.sp (T := T.sp e c) (e := T.ex) (c := T.clo) l vs h
theorem HolM.spr {μ : Mem} {H : Hp} (h : HolM (T.sp e c) K a μ H) : HolM T K a μ H := HolM.sp (T := T.sp e c) (e := T.ex) (c := T.clo) h
end
section
variable {T : Tab} {K : PySem.W.Frag} {a : Abs} {ρ : Env} {μ : Mem} {σ : L2.St} {H : Hp}
/-- the caught exception goes to slot k -/
theorem Hol.catch (h : Hol T K a ρ μ σ H) (nex : T.ex = none) {k : Nat} {p : Addr} {c : Nat} {ns : List Nat} {vs : List D} {ws : List V} {dd : Option Addr} (hl : ns.length = ws.length) (hx : XdAt T a.G ns ws dd) (r : Reps T K a vs ws) :
    Hol (T.sp (some (k, p, .ref (T.ca c), dd)) T.clo) K a (setE ρ k (.exc c ns vs)) μ (σ.set k (some (.ref p))) H := by
  refine ⟨h.m.sp, by simp [setE, h.len], fun i d e => ?_⟩
  unfold getE setE at e
  by_cases hi : k = i
  · subst hi
    by_cases hk : k < ρ.length
    · rw [List.getElem?_set_self hk] at e
      have e : .exc c ns vs = d := Option.some.inj e
      subst e
      refine ⟨.ref p, List.getElem?_set_self (by rw [← h.len]; exact hk), ?_⟩
      exact ⟨p, dd, ws, rfl, rfl, hl, hx, Reps.sp _ _ r⟩
    · rw [List.getElem?_eq_none (by rw [List.length_set]; omega)] at e
      cases e
  · rw [List.getElem?_set_ne hi] at e
    obtain ⟨v, e1, r1⟩ := h.env i d e
    refine ⟨v, by rw [List.getElem?_set_ne hi]; exact e1, ?_⟩
    unfold EnvAt at r1 ⊢
    split at r1
    · obtain ⟨_, _, _, z, _⟩ := r1
      rw [nex] at z; cases z
    · obtain ⟨p, c, q, σ, e, ev, hc, hl, r⟩ := r1
      exact ⟨p, c, q, σ, e, ev, hc, hl, fun j e he => let ⟨w, e1, r1⟩ := r j e he; ⟨w, e1, Rep.sp _ _ r1⟩⟩
    · exact Rep.sp _ _ r1
/-- .. and is let go -/
theorem Hol.uncatch (nex : T.ex = none) {k : Nat} {p : Addr} {cv : Value} {dd : Option Addr} (h : Hol (T.sp (some (k, p, cv, dd)) T.clo) K a ρ μ σ H) : Hol T K a (ρ.set k none) μ (σ.set k none) H := by
  refine ⟨h.m.spr, by simp [h.len], fun i d e => ?_⟩
  unfold getE at e
  by_cases hi : k = i
  · subst hi
    by_cases hk : k < ρ.length
    · rw [List.getElem?_set_self hk] at e
      cases e
    · rw [List.getElem?_eq_none (by rw [List.length_set]; omega)] at e
      cases e
  · rw [List.getElem?_set_ne hi] at e
    obtain ⟨v, e1, r1⟩ := h.env i d e
    refine ⟨v, by rw [List.getElem?_set_ne hi]; exact e1, ?_⟩
    unfold EnvAt at r1 ⊢
    split at r1
    · obtain ⟨_, _, _, z, _⟩ := r1
      exact (hi (congrArg Prod.fst (Option.some.inj z))).elim
    · obtain ⟨p, c, q, σ, e, ev, hc, hl, r⟩ := r1
      exact ⟨p, c, q, σ, e, ev, hc, hl, fun j e he => let ⟨w, e1, r1⟩ := r j e he; ⟨w, e1, Rep.spr r1⟩⟩
    · exact Rep.spr r1
end
/-- the clauses' tests, as the small interpreter judges them -/
def TyOk (T : Tab) (K : PySem.W.Frag) (ts : List Ty) (cs : List Value) : Prop := ∀ c ns vs μ b, isTys T.P μ (.exc c ns vs) ts = some b → PySem.W.exmAny K (.ref (T.ca c)) cs = some b
/-- except clauses -/
inductive HdsS (T : Tab) (n : Nat) (X : Cx) : List ExceptHandler → Hs → List ClauseT → Prop
  | nil : HdsS T n X [] .n []
  | cons {tx : Expr} {cs : List Value} {ts : List Ty} {b₀ : Stmt} {suite : List Stmt} {b : Ss} {pos' : Pos} {hds : List ExceptHandler} {hs : Hs} {l : List ClauseT} (hc : TestOk X tx cs) (hy : TyOk T X.K ts cs)
      (hsu : ∀ (a : Addr) (oe : Obj) (cls : Value) (d : Option Addr) (pn : List (Addr × Obj)), L2N.Zn cls d oe → (∃ vs, oe.data = .fields vs) → SSs T n (X.suite a ((a, oe) :: pn)) Wn (b₀ :: suite) b) (r : HdsS T n X hds hs l) :
      HdsS T n X (.ExceptHandler (some tx) none (b₀ :: suite) pos' :: hds) (.c ts none b hs) (⟨cs, none, fun _ _ _ => tSs T n X.K Wn b⟩ :: l)
  | consAs {tx : Expr} {x : Str} {i : Nat} {cs : List Value} {ts : List Ty} {b₀ : Stmt} {suite : List Stmt} {b : Ss} {pos' : Pos} {hds : List ExceptHandler} {hs : Hs} {l : List ClauseT} (hi : X.N[i]? = some x) (hln : X.env.kindOf x = some .local) (hc : TestOk X tx cs) (hy : TyOk T X.K ts cs)
      (hsu : ∀ (a : Addr) (oe : Obj) (cls : Value) (d : Option Addr) (pn : List (Addr × Obj)), L2N.Zn cls d oe → (∃ vs, oe.data = .fields vs) → SSs (T.sp (some (i, a, cls, d)) T.clo) n (X.suite a ((a, oe) :: pn)) Wn (b₀ :: suite) b) (r : HdsS T n X hds hs l) :
      HdsS T n X (.ExceptHandler (some tx) (some x) (b₀ :: suite) pos' :: hds) (.c ts (some i) b hs) (⟨cs, some i, fun a cls d => tSs (T.sp (some (i, a, cls, d)) T.clo) n X.K Wn b⟩ :: l)
section
variable {T : Tab} {n : Nat} {X : Cx} {W : WX} {pos : Pos}
theorem HdsS.toT {hds : List ExceptHandler} {hs : Hs} {l : List ClauseT} (h : HdsS T n X hds hs l) : HdsT X hds l := by
  induction h with
  | nil => exact .nil
  | cons hc hy hsu r ih => exact .cons hc hsu ih
  | consAs hi hln hc hy hsu r ih => exact .consAs hi hln hc hsu ih
/-- the clauses, one after the other -/
theorem hds_run (nex : T.ex = none) {hds : List ExceptHandler} {hs : Hs} {l : List ClauseT} (hh : HdsS T n X hds hs l) {D : Ends} {a : Abs} {H : Hp} {c : Nat} {ns : List Nat} {vs : List DI.D} {ρ : Env} {μ : Mem}
    (q : WpS (evH T.P (T.C n) T.reprS hs (.exc c ns vs) ρ μ) (Kn T X.K a H D) (Kr T X.K a H D) (KxS T X.K a H W)) {b : Abs} {dd : Option Addr} {ws : List V} {σ' : L2.St} {H' : Hp} (st : Stp a H b H') (ho : Hol T X.K b ρ μ σ' H') (rv : Reps T X.K b vs ws) (hl : ns.length = ws.length) (hd : XdAt T b.G ns ws dd) :
    wTry X.K W D l (.ref (T.ca c)) dd σ' H' := by
  induction hh with
  | nil =>
    simp only [evH] at q
    obtain ⟨c', ns', vs', e, k⟩ := q
    cases e
    exact k b dd ws σ' H' st ho rv hl hd
  | @cons tx cs ts b₀ suite bs pos' hds hs l hc hy hsu r ih =>
    simp only [evH] at q
    split at q
    · rename_i ht
      refine ⟨true, hy c ns vs μ true ht, fun _ p hp => ?_, fun z => nomatch z⟩
      refine ⟨b, ρ, μ, ho, ?_⟩
      cases h : evSs T.P (T.C n) T.reprS bs ρ μ with
      | nx ρ2 μ2 =>
        simp only [h] at q
        exact fun b2 σ2 H2 st2 ho2 => q b2 σ2 H2 (st.trans st2) ho2
      | rt d2 μ2 =>
        simp only [h] at q
        exact fun b2 v2 H2 st2 m2 r2 => q b2 v2 H2 (st.trans st2) m2 r2
      | ex x2 ρ2 μ2 => simp only [h] at q; exact q.elim
      | no => simp only [h] at q; exact q.elim
    · rename_i ht
      exact ⟨false, hy c ns vs μ false ht, (fun z => nomatch z), fun _ => ih q⟩
    · exact q.elim
  | @consAs tx x i cs ts b₀ suite bs pos' hds hs l hi hln hc hy hsu r ih =>
    simp only [evH] at q
    split at q
    · rename_i ht
      refine ⟨true, hy c ns vs μ true ht, fun _ p hp => ?_, fun z => nomatch z⟩
      refine ⟨b, setE ρ i (.exc c ns vs), μ, ho.catch nex hl hd rv, ?_⟩
      show WpS (evSs T.P (T.C n) T.reprS bs (setE ρ i (.exc c ns vs)) μ) _ _ _
      cases h : evSs T.P (T.C n) T.reprS bs (setE ρ i (.exc c ns vs)) μ with
      | nx ρ2 μ2 =>
        simp only [h] at q
        exact fun b2 σ2 H2 st2 ho2 => q b2 _ H2 (st.trans st2) (ho2.uncatch nex)
      | rt d2 μ2 =>
        simp only [h] at q
        exact fun b2 v2 H2 st2 m2 r2 => q b2 v2 H2 (st.trans st2) m2.spr r2.spr
      | ex x2 ρ2 μ2 => simp only [h] at q; exact q.elim
      | no => simp only [h] at q; exact q.elim
    · rename_i ht
      exact ⟨false, hy c ns vs μ false ht, (fun z => nomatch z), fun _ => ih q⟩
    · exact q.elim
theorem ss_try {body : List Stmt} {h₀ : ExceptHandler} {hds : List ExceptHandler} {l : List ClauseT} {b : Ss} {hs : Hs} (nex : T.ex = none) (hst : X.stack = X.env :: X.outer) (hf : X.env.frame = some X.env.locals) (hN : X.N.Nodup) (tk : Takes X W)
    (hb : ∀ (W' : WX) (pn : List (Addr × Obj)) (xe : Value → Shared → Prop), Takes (X.tr pn xe) W' → PassesOwn (model X.prog X.w) X.A X.env xe → SSs T n (X.tr pn xe) W' body b)
    (hh : HdsS T n X (h₀ :: hds) hs l) : SS T n X W (.Try body (h₀ :: hds) [] [] pos) (.try b hs) := by
  refine PS.imp (ps_tryD (tb := fun W' => tSs T n X.K W' b) hst hf hN tk hb hh.toT) fun D σ H q => ?_
  obtain ⟨a, ρ, μ, ho, q⟩ := q
  simp only [evS] at q
  refine ⟨a, ρ, μ, ho, ?_⟩
  cases h : evSs T.P (T.C n) T.reprS b ρ μ with
  | nx ρ2 μ2 => rw [h] at q; exact q
  | rt d2 μ2 => rw [h] at q; exact q
  | no => rw [h] at q; exact q
  | ex x2 ρ2 μ2 =>
    rw [h] at q
    cases x2 with
    | exc c ns vs =>
      simp only at q
      split at q
      · exact ⟨c, ns, vs, rfl, fun b2 dd ws σ2 H2 st ho2 rv hl hd => hds_run nex hh q st ho2 rv hl hd⟩
      · exact q.elim
    | _ => exact q.elim
end
end DI
end

section
set_option Elab.async false
set_option linter.all false
set_option maxRecDepth 100000
namespace DI
open PySem L2 PySem.Spec PyProof.Rows HotX L2H
section
variable {prog : Program} {w : World} {A : Around} {E : Value → Shared → Prop} {s : Shared}
end
section
variable {X : Cx} {pos : Pos}
end
section
variable {T : Tab} {n : Nat} {X : Cx} {W : WX} {pos : Pos}
end
end DI
end

section
set_option Elab.async false
set_option linter.all false
set_option maxRecDepth 100000
namespace DI
open PySem L2 PySem.Spec PyProof.Rows LamX
section
variable {T : Tab} {K : PySem.W.Frag} {P : Program} {w : World} {mg : Str → Option Value} {base : Heap} {n : Nat} {e : Option (Nat × Addr × Value × Option Addr)} {c : Option (Addr × Addr × Str × Nat × List (Option V))}
theorem KxC.spr {a : Abs} {H : Hp} {E : XK} {x : DI.D} {μ : Mem} (k : KxC (T.sp e c) K a H E x μ) : KxC T K a H E x μ := by
  obtain ⟨c, ns, vs, e, k⟩ := k
  exact ⟨c, ns, vs, e, fun b dd ws H' st hm rv hl hd => k b dd ws H' st hm.sp (Reps.sp _ _ rv) hl hd⟩
theorem KxC.sp {a : Abs} {H : Hp} {E : XK} {x : DI.D} {μ : Mem} (k : KxC T K a H E x μ) : KxC (T.sp e c) K a H E x μ := KxC.spr (T := T.sp e c) (e := T.ex) (c := T.clo) k
theorem spD.spr {f : Nat} {vs : List V} {H : Hp} {Q : VK} {E : XK} (h : spD (T.sp e c) K n f vs H Q E) : spD T K n f vs H Q E := by
  obtain ⟨a, μ, ds, m, r, q⟩ := h
  exact ⟨a, μ, ds, m.spr, r.spr, q.mono (fun d μ' k b v H' st hm rr => k b v H' st hm.sp (Rep.sp _ _ rr)) fun x μ' k => k.spr⟩
theorem FnG.spS {k : Nat} {f : Addr} {fd : FuncData} {ps : List Str} {i : Nat} (F : FnG P w K mg base k f fd ps (spD T K n i)) : FnG P w K mg base k f fd ps (spD (T.sp e c) K n i) :=
  ⟨fun vs H Q E h => F.len vs H Q E h.spr, fun A outer s H args us vs Q E hr hg e0 hb r h => F.run A outer s H args us vs Q E hr hg e0 hb r h.spr⟩
theorem BindOk.spS {fd : FuncData} {ps : List Str} {F : Fn} {m : Nat} {ix : List Nat} {ks : List Str} (B : BindOk T K fd ps F m ix ks) : BindOk (T.sp e c) K fd ps F m ix ks := by
  obtain ⟨g, gV, kb, rel⟩ := B.ex
  exact ⟨g, gV, kb, fun a args vs kv zs ds r rz l1 l2 hb => Reps.sp _ _ (rel a args vs kv zs ds r.spr rz.spr l1 l2 hb)⟩
theorem FnsOk.spS (F : FnsOk T P w K mg base n) : FnsOk (T.sp e c) P w K mg base n := fun f Fd hF => by
  obtain ⟨fd, ps, Fo, kp, fn, hB⟩ := (F f Fd hF).ex
  exact ⟨fd, ps, Fo.spS, kp, fn, fun m ix ks hf => (hB m ix ks hf).spS⟩
theorem TabOk.spS (t : TabOk T K) : TabOk (T.sp e c) K := ⟨t.sysm, t.an, t.meth, t.prop, t.fld, t.init, t.xf, t.spec, t.nosp⟩
end
section
variable {T : Tab} {n : Nat} {X : Cx} {W : WX}
/-- the context of a lambda's body -/
abbrev lamCxN (X : Cx) (A : Around) (outer : List PySem.Env) (s : Shared) (H : Hp) (E : XK) (scope : Scope) (f c' : Addr) : Cx :=
  (lamCx X A outer s H E scope f c').wish fun e s' => wpAny (model X.prog X.w) (A.deeper (lamEnv X scope s.heap.objs.size f c')) (leaving (lamEnv X scope s.heap.objs.size f c') e) (fun _ s'' => L2N.CX X.prog X.w outer H s E e s'') (fun e' s'' => L2N.CX X.prog X.w outer H s E e' s'') s'
end
end DI
end

section
set_option Elab.async false
set_option linter.all false
set_option maxRecDepth 100000
namespace DI
open PySem L2 PySem.Spec PyProof.Rows LamX
/-- the heap behind the making of a lambda -/
structure LamH (H H1 : Hp) (P c' : Addr) (q : Str) : Prop where
  keep : ∀ p o, p ≠ P → H p = some o → H1 p = some o
  tab : ∃ ps, H P = some (.tbl ps)
  tab1 : ∃ ps, H1 P = some (.tbl ps)
  new : ∀ p o, H1 p = some o → p ≠ P → p ≠ c' → H p = some o
  code : H1 c' = some (CodeO c' q)
theorem LamH.ne {H H1 : Hp} {P c' : Addr} {q : Str} (L : LamH H H1 P c' q) {p : Addr} {o : HO} (e : H p = some o) (n : ∀ ps, o ≠ .tbl ps) : p ≠ P := fun z => by
  obtain ⟨ps, e2⟩ := L.tab
  rw [z, e2] at e; exact n ps (Option.some.inj e).symm
theorem LamH.dom {H H1 : Hp} {P c' : Addr} {q : Str} (L : LamH H H1 P c' q) {p : Addr} (e : H1 p = none) : H p = none := by
  cases h : H p with
  | none => rfl
  | some o =>
    by_cases z : p = P
    · obtain ⟨ps, e2⟩ := L.tab1
      rw [z, e2] at e; cases e
    · rw [L.keep _ _ z h] at e; cases e
/-- .. its code object is frozen -/
theorem HolM.lam {T : Tab} {K : PySem.W.Frag} {a : Abs} {μ : Mem} {H H1 : Hp} {P c' : Addr} {q : Str} (m : HolM T K a μ H) (L : LamH H H1 P c' q) (T1 : Tabs T.tbs H1) (gP : a.G P = none) : ∃ b, Stp a H b H1 ∧ HolM T K b μ H1 ∧ b.G c' = some (CodeO c' q) := by
  have le1 : ∀ p o, a.G p = some o → H1 p = some o := fun p o e => L.keep _ _ (fun z => by rw [z, gP] at e; cases e) (m.le _ _ e)
  have st1 : ∀ (n : Nat) (p : Addr) (ob : Ob), a.α[n]? = some p → (μ : List Ob)[n]? = some ob → a.G p = none ∧ ObRep T K a H1 p ob := fun n p ob e1 e2 => by
    obtain ⟨g, r⟩ := m.st n p ob e1 e2
    refine ⟨g, r.keep a.le_refl (fun x u e hx => L.keep _ _ (L.ne e ?_) e) fun x h _ => h⟩
    rcases hx with rfl | rfl
    · exact (r.noTE _ e).1
    · exact fun ps z => by cases z
  have ow1 : ∀ q p, H1 q = some (.own p) → H q = some (.own p) := fun q p e => L.new _ _ e (fun z => by obtain ⟨ps, e2⟩ := L.tab1; rw [z, e2] at e; cases e) (fun z => by rw [z, L.code] at e; cases e)
  have m1 : HolM T K a μ H1 := ⟨le1, m.len, m.nd, st1, fun q p e z => m.ow q p (ow1 q p e) (L.dom z), T1, m.tb2⟩
  have na : c' ∉ a.α := fun h => by
    obtain ⟨i, hi⟩ := List.mem_iff_getElem?.mp h
    obtain ⟨ob, _, _, r⟩ := m1.at hi
    exact (r.noTE _ L.code).2 _ rfl
  have frame : ∀ p o, H p = some o → a.G p = none → p ∉ a.α → ¬ IsTE o → H1 p = some o ∧ a.G p = none ∧ p ∉ a.α := fun p o e1 e2 e3 nt => ⟨L.keep _ _ (L.ne e1 fun ps z => nt (.inl ⟨ps, z⟩)) e1, e2, e3⟩
  have tl : ∀ p o, H p = some o → IsTE o → ∃ o', H1 p = some o' ∧ IsTE o' := fun p o e t => by
    by_cases z : p = P
    · obtain ⟨qs, e2⟩ := L.tab1
      exact ⟨_, by rw [z]; exact e2, .inl ⟨_, rfl⟩⟩
    · exact ⟨_, L.keep _ _ z e, t⟩
  cases hg : a.G c' with
  | some o =>
    have e := le1 _ _ hg
    rw [L.code] at e; cases e
    exact ⟨a, ⟨a.le_refl, fun p e => L.dom e, frame, tl⟩, m1, hg⟩
  | none =>
    obtain ⟨m2, le⟩ := m1.freezeAt L.code hg na (fun _ z => by cases z) (fun _ z => by cases z)
    refine ⟨_, ⟨le, fun p e => L.dom e, fun p o e1 e2 e3 nt => ?_, tl⟩, m2, upd_same⟩
    obtain ⟨x, y, z⟩ := frame p o e1 e2 e3 nt
    have hp : p ≠ c' := fun hz => nt (.inr ⟨_, by rw [hz, L.code] at x; exact (Option.some.inj x).symm⟩)
    exact ⟨x, (upd_ne hp).trans y, z⟩
section
variable {X : Cx} {pins : List (Addr × Obj)} {σ : L2.St} {H : Hp} {s : Shared}
end
section
variable {T : Tab} {n : Nat} {X : Cx} {W : WX} {pos : Pos}
/-- what the body of a def that takes a lambda is to show -/
def BodyOkT (T : Tab) (P : Program) (w : World) (K : PySem.W.Frag) (mg : Str → Option Value) (base : Heap) (n : Nat) (N : List Str) (qual : Str) (scope : Scope) (f : Addr) (nm : Str) (body : List Stmt) (b : Ss) : Prop :=
  ∀ (clo : Option (Addr × Addr × Str × Nat × List (Option V))) (A : Around) (outer : List PySem.Env) (s : Shared) (H : Hp) (E : XK) (W : WX), Own (T.sp none clo) n (cxOf (L2N.CX P w) P w K mg base N qual scope f (cdOf K f) A outer s H E) → Takes (cxOf (L2N.CX P w) P w K mg base N qual scope f (cdOf K f) A outer s H E) W →
    (∀ (p1 p2 : Pos) (pn : List (Addr × Obj)) (xe : Value → Shared → Prop) (W' : WX), Takes ((cxOf (L2N.CX P w) P w K mg base N qual scope f (cdOf K f) A outer s H E).tr pn xe) W' → SE (T.sp none clo) n ((cxOf (L2N.CX P w) P w K mg base N qual scope f (cdOf K f) A outer s H E).tr pn xe) W' (.Call (.Name nm p1) [] [] p2) (.app 0 .n)) →
    SSs (T.sp none clo) n (cxOf (L2N.CX P w) P w K mg base N qual scope f (cdOf K f) A outer s H E) W body b
/-- no lambda at hand: nothing is called -/
theorem se_app0 (ncl : T.clo = none) {i : Nat} {x : Expr} : SE T n X W x (.app i .n) := by
  refine ⟨fun pins s σ H Q I h => ?_⟩
  obtain ⟨a2, ρ2, μ2, ho2, q2⟩ := h
  simp only [evE, evEs, R.bind_ok] at q2
  split at q2
  · rename_i hg
    obtain ⟨v, hs, p, c, q, σ0, ec, _⟩ := ho2.env i _ hg
    rw [ncl] at ec; cases ec
  · exact q2.elim
theorem BodyOkT.plain {P : Program} {w : World} {K : PySem.W.Frag} {mg : Str → Option Value} {base : Heap} {N : List Str} {qual : Str} {scope : Scope} {f : Addr} {nm : Str} {body : List Stmt} {b : Ss} (nex : T.ex = none) (ncl : T.clo = none) (h : BodyOkT T P w K mg base n N qual scope f nm body b) : BodyOk T P w K mg base n N qual scope f body b := by
  obtain ⟨a1, a2, a3, a4, a5, a6, a7, ex, clo, a8, a9, a10⟩ := T
  cases nex; cases ncl
  exact fun A outer s H E W O tk => h none A outer s H E W O tk fun p1 p2 pn xe W' _ => se_app0 rfl
section
variable {P : Program} {w : World} {K : PySem.W.Frag} {mg : Str → Option Value} {base : Heap}
theorem thk_ok {x qual nm : Str} {params : Arguments} {body : List Stmt} {scope : Scope} {dvs : List V} {kws : List (Str × V)} {i : Nat} {fd : FuncData} {N : List Str} {F : Fn} (hF : T.P.fns i = some F) (Fd : FunD K x qual params body scope dvs kws (T.fa i) fd) (S : FnScope N [nm] scope)
    (hbd : ∀ (s : Shared) (u : Value), K.In s.heap → BindsTo s fd ⟨[u], []⟩ ([nm].zip [u])) (hN : N[0]? = some nm) (hv : Vis scope nm) (hd : (nm == ("__debug__" : Str)) = false) (hcd : (nm == ("__classdict__" : Str)) = false) (h1 : F.np = 1) (h2 : F.nn = N.length) (tab : TabOk T K) (tabs : ∀ q ∈ T.cds, TabB base mg q.1 q.2)
    (fns : ∀ j, j ≤ n → FnsOk T P w K mg base j) (hb : BodyOkT T P w K mg base n N qual scope (T.fa i) nm body F.body) : ThkF T P w K mg base (n + 1) i := by
  refine ⟨N, qual, scope, nm, hN, hv, hd, hcd, Fd.kp, fun A outer s H Q E p c q k σ0 a ρ' μ hr hg e0 hap hm he hq => ?_⟩
  have hq : WpR (calD T.P T.reprS (n + 1) i [.clo k ρ'] μ) _ _ := hq
  simp only [calD, hF, h1, List.length_cons, List.length_nil, Nat.zero_add, if_true] at hq
  obtain ⟨oc, od, dV, kV, doc, pm, an, cdv, ct, osl, rfl, lk, hcdv, _, _⟩ := Fd.ex
  have ecd : cdOf K (T.fa i) = cdv := by unfold cdOf; rw [lk]
  have KX : K.In s.heap := e0.mod.kin.keeps fun b o e => (e0.bs b o e).1
  have e : T.C n = ⟨calD T.P T.reprS n, lamD T.P T.reprS n⟩ := rfl
  have key : WpS (evSs T.P (T.C n) T.reprS F.body ([DI.D.clo k ρ'].map some ++ List.replicate (F.nn - 1) none) μ) (fun _ μ' => WpR (fin F.keep μ .non μ') (fun d μ' => ∀ b v H', Stp a H b H' → HolM T K b μ' H' → Rep T K b d v → Q v H') (KxC T K a H E))
      (fun d μ' => WpR (fin F.keep μ d μ') (fun d μ' => ∀ b v H', Stp a H b H' → HolM T K b μ' H' → Rep T K b d v → Q v H') (KxC T K a H E)) (fun x _ μ' => WpR (finX F.keep μ x μ') (fun d μ' => ∀ b v H', Stp a H b H' → HolM T K b μ' H' → Rep T K b d v → Q v H') (KxC T K a H E)) := by
    rw [e]
    cases h : evSs T.P ⟨calD T.P T.reprS n, lamD T.P T.reprS n⟩ T.reprS F.body ([DI.D.clo k ρ'].map some ++ List.replicate (F.nn - 1) none) μ with
    | nx ρ μ' => rw [h] at hq; exact hq
    | rt d μ' => rw [h] at hq; exact hq
    | ex x ρ μ' => rw [h] at hq; exact hq
    | no => rw [h] at hq; exact hq
  refine run_ofS (k := 3 * n + 2) (N := N) (ps := [nm]) (us := [.ref p]) (vs := [.ref p]) lk hcdv S hr e0 (hbd s (.ref p) KX) (.cons rfl .nil) rfl fun hr' => ?_
  unfold BodyOkT at hb
  rw [ecd] at hb hap
  refine ⟨_, hb (some (p, c, q, k, σ0)) A outer s H E (fun cls d _ H => E cls d H) ⟨rfl, hr', hg, fun j hj => (fns j hj).spS, (fun z => nomatch z), tab.spS, tabs, rfl⟩ (L2N.takes_of rfl rfl rfl rfl) (hap n rfl), ?_⟩
  refine ⟨a, _, μ, ⟨hm.sp, ?_, fun i d e => ?_⟩, key.mono (fun ρ' μ' k b σ' H' st ho => ?_) (fun d μ' k b v H' st hm rv => ?_) fun x ρ' μ' k => ?_⟩
  · unfold L2.start; rw [h2]; simp
  · cases i with
    | zero =>
      have e : some (DI.D.clo k ρ') = some d := e
      cases e
      exact ⟨.ref p, by unfold L2.start; rfl, he⟩
    | succ i =>
      exfalso
      unfold getE at e
      rw [show ([DI.D.clo k ρ'].map some ++ List.replicate (F.nn - 1) none)[i + 1]? = (List.replicate (F.nn - 1) (none : Option DI.D))[i]? from by simp] at e
      rw [List.getElem?_replicate] at e
      split at e <;> simp at e
  · obtain ⟨c, d', μ2, s2, m2, r2, k2⟩ := fin_ok hm k st ho.m.spr (d := .non) (v := .non) (by simp only [Rep])
    exact k2 c _ H' s2 m2 r2
  · obtain ⟨c, d', μ2, s2, m2, r2, k2⟩ := fin_ok ‹HolM T K a μ H› k st hm.spr rv.spr
    exact k2 c _ H' s2 m2 r2
  · obtain ⟨c, ns, vs, e, k⟩ := finX_ok hm k
    exact ⟨c, ns, vs, e, fun b dd ws σ' H' st ho rv hn hx => k b dd ws H' st ho.m.spr rv.spr hn hx⟩
theorem thk_ok0 {i : Nat} {N : List Str} {qual nm : Str} {scope : Scope} (hN : N[0]? = some nm) (hv : Vis scope nm) (hd : (nm == ("__debug__" : Str)) = false) (hcd : (nm == ("__classdict__" : Str)) = false) (kp : PySem.W.keepIn K (.ref (T.fa i)) = true) : ThkF T P w K mg base 0 i :=
  ⟨N, qual, scope, nm, hN, hv, hd, hcd, kp, fun A outer s H Q E p c q k σ0 a ρ' μ hr hg e0 hap hm he hq => (show False from hq).elim⟩
end
end
end DI
end

section
set_option Elab.async false
set_option linter.all false
set_option maxRecDepth 100000
namespace DI
open PySem PySem.W PySem.SeqAt
open AutoSeq1 (wpAny_loadPart')
open MeetsSeq
def NoSub (h : Heap) (C : Addr) (T : String) : Prop := ∀ M : Model, Looks M h (isSubtype (.ref C) (.type T)) false
theorem str_eq_dec (x : Str) (t : Tok) (l C dx : Addr) :
    Meets (Builtin.«str.__eq__» ⟨[.str x t, .ref l], []⟩) (fun _ R s => s.heap.get? l = some (instObj C dx) ∧ R (.ok (.ret .notImplemented)) s) :=
  .of_wp fun prog w A R s h => by obtain ⟨hp, g, d, tk, os⟩ := s; obtain ⟨hl, h⟩ := h; wp_walk using wpAny_loadPart' hl, wpAny_load hl; exact ⟨_, rfl, h⟩
theorem str_ne_dec (x : Str) (t : Tok) (l C dx : Addr) :
    Meets (Builtin.«str.__ne__» ⟨[.str x t, .ref l], []⟩) (fun _ R s => s.heap.get? l = some (instObj C dx) ∧ R (.ok (.ret .notImplemented)) s) :=
  .of_wp fun prog w A R s h => by obtain ⟨hp, g, d, tk, os⟩ := s; obtain ⟨hl, h⟩ := h; wp_walk using wpAny_loadPart' hl, wpAny_load hl; exact ⟨_, rfl, h⟩
theorem int_eq_dec (x : Int) (t : Tok) (l C dx : Addr) :
    Meets (Builtin.«int.__eq__» ⟨[.int x t, .ref l], []⟩) (fun _ R s => s.heap.get? l = some (instObj C dx) ∧ R (.ok (.ret .notImplemented)) s) :=
  .of_wp fun prog w A R s h => by obtain ⟨hp, g, d, tk, os⟩ := s; obtain ⟨hl, h⟩ := h; wp_walk using wpAny_loadPart' hl, wpAny_load hl; exact ⟨_, rfl, h⟩
theorem int_ne_dec (x : Int) (t : Tok) (l C dx : Addr) :
    Meets (Builtin.«int.__ne__» ⟨[.int x t, .ref l], []⟩) (fun _ R s => s.heap.get? l = some (instObj C dx) ∧ R (.ok (.ret .notImplemented)) s) :=
  .of_wp fun prog w A R s h => by obtain ⟨hp, g, d, tk, os⟩ := s; obtain ⟨hl, h⟩ := h; wp_walk using wpAny_loadPart' hl, wpAny_load hl; exact ⟨_, rfl, h⟩
theorem bool_eq_dec (x : Bool) (l C dx : Addr) :
    Meets (Builtin.«int.__eq__» ⟨[.bool x, .ref l], []⟩) (fun _ R s => s.heap.get? l = some (instObj C dx) ∧ R (.ok (.ret .notImplemented)) s) :=
  .of_wp fun prog w A R s h => by obtain ⟨hp, g, d, tk, os⟩ := s; obtain ⟨hl, h⟩ := h; wp_walk using wpAny_loadPart' hl, wpAny_load hl; exact ⟨_, rfl, h⟩
theorem bool_ne_dec (x : Bool) (l C dx : Addr) :
    Meets (Builtin.«int.__ne__» ⟨[.bool x, .ref l], []⟩) (fun _ R s => s.heap.get? l = some (instObj C dx) ∧ R (.ok (.ret .notImplemented)) s) :=
  .of_wp fun prog w A R s h => by obtain ⟨hp, g, d, tk, os⟩ := s; obtain ⟨hl, h⟩ := h; wp_walk using wpAny_loadPart' hl, wpAny_load hl; exact ⟨_, rfl, h⟩
theorem non_eq_dec (l : Addr) : Gives (Builtin.«NoneType.__eq__» ⟨[.none, .ref l], []⟩) (.val (Value.notImplemented)) :=
  .of_wp fun M A E s Q h => by obtain ⟨hp, g, d, tk, os⟩ := s; wp_walk; exact ⟨_, rfl, h⟩
theorem non_ne_dec (l : Addr) : Gives (Builtin.«NoneType.__ne__» ⟨[.none, .ref l], []⟩) (.val (Value.notImplemented)) :=
  .of_wp fun M A E s Q h => by obtain ⟨hp, g, d, tk, os⟩ := s; wp_walk; exact ⟨_, rfl, h⟩
theorem list_eq_dec (p l C dx : Addr) (it : Array Value) (n : Nat) (dd : Option Addr) (sl : Array (Option Value)) :
    Meets (Builtin.«list.__eq__» ⟨[.ref p, .ref l], []⟩) (fun _ R s => s.heap.get? p = some { cls := .type "list", dict := dd, data := .seq it n, slots := sl } ∧ s.heap.get? l = some (instObj C dx) ∧ NoSub s.heap C "list" ∧ R (.ok (.ret .notImplemented)) s) :=
  .of_wp fun prog w A R s h => by
    obtain ⟨hp, g, d, tk, os⟩ := s; obtain ⟨hp, hl, hs, h⟩ := h
    have sub : ∀ {M : Model} {A : Around} {E : Value → Shared → Prop} {Q : Bool → Shared → Prop} {tk : Nat}, Q false ⟨_, g, d, tk, os⟩ → wpAny M A (isSubtype (.ref C) (.type "list")) Q E ⟨_, g, d, tk, os⟩ := fun {M} {A} {E} {Q} {tk} q => (hs M).here (s := ⟨_, g, d, tk, os⟩) q
    wp_walk using wpAny_loadPart' hp, wpAny_load hp, wpAny_loadPart' hl, wpAny_load hl, sub; exact ⟨_, rfl, h⟩
theorem list_ne_dec (p l C dx : Addr) (it : Array Value) (n : Nat) (dd : Option Addr) (sl : Array (Option Value)) :
    Meets (Builtin.«list.__ne__» ⟨[.ref p, .ref l], []⟩) (fun _ R s => s.heap.get? p = some { cls := .type "list", dict := dd, data := .seq it n, slots := sl } ∧ s.heap.get? l = some (instObj C dx) ∧ NoSub s.heap C "list" ∧ R (.ok (.ret .notImplemented)) s) :=
  .of_wp fun prog w A R s h => by
    obtain ⟨hp, g, d, tk, os⟩ := s; obtain ⟨hp, hl, hs, h⟩ := h
    have sub : ∀ {M : Model} {A : Around} {E : Value → Shared → Prop} {Q : Bool → Shared → Prop} {tk : Nat}, Q false ⟨_, g, d, tk, os⟩ → wpAny M A (isSubtype (.ref C) (.type "list")) Q E ⟨_, g, d, tk, os⟩ := fun {M} {A} {E} {Q} {tk} q => (hs M).here (s := ⟨_, g, d, tk, os⟩) q
    wp_walk using wpAny_loadPart' hp, wpAny_load hp, wpAny_loadPart' hl, wpAny_load hl, sub; exact ⟨_, rfl, h⟩
theorem tuple_eq_dec (p l C dx : Addr) (it : Array Value) (n : Nat) (dd : Option Addr) (sl : Array (Option Value)) :
    Meets (Builtin.«tuple.__eq__» ⟨[.ref p, .ref l], []⟩) (fun _ R s => s.heap.get? p = some { cls := .type "tuple", dict := dd, data := .seq it n, slots := sl } ∧ s.heap.get? l = some (instObj C dx) ∧ NoSub s.heap C "tuple" ∧ R (.ok (.ret .notImplemented)) s) :=
  .of_wp fun prog w A R s h => by
    obtain ⟨hp, g, d, tk, os⟩ := s; obtain ⟨hp, hl, hs, h⟩ := h
    have sub : ∀ {M : Model} {A : Around} {E : Value → Shared → Prop} {Q : Bool → Shared → Prop} {tk : Nat}, Q false ⟨_, g, d, tk, os⟩ → wpAny M A (isSubtype (.ref C) (.type "tuple")) Q E ⟨_, g, d, tk, os⟩ := fun {M} {A} {E} {Q} {tk} q => (hs M).here (s := ⟨_, g, d, tk, os⟩) q
    wp_walk using wpAny_loadPart' hp, wpAny_load hp, wpAny_loadPart' hl, wpAny_load hl, sub; exact ⟨_, rfl, h⟩
theorem tuple_ne_dec (p l C dx : Addr) (it : Array Value) (n : Nat) (dd : Option Addr) (sl : Array (Option Value)) :
    Meets (Builtin.«tuple.__ne__» ⟨[.ref p, .ref l], []⟩) (fun _ R s => s.heap.get? p = some { cls := .type "tuple", dict := dd, data := .seq it n, slots := sl } ∧ s.heap.get? l = some (instObj C dx) ∧ NoSub s.heap C "tuple" ∧ R (.ok (.ret .notImplemented)) s) :=
  .of_wp fun prog w A R s h => by
    obtain ⟨hp, g, d, tk, os⟩ := s; obtain ⟨hp, hl, hs, h⟩ := h
    have sub : ∀ {M : Model} {A : Around} {E : Value → Shared → Prop} {Q : Bool → Shared → Prop} {tk : Nat}, Q false ⟨_, g, d, tk, os⟩ → wpAny M A (isSubtype (.ref C) (.type "tuple")) Q E ⟨_, g, d, tk, os⟩ := fun {M} {A} {E} {Q} {tk} q => (hs M).here (s := ⟨_, g, d, tk, os⟩) q
    wp_walk using wpAny_loadPart' hp, wpAny_load hp, wpAny_loadPart' hl, wpAny_load hl, sub; exact ⟨_, rfl, h⟩
theorem dict_eq_dec (p l C dx : Addr) :
    Meets (Builtin.«dict.__eq__» ⟨[.ref p, .ref l], []⟩) (fun _ R s => s.heap.get? l = some (instObj C dx) ∧ NoSub s.heap C "dict" ∧ R (.ok (.ret .notImplemented)) s) :=
  .of_wp fun prog w A R s h => by
    obtain ⟨hp, g, d, tk, os⟩ := s; obtain ⟨hl, hs, h⟩ := h
    have sub : ∀ {M : Model} {A : Around} {E : Value → Shared → Prop} {Q : Bool → Shared → Prop} {tk : Nat}, Q false ⟨_, g, d, tk, os⟩ → wpAny M A (isSubtype (.ref C) (.type "dict")) Q E ⟨_, g, d, tk, os⟩ := fun {M} {A} {E} {Q} {tk} q => (hs M).here (s := ⟨_, g, d, tk, os⟩) q
    wp_walk using wpAny_loadPart' hl, wpAny_load hl, sub; exact ⟨_, rfl, h⟩
theorem dict_ne_dec (p l C dx : Addr) :
    Meets (Builtin.«dict.__ne__» ⟨[.ref p, .ref l], []⟩) (fun _ R s => s.heap.get? l = some (instObj C dx) ∧ NoSub s.heap C "dict" ∧ R (.ok (.ret .notImplemented)) s) :=
  .of_wp fun prog w A R s h => by
    obtain ⟨hp, g, d, tk, os⟩ := s; obtain ⟨hl, hs, h⟩ := h
    have sub : ∀ {M : Model} {A : Around} {E : Value → Shared → Prop} {Q : Bool → Shared → Prop} {tk : Nat}, Q false ⟨_, g, d, tk, os⟩ → wpAny M A (isSubtype (.ref C) (.type "dict")) Q E ⟨_, g, d, tk, os⟩ := fun {M} {A} {E} {Q} {tk} q => (hs M).here (s := ⟨_, g, d, tk, os⟩) q
    wp_walk using wpAny_loadPart' hl, wpAny_load hl, sub; exact ⟨_, rfl, h⟩
end DI

namespace DI
open PySem PySem.W PySem.Calls PyProof.Rows
section
variable {pg : Program} {wd : World} {B : Around} {Ex : Value → Shared → Prop} {t : Shared} {K : Frag} {x C f L : Addr} {h₀ : Heap} {m : Str → Option Value} {ox : Obj} {odo : Option Obj} {b tb : Value}
theorem ne_bind (self : Value) : bindSpecial (.builtin "object.__ne__") self = pure (.builtin "object.__ne__", [self]) := PySem.F.slot_object_ne.bind self
theorem wpAny_special_b {M : Model} {name : Str} {id : String} {args : List Value} {Q : Option Value → Shared → Prop} (X : K.In t.heap) (I : InstAt t.heap x ox C odo) (hs : findIn K (.ref C) name = some (some (.builtin id))) (bi : ∀ v, bindSpecial (.builtin id) v = pure (.builtin id, [v]))
    (h : wpAny M B (call (.builtin id) (.ref x :: args)) (fun v => Q (some v)) Ex t) : wpAny M B (callSpecialIfBound? (.ref x) name args) Q Ex t := by
  simp only [callSpecialIfBound?, bindSpecialIfBound?]
  refine wpAny_holding (wpAny_bind (wpAny_bind (wpAny_bind (I.type.here ((looks_findIn X hs).here ?_)))))
  simp only [bi]
  refine wpAny_bind (wpAny_askSetting (wpAny_ite ?_))
  have fin : wpAny M B (call (.builtin id) ([.ref x] ++ args) >>= fun v => pure (some v)) Q Ex t := wpAny_bind (wpAny_mono h (fun v s' z => wpAny_pure z) fun _ _ z => z)
  split
  · exact wpAny_bind (wpAny_pure (wpAny_pure fin))
  · exact wpAny_tryCatch (wpAny_bind (wpAny_pure (wpAny_pure fin)))
/-- object.__ne__ asks the own __eq__ -/
theorem objNe_K (X : K.In t.heap) (I : InstAt t.heap x ox C odo) (hu : B.units < cLine) (hs : findIn K (.ref C) "__eq__" = some (some (.ref f))) (hf : isFn K (.ref f) = true) {Q : Fin → Shared → Prop}
    (h : wpAny (model pg wd) B (call (.ref f) [.ref x, b]) (fun v s' => ∃ c, v = .bool c ∧ Q (.done (.ret (.bool (!c)))) s') Ex t) : wpAny (model pg wd) B (Builtin.«object.__ne__» ⟨[.ref x, b], []⟩) Q Ex t := by
  unfold Builtin.«object.__ne__»
  repeat (first
    | with_reducible refine wpAny_cRoomFor hu ?_
    | (refine wpAny_bind (m := callSpecialIfBound? (.ref x) (Str.ofString "__eq__") [b]) (ifBound_K X I hs hf (wpAny_mono h (fun r s' hr => by
          obtain ⟨c, rfl, hq⟩ := hr
          repeat (first | exact hq | exact wpAny_pure hq | exact wpAny_truthy_bool hq | (refine wpAny_bind (m := truthy (.bool _)) (wpAny_truthy_bool ?_)) | wp_step)) fun _ _ z => z)))
    | wp_step)

/-- a built-in at the left declines -/
def Dec (pg : Program) (wd : World) (op : CmpOp) (Ta : String) (a b : Value) (t : Shared) : Prop := ∃ id, Slot Ta (cmpInfo op).2.1 id ∧ ∀ (A : Around) (E : Value → Shared → Prop) (Q : Value → Shared → Prop), Q .notImplemented t → wpAny (model pg wd) A (call (.builtin id) [a, b]) Q E t
theorem rc_right {Ta : String} {op : CmpOp} {a : Value} {Q : Value → Shared → Prop} (X : K.In t.heap) (I : InstAt t.heap x ox C odo) (ha : t.TypeIs a Ta) (hu : B.units < cLine) (sub : mroIn K C (.type Ta) = some false) (D : Dec pg wd op Ta a (.ref x) t)
    (h : wpAny (model pg wd) B (tryCompare (.ref x) (cmpInfo op).2.2 a) (fun r s' => ∃ v, r = some v ∧ Q v s') Ex t) : wpAny (model pg wd) B (richCompare op a (.ref x)) Q Ex t := by
  obtain ⟨id, h1, hc⟩ := D
  rcases hi : cmpInfo op with ⟨sym, f, r⟩
  rw [hi] at h1 h
  simp only [richCompare, hi, ha.oneThing_none]
  refine wpAny_holding (wpAny_bind (wpAny_cRoomFor hu ?_))
  refine wpAny_bind (wpAny_typeOf ha (wpAny_bind (I.type.here ?_)))
  have ne : (Value.type Ta != Value.ref C) = true := rfl
  have ne2 : (Value.ref C != Value.type Ta) = true := rfl
  first | rw [if_pos ne] | rw [if_pos ne2] | simp only [ne, if_true]
  refine wpAny_bind ((looks_mroIn X sub).here ?_)
  simp only [Bool.false_eq_true, if_false, Bool.not_false, if_true]
  refine wpAny_bind (m := tryCompare a _ _) (wpAny_tryCompare_declines ha h1 (hc _ _ _ ⟨rfl, ?_⟩))
  refine wpAny_bind (wpAny_mono h (fun r s' z => ?_) fun _ _ e => e)
  obtain ⟨v, rfl, hq⟩ := z
  exact wpAny_pure hq
/-- an own __eq__ asked -/
theorem try_eq {a : Value} {Q : Value → Shared → Prop} (X : K.In t.heap) (I : InstAt t.heap x ox C odo) (hs : findIn K (.ref C) "__eq__" = some (some (.ref f))) (hf : isFn K (.ref f) = true)
    (h : wpAny (model pg wd) B (call (.ref f) [.ref x, a]) (PySem.W.CmpBack Q) Ex t) : wpAny (model pg wd) B (tryCompare (.ref x) "__eq__" a) (fun r s' => ∃ v, r = some v ∧ Q v s') Ex t := by
  unfold tryCompare
  refine wpAny_bind (ifBound_K X I hs hf (wpAny_mono h (fun v s' hv => ?_) fun _ _ e => e))
  cases v <;> first | exact hv.elim | exact wpAny_pure ⟨_, rfl, hv⟩
/-- object.__ne__ asked -/
theorem try_ne {a : Value} {Q : Value → Shared → Prop} (X : K.In t.heap) (I : InstAt t.heap x ox C odo) (hu : B.units + 1 < cLine) (po : plainOver K C = true)
    (hne : findIn K (.ref C) "__ne__" = some (some (.builtin "object.__ne__"))) (hs : findIn K (.ref C) "__eq__" = some (some (.ref f))) (hf : isFn K (.ref f) = true)
    (h : wpAny (model pg wd) B.in1 (call (.ref f) [.ref x, a]) (fun v s' => ∃ c, v = .bool c ∧ Q (.bool (!c)) s') Ex t) : wpAny (model pg wd) B (tryCompare (.ref x) "__ne__" a) (fun r s' => ∃ v, r = some v ∧ Q v s') Ex t := by
  obtain ⟨cd, hc, ho⟩ := any_some po
  have em : cd.mro.isEmpty = false := by cases q : cd.mro with | nil => rw [q] at ho; cases ho | cons _ _ => rfl
  have sub : Looks (model pg wd) t.heap (isInstance (.ref x) (.type "object")) true := I.type.andThen (looks_mroIn X (by unfold mroIn; rw [hc, Option.bind_some, em, only_has ho]; rfl))
  unfold tryCompare
  refine wpAny_bind (wpAny_special_b X I hne ne_bind (wpAny_call (codeAny_call_builtin PySem.F.slot_object_ne.plain PySem.F.cmpEntry_ne (@check_slot (model pg wd) _ _ t "object.__ne__" "object" "__ne__" (.ref x) [a] [] _ PySem.F.cmpKind_ne PySem.F.cmpSplit_ne sub (PySem.F.cmpArgs_ne (.ref x) a)
    (objNe_K (B := B.in1) X I hu hs hf (wpAny_mono h (fun v s' hv => ?_) fun _ _ z => z))))))
  obtain ⟨c, rfl, hq⟩ := hv
  exact ⟨c, rfl, wpAny_pure ⟨_, rfl, hq⟩⟩
end
open MeetsSeq in
/-- which built-in values decline -/
theorem dec_val {pg : Program} {wd : World} {t : Shared} {l C dx : Addr} (hl : t.heap.get? l = some (instObj C dx)) {ne : Bool} :
    (∀ x tk, Dec pg wd (if ne then .NotEq else .Eq) "str" (.str x tk) (.ref l) t) ∧ (∀ x tk, Dec pg wd (if ne then .NotEq else .Eq) "int" (.int x tk) (.ref l) t) ∧ (∀ x, Dec pg wd (if ne then .NotEq else .Eq) "bool" (.bool x) (.ref l) t) ∧ Dec pg wd (if ne then .NotEq else .Eq) "NoneType" .none (.ref l) t := by
  cases ne
  · exact ⟨fun x tk => ⟨_, F.slot_str_eq, fun A E Q q => call_meets F.slot_str_eq (typeIs_str t x tk) F.entry_str_eq (F.args_str_eq_2 _ _) (str_eq_dec x tk l C dx) ⟨hl, q⟩⟩,
      fun x tk => ⟨_, F.slot_int_eq, fun A E Q q => call_meets F.slot_int_eq (typeIs_int t x tk) F.entry_int_eq (F.args_int_eq_2 _ _) (int_eq_dec x tk l C dx) ⟨hl, q⟩⟩,
      fun x => ⟨_, F.slot_bool_eq, fun A E Q q => call_meets F.slot_bool_eq rfl F.entry_int_eq (F.args_int_eq_2 _ _) (bool_eq_dec x l C dx) ⟨hl, q⟩⟩,
      ⟨_, F.slot_NoneType_eq, fun A E Q q => call_gives F.slot_NoneType_eq rfl F.entry_NoneType_eq (F.args_NoneType_eq_2 _ _) (non_eq_dec l) q⟩⟩
  · exact ⟨fun x tk => ⟨_, F.slot_str_ne, fun A E Q q => call_meets F.slot_str_ne (typeIs_str t x tk) F.entry_str_ne (F.args_str_ne_2 _ _) (str_ne_dec x tk l C dx) ⟨hl, q⟩⟩,
      fun x tk => ⟨_, F.slot_int_ne, fun A E Q q => call_meets F.slot_int_ne (typeIs_int t x tk) F.entry_int_ne (F.args_int_ne_2 _ _) (int_ne_dec x tk l C dx) ⟨hl, q⟩⟩,
      fun x => ⟨_, F.slot_bool_ne, fun A E Q q => call_meets F.slot_bool_ne rfl F.entry_int_ne (F.args_int_ne_2 _ _) (bool_ne_dec x l C dx) ⟨hl, q⟩⟩,
      ⟨_, F.slot_NoneType_ne, fun A E Q q => call_gives F.slot_NoneType_ne rfl F.entry_NoneType_ne (F.args_NoneType_ne_2 _ _) (non_ne_dec l) q⟩⟩
open MeetsSeq in
theorem dec_ref {pg : Program} {wd : World} {t : Shared} {l p C dx : Addr} (hl : t.heap.get? l = some (instObj C dx)) {ne : Bool} :
    (∀ it n dd sl, t.heap.get? p = some { cls := .type "list", dict := dd, data := .seq it n, slots := sl } → NoSub t.heap C "list" → Dec pg wd (if ne then .NotEq else .Eq) "list" (.ref p) (.ref l) t) ∧
    (∀ it n dd sl, t.heap.get? p = some { cls := .type "tuple", dict := dd, data := .seq it n, slots := sl } → NoSub t.heap C "tuple" → Dec pg wd (if ne then .NotEq else .Eq) "tuple" (.ref p) (.ref l) t) ∧
    (t.TypeIs (.ref p) "dict" → NoSub t.heap C "dict" → Dec pg wd (if ne then .NotEq else .Eq) "dict" (.ref p) (.ref l) t) := by
  cases ne
  · exact ⟨fun it n dd sl hp hs => ⟨_, F.slot_list_eq, fun A E Q q => call_meets F.slot_list_eq ⟨_, hp, rfl⟩ F.entry_list_eq (F.args_list_eq_2 _ _) (list_eq_dec p l C dx it n dd sl) ⟨hp, hl, hs, q⟩⟩,
      fun it n dd sl hp hs => ⟨_, F.slot_tuple_eq, fun A E Q q => call_meets F.slot_tuple_eq ⟨_, hp, rfl⟩ F.entry_tuple_eq (F.args_tuple_eq_2 _ _) (tuple_eq_dec p l C dx it n dd sl) ⟨hp, hl, hs, q⟩⟩,
      fun hp hs => ⟨_, F.slot_dict_eq, fun A E Q q => call_meets F.slot_dict_eq hp F.entry_dict_eq (F.args_dict_eq_2 _ _) (dict_eq_dec p l C dx) ⟨hl, hs, q⟩⟩⟩
  · exact ⟨fun it n dd sl hp hs => ⟨_, F.slot_list_ne, fun A E Q q => call_meets F.slot_list_ne ⟨_, hp, rfl⟩ F.entry_list_ne (F.args_list_ne_2 _ _) (list_ne_dec p l C dx it n dd sl) ⟨hp, hl, hs, q⟩⟩,
      fun it n dd sl hp hs => ⟨_, F.slot_tuple_ne, fun A E Q q => call_meets F.slot_tuple_ne ⟨_, hp, rfl⟩ F.entry_tuple_ne (F.args_tuple_ne_2 _ _) (tuple_ne_dec p l C dx it n dd sl) ⟨hp, hl, hs, q⟩⟩,
      fun hp hs => ⟨_, F.slot_dict_ne, fun A E Q q => call_meets F.slot_dict_ne hp F.entry_dict_ne (F.args_dict_ne_2 _ _) (dict_ne_dec p l C dx) ⟨hl, hs, q⟩⟩⟩
end DI
end

section
set_option Elab.async false
set_option linter.all false
set_option maxRecDepth 100000
namespace DI
open PySem PySem.W PySem.Calls PyProof.Rows
section
variable {pg : Program} {wd : World} {B : Around} {Ex : Value → Shared → Prop} {t : Shared} {K : Frag} {x C f L : Addr} {h₀ : Heap} {m : Str → Option Value} {ox : Obj} {odo : Option Obj} {b tb : Value}
/-- x != b by an own __eq__ and object.__ne__ -/
theorem ne_own (F : Fr h₀ L t.heap m) (X0 : K.In h₀) (I : InstAt t.heap x ox C odo) (hu : B.units + 1 < cLine) (hb : Looks (model pg wd) t.heap (typeOf b) tb) (hn : notFirst K C tb = true) (po : plainOver K C = true)
    (hne : findIn K (.ref C) "__ne__" = some (some (.builtin "object.__ne__"))) (hs : findIn K (.ref C) "__eq__" = some (some (.ref f))) (hf : isFn K (.ref f) = true) {Q : Value → Shared → Prop}
    (h : wpAny (model pg wd) B.in1 (call (.ref f) [.ref x, b]) (fun v s' => ∃ c, v = .bool c ∧ Q (.bool (!c)) s') Ex t) : wpAny (model pg wd) B (richCompare .NotEq (.ref x) b) Q Ex t := by
  have X := X0.keeps F.keep
  obtain ⟨cd, hc, ho⟩ := any_some po
  have em : cd.mro.isEmpty = false := by cases q : cd.mro with | nil => rw [q] at ho; cases ho | cons _ _ => rfl
  have sub : Looks (model pg wd) t.heap (isInstance (.ref x) (.type "object")) true := I.type.andThen (looks_mroIn X (by unfold mroIn; rw [hc, Option.bind_some, em, only_has ho]; rfl))
  have one : wpAny (model pg wd) B (tryCompare (.ref x) "__ne__" b) (fun r s' => ∃ v, r = some v ∧ Q v s') Ex t := by
    unfold tryCompare
    refine wpAny_bind (wpAny_special_b X I hne ne_bind (wpAny_call (codeAny_call_builtin PySem.F.slot_object_ne.plain PySem.F.cmpEntry_ne (@check_slot (model pg wd) _ _ t "object.__ne__" "object" "__ne__" (.ref x) [b] [] _ PySem.F.cmpKind_ne PySem.F.cmpSplit_ne sub (PySem.F.cmpArgs_ne (.ref x) b)
      (objNe_K (B := B.in1) X I hu hs hf (wpAny_mono h (fun v s' hv => ?_) fun _ _ z => z))))))
    obtain ⟨c, rfl, hq⟩ := hv
    exact ⟨c, rfl, wpAny_pure ⟨_, rfl, hq⟩⟩
  unfold richCompare
  simp only [oneThing_ref]
  refine wpAny_holding (wpAny_bind (wpAny_cRoomFor (Nat.lt_of_succ_lt hu) ?_))
  refine wpAny_bind (I.type.here (wpAny_bind (hb.here ?_)))
  have last : ∀ {g : Option Value → Sem Value}, (∀ v, g (some v) = pure v) → wpAny (model pg wd) B (tryCompare (.ref x) (cmpInfo .NotEq).2.1 b >>= g) Q Ex t := fun {g} hg => wpAny_bind (wpAny_mono one (fun r s' z => by
    obtain ⟨v, rfl, hq⟩ := z
    rw [hg]; exact wpAny_pure hq) fun _ _ z => z)
  by_cases q : (Value.ref C != tb) = true
  · rw [if_pos q]
    have e : subIn K tb (.ref C) = some false := by
      rcases Bool.or_eq_true_iff.mp hn with e | e
      · rw [beq_iff_eq.mp e] at q; simp at q
      · exact beq_iff_eq.mp e
    refine wpAny_bind ((looks_subIn X e).here ?_)
    simp only [Bool.false_eq_true, if_false]
    exact last fun _ => rfl
  · rw [if_neg q]
    refine wpAny_bind (wpAny_pure ?_)
    simp only [Bool.false_eq_true, if_false]
    exact last fun _ => rfl
end
section
open L2
variable {T : Tab} {n : Nat} {X : Cx}
/-- no built-in type stands below an own class -/
theorem sub_no {K : Frag} {C : Addr} {t : Nat} (h : t ≤ 5 ∨ t = 15) : subIn K (.type (tyS t)) (.ref C) = some false := by
  have z : ∀ T : String, (fastFind? T).isSome = true → subIn K (.type T) (.ref C) = some false := fun T e => by
    obtain ⟨i, e⟩ := Option.isSome_iff_exists.mp e
    simp [subIn, fastBuiltinMro, e]
  rcases h with h | rfl
  · have h6 : t = 0 ∨ t = 1 ∨ t = 2 ∨ t = 3 ∨ t = 4 ∨ t = 5 := by omega
    rcases h6 with rfl | rfl | rfl | rfl | rfl | rfl <;> exact z _ (by decide +kernel)
  · exact z _ (by decide +kernel)
/-- what the text tells of the classes with an own __eq__ -/
def NeA (T : Tab) (K : Frag) : Prop := ∀ c k f, T.P.cls c = some k → k.spec.lookup 0 = some f → findIn K (.ref (T.ca c)) "__ne__" = some (some (.builtin "object.__ne__")) ∧ plainOver K (T.ca c) = true ∧
  (∀ t, (t ≤ 5 ∨ t = 15) → mroIn K (T.ca c) (.type (tyS t)) = some false) ∧ ∀ c' k', T.P.cls c' = some k' → k'.init.isSome = true → k'.sup.contains c = false → mroIn K (T.ca c') (.ref (T.ca c)) = some false
/-- the built-in's type, and that it declines -/
theorem dec_of {a : Abs} {H : Hp} {μ : Mem} {pins : List (Addr × Obj)} {s : Shared} {σ : L2.St} {d : D} {x : V} {v : Value} {l C dx : Addr} {ty : Nat} (I : L2.Inv X pins σ H s) (m : HolM T X.K a μ H) (r : Rep T X.K a d x) (rx : RelV x v) (ht : tyNo (rd μ d) = some ty) (hl : s.heap.get? l = some (instObj C dx)) (ns : ∀ t, (t ≤ 5 ∨ t = 15) → NoSub s.heap C (tyS t)) (ne : Bool) :
    s.TypeIs v (tyS ty) ∧ Dec X.prog X.w (if ne then .NotEq else .Eq) (tyS ty) v (.ref l) s := by
  have q := rd_rep m r
  obtain ⟨d1, d2, d3, d4⟩ := dec_val (pg := X.prog) (wd := X.w) (t := s) hl (ne := ne)
  generalize rd μ d = d' at *
  cases d' <;> simp only [tyNo] at ht <;> first | (cases ht; done) | (obtain rfl := Option.some.inj ht)
  · simp only [RdV, Rep] at q; subst q; cases rx; exact ⟨rfl, d4⟩
  · simp only [RdV, Rep] at q; subst q; cases rx; exact ⟨rfl, d3 _⟩
  · simp only [RdV, Rep] at q; subst q; obtain ⟨tk, rfl⟩ := rx; exact ⟨typeIs_int _ _ _, d2 _ _⟩
  · simp only [RdV, Rep] at q; obtain ⟨rfl, _⟩ := q; obtain ⟨tk, rfl⟩ := rx; exact ⟨typeIs_str _ _ _, d1 _ _⟩
  · obtain ⟨p, vs, rfl, sq, _⟩ := q
    cases rx
    obtain ⟨us, rv, hq, _⟩ := I.tuple sq
    obtain ⟨⟨cls, dd, data, sl⟩, ho, hc, n, hd⟩ := hq
    simp only at hc hd
    subst hc hd
    exact ⟨⟨_, ho, rfl⟩, (dec_ref hl).2.1 _ _ _ _ ho (ns 3 (.inl (by decide)))⟩
  · obtain ⟨p, vs, rfl, sq, _⟩ := q
    cases rx
    obtain ⟨us, rv, hq, _⟩ := I.list (SqL.of sq)
    have hq := hq.isList
    obtain ⟨⟨cls, dd, data, sl⟩, ho, hc, n, hd⟩ := hq
    simp only at hc hd
    subst hc hd
    exact ⟨⟨_, ho, rfl⟩, (dec_ref hl).1 _ _ _ _ ho (ns 4 (.inl (by decide)))⟩
  · obtain ⟨p, vs, rfl, sq, _⟩ := q
    cases rx
    obtain ⟨us, rv, hq, _⟩ := I.tuple (.inl (.inl sq))
    obtain ⟨⟨cls, dd, data, sl⟩, ho, hc, n, hd⟩ := hq
    simp only at hc hd
    subst hc hd
    exact ⟨⟨_, ho, rfl⟩, (dec_ref hl).2.1 _ _ _ _ ho (ns 3 (.inl (by decide)))⟩
  · rename_i t ks vs
    obtain ⟨p, vs, rfl, _, _, sq⟩ := q
    cases rx
    have ty : s.TypeIs (.ref p) "dict" := by
      cases t with
      | false =>
        obtain ⟨xs, sq, _⟩ := sq
        obtain ⟨_, _, vs, _, hd⟩ := I.hok p _ sq
        exact hd.typeIs
      | true =>
        obtain ⟨xs, sq, _⟩ := sq
        obtain ⟨_, _, vs, _, o, es, ep, ho, hex, _⟩ := I.hok p _ sq
        exact ⟨o, ho, hex.1⟩
    exact ⟨ty, (dec_ref hl).2.2 ty (ns 5 (.inl (by decide)))⟩
  · obtain ⟨p, vs, rfl, sq, _⟩ := q
    cases rx
    obtain ⟨us, rv, hq, _⟩ := I.list sq
    have hq := hq.isList
    obtain ⟨⟨cls, dd, data, sl⟩, ho, hc, n, hd⟩ := hq
    simp only at hc hd
    subst hc hd
    exact ⟨⟨_, ho, rfl⟩, (dec_ref hl).1 _ _ _ _ ho (ns 4 (.inl (by decide)))⟩
theorem own_eq (O : Own T n X) (SF : SpForm T) (NE : NeA T X.K) : EqOwn T n X := by
  intro neg pins s σ H x y v u Q I rx ry h
  obtain ⟨a, μ, d, e, m, r1, r2, hs, hn, q⟩ := h
  unfold eqV at q
  rw [hs, hn] at q
  simp only [Bool.false_eq_true, if_false] at q
  have back : ∀ {f : Nat} {c : Nat} {k : DI.Cls} {d1 e1 : D} {x1 y1 : V} {v1 : Addr} {u1 : Value} {A : Around} {RR : Value → Shared → Prop}, T.P.cls c = some k → k.spec.lookup 0 = some f → Rep T X.K a d1 (.ref v1) → Rep T X.K a e1 y1 → RelV y1 u1 →
      WpR ((calF T.P (T.C n) f [d1, e1] [] [] μ).bind fun d μ => R.of μ (tru d)) (fun c μ' => ∀ b H', Stp a H b H' → HolM T X.K b μ' H' → Q (.bl (if neg then !c else c)) H') (fun _ _ => False) →
      Room (3 * n) A → A.guards = some [] → Env0 X.prog X.w X.K X.mg X.base A X.stack s H → (∀ c b H' s', L2.Inv X pins σ H' s' → Stp a H b H' → Q (.bl (if neg then !c else c)) H' → RR (.bool c) s') →
      wpAny (model X.prog X.w) A (call (.ref (T.fa f)) [.ref v1, u1]) RR X.xe s := fun {f} {c} {k} {d1} {e1} {x1} {y1} {v1} {u1} {A} {RR} hk hs0 rr1 rr2 ru q hA hG e0 hR =>
    run_sp (j := 0) (ds := [d1, e1]) (vs := [.ref v1, y1]) O SF I hA hG e0 hk hs0 rfl m (Reps.cons rr1 (Reps.cons rr2 Reps.nil)) (.cons rfl (.cons ru .nil)) (Q := fun v H' => ∃ c b, v = .bl c ∧ Stp a H b H' ∧ Q (.bl (if neg then !c else c)) H') (q.bind.mono (fun d2 μ2 q2 b v2 H2 st m2 r3 => by
      obtain ⟨c2, ec, k2⟩ := q2.of
      cases d2 <;> simp only [tru] at ec <;> first | (cases ec; done) | skip
      cases ec
      simp only [Rep] at r3
      exact ⟨_, b, r3, st, k2 b H2 st m2⟩) fun _ _ z => z) fun w s' hw => by
      obtain ⟨v2, H2, I2, rv3, c2, b2, rfl, st, q2⟩ := hw
      obtain rfl := rv3
      exact hR c2 b2 H2 s' I2 st q2
  cases hsp : special T.P μ d 0 with
  | none =>
    rw [hsp] at q
    simp only at q
    cases hsp2 : special T.P μ e 0 with
    | none => rw [hsp2] at q; exact q.elim
    | some f =>
      rw [hsp2] at q
      simp only at q
      split at q
      · rename_i to
        have rv2 := rd_rep m r2
        unfold special clsAt at hsp2
        cases hd : rd μ e with
        | ins c ns fs =>
          rw [hd] at hsp2 rv2
          simp only [clsOf, Option.bind_some, specOf] at hsp2
          obtain ⟨k, hk, hs0⟩ := Option.bind_eq_some_iff.mp hsp2
          obtain ⟨p, dx, ws, rfl, h1, h2, h3, h4⟩ := rv2
          obtain ⟨t1, t2⟩ := O.tab.spec c k 0 f hk hs0
          obtain ⟨hne, po, hty, _⟩ := NE c k f hk hs0
          obtain ⟨ox, od, J⟩ := inst_at I h1
          obtain rfl := ry
          have hob : s.heap.get? p = some (instObj (T.ca c) dx) := (show ObjOk X.prog X.w H s.heap p (.ins (T.ca c) dx _) from I.hok p _ h1).2.2.2.1
          obtain ⟨ty, ht⟩ := Option.isSome_iff_exists.mp to
          obtain ⟨hT, hD⟩ := dec_of I m r1 rx ht hob (fun t ht M => looks_mroIn I.kIn (hty t ht)) neg
          cases neg with
          | false =>
            show wpAny _ _ (compareOp .Eq _ _) _ _ _
            unfold compareOp
            refine rc_right (op := .Eq) I.kIn J hT (by have := O.room.un; omega) (hty ty (tyNo_le ht)) hD (try_eq I.kIn J t1 t2 (back (x1 := x) hk hs0 r2 r1 rx q (O.room.mono (by omega)) O.gd I.env0 fun c b H' s' I' st q' => ?_))
            exact ⟨.bl c, H', I', rfl, q'⟩
          | true =>
            show wpAny _ _ (compareOp .NotEq _ _) _ _ _
            unfold compareOp
            refine rc_right (op := .NotEq) I.kIn J hT (by have := O.room.un; omega) (hty ty (tyNo_le ht)) hD (try_ne I.kIn J (by have := O.room.un; omega) po hne t1 t2 (back (x1 := x) hk hs0 r2 r1 rx q O.room1 O.gd I.env0.in1 fun c b H' s' I' st q' => ?_))
            exact ⟨c, rfl, .bl (!c), H', I', rfl, q'⟩
        | _ => rw [hd] at hsp2; cases hsp2
      · exact q.elim
  | some f =>
    rw [hsp] at q
    simp only at q
    split at q
    · rename_i to
      have rv := rd_rep m r1
      have rv2 := rd_rep m r2
      unfold special clsAt at hsp
      cases hd : rd μ d with
      | ins c ns fs =>
        rw [hd] at hsp rv to
        simp only [clsOf, Option.bind_some, specOf] at hsp
        obtain ⟨k, hk, hs0⟩ := Option.bind_eq_some_iff.mp hsp
        obtain ⟨p, dx, ws, rfl, h1, h2, h3, h4⟩ := rv
        obtain ⟨t1, t2⟩ := O.tab.spec c k 0 f hk hs0
        obtain ⟨hne, po, _, hcl⟩ := NE c k f hk hs0
        obtain ⟨ox, od, J⟩ := inst_at I h1
        obtain ⟨mm, hF⟩ := I.fr
        obtain rfl := rx
        have hb : ∃ tb, Looks (model X.prog X.w) s.heap (typeOf u) tb ∧ notFirst X.K (T.ca c) tb = true := by
          have ty : ∀ {t : Nat}, tyNo (rd μ e) = some t → ∃ tb, Looks (model X.prog X.w) s.heap (typeOf u) tb ∧ notFirst X.K (T.ca c) tb = true := fun {t} ht => by
            obtain ⟨P, KX, hP, _⟩ := kit_of I ry (ty_of m r2 ht)
            exact ⟨_, KX.ty _ _ I.kIn hP, by unfold notFirst; rw [sub_no (tyNo_le ht)]; simp⟩
          cases he : rd μ e with
          | ins c2 ns2 fs2 =>
            rw [he] at to rv2
            obtain ⟨p2, dx2, ws2, rfl, g1, _⟩ := rv2
            obtain ⟨ox2, od2, J2⟩ := inst_at I g1
            obtain rfl := ry
            simp only [eqTo, Bool.or_eq_true, beq_iff_eq] at to
            rcases to with to | to
            · subst to
              exact ⟨_, J2.type, by simp [notFirst]⟩
            · cases hk2 : T.P.cls c2 with
              | none => rw [hk2] at to; cases to
              | some k2 =>
                rw [hk2] at to
                simp only [Bool.and_eq_true, Bool.not_eq_true'] at to
                have e1 : subIn X.K (.ref (T.ca c2)) (.ref (T.ca c)) = some false := hcl c2 k2 hk2 to.1 to.2
                exact ⟨_, J2.type, by unfold notFirst; rw [e1]; simp⟩
          | _ =>
            rw [he] at to ty
            first
            | exact ty rfl
            | (simp [eqTo, tyNo] at to; done)
        obtain ⟨tb, hb, hnf⟩ := hb
        cases neg with
        | false =>
          show wpAny _ _ (compareOp .Eq _ _) _ _ _
          unfold compareOp
          refine cmp_K (op := .Eq) (by have := O.room.un; omega) hF I.ok.mod.kin J hb hnf t1 t2 (back (x1 := y) hk hs0 r1 r2 ry q (O.room.mono (by omega)) O.gd I.env0 fun c b H' s' I' st q' => ?_)
          exact ⟨.bl c, H', I', rfl, q'⟩
        | true =>
          show wpAny _ _ (compareOp .NotEq _ _) _ _ _
          unfold compareOp
          refine ne_own hF I.ok.mod.kin J (by have := O.room.un; omega) hb hnf po hne t1 t2 (back (x1 := y) hk hs0 r1 r2 ry q O.room1 O.gd I.env0.in1 fun c b H' s' I' st q' => ?_)
          exact ⟨c, rfl, .bl (!c), H', I', rfl, q'⟩
      | _ => rw [hd] at hsp; cases hsp
    · exact q.elim
end
end DI
end

section
set_option Elab.async false
set_option linter.all false
set_option maxRecDepth 100000
namespace DI
open PySem L2 PySem.Spec PyProof.Rows L2H
def tyX : Nat → String
  | 6 => "ValueError" | 7 => "LookupError" | 8 => "ArithmeticError" | _ => "object"
def tyXU (T : Tab) : Ty → Value
  | .py n => .type (tyX n)
  | .own c => .ref (T.ca c)
/-- what an own exception class tells for isinstance -/
structure ExcK (K : PySem.W.Frag) (C : Addr) : Prop where
  cl : (PySem.W.clsIn K C).isSome = true
  ga : PySem.W.findIn K (.ref C) "__getattribute__" = some (some (.builtin "BaseException.__getattribute__"))
  gg : PySem.W.findIn K (.ref C) "__getattr__" = some none
  sub : PySem.W.subIn K (.ref C) (.type "BaseException") = some true
  ca : PySem.W.findIn K (.ref C) "__class__" = some (some (.builtin "object.__class__"))
  mr : PySem.W.mroIn K C (.type "object") = some true
/-- the classes cs, asked for the types ts -/
structure XisOk (T : Tab) (K : PySem.W.Frag) (cs : List Nat) (ts : List Ty) : Prop where
  exc : ∀ c, cs.contains c = true → ExcK K (T.ca c)
  one : ∀ c t, cs.contains c = true → ts.contains t = true → ∀ μ ns vs b, isTy T.P μ (.exc c ns vs) t = some b → PySem.W.kitOne K (.ref (T.ca c)) (tyXU T t) = some b
section
variable {T : Tab} {n : Nat} {X : Cx} {W : WX} {pos : Pos} {clo : Option (Addr × Addr × Str × Nat × List (Option V))}
end
section
variable {T : Tab} {n : Nat} {P : Program} {w : World} {K : PySem.W.Frag} {mg : Str → Option Value} {base : Heap}
end
end DI
namespace DI
open PySem L2 PySem.Spec PyProof.Rows L2H
section
variable {T : Tab} {n : Nat} {X : Cx} {pos : Pos} {clo : Option (Addr × Addr × Str × Nat × List (Option V))}
end
end DI
namespace DI
open PySem L2 PySem.Spec PyProof.Rows
section
variable {T : Tab} {n : Nat} {X : Cx} {W : WX}
end
end DI
end

section
set_option Elab.async false
set_option linter.all false
set_option maxRecDepth 100000
namespace DI
open PySem PySem.Calls PyProof.Rows PySem.W
section
variable {prog : Program} {w : World} {A : Around} {E : Value → Shared → Prop} {s : Shared} {a kS : Addr} {vs : List Value} {kz : List PyData} {e1 : Nat} {P : PySem.Fin → Shared → Prop}
end
end DI
end

section
set_option Elab.async false
set_option linter.all false
set_option maxRecDepth 100000
namespace DI
open PySem L2 PySem.Spec PyProof.Rows LamX
section
variable {X : Cx} {pins : List (Addr × Obj)} {σ : L2.St} {H HZ : Hp} {s s1 : Shared}
end
section
variable {T : Tab} {n : Nat} {X : Cx} {W : WX}
end
end DI
end

section
set_option Elab.async false
set_option linter.all false
set_option maxRecDepth 100000
namespace DI
open PySem L2 PySem.Spec PyProof.Rows LamX
section
variable {X : Cx} {pins : List (Addr × Obj)} {σ : L2.St} {H : Hp} {s : Shared}
end
section
variable {T : Tab} {n : Nat} {X : Cx} {W : WX} {pos : Pos} {a : Abs} {ρ : Env} {μ : Mem} {H : Hp} {σ : L2.St} {s : Shared} {pins : List (Addr × Obj)}
end
end DI
end

section
set_option Elab.async false
set_option linter.all false
set_option maxRecDepth 100000
namespace DI
open PySem PyProof.Rows
section
variable {prog : Program} {w : World} {A : Around} {E : Value → Shared → Prop} {R : Result → Shared → Prop} {I l q S : Addr} {n : Nat}
section
variable {J0 : Shared → Prop} {J : Nat → Value → Value → Shared → Prop}
end
end
end DI
end

section
set_option Elab.async false
set_option linter.all false
set_option maxRecDepth 100000
namespace DI
open PySem L2 PySem.Spec PyProof.Rows LamX
section
variable {T : Tab} {n : Nat} {X : Cx} {W : WX} {pos : Pos} {a : Abs} {ρ : Env} {μ : Mem} {H : Hp} {σ : L2.St} {s : Shared} {pins : List (Addr × Obj)}
end
end DI
end

section
set_option Elab.async false
set_option linter.all false
set_option maxRecDepth 100000
namespace DI
open PySem L2 PySem.Spec PyProof.Rows LamX
section
variable {T : Tab} {n : Nat} {X : Cx} {W : WX} {pos : Pos}
end
end DI
end

section
set_option Elab.async false
set_option linter.all false
set_option maxRecDepth 100000
namespace DI
open PySem L2 PySem.Spec PyProof.Rows
set_option maxHeartbeats 1000000
inductive Pth where
  | glo (x : Str) | meth (C m : Str) | prop (C m : Str) | cm (C m : Str)
def Pth.adr (K : PySem.W.Frag) : Pth → Addr
  | .glo x => He.ga K x
  | .meth C m => He.ma K (He.ga K C) m
  | .prop C m => He5.wf K (He.ga K C) "property" m
  | .cm C m => He5.wf K (He.ga K C) "classmethod" m
/-- the names of attributes by number -/
def anOf (l : List Str) (i : Nat) : Str := match l[i]? with
  | some x => x
  | none => sM (List.replicate (i + 100) 0)
theorem anOf_inj {l : List Str} (nd : l.Nodup) (sz : l.all (fun x => decide ((sL x).length < 100)) = true) (i j : Nat) (h : anOf l i = anOf l j) : i = j := by
  have short : ∀ {k : Nat} {x : Str}, l[k]? = some x → (sL x).length < 100 := fun {k x} e => by
    have := List.all_eq_true.mp sz x (List.mem_of_getElem? e)
    exact of_decide_eq_true this
  have long : ∀ k, (sL (sM (List.replicate (k + 100) 0))).length = k + 100 := fun k => by simp [sL, sM]
  unfold anOf at h
  cases ei : l[i]? with
  | some x =>
    cases ej : l[j]? with
    | some y =>
      rw [ei, ej] at h
      have h : x = y := h
      subst h
      obtain ⟨h1, h2⟩ := List.getElem?_eq_some_iff.mp ei
      obtain ⟨h3, h4⟩ := List.getElem?_eq_some_iff.mp ej
      exact (List.getElem_inj (h₀ := h1) (h₁ := h3) nd).mp (by rw [h2, h4])
    | none =>
      rw [ei, ej] at h
      have h : x = sM (List.replicate (j + 100) 0) := h
      have := short ei
      rw [h, long] at this; omega
  | none =>
    cases ej : l[j]? with
    | some y =>
      rw [ei, ej] at h
      have h : sM (List.replicate (i + 100) 0) = y := h
      have := short ej
      rw [← h, long] at this; omega
    | none =>
      rw [ei, ej] at h
      have h : sM (List.replicate (i + 100) 0) = sM (List.replicate (j + 100) 0) := h
      have h1 := long i
      rw [h, long] at h1; omega
/-- the text of an own exception's __init__ -/
structure XI where
  c : Nat
  qual : Str
  fs : List Str
  pps : List Pos
  sets : List (Pos × Pos × Pos × Pos)
  ps : Pos × Pos × Pos × Pos × Pos
/-- a def's code object and its table -/
def cpOf (K : PySem.W.Frag) (f : Addr) : Addr × Addr := match cdOf K f with
  | .ref c => (match K.lookup c with
    | some ⟨_, _, .fields vs, _⟩ => (match (vs[11]? : Option Value) with
      | some (.ref P) => (c, P)
      | _ => (0, 0))
    | _ => (0, 0))
  | _ => (0, 0)
structure LawT where
  fns : List (Nat × Fn)
  lams : List (Nat × Lam)
  cls : List (Nat × DI.Cls)
  gls : List (Nat × D)
  pth : List (Nat × Pth)
  cnm : List (Nat × Str)
  ann : List Str
  forms : List (Nat × List ((Nat × List Nat) × List Str))
  isc : List Nat
  /-- the module's names: constants, free names -/
  gnm : List (Str × Nat)
  free : List Str
  /-- classmethods: the class, the name, the def -/
  cms : List (Nat × Str × Nat)
  exs : Bool := false
  /-- the defs that make lambdas, their lambdas' qualified name -/
  mks : List (Nat × Str) := []
  thk : List Nat := []
  /-- exceptions with an own __init__, without one -/
  xis : List XI := []
  xns : List Nat := []
  /-- the classes that except clauses name -/
  xts : List Nat := []
  /-- the exceptions that are handed to a def, the types they are asked for there -/
  xcs : List Nat := []
  xit : List Ty := []
  file : Str := ""
def LawT.prog (L : LawT) : Prog := { fns := fun n => L.fns.lookup n, lams := fun n => L.lams.lookup n, cls := fun n => L.cls.lookup n, gl := fun n => L.gls.lookup n, exs := L.exs }
def LawT.form (L : LawT) (f m : Nat) (ix : List Nat) : Option (List Str) := match L.forms.lookup f with
  | some l => l.lookup (m, ix)
  | none => none
def LawT.tab (L : LawT) (K : PySem.W.Frag) : Tab where
  P := L.prog
  reprS := shownD
  fa := fun n => match L.pth.lookup n with
    | some p => p.adr K
    | none => 0
  ca := fun n => match L.cnm.lookup n with
    | some x => He.ga K x
    | none => 0
  an := anOf L.ann
  form := L.form
  isc := L.isc
  thk := L.thk
  cds := L.mks.map fun q => cpOf K (match L.pth.lookup q.1 with
    | some p => p.adr K
    | none => 0)
  tbs := L.mks.map fun q => ((cpOf K (match L.pth.lookup q.1 with
    | some p => p.adr K
    | none => 0)).2, q.2)
def gloB (K : PySem.W.Frag) (x : Str) : Bool := He.eqO (PySem.W.nsIn K mainGlobals x) (some (some (.ref (He.ga K x))))
def clsB (K : PySem.W.Frag) (C : Addr) : Bool := PySem.W.plainGet K C Str.empty && (PySem.W.hasDictIn K C && (PySem.W.plainOver K C && He.eqO (PySem.W.findIn K (.ref C) "__setattr__") (some (some (.builtin "object.__setattr__")))))
theorem clsB_ok {K : PySem.W.Frag} {C : Addr} (h : clsB K C = true) : L2.Cls K C := by
  unfold clsB at h
  simp only [Bool.and_eq_true] at h
  exact ⟨h.1, h.2.1, h.2.2.1, He.eqO_ok h.2.2.2⟩
section
variable (L : LawT) (K : PySem.W.Frag)
def clsC (c : Nat) (k : DI.Cls) : Bool :=
  let T := L.tab K
  let C := T.ca c
  (match k.init with
    | none => k.meths.isEmpty && (k.props.isEmpty && (k.spec.isEmpty && k.flds.isEmpty))
    | some f => clsB K C && (PySem.W.makesIn K C && (He.eqO (PySem.W.findIn K (.ref C) "__init__") (some (some (.ref (T.fa f)))) && (PySem.W.isFn K (.ref (T.fa f)) && (PySem.W.keepIn K (.ref C) &&
        (He.eqO (PySem.W.findIn K (.ref C) "__class__") (some (some (.builtin "object.__class__"))) && decide (PySem.W.mroIn K C (.type "object") = some true))))))) &&
  ([1, 4, 5, 6].all (fun j => (k.spec.lookup j).isSome || He.eqO (PySem.W.findIn K (.ref C) (spName j)) (some none))) &&
  ((k.meths.all fun q => He.eqO (PySem.W.findIn K (.ref C) (T.an q.1)) (some (some (.ref (T.fa q.2)))) && (PySem.W.isFn K (.ref (T.fa q.2)) && PySem.W.keepIn K (.ref (T.fa q.2)))) &&
  ((k.props.all fun q => He.eqO (PySem.W.findIn K (.ref C) (T.an q.1)) (some (some (.ref (He.ma K C (T.an q.1))))) && (He.eqO (PySem.W.specialIn K (.ref (He.ma K C (T.an q.1))) "__get__") (some (some (.builtin "property.__get__"))) &&
    (decide (PySem.W.takesIn K (.ref (He.ma K C (T.an q.1))) = some true) && (match PySem.W.recIn K (He.ma K C (T.an q.1)) "property" with
      | some (.ref g :: _) => decide (g = T.fa q.2)
      | _ => false)))) &&
  ((k.flds.all fun f => He.eqO (PySem.W.findIn K (.ref C) (T.an f)) (some none)) &&
  ((k.spec.all fun q => He.eqO (PySem.W.findIn K (.ref C) (spName q.1)) (some (some (.ref (T.fa q.2)))) && PySem.W.isFn K (.ref (T.fa q.2))) &&
  (k.xfl.isEmpty || (xfB K C && k.xfl.all fun f => He.eqO (PySem.W.findIn K (.ref C) (T.an f)) (some none)))))))
/-- an own exception class over a built-in one -/
def xbB (C : Addr) (B newId initId : String) (bmB : List Value) : Bool := PySem.W.excInitIn K C bmB newId && (PySem.W.excOver K C bmB && (decide (PySem.W.ks_superIn K C C "__init__" = some (some (.builtin initId))) && decide (PySem.W.subIn K (.ref C) (.type B) = some true)))
def bVE (f : String → String → String → List Value → Bool) : Bool := f "ValueError" "ValueError.__new__" "ValueError.__init__" [.type "ValueError", .type "Exception", .type "BaseException", .type "object"]
def bLE (f : String → String → String → List Value → Bool) : Bool := f "LookupError" "LookupError.__new__" "LookupError.__init__" [.type "LookupError", .type "Exception", .type "BaseException", .type "object"]
def bAE (f : String → String → String → List Value → Bool) : Bool := f "ArithmeticError" "ArithmeticError.__new__" "ArithmeticError.__init__" [.type "ArithmeticError", .type "Exception", .type "BaseException", .type "object"]
def xclB (C : Addr) : Bool := (bVE (xbB K C) || (bLE (xbB K C) || bAE (xbB K C))) && (decide (PySem.W.findIn K (.ref C) "__setattr__" = some (some (.builtin "object.__setattr__"))) && (PySem.W.hasDictIn K C && (decide (PySem.W.mroIn K C (.ref C) = some true) &&
  (PySem.W.keepIn K (.ref C) && (decide (PySem.W.subIn K (.ref C) (.type "BaseException") = some true) && decide (PySem.W.typeIn K (.ref C) = some (.type "type")))))))
def xn0B (C : Addr) : Bool := let f := fun (B newId initId : String) (bmB : List Value) => PySem.W.excInitIn K C bmB newId && decide (PySem.W.findIn K (.ref C) "__init__" = some (some (.builtin initId)))
  bVE f || (bLE f || bAE f)
/-- the exceptions, and what except clauses make of them -/
def xcB : Bool := let T := L.tab K
  (L.xis.all fun x => xclB K (T.ca x.c)) && ((L.xns.all fun c => xclB K (T.ca c) && xn0B K (T.ca c)) && (L.xts.all fun e => L.cls.all fun p => decide (PySem.W.exmOne K (.ref (T.ca p.1)) (.ref (T.ca e)) = some (p.2.sup.contains e))))
/-- the makers of lambdas -/
def bmB (P : Addr) : Bool := match PySem.W.nsIn K mainGlobals "__builtins__" with
  | some (some (.ref bm)) => decide (bm ≠ builtinsNs) && (decide (bm ≠ mainGlobals) && (decide (bm ≠ P) && (match K.lookup bm with
    | some ⟨.type m, some d, .plain, _⟩ => decide (m = "module") && decide (d = builtinsNs)
    | _ => false)))
  | _ => false
def mkB : Bool := let T := L.tab K
  L.mks.all fun q => let cp := cpOf K (T.fa q.1)
    decide (cdOf K (T.fa q.1) = .ref cp.1) && (PySem.W.codeHdIn K cp.1 cp.2 && ((K.lookup cp.2).isNone && (decide (mainGlobals ≠ cp.2) && (bmB K cp.2 && L.mks.all fun r => decide ((cpOf K (T.fa r.1)).2 ≠ cp.2) || decide (r.2 = q.2)))))
def tyL : List Nat := [0, 1, 2, 3, 4, 5, 15]
def isB : Bool :=
  let T := L.tab K
  He.eqO (PySem.W.specialIn K (.builtin "object.__class__") "__get__") (some (some (.builtin "getset_descriptor.__get__"))) && (decide (PySem.W.takesIn K (.builtin "object.__class__") = some true) &&
  ((L.isc.all fun c => tyL.all fun t => decide (PySem.W.kitOne K (.type (tyS t)) (.ref (T.ca c)) = some false)) &&
  (L.cls.all fun p => p.2.init.isNone || (([0, 1, 2, 3, 4, 5].all fun t => decide (PySem.W.kitOne K (.ref (T.ca p.1)) (.type (tyS t)) = some false)) &&
    L.isc.all fun e => decide (PySem.W.kitOne K (.ref (T.ca p.1)) (.ref (T.ca e)) = some (p.2.sup.contains e))))))
def glB : Bool := L.gnm.all fun q => match L.gls.lookup q.2 with
  | some (.int i) => (match PySem.W.nsIn K mainGlobals q.1 with
    | some (some (.int j _)) => decide (j = i)
    | _ => false)
  | some (.str s) => strG s && (match PySem.W.nsIn K mainGlobals q.1 with
    | some (some (.str y _)) => decide (y = s)
    | _ => false)
  | _ => false
def cmB : Bool := L.cms.all fun q => let C := (L.tab K).ca q.1
  He5.wrapB K C "classmethod" "classmethod.__get__" q.2.1 && (PySem.W.fnIn K (He5.wf K C "classmethod" q.2.1) && (decide ((L.tab K).fa q.2.2 = He5.wf K C "classmethod" q.2.1) && (PySem.W.readsIn K C (.type "type") &&
    He.eqO (PySem.W.specialIn K (.ref C) "__getattribute__") (some (some (.builtin "type.__getattribute__"))))))
/-- what isinstance says of an exception -/
def tyAns (k : DI.Cls) : Ty → Bool
  | .py n => k.py.contains n
  | .own e => k.sup.contains e
def exkB (C : Addr) : Bool := (PySem.W.clsIn K C).isSome && (He.eqO (PySem.W.findIn K (.ref C) "__getattribute__") (some (some (.builtin "BaseException.__getattribute__"))) && (He.eqO (PySem.W.findIn K (.ref C) "__getattr__") (some none) && (decide (PySem.W.subIn K (.ref C) (.type "BaseException") = some true) &&
  (He.eqO (PySem.W.findIn K (.ref C) "__class__") (some (some (.builtin "object.__class__"))) && decide (PySem.W.mroIn K C (.type "object") = some true)))))
def xisB : Bool := let T := L.tab K
  L.xcs.all fun c => match L.cls.lookup c with
    | some k => exkB K (T.ca c) && L.xit.all fun t => decide (PySem.W.kitOne K (.ref (T.ca c)) (tyXU T t) = some (tyAns k t))
    | none => false
/-- all that is told of a heap's part K -/
def neB : Bool := L.cls.all fun p => (p.2.spec.lookup 0).isNone || ((He.eqO (PySem.W.findIn K (.ref ((L.tab K).ca p.1)) "__ne__") (some (some (.builtin "object.__ne__"))) && PySem.W.plainOver K ((L.tab K).ca p.1)) &&
  ((tyL.all fun t => decide (PySem.W.mroIn K ((L.tab K).ca p.1) (.type (tyS t)) = some false)) && (L.cls.all fun q => q.2.init.isNone || (q.2.sup.contains p.1 || decide (PySem.W.mroIn K ((L.tab K).ca q.1) (.ref ((L.tab K).ca p.1)) = some false)))))
def chk : Bool := (L.pth.all fun q => (match q.2 with
    | .glo x => gloB K x
    | _ => true) && (PySem.W.isFn K (.ref (q.2.adr K)) && PySem.W.keepIn K (.ref (q.2.adr K)))) &&
  ((L.cnm.all fun q => gloB K q.2) && ((L.cls.all fun p => clsC L K p.1 p.2) && (isB L K && (glB L K && (cmB L K && ((L.free.all fun x => He.eqO (PySem.W.nsIn K mainGlobals x) (some none)) &&
  (decide L.ann.Nodup && (L.ann.all (fun x => decide ((sL x).length < 100)) && (xcB L K && (mkB L K && (neB L K && (xisB L K && (K.lookup sysModules).isSome))))))))))))
end
/-- what is known of the module's names and of the classes -/
structure Good (L : LawT) (K : PySem.W.Frag) (mg : Str → Option Value) : Prop where
  tab : TabOk (L.tab K) K
  is_ : IsOk (L.tab K) K
  fn : ∀ x f, L.pth.lookup f = some (.glo x) → mg x = some (.ref ((L.tab K).fa f))
  cl : ∀ x c, L.cnm.lookup c = some x → mg x = some (.ref ((L.tab K).ca c))
  free : ∀ x, L.free.contains x = true → mg x = none
  gl : ∀ x g d, L.gnm.lookup x = some g → L.gls.lookup g = some d → ∃ u v, mg x = some u ∧ RelV v u ∧ ∀ a, Rep (L.tab K) K a d v
  keepF : ∀ f p, L.pth.lookup f = some p → PySem.W.keepIn K (.ref ((L.tab K).fa f)) = true
  keepC : ∀ c k, L.cls.lookup c = some k → k.init.isSome = true → PySem.W.keepIn K (.ref ((L.tab K).ca c)) = true
  xc : ∀ c, (L.xis.any fun x => decide (x.c = c)) = true → XCls K ((L.tab K).ca c)
  xn : ∀ c, L.xns.contains c = true → XCls K ((L.tab K).ca c) ∧ ∃ B newId initId bmB, BaseX B newId initId bmB ∧ PySem.W.excInitIn K ((L.tab K).ca c) bmB newId = true ∧ PySem.W.findIn K (.ref ((L.tab K).ca c)) "__init__" = some (some (.builtin initId))
  xt : ∀ e c k, L.xts.contains e = true → L.cls.lookup c = some k → PySem.W.exmOne K (.ref ((L.tab K).ca c)) (.ref ((L.tab K).ca e)) = some (k.sup.contains e)
  mkr : ∀ f q, L.mks.lookup f = some q → ∃ c P, cdOf K ((L.tab K).fa f) = .ref c ∧ (c, P) ∈ (L.tab K).cds ∧ (P, q) ∈ (L.tab K).tbs ∧ ∀ p ∈ (L.tab K).tbs, p.1 = P → p.2 = q
  tabs : ∀ base : Heap, K.In base → base.Ns mainGlobals mg → ∀ q ∈ (L.tab K).cds, LamX.TabB base mg q.1 q.2
  cm : ∀ c m f, (c, m, f) ∈ L.cms → ClX.CRead K ((L.tab K).ca c) (.type "type") ∧ ∃ p, ClX.CMet K ((L.tab K).ca c) (.type "type") m p ((L.tab K).fa f)
  nea : NeA (L.tab K) K
  xis : XisOk (L.tab K) K L.xcs L.xit
theorem lookup_mem {α β : Type} [BEq α] [LawfulBEq α] {a : α} {b : β} : ∀ {l : List (α × β)}, l.lookup a = some b → (a, b) ∈ l
  | [], h => by cases h
  | (x, y) :: l, h => by
    rw [List.lookup_cons] at h
    split at h
    · rename_i e
      cases h
      rw [beq_iff_eq.mp e]; exact List.mem_cons_self ..
    · exact List.mem_cons_of_mem _ (lookup_mem h)
theorem tyL_mem {t : Nat} (h : t ≤ 5 ∨ t = 15) : t ∈ tyL := by
  unfold tyL
  have : t = 0 ∨ t = 1 ∨ t = 2 ∨ t = 3 ∨ t = 4 ∨ t = 5 ∨ t = 15 := by omega
  rcases this with rfl | rfl | rfl | rfl | rfl | rfl | rfl <;> decide
theorem ty5_mem {t : Nat} (h : t ≤ 5) : t ∈ [0, 1, 2, 3, 4, 5] := by
  have : t = 0 ∨ t = 1 ∨ t = 2 ∨ t = 3 ∨ t = 4 ∨ t = 5 := by omega
  rcases this with rfl | rfl | rfl | rfl | rfl | rfl <;> decide
theorem good_of {L : LawT} {K : PySem.W.Frag} {h : Heap} {mg : Str → Option Value} (X : K.In h) (G : h.Ns mainGlobals mg) (c : chk L K = true) : Good L K mg := by
  unfold chk at c
  simp only [Bool.and_eq_true] at c
  obtain ⟨c1, c2, c3, c4, c5, c6, c7, c8, c9, cx, ck, cne, cxi, csm⟩ := c
  have cls : ∀ n k, L.cls.lookup n = some k → clsC L K n k = true := fun n k e => List.all_eq_true.mp c3 (n, k) (lookup_mem e)
  have init : ∀ n k f, L.cls.lookup n = some k → k.init = some f → _ := fun n k f e ei => by
    have := cls n k e
    unfold clsC at this
    simp only [ei, Bool.and_eq_true] at this
    exact this.1.1
  have noinit : ∀ n k, L.cls.lookup n = some k → k.init = none → k.meths = [] ∧ k.props = [] ∧ k.spec = [] ∧ k.flds = [] := fun n k e ei => by
    have := cls n k e
    unfold clsC at this
    simp only [ei, Bool.and_eq_true, List.isEmpty_iff] at this
    exact this.1.1
  have hasC : ∀ n k, L.cls.lookup n = some k → (k.meths ≠ [] ∨ k.props ≠ [] ∨ k.spec ≠ [] ∨ k.flds ≠ []) → L2.Cls K ((L.tab K).ca n) := fun n k e hne => by
    cases ei : k.init with
    | none => obtain ⟨h1, h2, h3, h4⟩ := noinit n k e ei; simp [h1, h2, h3, h4] at hne
    | some f => exact clsB_ok (init n k f e ei).1
  have rest : ∀ n k, L.cls.lookup n = some k → _ := fun n k e => by
    have := cls n k e
    unfold clsC at this
    simp only [Bool.and_eq_true] at this
    exact this.2
  have nosp : ∀ n k, L.cls.lookup n = some k → _ := fun n k e => by
    have := cls n k e
    unfold clsC at this
    simp only [Bool.and_eq_true] at this
    exact this.1.2
  have restX : ∀ n k, L.cls.lookup n = some k → _ := fun n k e => by
    have := (rest n k e).2.2.2.2
    simp only [Bool.or_eq_true, Bool.and_eq_true] at this
    exact this
  have base3 : ∀ f : String → String → String → List Value → Bool, (bVE f || (bLE f || bAE f)) = true → ∃ B newId initId bmB, BaseX B newId initId bmB ∧ f B newId initId bmB = true := fun f h => by
    simp only [Bool.or_eq_true] at h
    rcases h with h | h | h
    · exact ⟨_, _, _, _, baseVE, h⟩
    · exact ⟨_, _, _, _, baseLE, h⟩
    · exact ⟨_, _, _, _, baseAE, h⟩
  have xcl : ∀ C, xclB K C = true → XCls K C := fun C h => by
    unfold xclB at h
    rw [Bool.and_eq_true] at h
    obtain ⟨h0, h⟩ := h
    simp only [Bool.and_eq_true] at h
    obtain ⟨h1, h2, h3, h4, h5, h6⟩ := h
    obtain ⟨B, newId, initId, bmB, BX, h0⟩ := base3 _ h0
    unfold xbB at h0
    simp only [Bool.and_eq_true] at h0
    exact ⟨⟨B, newId, initId, bmB, BX, h0.1, h0.2.1, of_decide_eq_true h0.2.2.1, of_decide_eq_true h0.2.2.2⟩, of_decide_eq_true h1, h2, of_decide_eq_true h3, h4, of_decide_eq_true h5, of_decide_eq_true h6⟩
  have mkq : ∀ q ∈ L.mks, _ := fun q hq => by
    have := List.all_eq_true.mp ck q hq
    simp only [Bool.and_eq_true] at this
    exact this
  unfold xcB at cx
  simp only [Bool.and_eq_true] at cx
  obtain ⟨cx1, cx2, cx3⟩ := cx
  refine ⟨⟨csm, anOf_inj (of_decide_eq_true c8) c9, ?_, ?_, ?_, ?_, ?_, ?_, ?_⟩, ⟨?_, ?_, ?_, ?_, ?_, ?_⟩, ?_, ?_, ?_, ?_, ?_, ?_, ?_, ?_, ?_, ?_, ?_, ?_, ?_, ⟨?_, ?_⟩⟩
  · intro n k m f e1 e2
    have hm := lookup_mem e2
    have r := List.all_eq_true.mp (rest n k e1).1 (m, f) hm
    simp only [Bool.and_eq_true] at r
    exact ⟨hasC n k e1 (.inl (List.ne_nil_of_mem hm)), He.eqO_ok r.1, r.2.1, r.2.2⟩
  · intro n k m f e1 e2
    have hm := lookup_mem e2
    have r := List.all_eq_true.mp (rest n k e1).2.1 (m, f) hm
    simp only [Bool.and_eq_true] at r
    refine ⟨hasC n k e1 (.inr (.inl (List.ne_nil_of_mem hm))), _, ⟨He.eqO_ok r.1, He.eqO_ok r.2.1, of_decide_eq_true r.2.2.1, ?_⟩⟩
    have r2 := r.2.2.2
    split at r2
    · rename_i g l e
      rw [of_decide_eq_true r2] at e
      exact ⟨_, e⟩
    · cases r2
  · intro n k m e1 e2
    have hm : m ∈ k.flds := by simpa using e2
    have r := List.all_eq_true.mp (rest n k e1).2.2.1 m hm
    exact ⟨hasC n k e1 (.inr (.inr (.inr (List.ne_nil_of_mem hm)))), He.eqO_ok r⟩
  · intro n k f e1 e2
    have r := init n k f e1 e2
    exact ⟨r.2.1, He.eqO_ok r.2.2.1, r.2.2.2.1, r.2.2.2.2.1⟩
  · intro n k f e1 e2
    have hm : f ∈ k.xfl := by simpa using e2
    rcases restX n k e1 with r | r
    · rw [List.isEmpty_iff] at r; rw [r] at hm; cases hm
    · exact ⟨xfB_ok r.1, He.eqO_ok (List.all_eq_true.mp r.2 f hm)⟩
  · intro n k j f e1 e2
    have hm := lookup_mem e2
    have r := List.all_eq_true.mp (rest n k e1).2.2.2.1 (j, f) hm
    simp only [Bool.and_eq_true] at r
    exact ⟨He.eqO_ok r.1, r.2⟩
  · intro n k j e1 e2 hj
    have hm : j ∈ [1, 4, 5, 6] := by rcases hj with rfl | rfl | rfl | rfl <;> decide
    have r := List.all_eq_true.mp (nosp n k e1) j hm
    rw [e2] at r
    exact He.eqO_ok (by simpa using r)
  · intro n k e1 e2
    obtain ⟨f, ei⟩ := Option.isSome_iff_exists.mp e2
    have r := init n k f e1 ei
    exact ⟨clsB_ok r.1, He.eqO_ok r.2.2.2.2.2.1, of_decide_eq_true r.2.2.2.2.2.2⟩
  all_goals unfold isB at c4; simp only [Bool.and_eq_true] at c4; obtain ⟨i1, i2, i3, i4⟩ := c4
  · exact He.eqO_ok i1
  · exact of_decide_eq_true i2
  · intro t n ht hc
    have hm : n ∈ L.isc := by simpa [LawT.tab] using hc
    exact of_decide_eq_true (List.all_eq_true.mp (List.all_eq_true.mp i3 n hm) t (tyL_mem ht))
  · intro n k t e1 e2 ht
    have r := List.all_eq_true.mp i4 (n, k) (lookup_mem e1)
    have e3 : k.init.isNone = false := by cases hk : k.init <;> simp_all
    simp only [e3, Bool.false_or, Bool.and_eq_true] at r
    exact of_decide_eq_true (List.all_eq_true.mp r.1 t (ty5_mem ht))
  · intro n k e e1 e2 he
    have hm : e ∈ L.isc := by simpa [LawT.tab] using he
    have r := List.all_eq_true.mp i4 (n, k) (lookup_mem e1)
    have e3 : k.init.isNone = false := by cases hk : k.init <;> simp_all
    simp only [e3, Bool.false_or, Bool.and_eq_true] at r
    exact of_decide_eq_true (List.all_eq_true.mp r.2 e hm)
  · intro x f e
    have r := List.all_eq_true.mp c1 (f, .glo x) (lookup_mem e)
    simp only [Bool.and_eq_true] at r
    have e2 : (L.tab K).fa f = He.ga K x := by show (match L.pth.lookup f with | some p => p.adr K | none => 0) = _; rw [e]; rfl
    rw [e2]
    exact PySem.W.mg_of X G (He.eqO_ok r.1)
  · intro x n e
    have r := List.all_eq_true.mp c2 (n, x) (lookup_mem e)
    have e2 : (L.tab K).ca n = He.ga K x := by show (match L.cnm.lookup n with | some p => He.ga K p | none => 0) = _; rw [e]
    rw [e2]
    exact PySem.W.mg_of X G (He.eqO_ok r)
  · intro x hx
    have hm : x ∈ L.free := by simpa using hx
    exact PySem.W.mg_none_of X G (He.eqO_ok (List.all_eq_true.mp c7 x hm))
  · intro x g d e1 e2
    have r := List.all_eq_true.mp c5 (x, g) (lookup_mem e1)
    simp only [e2] at r
    split at r
    · rename_i i he
      cases he
      split at r
      · rename_i j t e
        refine ⟨_, .int i, PySem.W.mg_of X G e, ⟨t, by rw [of_decide_eq_true r]⟩, fun a => by simp only [Rep]⟩
      · cases r
    · rename_i y he
      cases he
      rw [Bool.and_eq_true] at r
      have r2 := r.2
      split at r2
      · rename_i j t e
        refine ⟨_, .str y, PySem.W.mg_of X G e, ⟨t, by rw [of_decide_eq_true r2]⟩, fun a => by simp only [Rep]; exact ⟨trivial, r.1⟩⟩
      · cases r2
    · cases r
  · intro f p e
    have r := List.all_eq_true.mp c1 (f, p) (lookup_mem e)
    simp only [Bool.and_eq_true] at r
    have e2 : (L.tab K).fa f = p.adr K := by show (match L.pth.lookup f with | some p => p.adr K | none => 0) = _; rw [e]
    rw [e2]; exact r.2.2
  · intro n k e1 e2
    obtain ⟨f, ei⟩ := Option.isSome_iff_exists.mp e2
    exact (init n k f e1 ei).2.2.2.2.1
  · intro c h
    obtain ⟨x, hx, e⟩ := List.any_eq_true.mp h
    have e := of_decide_eq_true e
    subst e
    exact xcl _ (List.all_eq_true.mp cx1 x hx)
  · intro c h
    have hm : c ∈ L.xns := by simpa using h
    have r := List.all_eq_true.mp cx2 c hm
    rw [Bool.and_eq_true] at r
    refine ⟨xcl _ r.1, ?_⟩
    obtain ⟨B, newId, initId, bmB, BX, h0⟩ := base3 _ r.2
    simp only [Bool.and_eq_true] at h0
    exact ⟨B, newId, initId, bmB, BX, h0.1, of_decide_eq_true h0.2⟩
  · intro e c k h1 h2
    have hm : e ∈ L.xts := by simpa using h1
    exact of_decide_eq_true (List.all_eq_true.mp (List.all_eq_true.mp cx3 e hm) (c, k) (lookup_mem h2))
  · intro f q e
    have hq := lookup_mem e
    obtain ⟨r1, r2, r3, r4, r5, r6⟩ := mkq _ hq
    refine ⟨_, _, of_decide_eq_true r1, List.mem_map.mpr ⟨_, hq, rfl⟩, List.mem_map.mpr ⟨_, hq, rfl⟩, fun p hp ep => ?_⟩
    obtain ⟨r, hr, rfl⟩ := List.mem_map.mp hp
    have z := List.all_eq_true.mp r6 r hr
    simp only [Bool.or_eq_true, decide_eq_true_eq] at z
    rcases z with z | z
    · exact (z ep).elim
    · exact z
  · intro base hK hG q hq
    obtain ⟨r, hr, rfl⟩ := List.mem_map.mp hq
    obtain ⟨r1, r2, r3, r4, r5, r6⟩ := mkq _ hr
    refine ⟨PySem.W.codeHd_of_K hK r2, ?_, of_decide_eq_true r4⟩
    unfold bmB at r5
    split at r5
    · rename_i bm hb
      simp only [Bool.and_eq_true] at r5
      obtain ⟨q1, q2, q3, q4⟩ := r5
      split at q4
      · rename_i m d sl hl
        simp only [Bool.and_eq_true, decide_eq_true_eq] at q4
        obtain ⟨rfl, rfl⟩ := q4
        exact ⟨bm, _, PySem.W.mg_of hK hG hb, of_decide_eq_true q1, of_decide_eq_true q2, of_decide_eq_true q3, hK _ _ hl, rfl, rfl, rfl⟩
      · cases q4
    · cases r5
  · intro n m f hm
    have r := List.all_eq_true.mp c6 (n, m, f) hm
    simp only [Bool.and_eq_true] at r
    obtain ⟨r1, r2, r3, r4, r5⟩ := r
    obtain ⟨h1, h2⟩ := He5.wrapB_ok r1
    rw [of_decide_eq_true r3]
    exact ⟨⟨r4, He.eqO_ok r5⟩, _, ⟨h1, h2, r2⟩⟩
  · intro c k f hk hs
    have r := List.all_eq_true.mp cne (c, k) (lookup_mem hk)
    simp only [hs, Option.isNone_some, Bool.false_or] at r
    obtain ⟨r0, r1⟩ := Bool.and_eq_true_iff.mp r
    obtain ⟨r2, r3⟩ := Bool.and_eq_true_iff.mp r1
    obtain ⟨r4, r5⟩ := Bool.and_eq_true_iff.mp r0
    refine ⟨He.eqO_ok r4, r5, fun t ht => of_decide_eq_true (List.all_eq_true.mp r2 t (tyL_mem ht)), fun c' k' hk' hi hn => ?_⟩
    have z := List.all_eq_true.mp r3 (c', k') (lookup_mem hk')
    have hi2 : k'.init.isNone = false := by cases hq : k'.init <;> simp_all
    simp only [hi2, hn, Bool.false_or] at z
    exact of_decide_eq_true z
  · intro c hc
    have r := List.all_eq_true.mp cxi c (by simpa using hc)
    split at r
    · rw [Bool.and_eq_true] at r
      have r := r.1
      unfold exkB at r
      simp only [Bool.and_eq_true] at r
      obtain ⟨r1, r2, r3, r4, r5, r6⟩ := r
      exact ⟨r1, He.eqO_ok r2, He.eqO_ok r3, of_decide_eq_true r4, He.eqO_ok r5, of_decide_eq_true r6⟩
    · cases r
  · intro c t hc ht μ ns vs b hb
    have r := List.all_eq_true.mp cxi c (by simpa using hc)
    split at r
    · rename_i k hk
      rw [Bool.and_eq_true] at r
      have r := of_decide_eq_true (List.all_eq_true.mp r.2 t (by simpa using ht))
      have hk : (L.tab K).P.cls c = some k := hk
      rw [r]
      cases t with
      | py n =>
        by_cases h5 : n ≤ 5
        · simp [isTy, if_pos h5, rd, tyNo] at hb
        · simp only [isTy, if_neg h5, hk, Option.map_some] at hb
          exact hb
      | own e =>
        unfold isTy at hb
        simp only [rd, hk, Option.map_some] at hb
        exact hb
    · cases r
structure DefOk (T : Tab) (P : Program) (w : World) (K : PySem.W.Frag) (mg : Str → Option Value) (f : Nat) (F : Fn) : Prop where
  ex : ∃ (x qual : Str) (params : Arguments) (body : List Stmt) (scope : Scope) (dvs : List V) (fd : FuncData) (N ps : List Str), FunD K x qual params body scope dvs [] (T.fa f) fd ∧ FnScope N ps scope ∧ F.np = ps.length ∧ F.nn = N.length ∧ (∀ m ix ks, T.form f m ix = some ks → BindOk T K fd ps F m ix ks) ∧
    ∀ (base : Heap) (n : Nat), BodyOk T P w K mg base n N qual scope (T.fa f) body F.body
/-- a def that takes a lambda -/
structure DefOkT (T : Tab) (P : Program) (w : World) (K : PySem.W.Frag) (mg : Str → Option Value) (f : Nat) : Prop where
  ex : ∃ (x qual nm : Str) (params : Arguments) (body : List Stmt) (scope : Scope) (dvs : List V) (fd : FuncData) (N : List Str) (F : Fn), T.P.fns f = some F ∧ FunD K x qual params body scope dvs [] (T.fa f) fd ∧ FnScope N [nm] scope ∧ (∀ (s : Shared) (u : Value), K.In s.heap → BindsTo s fd ⟨[u], []⟩ ([nm].zip [u])) ∧
    (N[0]? = some nm ∧ Vis scope nm ∧ (nm == ("__debug__" : Str)) = false ∧ (nm == ("__classdict__" : Str)) = false) ∧ F.np = 1 ∧ F.nn = N.length ∧ ∀ (base : Heap) (n : Nat), BodyOkT T P w K mg base n N qual scope (T.fa f) nm body F.body
theorem fns_all {T : Tab} {P : Program} {w : World} {K : PySem.W.Frag} {mg : Str → Option Value} {base : Heap} (tab : TabOk T K) (tabs : ∀ q ∈ T.cds, LamX.TabB base mg q.1 q.2) (nex : T.ex = none) (isf : ∀ f F, T.P.fns f = some F → PySem.W.isFn K (.ref (T.fa f)) = true) (h : ∀ f F, T.P.fns f = some F → DefOk T P w K mg f F) (ht : ∀ f, T.thk.contains f = true → DefOkT T P w K mg f) :
    ∀ n j, j ≤ n → FnsOk T P w K mg base j ∧ ∀ f, T.thk.contains f = true → ThkF T P w K mg base j f
  | n, 0, _ => by
    refine ⟨fun f F hF => ?_, fun f hf => ?_⟩
    · obtain ⟨x, qual, params, body, scope, dvs, fd, N, ps, Fd, S, h1, h2, h3, h4⟩ := (h f F hF).ex
      exact ⟨fd, ps, def_ok0 (x := x) (qual := qual) (params := params) (body := body) (scope := scope) (dvs := dvs) (kws := []), Fd.kp, isf f F hF, h3⟩
    · obtain ⟨x, qual, nm, params, body, scope, dvs, fd, N, F, hF, Fd, S, hb, ⟨hN, hv, hd, hcd⟩, h1, h2, h4⟩ := (ht f hf).ex
      exact thk_ok0 (qual := qual) hN hv hd hcd Fd.kp
  | 0, j + 1, hj => absurd hj (by omega)
  | n + 1, j + 1, hj => by
    have ih := fns_all (base := base) tab tabs nex isf h ht n
    have l1 : ∀ i, i ≤ j → FnsOk T P w K mg base i := fun i hi => (ih i (by omega)).1
    have l2 : T.clo = none → ∀ i, i ≤ j → ∀ f, T.thk.contains f = true → ThkF T P w K mg base i f := fun _ i hi => (ih i (by omega)).2
    refine ⟨fun f F hF => ?_, fun f hf => ?_⟩
    · obtain ⟨x, qual, params, body, scope, dvs, fd, N, ps, Fd, S, h1, h2, h3, h4⟩ := (h f F hF).ex
      exact ⟨fd, ps, def_ok hF Fd S h1 h2 tab tabs nex l1 l2 (h4 base j), Fd.kp, isf f F hF, h3⟩
    · obtain ⟨x, qual, nm, params, body, scope, dvs, fd, N, F, hF, Fd, S, hb, ⟨hN, hv, hd, hcd⟩, h1, h2, h4⟩ := (ht f hf).ex
      exact thk_ok hF Fd S hb hN hv hd hcd h1 h2 tab tabs l1 (h4 base j)
/-- every def stands at its place -/
def pthAll (L : LawT) : Bool := L.fns.all fun q => (L.pth.lookup q.1).isSome
theorem isf_of {L : LawT} {K : PySem.W.Frag} (c : chk L K = true) (h : pthAll L = true) {f : Nat} {F : Fn} (e : L.prog.fns f = some F) : PySem.W.isFn K (.ref ((L.tab K).fa f)) = true := by
  unfold chk at c
  simp only [Bool.and_eq_true] at c
  have q := List.all_eq_true.mp h (f, F) (lookup_mem e)
  obtain ⟨p, ep⟩ := Option.isSome_iff_exists.mp q
  have r := List.all_eq_true.mp c.1 (f, p) (lookup_mem ep)
  simp only [Bool.and_eq_true] at r
  have e2 : (L.tab K).fa f = p.adr K := by show (match L.pth.lookup f with | some p => p.adr K | none => 0) = _; rw [ep]
  rw [e2]; exact r.2.1
/-- the forms of a def's calls, one by one -/
theorem forms_all {L : LawT} {f : Nat} {l : List ((Nat × List Nat) × List Str)} {Q : Nat → List Nat → List Str → Prop} (e : L.forms.lookup f = some l) (h : ∀ z ∈ l, Q z.1.1 z.1.2 z.2) (m : Nat) (ix : List Nat) (ks : List Str) (g : L.form f m ix = some ks) : Q m ix ks := by
  unfold LawT.form at g
  rw [e] at g
  exact h _ (lookup_mem g)
theorem bindAll {L : LawT} {K : PySem.W.Frag} {fd : FuncData} {ps : List Str} {F : Fn} {f : Nat} {l : List ((Nat × List Nat) × List Str)} (e : L.forms.lookup f = some l) (h : ∀ z ∈ l, BindOk (L.tab K) K fd ps F z.1.1 z.1.2 z.2) (m : Nat) (ix : List Nat) (ks : List Str) (g : (L.tab K).form f m ix = some ks) : BindOk (L.tab K) K fd ps F m ix ks := forms_all (Q := fun m ix ks => BindOk (L.tab K) K fd ps F m ix ks) e h m ix ks g
/-- an empty tuple of the text -/
def tup0B (K : PySem.W.Frag) (p : Addr) : Bool := match K.lookup p with
  | some ⟨.type c, _, .seq its _, _⟩ => decide (c = "tuple") && its.isEmpty
  | _ => false
theorem tup0_ok {K : PySem.W.Frag} {p : Addr} (h : tup0B K p = true) (H : Hp) : SqT K H p [] := by
  unfold tup0B at h
  split at h
  · rename_i c od its n sl q
    rw [Bool.and_eq_true] at h
    have e : its = #[] := Array.isEmpty_iff.mp h.2
    subst e
    exact .inr ⟨_, #[], n, q, congrArg Value.type (of_decide_eq_true h.1), rfl, by decide, .nil⟩
  · cases h
theorem df_nil {T : Tab} {K : PySem.W.Frag} : DfOk T K [] [] := fun a => Reps.nil
theorem df_tup0 {T : Tab} {K : PySem.W.Frag} {p : Addr} {l : List D} {vs : List V} (h : tup0B K p = true) (r : DfOk T K l vs) : DfOk T K (.tup [] :: l) (.ref p :: vs) := fun a => Reps.cons (by simp only [Rep]; exact ⟨p, [], rfl, .inr ⟨rfl, tup0_ok h _⟩, Reps.nil⟩) (r a)
theorem vals_script : ∀ {us : List Value} {zs : List Int}, IntsAre us zs → Vals (zs.map V.int) us
  | _, _, .nil => .nil
  | _, _, .cons z tk more => .cons ⟨tk, rfl⟩ (vals_script more)
/-- what is tracked at the start: the script and the tables, which are empty -/
def Sole (H : Hp) (a : Addr) (cs : List Addr) : Prop := ∀ b u, H b = some u → (b = a ∧ b ∉ cs ∧ ∃ o xs, u = .frz o (.lst xs)) ∨ (b ∈ cs ∧ u = .tbl #[])
section
variable {P : Program} {w : World} {K : PySem.W.Frag} {mg mb : Str → Option Value} {k : Nat} {fa a : Addr} {fd : FuncData} {x : Str} {sp : Sp} {t : Shared} {us : List Value} {zs : List Int} {cs : List Addr}
/-- the law's call over a heap in which the script and the tables alone may be tracked -/
theorem sole_call {H : Hp} (kin : K.In t.heap) (names : t.heap.Ns mainGlobals mg) (blt : t.heap.Ns builtinsNs mb) (boot : ∀ y : Str, y ≠ "__name__" → mb y = bootBuiltins y) (lim0 : t.heap.NoLimit) (gen0 : t.gens = #[])
    (tabs : ∀ p ∈ cs, t.heap.get? p = some { cls := .none, data := .fields #[] } ∧ K.lookup p = none ∧ isCodeTable t.heap p) (at_a : t.heap.get? a = some { cls := .type "list", data := .seq us.toArray }) (room : Room k callerA)
    (fun_ : ∀ base : Heap, K.In base → base.Ns mainGlobals mg → FnG P w K mg base k fa fd [x] sp) (bind : ∀ (s : Shared) (v : Value), BindsTo s fd ⟨[v], []⟩ [(x, v)])
    (sole : Sole H a cs) (all : ∀ p ∈ cs, H p = some (.tbl #[])) (free : H a ≠ none → K.lookup a = none) (good : HOk P w H t.heap) (want : sp [.ref a] H (fun v _ => v = .bl true) fun _ _ _ => False) :
    codeAny (model P w) callerA (.call (.ref fa) ⟨[.ref a], []⟩) (fun r t' => r = .ok (.ret (.bool true)) ∧ OldK t.heap t'.heap ∧ t'.os = t.os ∧ AllBare t'.gens) t := by
  have none_of : ∀ {b : Addr} {o : Obj}, t.heap.get? b = some o → (∀ vs n, o.data ≠ .seq vs n) → (∀ vs, o.data ≠ .fields vs) → H b = none := by
    intro b o g n1 n2
    cases hb : H b with
    | none => rfl
    | some u =>
      rcases sole b u hb with ⟨rfl, _, _⟩ | ⟨hc, _⟩
      · rw [at_a] at g; cases g; exact (n1 _ _ rfl).elim
      · rw [(tabs b hc).1] at g; cases g; exact (n2 _ rfl).elim
  have kept : ∀ {b : Addr} {m : Str → Option Value}, t.heap.Ns b m → (hidT t.heap H).Ns b m := by
    rintro b m ⟨o, es, e, g, d, r⟩
    exact ⟨o, es, e, hidT_get g (none_of g (fun vs n z => by rw [d] at z; cases z) fun vs z => by rw [d] at z; cases z), d, r⟩
  have kb : K.In (hidT t.heap H) := by
    intro b o e
    refine hidT_get (kin b o e) ?_
    cases hb : H b with
    | none => rfl
    | some u =>
      rcases sole b u hb with ⟨rfl, _, _⟩ | ⟨hc, _⟩
      · rw [free (by simp [hb])] at e; cases e
      · rw [(tabs b hc).2.1] at e; cases e
  have lim1 : (hidT t.heap H).NoLimit := by
    obtain ⟨m, g, q⟩ := lim0
    exact ⟨m, kept g, q⟩
  have env : Env0 P w K mg (hidT t.heap H) callerA [] t H := by
    refine ⟨rfl, ⟨kb, kept names, ⟨mb, kept blt, boot⟩, lim1⟩, fun b o e => of_hidT e, Nat.le_of_eq (hidT_size _ _), trivial, ?_, good, .of_eq gen0⟩
    intro b hb
    exact absurd (show b ∈ ([] : List Addr) from hb) List.not_mem_nil
  have run := (fun_ _ kb (kept names)).run callerA [] t H ⟨[.ref a], []⟩ [.ref a] [.ref a] _ _ room rfl env (bind t (.ref a)) (.cons rfl .nil) want
  refine codeAny_mono run fun r t' h => ?_
  cases r with
  | error e =>
    obtain ⟨_, _, _, _, _, _, _, _, _, _, _, _, z⟩ := (show L2N.CX P w [] H t (fun _ _ _ => False) e t' from h)
    exact z.elim
  | ok fl =>
   cases fl with
   | next => exact False.elim h
   | brk => exact False.elim h
   | cont => exact False.elim h
   | ret u =>
    obtain ⟨v, H', os, bare, un, good', rv, ev⟩ := h
    have ev : v = .bl true := ev
    subst ev
    cases (show u = Value.bool true from rv)
    have grown : ∀ b ∈ cs, ∃ more : Array Value, t'.heap.get? b = some { cls := .none, data := .fields more } := fun b hb => by
      obtain ⟨more, z⟩ := un.tbls b #[] (all b hb)
      exact ⟨_, good' b _ z⟩
    have key : ∀ b o, b ∉ cs → t.heap.get? b = some o → t'.heap.get? b = some o := fun b o nb e => by
      cases hb : H b with
      | none => exact un.keep b o e hb (fun z => absurd (show b ∈ ([] : List Addr) from z) List.not_mem_nil) (by simp)
      | some u =>
        rcases sole b u hb with ⟨rfl, _, o2, xs, rfl⟩ | ⟨hc, _⟩
        · obtain ⟨q1, _⟩ := good b _ hb
          obtain ⟨q2, _⟩ := good' b _ (un.frzs b o2 _ hb)
          rw [e] at q1
          cases q1
          exact q2
        · exact absurd hc nb
    refine ⟨rfl, ⟨fun b o e => ?_, fun b o e => ?_⟩, os, bare⟩
    · by_cases hb : b ∈ cs
      · obtain ⟨more, hm⟩ := grown b hb
        rw [(tabs b hb).1] at e
        cases e
        exact .inr (.inl ⟨(tabs b hb).2.2, rfl, #[], more, rfl, by rw [Array.empty_append]; exact hm⟩)
      · exact .inl (key b o hb e)
    · by_cases hb : b ∈ cs
      · obtain ⟨more, hm⟩ := grown b hb
        exact ⟨_, hm⟩
      · exact ⟨o, key b o hb e⟩
/-- the law's call, by what the small interpreter makes of it -/
theorem law_run {T : Tab} {n f : Nat} {μ : Mem} (kin : K.In t.heap) (names : t.heap.Ns mainGlobals mg) (blt : t.heap.Ns builtinsNs mb) (boot : ∀ y : Str, y ≠ "__name__" → mb y = bootBuiltins y) (lim0 : t.heap.NoLimit) (gen0 : t.gens = #[])
    (tabs : ∀ p ∈ T.tbs.map (·.1), t.heap.get? p = some { cls := .none, data := .fields #[] } ∧ K.lookup p = none ∧ isCodeTable t.heap p)
    (at_a : t.heap.get? a = some { cls := .type "list", data := .seq us.toArray }) (intsH : IntsAre us zs) (few : zs.length ≤ sizeLine) (room : Room k callerA) (fun_ : ∀ base : Heap, K.In base → base.Ns mainGlobals mg → FnG P w K mg base k fa fd [x] (spD T K n f)) (bind : ∀ (s : Shared) (v : Value), BindsTo s fd ⟨[v], []⟩ [(x, v)])
    (ans : calD T.P T.reprS n f [.rol (zs.map D.int)] [] = .ok (.bl true) μ) :
    codeAny (model P w) callerA (.call (.ref fa) ⟨[.ref a], []⟩) (fun r t' => r = .ok (.ret (.bool true)) ∧ OldK t.heap t'.heap ∧ t'.os = t.os ∧ AllBare t'.gens) t := by
  have rv := vals_script intsH
  have len := intsH.length
  have reps : ∀ b : Abs, ∀ l : List Int, Reps T K b (l.map D.int) (l.map V.int) := by
    intro b l
    induction l with
    | nil => exact Reps.nil
    | cons z l ih => exact Reps.cons (by simp only [Rep]) ih
  have aT : a ∉ T.tbs.map (·.1) := fun z => by
    have q := (tabs a z).1
    rw [at_a] at q
    cases q
  have want : ∀ (H : Hp) (G : Hp), (∀ p o, G p = some o → H p = some o) → (∀ p ∈ T.tbs.map (·.1), G p = none) → (∀ q p, H q ≠ some (.own p)) → (∀ p ∈ T.tbs.map (·.1), H p = some (.tbl #[])) → SqL K G a (zs.map V.int) → spD T K n f [.ref a] H (fun v _ => v = .bl true) fun _ _ _ => False := by
    intro H G le gt ow al sq
    refine ⟨⟨[], G⟩, [], [.rol (zs.map D.int)], ⟨le, rfl, List.nodup_nil, fun i p ob e => ?_, fun q p e => (ow q p e).elim, fun p hp => ?_, fun p hp => gt _ (List.mem_map.mpr ⟨p, hp, rfl⟩)⟩, Reps.cons ?_ Reps.nil, ?_⟩
    · exact absurd e (by simp)
    · exact LamX.TabS.nil (al _ (List.mem_map.mpr ⟨p, hp, rfl⟩))
    · simp only [Rep]
      exact ⟨a, _, rfl, sq, reps _ zs⟩
    · show WpR (calD T.P T.reprS n f [.rol (zs.map D.int)] []) _ _
      rw [ans]
      intro b v H' st hm r
      simpa only [Rep] using r
  have tok : ∀ {H : Hp} {b : Addr} {u : HO}, b ∈ T.tbs.map (·.1) → u = .tbl #[] → ObjOk P w H t.heap b u := fun hb e => by
    subst e
    exact (tabs _ hb).1
  cases hk : K.lookup a with
  | some o =>
    have e := kin a o hk
    rw [at_a] at e
    cases e
    let H0 : Hp := fun b => if b ∈ T.tbs.map (·.1) then some (.tbl #[]) else none
    have inv : ∀ {b u}, H0 b = some u → b ∈ T.tbs.map (·.1) ∧ u = .tbl #[] := fun {b u} z => by
      by_cases hb : b ∈ T.tbs.map (·.1)
      · exact ⟨hb, (Option.some.inj ((if_pos hb).symm.trans z)).symm⟩
      · exact absurd ((if_neg hb).symm.trans z) (by simp)
    exact sole_call (H := H0) kin names blt boot lim0 gen0 tabs at_a room fun_ bind (fun b u z => .inr (inv z)) (fun p hp => if_pos hp) (fun z => absurd (if_neg aT) z) (fun b u z => tok (inv z).1 (inv z).2)
      (want H0 (fun _ => none) (fun p o z => by cases z) (fun _ _ => rfl) (fun q p z => by cases (inv z).2) (fun p hp => if_pos hp) (.inr ⟨_, us.toArray, _, hk, rfl, rfl, rfl, by rw [List.size_toArray, len]; exact few, by simpa using rv⟩))
  | none =>
    let o0 : Obj := { cls := .type "list", data := .seq us.toArray }
    let G0 : Hp := fun b => if b = a then some (.frz o0 (.lst (zs.map V.int))) else none
    let H0 : Hp := fun b => if b ∈ T.tbs.map (·.1) then some (.tbl #[]) else G0 b
    have invG : ∀ {b u}, G0 b = some u → b = a ∧ u = .frz o0 (.lst (zs.map V.int)) := fun {b u} z => by
      by_cases hb : b = a
      · exact ⟨hb, (Option.some.inj ((if_pos hb).symm.trans z)).symm⟩
      · exact absurd ((if_neg hb).symm.trans z) (by simp)
    have inv : ∀ {b u}, H0 b = some u → (b ∈ T.tbs.map (·.1) ∧ u = .tbl #[]) ∨ (b = a ∧ u = .frz o0 (.lst (zs.map V.int))) := fun {b u} z => by
      by_cases hb : b ∈ T.tbs.map (·.1)
      · exact .inl ⟨hb, (Option.some.inj ((if_pos hb).symm.trans z)).symm⟩
      · exact .inr (invG ((if_neg hb).symm.trans z))
    refine sole_call (H := H0) kin names blt boot lim0 gen0 tabs at_a room fun_ bind (fun b u z => ?_) (fun p hp => if_pos hp) (fun _ => hk) (fun b u z => ?_)
      (want H0 G0 (fun p o z => ?_) (fun p hp => if_neg (show ¬ p = a from fun z => aT (by rw [← z]; exact hp))) (fun q p z => ?_) (fun p hp => if_pos hp) (.inl (.inr ⟨o0, if_pos rfl⟩)))
    · rcases inv z with h | ⟨rfl, rfl⟩
      · exact .inr h
      · exact .inl ⟨rfl, aT, _, _, rfl⟩
    · rcases inv z with h | ⟨rfl, rfl⟩
      · exact tok h.1 h.2
      · exact ⟨at_a, by rw [List.length_map]; exact few, us, _, rv, at_a⟩
    · obtain ⟨rfl, rfl⟩ := invG z
      exact (if_neg aT).trans z
    · rcases inv z with h | h
      · cases h.2
      · cases h.2
end
/-- where an exception's __init__ stands; its text -/
def XI.at_ (x : XI) (L : LawT) (K : PySem.W.Frag) : Addr := He.ma K ((L.tab K).ca x.c) "__init__"
def XI.params (x : XI) : Arguments := xiA ((("self" : Str) :: x.fs).zip x.pps)
def XI.body (x : XI) : List Stmt := xiSup x.ps.1 x.ps.2.1 x.ps.2.2.1 x.ps.2.2.2.1 x.ps.2.2.2.2 :: (x.fs.zip x.sets).map fun q => xiSet q.1 q.2.1 q.2.2.1 q.2.2.2.1 q.2.2.2.2
def XI.val (x : XI) : He.FnW := some ("__init__", x.qual, x.params, .stmts x.body, xiS x.fs, mainGlobals, [], builtinsNs)
def XI.obs (x : XI) (L : LawT) (K : PySem.W.Frag) : He.FnW := match K.lookup (x.at_ L K) with
  | some ⟨_, _, .func fd, _⟩ => some (fd.name, fd.qualname, fd.params, fd.body, fd.scope, fd.globals, [], fd.builtins)
  | _ => none
def XI.okF (x : XI) (L : LawT) (K : PySem.W.Frag) (fd : FuncData) : Bool :=
  (match fd.closure with
    | [(nm, cc)] => decide (nm = "__class__") && (match K.lookup cc with
      | some ⟨_, _, .cell (some (.ref C)), _⟩ => decide (C = (L.tab K).ca x.c)
      | _ => false)
    | _ => false) && (decide (fd.defaults = .none) && (decide (fd.kwdefaults = .none) && (match fd.code with
    | .ref cda => PySem.W.codeIn K (.ref cda) x.qual && (match K.lookup cda with
      | some ⟨_, _, .fields vs, _⟩ => (match (vs[2]? : Option Value) with
        | some (.str file _) => decide (file = L.file)
        | _ => false)
      | _ => false)
    | _ => false)))
def XI.ok (x : XI) (L : LawT) (K : PySem.W.Frag) : Bool := let C := (L.tab K).ca x.c
  (match K.lookup (x.at_ L K) with
    | some ⟨_, _, .func fd, _⟩ => x.okF L K fd
    | _ => false) && (He.eqO (PySem.W.findIn K (.ref C) "__init__") (some (some (.ref (x.at_ L K)))) && (PySem.W.isFn K (.ref (x.at_ L K)) && ((x.fs.all fun f => He.eqO (PySem.W.findIn K (.ref C) f) (some none)) &&
    (He.eqO (PySem.W.nsIn K cStatics "thirdparty.any") (some none) && He.eqO (PySem.W.nsIn K mainGlobals "super") (some none)))))
/-- what is not looked up in the heap -/
def XI.pure_ (x : XI) : Bool := let sc := (xiS x.fs).names
  decide (x.pps.length = x.fs.length + 1) && (decide (x.sets.length = x.fs.length) && (decide (sc.lookup ("super" : Str) = some .globalImplicit) && (decide (sc.lookup ("__class__" : Str) = some .free) && (decide (sc.lookup ("self" : Str) = some .local) &&
  ((x.fs.all fun f => decide (sc.lookup f = some .local) && (!(f == ("__debug__" : Str)) && decide (f ≠ ("self" : Str)))) && (decide x.fs.Nodup && sc.all fun y => decide (y.2 ≠ .cell)))))))
/-- what is left to be shown of the text of an __init__ -/
structure XI.Txt (x : XI) : Prop where
  sup : SupOk x.qual (xiS x.fs) x.ps.1 x.ps.2.1 x.ps.2.2.1 x.ps.2.2.2.1
  bind : ∀ (doc pm ct cda : Value) (an : Option Addr) (cc : Addr) (us : List Value), us.length = x.fs.length + 1 → bindArgs (PySem.W.ksFn "__init__" x.qual x.params x.body (xiS x.fs) .none .none doc pm an cda ct cc) ⟨us, []⟩ = pure ((("self" : Str) :: x.fs).zip us)
open He5 in
def obsDI (L : LawT) (fn : List DefA) (ex : PySem.W.Frag → Bool) (K : PySem.W.Frag) : He.AlD := (chk L K && (ex K && ((fn.all fun d => d.ok K) && L.xis.all fun x => x.ok L K)), (fn.map fun d => fnA K (d.at_ K)) ++ L.xis.map fun x => x.obs L K)
open He5 in
def valDI (L : LawT) (fn : List DefA) : He.AlD := (true, fn.map DefA.val ++ L.xis.map XI.val)
/-- the part of the heap that is looked at: all but the lambda makers' tables -/
def frL (L : LawT) (g : Addr → Option Obj) (as : List Addr) : PySem.W.Frag :=
  if L.mks.isEmpty then He.frG g as else He.frG g (as.filter fun a => !((L.tab (He.frG g as)).tbs.map (·.1)).contains a)
theorem frL_in {L : LawT} {h : Heap} {as : List Addr} : (frL L h.get? as).In h := by
  unfold frL
  split <;> exact He.frG_in
def tabE (g : Addr → Option Obj) (p : Addr) : Bool := match g p with
  | some ⟨.none, none, .fields vs, sl⟩ => vs.isEmpty && sl.isEmpty
  | _ => false
theorem tabE_ok {h : Heap} {p : Addr} (e : tabE h.get? p = true) : h.get? p = some { cls := .none, data := .fields #[] } := by
  unfold tabE at e
  split at e
  · rename_i vs sl q
    rw [Bool.and_eq_true, Array.isEmpty_iff, Array.isEmpty_iff] at e
    obtain ⟨rfl, rfl⟩ := e
    exact q
  · cases e
open He5 in
open He5 in
section
open He5
variable {L : LawT} {fn : List DefA} {ex : PySem.W.Frag → Bool} {K : PySem.W.Frag}
theorem says_1 (c : obsDI L fn ex K = valDI L fn) : chk L K = true ∧ ex K = true ∧ (fn.all fun d => d.ok K) = true ∧ (L.xis.all fun x => x.ok L K) = true := by
  have c1 : (chk L K && (ex K && ((fn.all fun d => d.ok K) && L.xis.all fun x => x.ok L K))) = true := congrArg (fun z : He.AlD => z.1) c
  simp only [Bool.and_eq_true] at c1
  exact c1
theorem says_chk (c : obsDI L fn ex K = valDI L fn) : chk L K = true ∧ ex K = true := ⟨(says_1 c).1, (says_1 c).2.1⟩
theorem says_2 (c : obsDI L fn ex K = valDI L fn) : (fn.map fun d => fnA K (d.at_ K)) = fn.map DefA.val ∧ (L.xis.map fun x => x.obs L K) = L.xis.map XI.val := by
  have e : (fn.map fun d => fnA K (d.at_ K)) ++ (L.xis.map fun x => x.obs L K) = fn.map DefA.val ++ L.xis.map XI.val := congrArg (fun z : He.AlD => z.2) c
  exact List.append_inj e (by simp)
theorem says_def (c : obsDI L fn ex K = valDI L fn) (i : Nat) {d : DefA} (h : fn[i]? = some d := by rfl) : ∃ fd, FunD K d.name d.qual d.params d.body d.scope (d.dvs K) (d.kws K) (d.at_ K) fd := by
  obtain ⟨_, _, c1, _⟩ := says_1 c
  have e2 : (fn.map fun d => fnA K (d.at_ K))[i]? = (fn.map DefA.val)[i]? := by rw [(says_2 c).1]
  rw [List.getElem?_map, List.getElem?_map, h] at e2
  exact DefA.funD (Option.some.inj e2) (List.all_eq_true.mp c1 d (List.mem_of_getElem? h))
/-- an exception's __init__ -/
theorem says_xi {P : Program} (c : obsDI L fn ex K = valDI L fn) (hp : L.xis.all XI.pure_ = true) (ht : ∀ x ∈ L.xis, x.Txt) (top : (P.main.scope.names.lookup ("super" : Str)).isSome = false) (file : ((P.main.file : Str) == L.file) = true) : ∀ x ∈ L.xis, XIni P K ((L.tab K).ca x.c) (x.at_ L K) x.fs := by
  intro x hx
  obtain ⟨_, _, _, c1⟩ := says_1 c
  have k := List.all_eq_true.mp c1 x hx
  have p := List.all_eq_true.mp hp x hx
  have t := ht x hx
  have e : x.obs L K = x.val := List.map_inj_left.mp (says_2 c).2 x hx
  unfold XI.ok at k
  unfold XI.pure_ at p
  simp only [Bool.and_eq_true, decide_eq_true_eq] at k p
  obtain ⟨k0, k1, k2, k3, k4, k5⟩ := k
  obtain ⟨p1, p2, p3, p4, p5, p6, p7, p8⟩ := p
  refine ⟨He.eqO_ok k1, k2, fun f hf => He.eqO_ok (List.all_eq_true.mp k3 f hf), He.eqO_ok k4, He.eqO_ok k5, top, ⟨p3, p4, p5, fun f hf => ?_, p7, fun y hy => of_decide_eq_true (List.all_eq_true.mp p8 y hy)⟩, ?_⟩
  · have z := List.all_eq_true.mp p6 f hf
    simp only [Bool.and_eq_true, decide_eq_true_eq, Bool.not_eq_true'] at z
    exact z
  · unfold XI.obs at e
    cases q : K.lookup (x.at_ L K) with
    | none => rw [q] at k0; cases k0
    | some o =>
      obtain ⟨oc, od, dt, osl⟩ := o
      rw [q] at k0 e
      cases dt with
      | func fd =>
        obtain ⟨n1, n2, n3, n4, n5, n6, n7, n8, n9, n10, n11, n12, n13, n14, n15⟩ := fd
        have e2 : (some (n1, n2, n3, n4, n5, n6, [], n15) : He.FnW) = some (("__init__" : Str), x.qual, x.params, FuncBody.stmts x.body, xiS x.fs, mainGlobals, [], builtinsNs) := e
        simp only [Option.some.injEq, Prod.mk.injEq] at e2
        obtain ⟨h1, h2, h3, h4, h5, h6, _, h8⟩ := e2
        have k0 : x.okF L K ⟨n1, n2, n3, n4, n5, n6, n7, n8, n9, n10, n11, n12, n13, n14, n15⟩ = true := k0
        subst h1 h2 h3 h4 h5 h6 h8
        unfold XI.okF at k0
        simp only [Bool.and_eq_true, decide_eq_true_eq] at k0
        obtain ⟨a1, a2, a3, a4⟩ := k0
        cases a2; cases a3
        split at a1
        · rename_i nm cc
          simp only [Bool.and_eq_true, decide_eq_true_eq] at a1
          obtain ⟨rfl, a1⟩ := a1
          split at a1
          · rename_i cl cld C csl hcell
            have a1 := of_decide_eq_true a1
            subst a1
            split at a4
            · rename_i cda
              simp only [Bool.and_eq_true] at a4
              obtain ⟨a5, a4⟩ := a4
              split at a4
              · rename_i ccl cdd vs ccs hcode
                split at a4
                · rename_i fl tf hv
                  have a4 := of_decide_eq_true a4
                  subst a4
                  exact ⟨x.qual, x.pps, x.sets, x.ps.1, x.ps.2.1, x.ps.2.2.1, x.ps.2.2.2.1, x.ps.2.2.2.2, n10, n11, n14, oc, ccl, cl, n12, od, cdd, cld, osl, ccs, csl, cda, cc, vs, _, tf, p1, p2, rfl, a5, hcode, hv, file, hcell, t.sup, fun oc us hu => t.bind _ _ _ _ _ _ us hu, fun q hq L f cd cc => rfl⟩
                · cases a4
              · cases a4
            · cases a4
          · cases a1
        · cases a1
      | _ => cases k0
end
/-- the makers' tables -/
theorem tabs_of {L : LawT} {K : PySem.W.Frag} {h : Heap} (kin : K.In h) (ck : chk L K = true) (tb : ∀ p ∈ (L.tab K).tbs, h.get? p.1 = some { cls := .none, data := .fields #[] }) : ∀ p ∈ (L.tab K).tbs.map (·.1), h.get? p = some { cls := .none, data := .fields #[] } ∧ K.lookup p = none ∧ isCodeTable h p := by
  intro p hp
  obtain ⟨q, hq, rfl⟩ := List.mem_map.mp hp
  obtain ⟨r, hr, rfl⟩ := List.mem_map.mp hq
  unfold chk at ck
  simp only [Bool.and_eq_true] at ck
  obtain ⟨_, _, _, _, _, _, _, _, _, _, mk, _, _⟩ := ck
  have z := List.all_eq_true.mp mk r hr
  simp only [Bool.and_eq_true] at z
  refine ⟨tb _ hq, ?_, ((PySem.W.codeHd_of_K kin z.2.1).tab (tb _ hq)).isCodeTable⟩
  exact Option.isNone_iff_eq_none.mp z.2.2.1
/-- the goal that the head leaves, from the small interpreter's answer -/
theorem walk_di {l : PySem.W.OpenLaw} {L : LawT} {q : Program} {loose : List Str} {XP : (Str → Option Value) → Heap → Prop} {YP : World → Heap → Prop} {d : DefRec} {x : Str} {n f : Nat}
    (most : l.most = some 63) (dfl : d.params.defaults = []) (room : Room (3 * n) callerA)
    (facts : ∀ (w : World) (mg : Str → Option Value) (fa : Addr) (h : Heap), YP w h → h.Ns mainGlobals mg → mg d.name = some (.ref fa) →
      ∃ (K : PySem.W.Frag) (fd : FuncData), K.In h ∧ chk L K = true ∧ (∀ p ∈ (L.tab K).tbs, h.get? p.1 = some { cls := .none, data := .fields #[] }) ∧ (∀ (s : Shared) (v : Value), BindsTo s fd ⟨[v], []⟩ [(x, v)]) ∧ ∀ base : Heap, K.In base → base.Ns mainGlobals mg → FnG l.prog w K mg base (3 * n) fa fd [x] (spD (L.tab K) K n f))
    (ans : ∀ zs : List Int, zs.length ≤ 63 → (∀ z ∈ zs, Builtin.Int.intBits z ≤ 1048576) → ∃ μ, calD L.prog shownD n f [.rol (zs.map D.int)] [] = .ok (.bl true) μ) :
    PySem.W.WalkO q loose XP YP l.row.toRowW d [] (fun f vs => PySem.call f vs) := by
  refine Att.attach_callB most dfl fun w s₀ t mg mb fa o pm cd doc a us zs G Y ho hd hcd hmg at_a intsH few bits gen0 => ?_
  obtain ⟨K, fd, kin, ck, tb, bind, fun_⟩ := facts w mg fa _ Y G.T.g hmg
  obtain ⟨μ, ans⟩ := ans zs few bits
  exact law_run (T := L.tab K) kin G.T.g G.T.b G.T.builtins G.T.nolimit gen0 (tabs_of kin ck tb) at_a intsH (Nat.le_trans few (by decide)) room fun_ bind ans
end DI
end

section
set_option Elab.async false
set_option linter.all false
set_option maxRecDepth 100000
namespace DI
open PySem L2 PySem.Spec PyProof.Rows
/-- the own special methods of operators -/
structure OwnAll (T : Tab) (n : Nat) (X : Cx) : Prop where
  eq : EqOwn T n X
  inn : InOwn T n X
  set : SetOwn T n X
  idx : ∀ W, IdxOwn T n X W
/-- what is known in a body -/
structure Bd (L : LawT) (n : Nat) (X : Cx) (W : WX) : Prop where
  O : Own (L.tab X.K) n X
  g : Good L X.K X.mg
  sf : SpForm (L.tab X.K)
  ow : ∀ (n : Nat) (Y : Cx), Own (L.tab Y.K) n Y → Good L Y.K Y.mg → OwnAll (L.tab Y.K) n Y
  tk : Takes X W
  po : PassesOwn (model X.prog X.w) X.A X.env X.xe
  xi : ∀ x ∈ L.xis, XIni X.prog X.K ((L.tab X.K).ca x.c) (x.at_ L X.K) x.fs
theorem takes_never {X : Cx} : Takes X Wn := fun u s' x => by
  obtain ⟨_, _, _, _, _, _, _, _, _, _, _, _, _, _, _, _, z⟩ := x
  exact z.elim
theorem Own.blk {T : Tab} {n : Nat} {X : Cx} (O : Own T n X) {s : Shared} {H : Hp} {scope : Scope} {ce : PySem.Env} {fp : List Addr} : Own T n (X.blk s H scope ce fp) := ⟨O.calm, O.room, O.gd, O.fnA, O.thkA, O.tab, O.tabs, O.nex⟩
theorem Bd.blk {L : LawT} {n : Nat} {X : Cx} {W : WX} (B : Bd L n X W) {s : Shared} {H : Hp} {scope : Scope} {ce : PySem.Env} {fp : List Addr} : Bd L n (X.blk s H scope ce fp) Wn := ⟨B.O.blk, B.g, B.sf, B.ow, takes_never, PassesOwn.never, B.xi⟩
theorem Bd.cmp {L : LawT} {n : Nat} {X : Cx} {W : WX} (B : Bd L n X W) : CmpOk (L.tab X.K) n X := ⟨by have := B.O.room.un; omega, (B.ow n X B.O B.g).eq, (B.ow n X B.O B.g).inn⟩
theorem Bd.units (B : Bd L n X W) : X.A.units + 65 < cLine := by have := B.O.room.un; omega
/-- no class has the special method j -/
def noSp (L : LawT) (j : Nat) : Bool := L.cls.all fun p => (p.2.spec.lookup j).isNone
theorem noSp_of {L : LawT} {j : Nat} (h : noSp L j = true) (c : Nat) : specOf L.prog c j = none := by
  unfold specOf
  cases e : L.prog.cls c with
  | none => rfl
  | some k =>
    have := List.all_eq_true.mp h (c, k) (lookup_mem e)
    simpa using this
/-- own == only -/
theorem own_some {L : LawT} {n : Nat} (h : (noSp L 5 && (noSp L 6 && noSp L 7)) = true) (Y : Cx) (O : Own (L.tab Y.K) n Y) (sf : SpForm (L.tab Y.K)) (G : Good L Y.K Y.mg) : OwnAll (L.tab Y.K) n Y := by
  simp only [Bool.and_eq_true] at h
  obtain ⟨h5, h6, h7⟩ := h
  refine ⟨own_eq O sf G.nea, ?_, ?_, ?_⟩
  · rintro neg pins s σ H x y v u Q I rx ry ⟨a, μ, d, e, c, ns, fs, m, r1, r2, hr, q⟩
    unfold inV at q
    have e1 : specOf (L.tab Y.K).P c 5 = none := noSp_of h5 c
    simp only [hr, e1] at q
    exact q.elim
  · rintro pins s σ H o i v ov iv u Q I ro ri rv ⟨a, μ, x, y, z, c, ns, fs, f, m, r1, r2, r3, hr, hf, q⟩
    have e1 : specOf (L.tab Y.K).P c 7 = none := noSp_of h7 c
    rw [e1] at hf; cases hf
  · intro W value slice pins s σ H x y v u Q a ρ μ d e c ns fs I rx ry hp ho r1 r2 hr q
    unfold idxV at q
    have e1 : specOf (L.tab Y.K).P c 6 = none := noSp_of h6 c
    simp only [hr, e1] at q
    exact q.elim
theorem hf_new {L : LawT} {K : PySem.W.Frag} {c m f0 : Nat} {ix : List Nat} {ks : List Str} {k0 : DI.Cls} (h1 : L.cls.lookup c = some k0) (h2 : k0.init = some f0) (h3 : L.form f0 (m) ix = some ks) : ∀ k f, (L.tab K).P.cls c = some k → k.init = some f → (L.tab K).form f m ix = some ks := by
  intro k f e1 e2
  have e1 : L.cls.lookup c = some k := e1
  rw [h1] at e1; cases e1
  rw [h2] at e2; cases e2
  exact h3
def propB (L : LawT) (m : Nat) : Bool := L.cls.all fun p => match p.2.props.lookup m with
  | some f => decide (L.form f (1) [] = some [])
  | none => true
theorem hf_prop {L : LawT} {K : PySem.W.Frag} {m : Nat} (h : propB L m = true) : ∀ c k f, (L.tab K).P.cls c = some k → k.props.lookup m = some f → (L.tab K).form f 1 [] = some [] := by
  intro c k f e1 e2
  have r := List.all_eq_true.mp h (c, k) (lookup_mem e1)
  simp only [e2] at r
  exact of_decide_eq_true r
def spB (L : LawT) : Bool := L.cls.all fun p => p.2.spec.all fun q => decide (L.form q.2 (spAr q.1) [] = some [])
theorem sp_form {L : LawT} {K : PySem.W.Frag} (h : spB L = true) : SpForm (L.tab K) := by
  intro c k j f e1 e2
  have r := List.all_eq_true.mp (List.all_eq_true.mp h (c, k) (lookup_mem e1)) (j, f) (lookup_mem e2)
  exact of_decide_eq_true r
section
variable {L : LawT} {T : Tab} {n : Nat} {X : Cx} {W : WX} {pos : Pos}
theorem v_ (i : Nat) {x : Str} (hN : X.N[i]? = some x := by rfl) (hv : Vis X.env.scope x := by first | exact Or.inl rfl | exact Or.inr (Or.inl rfl) | exact Or.inr (Or.inr rfl)) (hd : (x == ("__debug__" : Str)) = false := by decide) (hcd : (x == ("__classdict__" : Str)) = false := by decide) : SE T n X W (.Name x pos) (.v i) := se_v hN hv hd hcd
theorem st_ {s : Str} {j : Nat} (h : strG s = true := by decide +kernel) : SE T n X W (.Constant (.str s) j pos) (.k (.str s)) := se_str h
theorem c_ {x : Expr} {xs : List Expr} {e : E} {es : Es} (h : SE T n X W x e) (hs : SA T n X W xs es) (hst : starEach (x :: xs) X.env = (false, eval x X.env) :: starEach xs X.env := by rfl) : SA T n X W (x :: xs) (.c e es) := sa_cons h hs hst
theorem tup_ {xs : List Expr} {es : Es} {k : Nat} (h : SA T n X W xs es) (hp : es.plain = true := by rfl) : SE T n X W (.Tuple xs k pos) (.tup es) := se_tup hp h
theorem key_ {xs : List Expr} {es : Es} {k : Nat} (h : SA T n X W xs es) (hp : es.plain = true := by rfl) : SE T n X W (.Tuple xs k pos) (.key es) := se_key hp h
theorem lst_ {xs : List Expr} {es : Es} (h : SA T n X W xs es) (hp : es.plain = true := by rfl) : SF T n X W (.List xs pos) (.lst es) := sf_lst hp h
theorem xc_ {x : Expr} {xs : List Expr} {e : E} {es : Es} (h : SE T n X W x e) (hs : SX T n X W xs es) (hs0 : isStar e = false := by rfl) (hst : starEach (x :: xs) X.env = (false, eval x X.env) :: starEach xs X.env := by rfl) : SX T n X W (x :: xs) (.c e es) := sx_cons hs0 h hs hst
theorem xs_ {x : Expr} {p : Pos} {xs : List Expr} {e : E} {es : Es} (h : SE T n X W x e) (hs : SX T n X W xs es) (hst : starEach (.Starred x p :: xs) X.env = (true, eval x X.env) :: starEach xs X.env := by rfl) : SX T n X W (.Starred x p :: xs) (.c (.star e) es) := sx_star h hs hst
theorem cmp_ (B : Bd L n X W) {x y : Expr} {d e : E} (o : Cop) (h1 : SE (L.tab X.K) n X W x d) (h2 : SE (L.tab X.K) n X W y e) (hm : behindInMarks (toCmp o) y = false := by rfl) : SE (L.tab X.K) n X W (.Compare x [toCmp o] [y] pos) (.cmp o d e) := se_cmp o B.cmp hm h1 h2
theorem tcmp_ (B : Bd L n X W) {x y : Expr} {d e : E} (o : Cop) (h1 : SE (L.tab X.K) n X W x d) (h2 : SE (L.tab X.K) n X W y e) (hm : behindInMarks (toCmp o) y = false := by rfl) : ST (L.tab X.K) n X W (.Compare x [toCmp o] [y] pos) (.cmp o d e) := st_cmp o B.cmp hm h1 h2
theorem cmp2_ (B : Bd L n X W) {x y z : Expr} {d e f : E} (o p : Cop) (h1 : SE (L.tab X.K) n X W x d) (h2 : SE (L.tab X.K) n X W y e) (h3 : SE (L.tab X.K) n X W z f) (hm : lastMarks [toCmp o, toCmp p] [y, z] = false := by rfl) : SE (L.tab X.K) n X W (.Compare x [toCmp o, toCmp p] [y, z] pos) (.cmp2 o p d e f) := se_cmp2 o p B.cmp hm h1 h2 h3
theorem tv_ {x : Expr} {d : E} (h : SE T n X W x d) (he : ∀ whole, isTrue x X.env whole = (do let v ← whole; standAt x.pos; holding [v] (truthy v)) := by intro _; rfl) : ST T n X W x d := st_val he h
theorem sva1_ {op : BoolOp} {x : Expr} {d : E} (h : SE T n X W x d) : SV T n X W (.BoolOp op [x] pos) (evAnd T.P (T.C n) T.reprS (.c d .n)) := sv_one h (by intro _ _; simp only [evAnd])
theorem idx_ (B : Bd L n X W) {x y : Expr} {d e : E} (h1 : SE (L.tab X.K) n X W x d) (h2 : SE (L.tab X.K) n X W y e) (hs : PlainIx y := by intro _ _; rfl) : SE (L.tab X.K) n X W (.Subscript x y pos) (.idx d e) := se_idx (by have := B.units; omega) ((B.ow n X B.O B.g).idx W) hs h1 h2
theorem g_ (B : Bd L n X W) (i : Nat) {x : Str} {p : Pos} {d : D} (h1 : L.gnm.lookup x = some i := by rfl) (h2 : L.gls.lookup i = some d := by rfl) (hg : Gl X x := by rfl) (hd : (x == ("__debug__" : Str)) = false := by decide) : SE (L.tab X.K) n X W (.Name x p) (.g i) := by
  obtain ⟨u, v, e1, e2, e3⟩ := B.g.gl x i d h1 h2
  exact se_g hg e1 e2 hd h2 e3
theorem cal_ (B : Bd L n X W) (f : Nat) {x : Str} {p : Pos} {y : Expr} {ys : List Expr} {es : Es} (ha : SA (L.tab X.K) n X W (y :: ys) es) (hf : L.form f (es.len) [] = some [] := by rfl) (h1 : L.pth.lookup f = some (.glo x) := by rfl) (hg : Gl X x := by rfl) (hdb : (x == ("__debug__" : Str)) = false := by decide)
    (he : starEach (y :: ys) X.env = (false, eval y X.env) :: starEach ys X.env := by rfl) (hpl : (backTo pos (starEach ys X.env)).any (·.1) = false := by rfl) : SE (L.tab X.K) n X W (.Call (.Name x p) (y :: ys) [] pos) (.cal f es) := se_cal B.O B.tk hf hg (B.g.fn x f h1) (B.g.keepF f _ h1) ha hdb he hpl
theorem new_ (B : Bd L n X W) (c f0 : Nat) {k0 : DI.Cls} {x : Str} {p : Pos} {y : Expr} {ys : List Expr} {es : Es} (ha : SA (L.tab X.K) n X W (y :: ys) es) (k1 : L.cls.lookup c = some k0 := by rfl) (k2 : k0.init = some f0 := by rfl) (hf : L.form f0 (es.len + 1) [] = some [] := by rfl) (h1 : L.cnm.lookup c = some x := by rfl) (hg : Gl X x := by rfl) (hdb : (x == ("__debug__" : Str)) = false := by decide)
    (he : starEach (y :: ys) X.env = (false, eval y X.env) :: starEach ys X.env := by rfl) (hpl : (backTo pos (starEach ys X.env)).any (·.1) = false := by rfl) : SE (L.tab X.K) n X W (.Call (.Name x p) (y :: ys) [] pos) (.new c es) :=
  se_new B.O B.tk (B.g.keepC c k0 k1 (by rw [k2]; rfl)) (hf_new k1 k2 hf) hg (B.g.cl x c h1) ha hdb he hpl
theorem att_ (B : Bd L n X W) (f : Nat) {x : Expr} {nm : Str} {o : E} (he : SE (L.tab X.K) n X W x o) (hn : nm = anOf L.ann f := by rfl) (hf : propB L f = true := by rfl) (hb : attributeBase x nm X.env (eval x X.env) = eval x X.env := by rfl) : SE (L.tab X.K) n X W (.Attribute x nm pos) (.att o f) := se_att B.O hn (hf_prop hf) he hb
theorem cm_ (B : Bd L n X W) (c f : Nat) {x nm : Str} {p apos : Pos} {y : Expr} {ys : List Expr} {es : Es} {pl : Sem Bool} (ha : SA (L.tab X.K) n X W (y :: ys) es) (hf : L.form f (es.len + 1) [] = some [] := by rfl) (h1 : L.cnm.lookup c = some x := by rfl) (hc : (c, nm, f) ∈ L.cms := by decide) (hg : Gl X x := by rfl) (hdb : (x == ("__debug__" : Str)) = false := by decide)
    (hst : starEach (y :: ys) X.env = (false, eval y X.env) :: starEach ys X.env := by rfl) (hpl : (backTo pos (starEach ys X.env)).any (·.1) = false := by rfl)
    (ht : eval (.Call (.Attribute (.Name x p) nm apos) (y :: ys) [] pos) X.env = (do
      let ov ← eval (.Name x p) X.env
      standAt apos.atName
      let (f, first) ← holding [ov] (getMethod ov nm pl)
      callWith pos f first (backTo pos (starEach (y :: ys) X.env)) (backToKw pos (keywordEach [] X.env))) := by rfl) : SE (L.tab X.K) n X W (.Call (.Attribute (.Name x p) nm apos) (y :: ys) [] pos) (.cal f (.c (.k (.cls c)) es)) := by
  obtain ⟨hr, pr, hm⟩ := B.g.cm c nm f hc
  exact se_cm B.O B.tk hf hg (B.g.cl x c h1) hdb hr hm ha hst hpl ht
theorem b_len (B : Bd L n X W) {p : Pos} {y : Expr} {e : E} (h : SE (L.tab X.K) n X W y e) (hm : L.free.contains "len" = true := by rfl) (hg : Gl X "len" := by rfl) (hs : starEach [y] X.env = (false, eval y X.env) :: starEach [] X.env := by rfl) : SF (L.tab X.K) n X W (.Call (.Name "len" p) [y] [] pos) (.bi .len (.c e .n)) :=
  sf_b1 (fun _ _ => rfl) (fun h => pe_callB (cb_len (own_len B.O B.sf)) hg (B.g.free _ hm) boot_len h (by decide) (by decide) hs) h hs
theorem b_fn (B : Bd L n X W) (b : Bi) {x : Str} {id : String} {g : Mem → D → R D} {p : Pos} {y : Expr} {e : E} (hc : CallR X (.builtin id) (rB1 (L.tab X.K) X.K g)) (h : SE (L.tab X.K) n X W y e) (hb : ∀ μ d, bi1V (L.tab X.K).P ((L.tab X.K).C n) (L.tab X.K).reprS μ b d = g μ d := by intro _ _; rfl) (hm : L.free.contains x = true := by rfl) (hg : Gl X x := by rfl) (hv : bootBuiltins x = some (.builtin id) := by rfl) (hn : x ≠ "__name__" := by decide) (hdb : (x == ("__debug__" : Str)) = false := by decide)
    (hs : starEach [y] X.env = (false, eval y X.env) :: starEach [] X.env := by rfl) : SF (L.tab X.K) n X W (.Call (.Name x p) [y] [] pos) (.bi b (.c e .n)) :=
  sf_b1 hb (fun h => pe_callB hc hg (B.g.free _ hm) hv h hn hdb hs) h hs
theorem b_ty (B : Bd L n X W) (b : Bi) {x : Str} {id : String} {g : Mem → D → R D} {p : Pos} {y : Expr} {e : E} (hc : CallR X (.type id) (rB1 (L.tab X.K) X.K g)) (h : SE (L.tab X.K) n X W y e) (hb : ∀ μ d, bi1V (L.tab X.K).P ((L.tab X.K).C n) (L.tab X.K).reprS μ b d = g μ d := by intro _ _; rfl) (hm : L.free.contains x = true := by rfl) (hg : Gl X x := by rfl) (hv : bootBuiltins x = some (.type id) := by rfl) (hn : x ≠ "__name__" := by decide) (hdb : (x == ("__debug__" : Str)) = false := by decide)
    (hs : starEach [y] X.env = (false, eval y X.env) :: starEach [] X.env := by rfl) : SF (L.tab X.K) n X W (.Call (.Name x p) [y] [] pos) (.bi b (.c e .n)) :=
  sf_b1 hb (fun h => pe_callTy hc hg (B.g.free _ hm) hv h hn hdb hs) h hs
theorem b_2 (B : Bd L n X W) (b : Bi) {x : Str} {id : String} {p : Pos} {y z : Expr} {e f : E} (hc : CallR X (.builtin id) (rB2 (L.tab X.K) X.K (bi2V b))) (h : SE (L.tab X.K) n X W y e) (h2 : SE (L.tab X.K) n X W z f) (hm : L.free.contains x = true := by rfl) (hg : Gl X x := by rfl) (hv : bootBuiltins x = some (.builtin id) := by rfl) (hn : x ≠ "__name__" := by decide) (hdb : (x == ("__debug__" : Str)) = false := by decide)
    (hs : starEach [y, z] X.env = (false, eval y X.env) :: starEach [z] X.env := by rfl) (hs2 : starEach [z] X.env = (false, eval z X.env) :: starEach [] X.env := by rfl) (hpl : (backTo pos (starEach [z] X.env)).any (·.1) = false := by rfl) : SF (L.tab X.K) n X W (.Call (.Name x p) [y, z] [] pos) (.bi b (.c e (.c f .n))) :=
  sf_b2 (fun h => pe_callB hc hg (B.g.free _ hm) hv h hn hdb hs hpl) h h2 hs hs2
theorem isi_ (B : Bd L n X W) {x z : Expr} {p : Pos} {e : E} {y : Ty} (h : SE (L.tab X.K) n X W x e) (hz : SCls (L.tab X.K) X z y) (hm : L.free.contains "isinstance" = true := by rfl) (hg : Gl X "isinstance" := by rfl) (hy : tysOk (L.tab X.K) [y] = true := by rfl)
    (hs : starEach [x, z] X.env = (false, eval x X.env) :: starEach [z] X.env := by rfl) (hs2 : starEach [z] X.env = (false, eval z X.env) :: starEach [] X.env := by rfl) (hpl : (backTo pos (starEach [z] X.env)).any (·.1) = false := by rfl) : SE (L.tab X.K) n X W (.Call (.Name "isinstance" p) [x, z] [] pos) (.isi e [y]) := se_isi B.g.is_ hg (B.g.free _ hm) h hz hy hs hs2 hpl
theorem tyo_ (B : Bd L n X W) (c : Nat) {x : Str} {p : Pos} (h1 : L.cnm.lookup c = some x := by rfl) (hg : Gl X x := by rfl) (hd : (x == ("__debug__" : Str)) = false := by decide) : SCls (L.tab X.K) X (.Name x p) (.own c) := scls_own hg (B.g.cl x c h1) hd
theorem typ_ (B : Bd L n X W) (m : Nat) {x : Str} {p : Pos} (hm : L.free.contains x = true := by rfl) (hg : Gl X x := by rfl) (hv : bootBuiltins x = some (.type (tyS m)) := by rfl) (hn : x ≠ "__name__" := by decide) (hd : (x == ("__debug__" : Str)) = false := by decide) : SCls (L.tab X.K) X (.Name x p) (.py m) := scls_py hg (B.g.free _ hm) hv hn hd
theorem bm_ {o e : Expr} {es : List Expr} {y : E} {ys : Es} {name : Str} {apos cpos : Pos} {Ty id : String} (bm : Bm) (hT : tyOf bm Ty) (pa : PlainAttrs Ty) (slot : Slot Ty name id) (hty : typeOf (.builtin id) = pure (.type "method_descriptor")) (hm : MtR X id (rBm T X.K bm)) (ho : SE T n X W o y) (ha : SA T n X W (e :: es) ys)
    (hbase : attributeBase o name X.env (eval o X.env) = eval o X.env := by rfl)
    (hfew : ((backTo cpos (starEach (e :: es) X.env)).all (fun x => !x.1) && (backToKw cpos (keywordEach [] X.env)).all (fun x => x.1.isSome)
      && decide ((e :: es).length + ([] : List Keyword).length + (if ([] : List Keyword).isEmpty then 0 else 1) < 30)) = true := by rfl)
    (hline : (apos.endLine == cpos.line) = true := by rfl) (hs : starEach (e :: es) X.env = (false, eval e X.env) :: starEach es X.env := by rfl) (hplain : (backTo cpos (starEach es X.env)).any (·.1) = false := by rfl) : SF T n X W (.Call (.Attribute o name apos) (e :: es) [] cpos) (.bm bm y ys) := sf_bm hT pa slot hty hm ho ha hbase hfew hline hs hplain
theorem bme_ {o e : Expr} {es : List Expr} {y : E} {ys : Es} {name : Str} {apos cpos : Pos} {Ty id : String} (bm : Bm) (hT : tyOf bm Ty) (pa : PlainAttrs Ty) (slot : Slot Ty name id) (hty : typeOf (.builtin id) = pure (.type "method_descriptor")) (hm : MtR X id (rBmE T X.K bm)) (ho : SE T n X W o y) (ha : SA T n X W (e :: es) ys)
    (hbase : attributeBase o name X.env (eval o X.env) = eval o X.env := by rfl)
    (hfew : ((backTo cpos (starEach (e :: es) X.env)).all (fun x => !x.1) && (backToKw cpos (keywordEach [] X.env)).all (fun x => x.1.isSome)
      && decide ((e :: es).length + ([] : List Keyword).length + (if ([] : List Keyword).isEmpty then 0 else 1) < 30)) = true := by rfl)
    (hline : (apos.endLine == cpos.line) = true := by rfl) (hs : starEach (e :: es) X.env = (false, eval e X.env) :: starEach es X.env := by rfl) (hplain : (backTo cpos (starEach es X.env)).any (·.1) = false := by rfl) : SE T n X W (.Call (.Attribute o name apos) (e :: es) [] cpos) (.bm bm y ys) := se_bm hT pa slot hty hm ho ha hbase hfew hline hs hplain
theorem gv_ (i : Nat) {x : Str} (hN : X.N.Nodup) (hi : X.N[i]? = some x := by rfl) (hx : Loc X.env.scope x := by first | exact Or.inl rfl | exact Or.inr rfl) (hf : X.fn x = true ∨ X.env.scope.names.lookup x = some .local := by first | exact Or.inr rfl | exact Or.inl rfl) : SG T n X W (.Name x pos) (.v i) := sg_v hN hi hx hf
theorem gc_ {x : Expr} {xs : List Expr} {t : DI.T} {ts : Ts} (h : SG T n X W x t) (hs : SGs T n X W xs ts) (e : (assignEach (x :: xs) X.env).map (·.2) = assign x X.env :: (assignEach xs X.env).map (·.2) := by rfl) : SGs T n X W (x :: xs) (.c t ts) := sgs_cons h hs e
theorem gt_ (B : Bd L n X W) {xs : List Expr} {ts : Ts} {k : Nat} (h : SGs (L.tab X.K) n X W xs ts) (hn : (assignEach xs X.env).length = ts.len := by rfl) (hst : (assignEach xs X.env).findIdx? (·.1) = none := by rfl) : SG (L.tab X.K) n X W (.Tuple xs k pos) (.tup ts) := sg_tup B.O.calm h hn hst
theorem gi_ (B : Bd L n X W) {x y : Expr} {o i : E} (ho : SE (L.tab X.K) n X W x o) (hi : SE (L.tab X.K) n X W y i) (ha : ∀ v, assign (.Subscript x y pos) X.env v = (do let ov ← holding [v] (eval x X.env); let iv ← holding [v, ov] (eval y X.env); standAt pos; holding [v, ov, iv] (setItem ov iv v); release [v, ov, iv] []) := by intro _; rfl) : SG (L.tab X.K) n X W (.Subscript x y pos) (.ix o i) := sg_ix (by have := B.units; omega) (B.ow n X B.O B.g).set ho hi ha
theorem r1_ (B : Bd L n X W) {tg x : Expr} {es : Es} {p : Pos} (h : SA (L.tab X.K) n X W [x] es) (hm : L.free.contains "range" = true := by rfl) (hg : Gl X "range" := by rfl) (hs : starEach [x] X.env = [(false, eval x X.env)] := by rfl) (hl : es.len = 1 := by rfl) : SI (L.tab X.K) n X W tg (.Call (.Name "range" p) [x] [] pos) (.rng es) := si_rng1 hg (B.g.free _ hm) h hs hl
theorem enu_ (B : Bd L n X W) {x : Expr} {e : E} {p tpos : Pos} {elts : List Expr} {kk : Nat} (h : SE (L.tab X.K) n X W x e) (hm : L.free.contains "enumerate" = true := by rfl) (hg : Gl X "enumerate" := by rfl) (hs : starEach [x] X.env = [(false, eval x X.env)] := by rfl) : SI (L.tab X.K) n X W (.Tuple elts kk tpos) (.Call (.Name "enumerate" p) [x] [] pos) (.enu e) := si_enu hg (B.g.free _ hm) h hs
theorem lc_ (B : Bd L n X W) (own : List (Str × Nat)) (N : List Str) (sc : Scope) (hN : X.N.Nodup) {x tg y : Expr} {ifs : List Expr} {scope : Scope} {t : DI.T} {it : DI.It} {c e : E} {vs : List Nat} (hi : SI (L.tab X.K) n X W tg y it) (hg : AllB X scope fun X => SG (L.tab X.K) n X Wn tg t) (ht : AllB X scope fun X => SPs (L.tab X.K) n X Wn ifs c) (he : AllB X scope fun X => SE (L.tab X.K) n X Wn x e)
    (hv : own.map (·.2) = vs := by rfl) (hvs : ∀ i ∈ t.vars, i ∈ vs := by decide) (hNN : X.N = N := by rfl) (hsc : X.env.scope = sc := by rfl) (hbl : blkC N sc scope own = true := by first | decide +kernel | rfl) (hs : ∀ v, foldedSetIterable y X.env v = pure v := by intro _; rfl) : SF (L.tab X.K) n X W (.ListComp x [⟨tg, y, ifs, 0⟩] scope pos) (.lc vs t it c e) := by subst hNN hsc; exact sf_lc hv hvs B.O.calm hN hi (blkOk_by hbl) hg ht he hs
theorem dc_ (B : Bd L n X W) (own : List (Str × Nat)) (N : List Str) (sc : Scope) (hN : X.N.Nodup) {kx vx tg y : Expr} {ifs : List Expr} {scope : Scope} {t : DI.T} {it : DI.It} {c ek ev : E} {vs : List Nat} (hi : SI (L.tab X.K) n X W tg y it) (hg : AllB X scope fun X => SG (L.tab X.K) n X Wn tg t) (ht : AllB X scope fun X => SPs (L.tab X.K) n X Wn ifs c) (hk : AllB X scope fun X => SE (L.tab X.K) n X Wn kx ek) (he : AllB X scope fun X => SE (L.tab X.K) n X Wn vx ev)
    (hv : own.map (·.2) = vs := by rfl) (hvs : ∀ i ∈ t.vars, i ∈ vs := by decide) (hNN : X.N = N := by rfl) (hsc : X.env.scope = sc := by rfl) (hbl : blkC N sc scope own = true := by first | decide +kernel | rfl) (hs : ∀ v, foldedSetIterable y X.env v = pure v := by intro _; rfl) : SF (L.tab X.K) n X W (.DictComp kx vx [⟨tg, y, ifs, 0⟩] scope pos) (.dc vs t it c ek ev) := by subst hNN hsc; exact sf_dc hv hvs B.O.calm hN hi (blkOk_by hbl) hg ht hk he hs
theorem slc_ (B : Bd L n X W) (i : Nat) (own : List (Str × Nat)) (N : List Str) (sc : Scope) (hN : X.N.Nodup) {z : Str} {py spos : Pos} {x tg y : Expr} {ifs : List Expr} {scope : Scope} {t : DI.T} {it : DI.It} {c e : E} {vs : List Nat} (hi : SI (L.tab X.K) n X W tg y it) (hg : AllB X scope fun X => SG (L.tab X.K) n X Wn tg t) (ht : AllB X scope fun X => SPs (L.tab X.K) n X Wn ifs c) (he : AllB X scope fun X => SE (L.tab X.K) n X Wn x e)
    (hv : own.map (·.2) = vs := by rfl) (hvs : ∀ i ∈ t.vars, i ∈ vs := by decide) (hy : X.N[i]? = some z := by rfl) (hyl : X.env.scope.names.lookup z = some .local := by rfl) (hsw : swapsWith (.ListComp x [⟨tg, y, ifs, 0⟩] scope pos) (some (.Name z py)) spos.line X.env = pure true := by exact sw_true rfl rfl rfl (by decide +kernel)) (hNN : X.N = N := by rfl) (hsc : X.env.scope = sc := by rfl) (hbl : blkC N sc scope own = true := by first | decide +kernel | rfl) (hs : ∀ v, foldedSetIterable y X.env v = pure v := by intro _; rfl) : SS (L.tab X.K) n X W (.Assign [.Name z py] (.ListComp x [⟨tg, y, ifs, 0⟩] scope pos) spos) (.asg (.v i) (.lc vs t it c e)) := by subst hNN hsc; exact ss_setLc hv hvs B.O.calm hN hy hyl hsw hi (blkOk_by hbl) hg ht he hs
theorem ex_ {x : Expr} {e : E} (h : SE T n X W x e) (hs : swapsWith x none pos.line X.env = pure false := by rfl) : SS T n X W (.Expr x pos) (.ex e) := ss_ex h hs
theorem asg_ {x y : Expr} {e : E} {t : DI.T} (he : SE T n X W y e) (hg : SG T n X W x t) (hs : swapsWithSole [x] y pos.line X.env = pure false := by rfl) (hw : swappedStores [x] y X.env = pure none := by rfl) (h1 : (assignEach [x] X.env).map (·.2) = [assign x X.env] := by rfl) : SS T n X W (.Assign [x] y pos) (.asg t e) := ss_asg he hg hs hw h1
theorem set_ (i : Nat) (hN : X.N.Nodup) {x : Str} {px : Pos} {y : Expr} {e : E} (he : SE T n X W y e) (hi : X.N[i]? = some x := by rfl) (hx : Loc X.env.scope x := by first | exact Or.inl rfl | exact Or.inr rfl) (hs : swapsWith y (some (.Name x px)) pos.line X.env = pure false := by rfl) (hf : X.fn x = true ∨ X.env.scope.names.lookup x = some .local := by first | exact Or.inr rfl | exact Or.inl rfl) : SS T n X W (.Assign [.Name x px] y pos) (.asg (.v i) e) := ss_set hN hi hx he hs hf
theorem fld_ (B : Bd L n X W) (f : Nat) {x y : Expr} {nm : Str} {pos' : Pos} {o e : E} (ha : SE (L.tab X.K) n X W x o) (hv : SE (L.tab X.K) n X W y e) (hn : nm = anOf L.ann f := by rfl) (hs : swapsWith y (some (.Attribute x nm pos')) pos.line X.env = pure false := by rfl) : SS (L.tab X.K) n X W (.Assign [.Attribute x nm pos'] y pos) (.asg (.at o f) e) := ss_fld B.O hn ha hv hs
theorem par2_ (B : Bd L n X W) (i j : Nat) (hN : X.N.Nodup) {x y : Str} {u v : Expr} {es : Es} {px py pt : Pos} {kt k2 pt2} (ha : SA (L.tab X.K) n X W [u, v] es) (hi : X.N[i]? = some x := by rfl) (hj : X.N[j]? = some y := by rfl) (hij : i ≠ j := by decide) (hx : X.env.scope.names.lookup x = some .local := by rfl) (hy : X.env.scope.names.lookup y = some .local := by rfl)
    (hw : swappedStores [.Tuple [.Name x px, .Name y py] kt pt] (.Tuple [u, v] k2 pt2) X.env = pure (some [x, y]) := by rfl) (hs : swapsWithSole [.Tuple [.Name x px, .Name y py] kt pt] (.Tuple [u, v] k2 pt2) pos.line X.env = pure false := by rfl) : SS (L.tab X.K) n X W (.Assign [.Tuple [.Name x px, .Name y py] kt pt] (.Tuple [u, v] k2 pt2) pos) (.par (.c (.v i) (.c (.v j) .n)) es) := ss_par2 B.O.calm hN hi hj hij hx hy ha hw hs
end
section
variable {L : LawT} {T : Tab} {n : Nat} {X : Cx} {W : WX} {pos : Pos}
theorem for_ (B : Bd L n X W) {x y : Expr} {body : List Stmt} {t : DI.T} {it : DI.It} {s : Ss} (hi : SI (L.tab X.K) n X W x y it) (hg : SG (L.tab X.K) n X W x t) (hb : SSs (L.tab X.K) n X W body s) (hs : ∀ v, foldedSetIterable y X.env v = pure v := by intro _; rfl) : SS (L.tab X.K) n X W (.For x y body [] pos) (.for t it s) := ss_for B.po B.O.calm hi hg hb hs
/-- the body's own context -/
theorem Bd.of {L : LawT} {n : Nat} {P : Program} {w : World} {K : PySem.W.Frag} {mg : Str → Option Value} {base : Heap} {N : List Str} {qual : Str} {scope : Scope} {f : Addr} {cd : Value} {A : Around} {outer : List PySem.Env} {s : Shared} {H : Hp} {E : XK} {W : WX} (O : Own (L.tab K) n (cxOf (L2N.CX P w) P w K mg base N qual scope f cd A outer s H E)) (g : Good L K mg) (sf : SpForm (L.tab K))
    (ow : ∀ (n : Nat) (Y : Cx), Own (L.tab Y.K) n Y → Good L Y.K Y.mg → OwnAll (L.tab Y.K) n Y) (tk : Takes (cxOf (L2N.CX P w) P w K mg base N qual scope f cd A outer s H E) W) (xi : ∀ x ∈ L.xis, XIni P K ((L.tab K).ca x.c) (x.at_ L K) x.fs) : Bd L n (cxOf (L2N.CX P w) P w K mg base N qual scope f cd A outer s H E) W :=
  ⟨O, g, sf, ow, tk, PassesOwn.leaving, xi⟩
theorem Bd.tr (B : Bd L n X W) {pn : List (Addr × Obj)} {xe : Value → Shared → Prop} {W' : WX} (tk : Takes (X.tr pn xe) W') (po : PassesOwn (model X.prog X.w) X.A X.env xe) : Bd L n (X.tr pn xe) W' :=
  ⟨⟨B.O.calm, B.O.room, B.O.gd, B.O.fnA, B.O.thkA, B.O.tab, B.O.tabs, B.O.nex⟩, B.g, B.sf, B.ow, tk, po, B.xi⟩
theorem Bd.lam (B : Bd L n X W) {j : Nat} {A : Around} {outer : List PySem.Env} {s : Shared} {H : Hp} {E : XK} {scope : Scope} {f c' : Addr} {W0 : WX} (O : Own (L.tab X.K) j (lamCxN X A outer s H E scope f c')) (tk : Takes (lamCxN X A outer s H E scope f c') W0) : Bd L j (lamCxN X A outer s H E scope f c') W0 :=
  ⟨O, B.g, B.sf, B.ow, tk, PassesOwn.leaving, B.xi⟩
theorem nm_ (g : Good L X.K X.mg) (c : Nat) {x : Str} (h1 : L.cnm.lookup c = some x := by rfl) (hg : Gl X x := by rfl) (hd : (x == ("__debug__" : Str)) = false := by decide) : Names X x (.ref ((L.tab X.K).ca c)) := ⟨hg, hd, .inl (g.cl x c h1)⟩
theorem tys_ {K : PySem.W.Frag} {mg : Str → Option Value} {e : Option (Nat × Addr × Value × Option Addr)} {clo : Option (Addr × Addr × Str × Nat × List (Option V))} (g : Good L K mg) (cs : List Nat) (h : (cs.all fun c => L.xts.contains c) = true := by rfl) : TyOk ((L.tab K).sp e clo) K (cs.map Ty.own) (cs.map fun c => .ref ((L.tab K).ca c)) := fun c' ns vs μ b e1 => by
  have e1 : isTys L.prog μ (.exc c' ns vs) (cs.map Ty.own) = some b := e1
  cases hk : L.cls.lookup c' with
  | none =>
    cases cs with
    | nil => cases e1; rfl
    | cons c r =>
      have z : isTy L.prog μ (.exc c' ns vs) (.own c) = none := by
        show (L.cls.lookup c').map _ = none
        rw [hk]; rfl
      simp only [List.map_cons, isTys, z] at e1
      cases e1
  | some k =>
    have z : ∀ c, isTy L.prog μ (.exc c' ns vs) (.own c) = some (k.sup.contains c) := fun c => by
      show (L.cls.lookup c').map _ = _
      rw [hk]; rfl
    have key : ∀ cs : List Nat, (cs.all fun c => L.xts.contains c) = true → isTys L.prog μ (.exc c' ns vs) (cs.map Ty.own) = some (cs.any fun c => k.sup.contains c) ∧ PySem.W.exmAny K (.ref ((L.tab K).ca c')) (cs.map fun c => .ref ((L.tab K).ca c)) = some (cs.any fun c => k.sup.contains c) := by
      intro cs h
      induction cs with
      | nil => exact ⟨rfl, rfl⟩
      | cons c r ih =>
        rw [List.all_cons, Bool.and_eq_true] at h
        obtain ⟨i1, i2⟩ := ih h.2
        have x1 := g.xt c c' k h.1 hk
        simp only [List.map_cons, isTys, z, PySem.W.exmAny, x1, i1, i2, List.any_cons]
        cases k.sup.contains c <;> simp
    obtain ⟨k1, k2⟩ := key cs h
    rw [k1] at e1
    cases e1
    exact k2
theorem tysN_ {K : PySem.W.Frag} {mg : Str → Option Value} (g : Good L K mg) (cs : List Nat) (h : (cs.all fun c => L.xts.contains c) = true := by rfl) : TyOk (L.tab K) K (cs.map Ty.own) (cs.map fun c => .ref ((L.tab K).ca c)) := tys_ (e := none) (clo := none) g cs h
theorem rai1_ (B : Bd L n X W) (i c m : Nat) {x0 : XI} {x f : Str} {e : Expr} {p cpos : Pos} {d : E} (he : SE (L.tab X.K) n X W e d) (hx : L.xis[i]? = some x0 := by rfl) (hc : x0.c = c := by rfl) (hf : x0.fs = [f] := by rfl) (hm : f = anOf L.ann m := by rfl) (h1 : L.cnm.lookup c = some x := by rfl) (hsup : L.free.contains "super" = true := by rfl) (hg : Gl X x := by rfl) (hdb : (x == ("__debug__" : Str)) = false := by decide)
    (hst : starEach [e] X.env = (false, eval e X.env) :: starEach [] X.env := by rfl) (hpl : (backTo cpos (starEach [] X.env)).any (·.1) = false := by rfl) : SS (L.tab X.K) n X W (.Raise (some (.Call (.Name x p) [e] [] cpos)) none pos) (.rai (.exc c [m] (.c d .n))) := by
  subst hc
  have hmem := List.mem_of_getElem? hx
  have xi := B.xi x0 hmem
  rw [hf] at xi
  have xc := B.g.xc x0.c (List.any_eq_true.mpr ⟨x0, hmem, decide_eq_true rfl⟩)
  refine ss_rai B.O.calm B.tk (fs := [f]) (by rw [hm]; rfl) (pmk_x1 xc xi (B.g.free _ hsup) (B.O.room.mono (Nat.zero_le _)) hg (B.g.cl x _ h1) hdb (sa_cons he sa_nil hst) hst hpl)
end
end DI
namespace DI
open PySem L2 PySem.Spec PyProof.Rows
def xiSetP : Stmt → Pos × Pos × Pos × Pos
  | .Assign [.Attribute (.Name _ p0) _ p1] (.Name _ p2) p3 => (p0, p1, p2, p3)
  | _ => default
def xiSupP : List Stmt → Pos × Pos × Pos × Pos × Pos
  | .Expr (.Call (.Attribute (.Call (.Name _ p0) _ _ p1) _ p2) _ _ p3) p4 :: _ => (p0, p1, p2, p3, p4)
  | _ => default
def xiOf (c : Nat) (qual : Str) (s : Stmt) : XI where
  c := c
  qual := qual
  fs := ((defArgs s).args.drop 1).map (·.arg)
  pps := (defArgs s).args.map (·.pos)
  sets := ((defBody s).drop 1).map xiSetP
  ps := xiSupP (defBody s)
end DI
end

section
set_option Elab.async false
set_option linter.all false
namespace DI
open PySem L2
section
variable {T : Tab} {n : Nat} {X : Cx} {W : WX} {pos : Pos}
end
end DI
end

section
set_option Elab.async false
set_option linter.all false
set_option maxRecDepth 100000
namespace DI
open PySem L2 PySem.Spec PyProof.Rows
section
variable {L : LawT} {n : Nat} {X : Cx} {W : WX} {pos : Pos}
end
end DI
end

section
set_option Elab.async false
set_option linter.all false
namespace DI
open PySem
section
variable {X : Type} {o : Option X}
end
def obsA (as : List Addr) (L : LawT) (fn : List He5.DefA) (ex : PySem.W.Frag → Bool) (g : Addr → Option Obj) : He.AlD :=
  ((L.tab (frL L g as)).tbs.all (fun p => tabE g p.1) && (obsDI L fn ex (frL L g as)).1, (obsDI L fn ex (frL L g as)).2)
def hookA (as : List Addr) (L : LawT) (fn : List He5.DefA) (ex : PySem.W.Frag → Bool) : PySem.W.Hook where
  α := He.AlD
  obs := fun s => obsA as L fn ex s.heap.get?
  val := fun _ => valDI L fn
  says := fun _ h => ∃ K : PySem.W.Frag, K.In h ∧ (∀ p ∈ (L.tab K).tbs, h.get? p.1 = some { cls := .none, data := .fields #[] }) ∧ obsDI L fn ex K = valDI L fn
  of := fun _ s e => by
    have e1 : ((L.tab (frL L s.heap.get? as)).tbs.all (fun p => tabE s.heap.get? p.1) && (obsDI L fn ex (frL L s.heap.get? as)).1) = true := congrArg Prod.fst e
    have e2 : (obsDI L fn ex (frL L s.heap.get? as)).2 = (valDI L fn).2 := by
      have z := congrArg (fun z : He.AlD => z.2) e
      exact z
    rw [Bool.and_eq_true] at e1
    exact ⟨_, frL_in, fun p hp => tabE_ok (List.all_eq_true.mp e1.1 p hp), Prod.ext e1.2 e2⟩
  keeps := fun _ _ _ ⟨K, hK, t, c⟩ more => ⟨K, PySem.W.Frag.In.keeps hK more, fun p hp => more _ _ (t p hp), c⟩
end DI
end

section
set_option linter.all false
set_option maxRecDepth 100000
open PySem
namespace DI
/-- _law_given -/
def f0 : Fn := { np := 1, nn := 3, dflt := [], keep := false, body := (.c (.asg (.v 1) (.lst (.c (.exc 0 [0] (.c (.v 0) .n)) (.c (.exc 1 [0] (.c (.v 0) .n)) (.c (.exc 2 [0] (.c (.v 0) .n)) (.c (.exc 3 [0] (.c (.v 0) .n)) .n)))))) (.c (.asg (.v 1) (.bin .add (.v 1) (.lst (.c (.exc 4 [0] (.c (.v 0) .n)) (.c (.exc 5 [0] (.c (.v 0) .n)) (.c (.exc 6 [0] (.c (.v 0) .n)) (.c (.exc 7 [0] (.c (.v 0) .n)) .n))))))) (.c (.asg (.v 1) (.bin .add (.v 1) (.lst (.c (.exc 8 [0] (.c (.v 0) .n)) (.c (.exc 9 [0] (.c (.v 0) .n)) (.c (.exc 10 [1] (.c (.v 0) .n)) (.c (.exc 11 [1] (.c (.v 0) .n)) .n))))))) (.c (.asg (.v 1) (.bin .add (.v 1) (.lst (.c (.exc 12 [1] (.c (.v 0) .n)) (.c (.exc 13 [1] (.c (.v 0) .n)) (.c (.exc 14 [1] (.c (.v 0) .n)) (.c (.exc 15 [1] (.c (.v 0) .n)) .n))))))) (.c (.asg (.v 1) (.bin .add (.v 1) (.lst (.c (.exc 16 [1] (.c (.v 0) .n)) (.c (.exc 17 [0] (.c (.v 0) .n)) (.c (.exc 18 [0] (.c (.v 0) .n)) (.c (.exc 19 [1] (.c (.v 0) .n)) (.c (.exc 20 [2] (.c (.v 0) .n)) .n)))))))) (.c (.asg (.v 1) (.bin .add (.v 1) (.lst (.c (.exc 21 [] .n) (.c (.exc 22 [] .n) (.c (.exc 23 [3] (.c (.v 0) .n)) (.c (.exc 24 [] .n) (.c (.exc 25 [1, 4] (.c (.v 0) (.c (.k (.int 7)) .n))) .n)))))))) (.c (.asg (.v 2) (.lst (.c (.exk 0 [0] [0] (.c (.v 0) .n)) (.c (.exk 1 [0] [0] (.c (.v 0) .n)) (.c (.exk 2 [0] [0] (.c (.v 0) .n)) .n))))) (.c (.asg (.v 2) (.bin .add (.v 2) (.lst (.c (.exk 3 [0] [0] (.c (.v 0) .n)) (.c (.exk 4 [0] [0] (.c (.v 0) .n)) (.c (.exk 5 [0] [0] (.c (.v 0) .n)) .n)))))) (.c (.asg (.v 2) (.bin .add (.v 2) (.lst (.c (.exk 6 [0] [0] (.c (.v 0) .n)) (.c (.exk 7 [0] [0] (.c (.v 0) .n)) (.c (.exk 8 [0] [0] (.c (.v 0) .n)) .n)))))) (.c (.asg (.v 2) (.bin .add (.v 2) (.lst (.c (.exk 9 [0] [0] (.c (.v 0) .n)) (.c (.exk 10 [1] [0] (.c (.v 0) .n)) (.c (.exk 11 [1] [0] (.c (.v 0) .n)) .n)))))) (.c (.asg (.v 2) (.bin .add (.v 2) (.lst (.c (.exk 12 [1] [0] (.c (.v 0) .n)) (.c (.exk 13 [1] [0] (.c (.v 0) .n)) (.c (.exk 14 [1] [0] (.c (.v 0) .n)) .n)))))) (.c (.asg (.v 2) (.bin .add (.v 2) (.lst (.c (.exk 15 [1] [0] (.c (.v 0) .n)) (.c (.exk 16 [1] [0] (.c (.v 0) .n)) (.c (.exk 17 [0] [0] (.c (.v 0) .n)) .n)))))) (.c (.asg (.v 2) (.bin .add (.v 2) (.lst (.c (.exk 18 [0] [0] (.c (.v 0) .n)) (.c (.exk 19 [1] [0] (.c (.v 0) .n)) (.c (.exk 20 [2] [0] (.c (.v 0) .n)) (.c (.exc 21 [] .n) .n))))))) (.c (.asg (.v 2) (.bin .add (.v 2) (.lst (.c (.exc 22 [] .n) (.c (.exk 23 [3] [0] (.c (.v 0) .n)) (.c (.exc 24 [] .n) (.c (.exk 25 [1, 4] [1, 0] (.c (.k (.int 7)) (.c (.v 0) .n))) .n))))))) (.c (.ret (.lst (.c (.v 1) (.c (.v 2) .n)))) .n))))))))))))))) }
/-- _law_sorts -/
def f1 : Fn := { np := 1, nn := 2, dflt := [], keep := false, body := (.c (.asg (.v 1) (.lst (.c (.xis 0 [0, 1, 2, 3, 4, 5, 6, 7, 8, 9, 10, 11, 12, 13, 14, 15, 16, 17, 18, 19, 20, 21, 22, 23, 24, 25] (.own 0)) (.c (.xis 0 [0, 1, 2, 3, 4, 5, 6, 7, 8, 9, 10, 11, 12, 13, 14, 15, 16, 17, 18, 19, 20, 21, 22, 23, 24, 25] (.own 1)) (.c (.xis 0 [0, 1, 2, 3, 4, 5, 6, 7, 8, 9, 10, 11, 12, 13, 14, 15, 16, 17, 18, 19, 20, 21, 22, 23, 24, 25] (.own 2)) .n))))) (.c (.asg (.v 1) (.bin .add (.v 1) (.lst (.c (.xis 0 [0, 1, 2, 3, 4, 5, 6, 7, 8, 9, 10, 11, 12, 13, 14, 15, 16, 17, 18, 19, 20, 21, 22, 23, 24, 25] (.own 3)) (.c (.xis 0 [0, 1, 2, 3, 4, 5, 6, 7, 8, 9, 10, 11, 12, 13, 14, 15, 16, 17, 18, 19, 20, 21, 22, 23, 24, 25] (.own 4)) (.c (.xis 0 [0, 1, 2, 3, 4, 5, 6, 7, 8, 9, 10, 11, 12, 13, 14, 15, 16, 17, 18, 19, 20, 21, 22, 23, 24, 25] (.own 5)) .n)))))) (.c (.asg (.v 1) (.bin .add (.v 1) (.lst (.c (.xis 0 [0, 1, 2, 3, 4, 5, 6, 7, 8, 9, 10, 11, 12, 13, 14, 15, 16, 17, 18, 19, 20, 21, 22, 23, 24, 25] (.own 6)) (.c (.xis 0 [0, 1, 2, 3, 4, 5, 6, 7, 8, 9, 10, 11, 12, 13, 14, 15, 16, 17, 18, 19, 20, 21, 22, 23, 24, 25] (.own 7)) (.c (.xis 0 [0, 1, 2, 3, 4, 5, 6, 7, 8, 9, 10, 11, 12, 13, 14, 15, 16, 17, 18, 19, 20, 21, 22, 23, 24, 25] (.own 8)) .n)))))) (.c (.asg (.v 1) (.bin .add (.v 1) (.lst (.c (.xis 0 [0, 1, 2, 3, 4, 5, 6, 7, 8, 9, 10, 11, 12, 13, 14, 15, 16, 17, 18, 19, 20, 21, 22, 23, 24, 25] (.own 9)) (.c (.xis 0 [0, 1, 2, 3, 4, 5, 6, 7, 8, 9, 10, 11, 12, 13, 14, 15, 16, 17, 18, 19, 20, 21, 22, 23, 24, 25] (.own 10)) (.c (.xis 0 [0, 1, 2, 3, 4, 5, 6, 7, 8, 9, 10, 11, 12, 13, 14, 15, 16, 17, 18, 19, 20, 21, 22, 23, 24, 25] (.own 11)) .n)))))) (.c (.asg (.v 1) (.bin .add (.v 1) (.lst (.c (.xis 0 [0, 1, 2, 3, 4, 5, 6, 7, 8, 9, 10, 11, 12, 13, 14, 15, 16, 17, 18, 19, 20, 21, 22, 23, 24, 25] (.own 12)) (.c (.xis 0 [0, 1, 2, 3, 4, 5, 6, 7, 8, 9, 10, 11, 12, 13, 14, 15, 16, 17, 18, 19, 20, 21, 22, 23, 24, 25] (.own 13)) (.c (.xis 0 [0, 1, 2, 3, 4, 5, 6, 7, 8, 9, 10, 11, 12, 13, 14, 15, 16, 17, 18, 19, 20, 21, 22, 23, 24, 25] (.own 14)) .n)))))) (.c (.asg (.v 1) (.bin .add (.v 1) (.lst (.c (.xis 0 [0, 1, 2, 3, 4, 5, 6, 7, 8, 9, 10, 11, 12, 13, 14, 15, 16, 17, 18, 19, 20, 21, 22, 23, 24, 25] (.own 15)) (.c (.xis 0 [0, 1, 2, 3, 4, 5, 6, 7, 8, 9, 10, 11, 12, 13, 14, 15, 16, 17, 18, 19, 20, 21, 22, 23, 24, 25] (.own 16)) (.c (.xis 0 [0, 1, 2, 3, 4, 5, 6, 7, 8, 9, 10, 11, 12, 13, 14, 15, 16, 17, 18, 19, 20, 21, 22, 23, 24, 25] (.own 17)) .n)))))) (.c (.asg (.v 1) (.bin .add (.v 1) (.lst (.c (.xis 0 [0, 1, 2, 3, 4, 5, 6, 7, 8, 9, 10, 11, 12, 13, 14, 15, 16, 17, 18, 19, 20, 21, 22, 23, 24, 25] (.own 18)) (.c (.xis 0 [0, 1, 2, 3, 4, 5, 6, 7, 8, 9, 10, 11, 12, 13, 14, 15, 16, 17, 18, 19, 20, 21, 22, 23, 24, 25] (.own 19)) (.c (.xis 0 [0, 1, 2, 3, 4, 5, 6, 7, 8, 9, 10, 11, 12, 13, 14, 15, 16, 17, 18, 19, 20, 21, 22, 23, 24, 25] (.own 20)) .n)))))) (.c (.asg (.v 1) (.bin .add (.v 1) (.lst (.c (.xis 0 [0, 1, 2, 3, 4, 5, 6, 7, 8, 9, 10, 11, 12, 13, 14, 15, 16, 17, 18, 19, 20, 21, 22, 23, 24, 25] (.own 21)) (.c (.xis 0 [0, 1, 2, 3, 4, 5, 6, 7, 8, 9, 10, 11, 12, 13, 14, 15, 16, 17, 18, 19, 20, 21, 22, 23, 24, 25] (.own 22)) (.c (.xis 0 [0, 1, 2, 3, 4, 5, 6, 7, 8, 9, 10, 11, 12, 13, 14, 15, 16, 17, 18, 19, 20, 21, 22, 23, 24, 25] (.own 23)) .n)))))) (.c (.asg (.v 1) (.bin .add (.v 1) (.lst (.c (.xis 0 [0, 1, 2, 3, 4, 5, 6, 7, 8, 9, 10, 11, 12, 13, 14, 15, 16, 17, 18, 19, 20, 21, 22, 23, 24, 25] (.own 24)) (.c (.xis 0 [0, 1, 2, 3, 4, 5, 6, 7, 8, 9, 10, 11, 12, 13, 14, 15, 16, 17, 18, 19, 20, 21, 22, 23, 24, 25] (.own 25)) .n))))) (.c (.ret (.v 1)) .n)))))))))) }
/-- _law_bases -/
def f2 : Fn := { np := 1, nn := 2, dflt := [], keep := false, body := (.c (.asg (.v 1) (.lst (.c (.xis 0 [26, 27, 28] (.own 26)) (.c (.xis 0 [26, 27, 28] (.own 27)) (.c (.xis 0 [26, 27, 28] (.own 28)) .n))))) (.c (.asg (.v 1) (.bin .add (.v 1) (.lst (.c (.xis 0 [26, 27, 28] (.py 6)) (.c (.xis 0 [26, 27, 28] (.py 7)) (.c (.xis 0 [26, 27, 28] (.py 8)) .n)))))) (.c (.ret (.bin .add (.v 1) (.lst (.c (.xis 0 [26, 27, 28] (.py 9)) (.c (.xis 0 [26, 27, 28] (.py 10)) (.c (.xis 0 [26, 27, 28] (.py 11)) .n)))))) .n))) }
/-- _law_due -/
def f3 : Fn := { np := 1, nn := 4, dflt := [], keep := false, body := (.c (.par (.c (.v 1) (.c (.v 2) .n)) (.c (.cmp .lt (.v 0) (.k (.int 17))) (.c (.cmp2 .lt .lt (.k (.int 16)) (.v 0) (.k (.int 20))) .n))) (.c (.asg (.v 3) (.and (.c (.not (.v 1)) (.c (.not (.v 2)) .n)))) (.c (.ret (.bin .add (.bin .mul (.lst (.c (.v 1) (.c (.v 2) (.c (.v 3) .n)))) (.k (.int 2))) (.bin .mul (.lst (.c (.k (.bl false)) .n)) (.k (.int 3))))) .n))) }
/-- _law_kept_right -/
def f4 : Fn := { np := 2, nn := 5, dflt := [], keep := false, body := (.c (.asg (.v 2) (.lc [3] (.v 3) (.e (.lst (.c (.k (.int 0)) (.c (.k (.int 1)) (.c (.k (.int 2)) (.c (.k (.int 3)) (.c (.k (.int 4)) (.c (.k (.int 5)) (.c (.k (.int 6)) (.c (.k (.int 7)) (.c (.k (.int 8)) (.c (.k (.int 9)) (.c (.k (.int 17)) (.c (.k (.int 18)) .n)))))))))))))) (.k (.bl true)) (.att (.idx (.v 0) (.v 3)) 0))) (.c (.asg (.v 2) (.bin .add (.v 2) (.lc [3] (.v 3) (.e (.lst (.c (.k (.int 10)) (.c (.k (.int 11)) (.c (.k (.int 12)) (.c (.k (.int 13)) (.c (.k (.int 14)) (.c (.k (.int 15)) (.c (.k (.int 16)) (.c (.k (.int 19)) .n)))))))))) (.k (.bl true)) (.att (.idx (.v 0) (.v 3)) 1)))) (.c (.asg (.v 2) (.bin .add (.v 2) (.lst (.c (.att (.idx (.v 0) (.k (.int 20))) 2) (.c (.att (.idx (.v 0) (.k (.int 23))) 3) .n))))) (.c (.asg (.v 4) (.idx (.v 0) (.k (.int 25)))) (.c (.ret (.and (.c (.cmp .eq (.bi .repr (.c (.v 2) .n)) (.bi .repr (.c (.bin .mul (.lst (.c (.v 1) .n)) (.bi .len (.c (.v 2) .n))) .n))) (.c (.cmp .eq (.bi .repr (.c (.lst (.c (.att (.v 4) 1) (.c (.att (.v 4) 4) .n))) .n)) (.bi .repr (.c (.lst (.c (.v 1) (.c (.k (.int 7)) .n))) .n))) .n)))) .n))))) }
/-- _law_raised_right -/
def f5 : Fn := { np := 1, nn := 3, dflt := [], keep := false, body := (.c (.asg (.v 1) (.lay (.lst .n))) (.c (.try (.c (.rai (.exc 0 [0] (.c (.v 0) .n))) .n) (.c [.own 26] (some 2) (.c (.ex (.bm .append (.v 1) (.c (.bi .repr (.c (.xat 2 0) .n)) .n))) .n) .n)) (.c (.try (.c (.rai (.exc 18 [0] (.c (.v 0) .n))) .n) (.c [.own 27] (some 2) (.c (.ex (.bm .append (.v 1) (.c (.bi .repr (.c (.xat 2 0) .n)) .n))) .n) .n)) (.c (.try (.c (.rai (.exc 25 [1, 4] (.c (.v 0) (.c (.k (.int 3)) .n)))) .n) (.c [.own 28] (some 2) (.c (.ex (.bm .append (.v 1) (.c (.bi .repr (.c (.xat 2 1) .n)) .n))) .n) .n)) (.c (.ret (.cmp .eq (.v 1) (.bin .mul (.lst (.c (.bi .repr (.c (.v 0) .n)) .n)) (.k (.int 3))))) .n))))) }
/-- _law_ladle -/
def f8 : Fn := { np := 2, nn := 5, dflt := [], keep := false, body := (.c (.asg (.ix (.v 0) (.k (.int 1))) (.bin .add (.idx (.v 0) (.k (.int 1))) (.k (.int 1)))) (.c (.ite (.cmp .gt (.idx (.v 0) (.k (.int 2))) (.k (.int 0))) (.c (.asg (.tup (.c (.ix (.v 0) (.k (.int 2))) (.c (.v 2) .n))) (.bi .divmod (.c (.bi .int (.c (.idx (.v 0) (.k (.int 2))) .n)) (.c (.v 1) .n)))) (.c (.ret (.v 2)) .n)) .n) (.c (.asg (.v 3) (.bi .int (.c (.idx (.v 0) (.k (.int 0))) .n))) (.c (.asg (.v 4) (.bin .add (.bin .mod (.bi .int (.c (.v 3) .n)) (.k (.int 16001))) (.k (.int 57001)))) (.c (.asg (.ix (.v 0) (.k (.int 0))) (.bin .mod (.bi .int (.c (.bin .add (.bin .add (.bin .mul (.v 3) (.v 4)) (.bin .mul (.k (.int 70001)) (.idx (.v 0) (.k (.int 1))))) (.k (.int 11))) .n)) (.k (.int 2147483179)))) (.c (.ret (.bin .mod (.bi .int (.c (.bin .fdv (.idx (.v 0) (.k (.int 0))) (.k (.int 7001))) .n)) (.v 1))) .n)))))) }
/-- _law_names -/
def f9 : Fn := { np := 2, nn := 5, dflt := [], keep := false, body := (.c (.par (.c (.v 2) (.c (.v 3) .n)) (.c (.lay (.lst (.c (.k (.str "a")) (.c (.k (.str "b")) (.c (.k (.str "c")) (.c (.k (.str "d")) (.c (.k (.str "q")) (.c (.k (.str "zz")) (.c (.k (.str "abcdefgh")) (.c (.k (.str "places")) (.c (.k (.str "m")) (.c (.k (.str "x")) .n)))))))))))) (.c (.lay (.lst .n)) .n))) (.c (.for (.v 4) (.rng (.c (.v 1) .n)) (.c (.ex (.bm .append (.v 3) (.c (.bm .pop (.v 2) (.c (.cal 8 (.c (.v 0) (.c (.bi .len (.c (.v 2) .n)) .n))) .n)) .n))) .n)) (.c (.ret (.bi .tuple (.c (.v 3) .n))) .n))) }
/-- _law_duos -/
def f10 : Fn := { np := 1, nn := 4, dflt := [], keep := false, body := (.c (.asg (.v 1) (.lst .n)) (.c (.for (.v 2) (.rng (.c (.bi .len (.c (.v 0) .n)) .n)) (.c (.asg (.v 1) (.bin .add (.v 1) (.lc [3] (.v 3) (.e (.sli (.v 0) (.s (.bin .add (.v 2) (.k (.int 1)))) .n)) (.k (.bl true)) (.tup (.c (.idx (.v 0) (.v 2)) (.c (.v 3) .n)))))) .n)) (.c (.ret (.v 1)) .n))) }
/-- _law_plan -/
def f11 : Fn := { np := 2, nn := 7, dflt := [], keep := false, body := (.c (.par (.c (.v 2) (.c (.v 3) .n)) (.c (.cal 9 (.c (.v 0) (.c (.bin .add (.k (.int 1)) (.cal 8 (.c (.v 0) (.c (.v 1) .n)))) .n))) (.c (.lay (.lst .n)) .n))) (.c (.asg (.v 4) (.bin .add (.k (.int 2)) (.cal 8 (.c (.v 0) (.c (.k (.int 4)) .n))))) (.c (.for (.tup (.c (.v 5) (.c (.v 6) .n))) (.e (.cal 10 (.c (.v 2) .n))) (.c (.ite (.cmp .le (.cal 8 (.c (.v 0) (.c (.k (.int 7)) .n))) (.v 4)) (.c (.ex (.bm .insert (.v 3) (.c (.cal 8 (.c (.v 0) (.c (.bin .add (.bi .len (.c (.v 3) .n)) (.k (.int 1))) .n))) (.c (.ite (.cmp .eq (.cal 8 (.c (.v 0) (.c (.k (.int 2)) .n))) (.k (.int 0))) (.tup (.c (.v 6) (.c (.v 5) .n))) (.tup (.c (.v 5) (.c (.v 6) .n)))) .n)))) .n) .n) .n)) (.c (.ret (.tup (.c (.v 2) (.c (.bi .tuple (.c (.v 3) .n)) .n)))) .n)))) }
/-- is_name -/
def f12 : Fn := { np := 1, nn := 2, dflt := [], keep := false, body := (.c (.ret (.and (.c (.isi (.v 0) [.py 0]) (.c (.cmp2 .lt .lt (.k (.int 0)) (.bi .len (.c (.v 0) .n)) (.k (.int 9))) (.c (.bi .all (.c (.lc [1] (.v 1) (.e (.v 0)) (.k (.bl true)) (.cmp .in_ (.v 1) (.g 3))) .n)) .n))))) .n) }
/-- check_places -/
def f13 : Fn := { np := 1, nn := 3, dflt := [], keep := false, body := (.c (.ite (.or (.c (.not (.isi (.v 0) [.py 3])) (.c (.cmp .eq (.v 0) (.tup .n)) .n))) (.c (.rai (.exc 10 [1] (.c (.k .non) .n))) .n) .n) (.c (.for (.tup (.c (.v 1) (.c (.v 2) .n))) (.enu (.v 0)) (.c (.ite (.or (.c (.cmp .ge (.v 1) (.g 0)) (.c (.not (.cal 12 (.c (.v 2) .n))) (.c (.cmp .in_ (.v 2) (.sli (.v 0) .n (.s (.v 1)))) .n)))) (.c (.rai (.exc 10 [1] (.c (.v 1) .n))) .n) .n) .n)) .n)) }
/-- is_pair -/
def f14 : Fn := { np := 2, nn := 3, dflt := [], keep := false, body := (.c (.ite (.or (.c (.not (.isi (.v 1) [.py 3])) (.c (.cmp .ne (.bi .len (.c (.v 1) .n)) (.k (.int 2))) (.c (.not (.bi .all (.c (.lc [2] (.v 2) (.e (.v 1)) (.k (.bl true)) (.isi (.v 2) [.py 0])) .n))) .n)))) (.c (.ret (.k (.bl false))) .n) .n) (.c (.ret (.and (.c (.cmp .ne (.idx (.v 1) (.k (.int 0))) (.idx (.v 1) (.k (.int 1)))) (.c (.cmp .in_ (.idx (.v 1) (.k (.int 0))) (.v 0)) (.c (.cmp .in_ (.idx (.v 1) (.k (.int 1))) (.v 0)) .n))))) .n)) }
/-- are_alike -/
def f15 : Fn := { np := 2, nn := 2, dflt := [], keep := false, body := (.c (.ret (.cmp .in_ (.v 0) (.tup (.c (.v 1) (.c (.rev (.v 1) false) .n))))) .n) }
/-- check_ties -/
def f16 : Fn := { np := 2, nn := 5, dflt := [], keep := false, body := (.c (.ite (.not (.isi (.v 1) [.py 3])) (.c (.rai (.exc 11 [1] (.c (.k .non) .n))) .n) .n) (.c (.for (.tup (.c (.v 2) (.c (.v 3) .n))) (.enu (.v 1)) (.c (.ite (.or (.c (.not (.cal 14 (.c (.v 0) (.c (.v 3) .n)))) (.c (.bi .any (.c (.lc [4] (.v 4) (.e (.sli (.v 1) .n (.s (.v 2)))) (.k (.bl true)) (.cal 15 (.c (.v 3) (.c (.v 4) .n)))) .n)) .n))) (.c (.rai (.exc 11 [1] (.c (.v 2) .n))) .n) .n) .n)) .n)) }
/-- sides_of -/
def f17 : Fn := { np := 2, nn := 6, dflt := [], keep := false, body := (.c (.asg (.v 2) (.lay (.dct true .n))) (.c (.for (.tup (.c (.v 3) (.c (.v 4) .n))) (.e (.v 1)) (.c (.asg (.ix (.v 2) (.key (.c (.v 3) (.c (.v 4) .n)))) (.k (.bl true))) (.c (.asg (.ix (.v 2) (.key (.c (.v 4) (.c (.v 3) .n)))) (.k (.bl true))) .n))) (.c (.ret (.dc [5] (.v 5) (.e (.v 0)) (.k (.bl true)) (.v 5) (.bi .tuple (.c (.lc [4] (.v 4) (.e (.v 0)) (.cmp .in_ (.key (.c (.v 5) (.c (.v 4) .n))) (.v 2)) (.v 4)) .n)))) .n))) }
/-- Web.__init__ -/
def f18 : Fn := { np := 3, nn := 3, dflt := [(.tup [])], keep := false, body := (.c (.ex (.cal 13 (.c (.v 1) .n))) (.c (.ex (.cal 16 (.c (.v 1) (.c (.v 2) .n)))) (.c (.asg (.at (.v 0) 5) (.v 1)) (.c (.asg (.at (.v 0) 6) (.v 2)) (.c (.asg (.at (.v 0) 7) (.cal 17 (.c (.v 1) (.c (.v 2) .n)))) .n))))) }
/-- read_web -/
def f19 : Fn := { np := 1, nn := 3, dflt := [], keep := false, body := (.c (.asg (.v 1) (.lc [2] (.v 2) (.e (.bm .split (.v 0) (.c (.k (.str "\n")) .n))) (.k (.bl true)) (.bi .tuple (.c (.bm .split (.v 2) (.c (.k (.str " ")) .n)) .n)))) (.c (.ite (.cmp .ne (.idx (.idx (.v 1) (.k (.int 0))) (.k (.int 0))) (.k (.str "places"))) (.c (.ret (.k .non)) .n) .n) (.c (.try (.c (.ret (.new 29 (.c (.sli (.idx (.v 1) (.k (.int 0))) (.s (.k (.int 1))) .n) (.c (.bi .tuple (.c (.sli (.v 1) (.s (.k (.int 1))) .n) .n)) .n)))) .n) (.c [.own 10, .own 11] none (.c (.ret (.k .non)) .n) .n)) .n))) }
/-- Web.read -/
def f20 : Fn := { np := 2, nn := 3, dflt := [], keep := false, body := (.c (.asg (.v 2) (.ite (.isi (.v 1) [.py 0]) (.cal 19 (.c (.v 1) .n)) (.k .non))) (.c (.ite (.cmp .is_ (.v 2) (.k .non)) (.c (.rai (.exc 0 [0] (.c (.v 1) .n))) .n) .n) (.c (.ret (.v 2)) .n))) }
/-- _law_page -/
def f21 : Fn := { np := 2, nn := 4, dflt := [], keep := false, body := (.c (.ret (.bm .join (.k (.str "\n")) (.c (.bin .add (.lst (.c (.bin .add (.k (.str "places ")) (.bm .join (.k (.str " ")) (.c (.v 0) .n))) .n)) (.lc [2, 3] (.tup (.c (.v 2) (.c (.v 3) .n))) (.e (.v 1)) (.k (.bl true)) (.bin .add (.bin .add (.v 2) (.k (.str " "))) (.v 3)))) .n))) .n) }
/-- _law_shows -/
def f22 : Fn := { np := 3, nn := 5, dflt := [], keep := false, body := (.c (.asg (.v 3) (.lst (.c (.att (.v 0) 8) (.c (.att (.v 0) 9) (.c (.bi .len (.c (.v 0) .n)) (.c (.bi .str (.c (.v 0) .n)) (.c (.bi .repr (.c (.v 0) .n)) (.c (.bi .bool (.c (.v 0) .n)) .n)))))))) (.c (.asg (.v 4) (.bin .add (.bin .add (.bin .add (.bin .add (.k (.str "Web of ")) (.bi .str (.c (.bi .len (.c (.v 1) .n)) .n))) (.k (.str " places and "))) (.bi .str (.c (.bi .len (.c (.v 2) .n)) .n))) (.k (.str " ties")))) (.c (.ret (.cmp .eq (.bi .repr (.c (.v 3) .n)) (.bi .repr (.c (.lst (.c (.v 1) (.c (.v 2) (.c (.bi .len (.c (.v 1) .n)) (.c (.cal 21 (.c (.v 1) (.c (.v 2) .n))) (.c (.v 4) (.c (.k (.bl true)) .n))))))) .n)))) .n))) }
/-- _law_right -/
def f23 : Fn := { np := 1, nn := 6, dflt := [], keep := false, body := (.c (.for (.v 1) (.rng (.c (.k (.int 5)) .n)) (.c (.asg (.tup (.c (.v 2) (.c (.v 3) .n))) (.cal 11 (.c (.v 0) (.c (.k (.int 8)) .n)))) (.c (.asg (.v 4) (.lay (.lst (.c (.new 29 (.c (.v 2) (.c (.v 3) .n))) (.c (.nwk 29 .n [2, 1] (.c (.v 3) (.c (.v 2) .n))) (.c (.cal 20 (.c (.k (.cls 29)) (.c (.cal 21 (.c (.v 2) (.c (.v 3) .n))) .n))) .n)))))) (.c (.ex (.bm .append (.v 4) (.c (.clk 20 (.c (.k (.cls 29)) .n) [1] (.c (.cal 21 (.c (.v 2) (.c (.v 3) .n))) .n)) .n))) (.c (.ite (.not (.bi .all (.c (.lc [5] (.v 5) (.e (.v 4)) (.k (.bl true)) (.cal 22 (.c (.v 5) (.c (.v 2) (.c (.v 3) .n))))) .n))) (.c (.ret (.k (.bl false))) .n) .n) (.c (.ite (.or (.c (.not (.cal 22 (.c (.new 29 (.c (.v 2) .n)) (.c (.v 2) (.c (.tup .n) .n))))) (.c (.not (.cal 22 (.c (.nwk 29 .n [1] (.c (.v 2) .n)) (.c (.v 2) (.c (.tup .n) .n))))) .n))) (.c (.ret (.k (.bl false))) .n) .n) .n)))))) (.c (.ret (.k (.bl true))) .n)) }
/-- _law_tub -/
def f24 : Fn := { np := 2, nn := 5, dflt := [], keep := true, body := (.c (.asg (.v 2) (.ite (.cmp .lt (.v 1) (.bi .len (.c (.v 0) .n))) (.bi .int (.c (.idx (.v 0) (.v 1)) .n)) (.bin .add (.bin .mul (.k (.int 71)) (.v 1)) (.k (.int 29))))) (.c (.asg (.v 3) (.bin .add (.k (.int 40009)) (.bin .mul (.k (.int 7001)) (.v 1)))) (.c (.for (.v 4) (.e (.sli (.v 0) .n (.s (.k (.int 8))))) (.c (.asg (.v 3) (.bin .mod (.bi .int (.c (.bin .add (.bin .mul (.v 3) (.k (.int 24007))) (.bi .int (.c (.v 4) .n))) .n)) (.k (.int 2147483179)))) .n)) (.c (.ret (.lay (.lst (.c (.bin .mod (.bi .int (.c (.bin .add (.v 3) (.bin .mul (.v 2) (.k (.int 8009)))) .n)) (.k (.int 2147483179))) (.c (.k (.int 0)) (.c (.ite (.or (.c (.cmp .lt (.v 2) (.k (.int 0))) (.c (.cmp .ge (.v 2) (.bin .pow (.k (.int 10)) (.k (.int 18)))) .n))) (.bi .abs (.c (.v 2) .n)) (.k (.int 0))) .n)))))) .n)))) }
/-- Web.__eq__ -/
def f26 : Fn := { np := 2, nn := 2, dflt := [], keep := false, body := (.c (.ret (.and (.c (.isi (.v 1) [.own 29]) (.c (.cmp .eq (.att (.v 0) 5) (.att (.v 1) 5)) (.c (.cmp .eq (.att (.v 0) 6) (.att (.v 1) 6)) .n))))) .n) }
/-- Web.__len__ -/
def f27 : Fn := { np := 1, nn := 1, dflt := [], keep := false, body := (.c (.ret (.bi .len (.c (.att (.v 0) 5) .n))) .n) }
/-- Web.__str__ -/
def f28 : Fn := { np := 1, nn := 2, dflt := [], keep := false, body := (.c (.ret (.bm .join (.k (.str "\n")) (.c (.lst (.c (.bm .join (.k (.str " ")) (.c (.lst (.c (.k (.str "places")) (.c (.star (.att (.v 0) 5)) .n))) .n)) (.c (.star (.lc [1] (.v 1) (.e (.att (.v 0) 6)) (.k (.bl true)) (.bm .join (.k (.str " ")) (.c (.v 1) .n)))) .n))) .n))) .n) }
/-- Web.__repr__ -/
def f29 : Fn := { np := 1, nn := 1, dflt := [], keep := false, body := (.c (.ret (.fst (.c (.k (.str "Web of ")) (.c (.fmt (.bi .len (.c (.att (.v 0) 5) .n))) (.c (.k (.str " places and ")) (.c (.fmt (.bi .len (.c (.att (.v 0) 6) .n))) (.c (.k (.str " ties")) .n))))))) .n) }
/-- Web.places -/
def f30 : Fn := { np := 1, nn := 1, dflt := [], keep := false, body := (.c (.ret (.att (.v 0) 5)) .n) }
/-- Web.ties -/
def f31 : Fn := { np := 1, nn := 1, dflt := [], keep := false, body := (.c (.ret (.att (.v 0) 6)) .n) }
/-- _law_pick -/
def f32 : Fn := { np := 2, nn := 2, dflt := [], keep := false, body := (.c (.ret (.idx (.v 1) (.cal 8 (.c (.v 0) (.c (.bi .len (.c (.v 1) .n)) .n))))) .n) }
/-- _law_outcome -/
def f33 : Fn := { np := 1, nn := 4, dflt := [], keep := false, body := (.c (.par (.c (.v 1) (.c (.v 2) .n)) (.c (.k (.str "returned")) (.c (.k .non) .n))) (.c (.try (.c (.asg (.v 2) (.app 0 .n)) .n) (.c [.own 8] (some 3) (.c (.par (.c (.v 1) (.c (.v 2) .n)) (.c (.k (.str "NotAWeb")) (.c (.xat 3 0) .n))) .n) (.c [.own 1] (some 3) (.c (.par (.c (.v 1) (.c (.v 2) .n)) (.c (.k (.str "InvalidTie")) (.c (.xat 3 0) .n))) .n) (.c [.own 2] (some 3) (.c (.par (.c (.v 1) (.c (.v 2) .n)) (.c (.k (.str "InvalidRing")) (.c (.xat 3 0) .n))) .n) (.c [.own 17] (some 3) (.c (.par (.c (.v 1) (.c (.v 2) .n)) (.c (.k (.str "UnknownPlace")) (.c (.xat 3 0) .n))) .n) (.c [.own 0] (some 3) (.c (.par (.c (.v 1) (.c (.v 2) .n)) (.c (.k (.str "InvalidText")) (.c (.xat 3 0) .n))) .n) (.c [.own 10] (some 3) (.c (.par (.c (.v 1) (.c (.v 2) .n)) (.c (.k (.str "InvalidPlaces")) (.c (.xat 3 1) .n))) .n) (.c [.own 11] (some 3) (.c (.par (.c (.v 1) (.c (.v 2) .n)) (.c (.k (.str "InvalidTies")) (.c (.xat 3 1) .n))) .n) (.c [.own 12] (some 3) (.c (.par (.c (.v 1) (.c (.v 2) .n)) (.c (.k (.str "InvalidMarking")) (.c (.xat 3 1) .n))) .n) (.c [.own 23] (some 3) (.c (.par (.c (.v 1) (.c (.v 2) .n)) (.c (.k (.str "TooMany")) (.c (.xat 3 3) .n))) .n) (.c [.own 20] (some 3) (.c (.par (.c (.v 1) (.c (.v 2) .n)) (.c (.k (.str "Odd")) (.c (.xat 3 2) .n))) .n) (.c [.own 22] none (.c (.par (.c (.v 1) (.c (.v 2) .n)) (.c (.k (.str "OtherPlaces")) (.c (.k .non) .n))) .n) (.c [.own 24] none (.c (.par (.c (.v 1) (.c (.v 2) .n)) (.c (.k (.str "NothingToUndo")) (.c (.k .non) .n))) .n) .n))))))))))))) (.c (.ret (.lst (.c (.v 1) (.c (.v 2) .n)))) .n))) }
/-- _law_bent -/
def f38 : Fn := { np := 2, nn := 8, dflt := [], keep := false, body := (.c (.par (.c (.v 2) (.c (.v 3) (.c (.v 4) .n))) (.c (.cal 8 (.c (.v 0) (.c (.k (.int 9)) .n))) (.c (.cal 8 (.c (.v 0) (.c (.bin .add (.bi .len (.c (.v 1) .n)) (.k (.int 1))) .n))) (.c (.bm .split (.v 1) (.c (.k (.str "\n")) .n)) .n)))) (.c (.asg (.v 5) (.cal 32 (.c (.v 0) (.c (.lst (.c (.k (.str " ")) (.c (.k (.str "a")) (.c (.k (.str "\n")) (.c (.k (.str "b")) (.c (.k (.str "A")) (.c (.k (.str "1")) (.c (.k (.str "zz")) (.c (.k (.str "\na b")) (.c (.k (.str "places")) (.c (.k (.str "  ")) .n))))))))))) .n)))) (.c (.asg (.v 6) (.cal 8 (.c (.v 0) (.c (.bi .len (.c (.v 4) .n)) .n)))) (.c (.ite (.cmp .lt (.v 2) (.k (.int 3))) (.c (.ret (.bin .add (.bin .add (.sli (.v 1) .n (.s (.v 3))) (.idx (.lst (.c (.v 5) (.c (.v 5) (.c (.k (.str "")) .n)))) (.v 2))) (.sli (.v 1) (.s (.bin .add (.v 3) (.idx (.lst (.c (.k (.int 0)) (.c (.k (.int 1)) (.c (.k (.int 1)) .n)))) (.v 2)))) .n))) .n) .n) (.c (.ite (.cmp .eq (.v 2) (.k (.int 3))) (.c (.ret (.bm .join (.k (.str "\n")) (.c (.bin .add (.sli (.v 4) .n (.s (.v 6))) (.sli (.v 4) (.s (.bin .add (.v 6) (.k (.int 1)))) .n)) .n))) .n) .n) (.c (.ite (.cmp .eq (.v 2) (.k (.int 4))) (.c (.ret (.bm .join (.k (.str "\n")) (.c (.bin .add (.bin .add (.sli (.v 4) .n (.s (.v 6))) (.lst (.c (.idx (.v 4) (.v 6)) .n))) (.sli (.v 4) (.s (.v 6)) .n)) .n))) .n) .n) (.c (.asg (.v 7) (.lay (.bm .split (.idx (.v 4) (.v 6)) (.c (.k (.str " ")) .n)))) (.c (.ite (.cmp .eq (.v 2) (.k (.int 5))) (.c (.ret (.bm .join (.k (.str "\n")) (.c (.bin .add (.v 4) (.lst (.c (.bm .join (.k (.str " ")) (.c (.rev (.bm .split (.idx (.v 4) (.neg (.k (.int 1)))) (.c (.k (.str " ")) .n)) false) .n)) .n))) .n))) .n) .n) (.c (.ite (.cmp .eq (.v 2) (.k (.int 6))) (.c (.asg (.ix (.v 7) (.cal 8 (.c (.v 0) (.c (.bi .len (.c (.v 7) .n)) .n)))) (.cal 32 (.c (.v 0) (.c (.lst (.c (.k (.str "a")) (.c (.k (.str "b")) (.c (.k (.str "zz")) (.c (.k (.str "q")) (.c (.k (.str "")) (.c (.k (.str "nobody")) (.c (.k (.str "places")) .n)))))))) .n)))) .n) .n) (.c (.ite (.cmp .eq (.v 2) (.k (.int 7))) (.c (.asg (.v 7) (.lay (.bin .add (.v 7) (.sli (.v 7) (.s (.neg (.k (.int 1)))) .n)))) .n) .n) (.c (.ite (.cmp .eq (.v 2) (.k (.int 8))) (.c (.asg (.v 7) (.lay (.rev (.v 7) false))) .n) .n) (.c (.ret (.bm .join (.k (.str "\n")) (.c (.bin .add (.bin .add (.sli (.v 4) .n (.s (.v 6))) (.lst (.c (.bm .join (.k (.str " ")) (.c (.v 7) .n)) .n))) (.sli (.v 4) (.s (.bin .add (.v 6) (.k (.int 1)))) .n)) .n))) .n)))))))))))) }
/-- _law_is_name -/
def f39 : Fn := { np := 1, nn := 2, dflt := [], keep := false, body := (.c (.ret (.and (.c (.cmp2 .lt .lt (.k (.int 0)) (.bi .len (.c (.v 0) .n)) (.k (.int 9))) (.c (.bi .all (.c (.lc [1] (.v 1) (.e (.v 0)) (.k (.bl true)) (.cmp .in_ (.v 1) (.k (.str "abcdefghijklmnopqrstuvwxyz")))) .n)) .n)))) .n) }
/-- _law_is_text -/
def f40 : Fn := { np := 1, nn := 8, dflt := [], keep := false, body := (.c (.asg (.v 1) (.lc [2] (.v 2) (.e (.bm .split (.v 0) (.c (.k (.str "\n")) .n))) (.k (.bl true)) (.bm .split (.v 2) (.c (.k (.str " ")) .n)))) (.c (.asg (.v 3) (.sli (.idx (.v 1) (.k (.int 0))) (.s (.k (.int 1))) .n)) (.c (.ite (.or (.c (.cmp .ne (.idx (.idx (.v 1) (.k (.int 0))) (.k (.int 0))) (.k (.str "places"))) (.c (.not (.cmp2 .lt .lt (.k (.int 0)) (.bi .len (.c (.v 3) .n)) (.k (.int 9)))) (.c (.not (.bi .all (.c (.lc [4] (.v 4) (.e (.v 3)) (.k (.bl true)) (.cal 39 (.c (.v 4) .n))) .n))) .n)))) (.c (.ret (.k (.bl false))) .n) .n) (.c (.ite (.cmp .ne (.bi .set (.c (.v 3) .n)) (.bi .len (.c (.v 3) .n))) (.c (.ret (.k (.bl false))) .n) .n) (.c (.asg (.v 5) (.lc [2] (.v 2) (.e (.sli (.v 1) (.s (.k (.int 1))) .n)) (.k (.bl true)) (.bi .sorted (.c (.v 2) .n)))) (.c (.ite (.not (.bi .all (.c (.lc [6] (.v 6) (.e (.v 5)) (.k (.bl true)) (.and (.c (.cmp .eq (.bi .len (.c (.v 6) .n)) (.k (.int 2))) (.c (.cmp .in_ (.idx (.v 6) (.k (.int 0))) (.v 3)) (.c (.cmp .in_ (.idx (.v 6) (.k (.int 1))) (.v 3)) .n))))) .n))) (.c (.ret (.k (.bl false))) .n) .n) (.c (.ite (.not (.bi .all (.c (.lc [6] (.v 6) (.e (.v 5)) (.k (.bl true)) (.cmp .ne (.idx (.v 6) (.k (.int 0))) (.idx (.v 6) (.k (.int 1))))) .n))) (.c (.ret (.k (.bl false))) .n) .n) (.c (.ret (.bi .all (.c (.lc [7] (.v 7) (.rng (.c (.bi .len (.c (.v 5) .n)) .n)) (.k (.bl true)) (.cmp .ni (.idx (.v 5) (.v 7)) (.sli (.v 5) .n (.s (.v 7))))) .n))) .n)))))))) }
/-- _law_right -/
def f41 : Fn := { np := 1, nn := 9, dflt := [], keep := false, body := (.c (.for (.v 1) (.rng (.c (.k (.int 10)) .n)) (.c (.asg (.tup (.c (.v 2) (.c (.v 3) .n))) (.cal 11 (.c (.v 0) (.c (.k (.int 6)) .n)))) (.c (.asg (.v 4) (.cal 21 (.c (.v 2) (.c (.v 3) .n)))) (.c (.for (.v 5) (.rng (.c (.cal 8 (.c (.v 0) (.c (.k (.int 4)) .n))) .n)) (.c (.asg (.v 4) (.cal 38 (.c (.v 0) (.c (.v 4) .n)))) .n)) (.c (.asg (.v 6) (.cal 33 (.c (.lam 9) .n))) (.c (.ite (.cmp .ne (.v 6) (.ite (.cal 40 (.c (.v 4) .n)) (.lst (.c (.k (.str "returned")) (.c (.v 4) .n))) (.lst (.c (.k (.str "InvalidText")) (.c (.v 4) .n))))) (.c (.ret (.k (.bl false))) .n) .n) (.c (.asg (.v 7) (.cal 32 (.c (.v 0) (.c (.lst (.c (.k .non) (.c (.k (.int 5)) (.c (.tup (.c (.k (.str "places a")) .n)) (.c (.lst (.c (.k (.str "places a")) .n)) (.c (.dct false .n) (.c (.k (.bl true)) (.c (.k (.str "")) (.c (.k (.str "\n")) (.c (.k (.str "places")) (.c (.k (.str "places ")) (.c (.k (.str "a")) .n)))))))))))) .n)))) (.c (.ite (.cmp .ne (.bi .repr (.c (.cal 33 (.c (.lam 10) .n)) .n)) (.bi .repr (.c (.lst (.c (.k (.str "InvalidText")) (.c (.v 7) .n))) .n))) (.c (.ret (.k (.bl false))) .n) .n) .n)))))))) (.c (.asg (.v 8) (.bin .add (.k (.str "places ")) (.bm .join (.k (.str " ")) (.c (.cal 9 (.c (.v 0) (.c (.k (.int 8)) .n))) .n)))) (.c (.ite (.cmp .ne (.bi .str (.c (.cal 20 (.c (.k (.cls 29)) (.c (.v 8) .n))) .n)) (.v 8)) (.c (.ret (.k (.bl false))) .n) .n) (.c (.ret (.cmp .eq (.cal 33 (.c (.lam 11) .n)) (.lst (.c (.k (.str "InvalidText")) (.c (.bin .add (.v 8) (.k (.str " ninth"))) .n))))) .n)))) }
/-- law -/
def f42 : Fn := { np := 1, nn := 2, dflt := [], keep := false, body := (.c (.ret (.bi .all (.c (.lc [1] (.v 1) (.rng (.c (.bi .max2 (.c (.k (.int 2)) (.c (.bi .min2 (.c (.bi .len (.c (.v 0) .n)) (.c (.k (.int 5)) .n))) .n))) .n)) (.k (.bl true)) (.cal 41 (.c (.cal 24 (.c (.v 0) (.c (.v 1) .n))) .n))) .n))) .n) }
/-- _law_tied -/
def f43 : Fn := { np := 3, nn := 3, dflt := [], keep := false, body := (.c (.ret (.or (.c (.cmp .in_ (.key (.c (.v 1) (.c (.v 2) .n))) (.v 0)) (.c (.cmp .in_ (.key (.c (.v 2) (.c (.v 1) .n))) (.v 0)) .n)))) .n) }
/-- Web.has_tie -/
def f47 : Fn := { np := 3, nn := 3, dflt := [], keep := false, body := (.c (.ret (.cmp .in_ (.v 2) (.idx (.att (.v 0) 7) (.v 1)))) .n) }
/-- has_place -/
def f52 : Fn := { np := 2, nn := 2, dflt := [], keep := false, body := (.c (.ret (.and (.c (.isi (.v 1) [.py 0]) (.c (.cmp .in_ (.v 1) (.att (.v 0) 8)) .n)))) .n) }
/-- _law_right -/
def f57 : Fn := { np := 1, nn := 11, dflt := [], keep := false, body := (.c (.for (.v 1) (.rng (.c (.k (.int 4)) .n)) (.c (.asg (.tup (.c (.v 2) (.c (.v 3) .n))) (.cal 11 (.c (.v 0) (.c (.k (.int 6)) .n)))) (.c (.asg (.v 4) (.new 29 (.c (.v 2) (.c (.v 3) .n)))) (.c (.asg (.v 5) (.lst (.c (.new 29 (.c (.v 2) (.c (.v 3) .n))) (.c (.cal 20 (.c (.k (.cls 29)) (.c (.bi .str (.c (.v 4) .n)) .n))) (.c (.new 29 (.c (.v 2) (.c (.rev (.v 3) false) .n))) (.c (.new 29 (.c (.rev (.v 2) false) (.c (.v 3) .n))) .n)))))) (.c (.asg (.v 5) (.bin .add (.v 5) (.lst (.c (.new 29 (.c (.v 2) (.c (.sli (.v 3) (.s (.k (.int 1))) .n) .n))) (.c (.new 29 (.c (.v 2) (.c (.bi .tuple (.c (.lc [6] (.v 6) (.e (.v 3)) (.k (.bl true)) (.rev (.v 6) false)) .n)) .n))) .n))))) (.c (.for (.v 7) (.e (.bin .add (.v 5) (.lst (.c (.new 29 (.c (.v 2) (.c (.sli (.v 3) .n (.s (.k (.int 1)))) .n))) (.c (.v 4) .n))))) (.c (.asg (.v 8) (.cmp .eq (.bi .str (.c (.v 7) .n)) (.bi .str (.c (.v 4) .n)))) (.c (.ite (.cmp .ne (.lst (.c (.cmp .eq (.v 4) (.v 7)) (.c (.cmp .eq (.v 7) (.v 4)) (.c (.cmp .ne (.v 4) (.v 7)) (.c (.cmp .ne (.v 7) (.v 4)) .n))))) (.lst (.c (.v 8) (.c (.v 8) (.c (.not (.v 8)) (.c (.not (.v 8)) .n)))))) (.c (.ret (.k (.bl false))) .n) .n) .n))) (.c (.asg (.v 9) (.lst (.c (.bi .str (.c (.v 4) .n)) (.c (.v 2) (.c (.v 3) (.c (.tup (.c (.v 2) (.c (.v 3) .n))) (.c (.k .non) (.c (.k (.bl true)) (.c (.bi .len (.c (.v 2) .n)) (.c (.dct false .n) (.c (.lst (.c (.v 4) .n)) (.c (.tup (.c (.v 4) .n)) (.c (.bi .repr (.c (.v 4) .n)) .n))))))))))))) (.c (.asg (.v 10) (.cal 32 (.c (.v 0) (.c (.v 9) .n)))) (.c (.ite (.or (.c (.cmp .eq (.v 4) (.v 10)) (.c (.cmp .eq (.v 10) (.v 4)) (.c (.not (.cmp .ne (.v 4) (.v 10))) (.c (.not (.cmp .eq (.v 4) (.idx (.v 5) (.k (.int 0))))) (.c (.not (.cmp .eq (.v 4) (.idx (.v 5) (.k (.int 1))))) .n)))))) (.c (.ret (.k (.bl false))) .n) .n) .n))))))))) (.c (.ret (.k (.bl true))) .n)) }
/-- law -/
def f58 : Fn := { np := 1, nn := 2, dflt := [], keep := false, body := (.c (.ret (.bi .all (.c (.lc [1] (.v 1) (.rng (.c (.bi .max2 (.c (.k (.int 2)) (.c (.bi .min2 (.c (.bi .len (.c (.v 0) .n)) (.c (.k (.int 5)) .n))) .n))) .n)) (.k (.bl true)) (.cal 57 (.c (.cal 24 (.c (.v 0) (.c (.v 1) .n))) .n))) .n))) .n) }
/-- _law_loops -/
def f59 : Fn := { np := 2, nn := 10, dflt := [], keep := false, body := (.c (.par (.c (.v 2) (.c (.v 3) .n)) (.c (.lay (.lst .n)) (.c (.lc [4] (.v 4) (.rng (.c (.bi .len (.c (.v 0) .n)) .n)) (.k (.bl true)) (.lst (.c (.v 4) .n))) .n))) (.c (.whl (.cmp .ne (.v 3) (.lst .n)) (.c (.asg (.v 5) (.lst .n)) (.c (.for (.v 6) (.e (.v 3)) (.c (.asg (.v 7) (.idx (.v 0) (.idx (.v 6) (.neg (.k (.int 1)))))) (.c (.ite (.and (.c (.cmp .gt (.bi .len (.c (.v 6) .n)) (.k (.int 2))) (.c (.cmp .lt (.idx (.v 6) (.k (.int 1))) (.idx (.v 6) (.neg (.k (.int 1))))) (.c (.cal 43 (.c (.v 1) (.c (.idx (.v 0) (.idx (.v 6) (.k (.int 0)))) (.c (.v 7) .n)))) .n)))) (.c (.ex (.bm .append (.v 2) (.c (.tup (.c (.bi .len (.c (.v 6) .n)) (.c (.v 6) .n))) .n))) .n) .n) (.c (.asg (.v 8) (.lc [4] (.v 4) (.rng (.c (.bin .add (.idx (.v 6) (.k (.int 0))) (.k (.int 1))) (.c (.bi .len (.c (.v 0) .n)) .n))) (.cmp .ni (.v 4) (.v 6)) (.v 4))) (.c (.asg (.v 5) (.bin .add (.v 5) (.lc [4] (.v 4) (.e (.v 8)) (.cal 43 (.c (.v 1) (.c (.v 7) (.c (.idx (.v 0) (.v 4)) .n)))) (.bin .add (.v 6) (.lst (.c (.v 4) .n)))))) .n))))) (.c (.asg (.v 3) (.v 5)) .n)))) (.c (.ret (.lc [9, 6] (.tup (.c (.v 9) (.c (.v 6) .n))) (.e (.bi .sorted (.c (.v 2) .n))) (.k (.bl true)) (.bi .tuple (.c (.lc [4] (.v 4) (.e (.v 6)) (.k (.bl true)) (.idx (.v 0) (.v 4))) .n)))) .n))) }
/-- check_web -/
def f63 : Fn := { np := 1, nn := 1, dflt := [], keep := false, body := (.c (.ite (.not (.isi (.v 0) [.own 29])) (.c (.rai (.exc 8 [0] (.c (.v 0) .n))) .n) .n) .n) }
/-- are_places -/
def f64 : Fn := { np := 2, nn := 4, dflt := [], keep := false, body := (.c (.ite (.or (.c (.not (.isi (.v 1) [.py 3])) (.c (.not (.bi .all (.c (.lc [2] (.v 2) (.e (.v 1)) (.k (.bl true)) (.cal 52 (.c (.v 0) (.c (.v 2) .n)))) .n))) .n))) (.c (.ret (.k (.bl false))) .n) .n) (.c (.ret (.not (.bi .any (.c (.lc [3, 2] (.tup (.c (.v 3) (.c (.v 2) .n))) (.enu (.v 1)) (.k (.bl true)) (.cmp .in_ (.v 2) (.sli (.v 1) .n (.s (.v 3))))) .n)))) .n)) }
/-- is_ring_of -/
def f65 : Fn := { np := 2, nn := 4, dflt := [], keep := false, body := (.c (.ite (.or (.c (.not (.cal 64 (.c (.v 0) (.c (.v 1) .n)))) (.c (.cmp .lt (.bi .len (.c (.v 1) .n)) (.g 4)) .n))) (.c (.ret (.k (.bl false))) .n) .n) (.c (.ret (.bi .all (.c (.lc [2, 3] (.tup (.c (.v 2) (.c (.v 3) .n))) (.enu (.v 1)) (.k (.bl true)) (.mth (.v 0) 10 (.c (.idx (.v 1) (.bin .sub (.v 2) (.k (.int 1)))) (.c (.v 3) .n)))) .n))) .n)) }
/-- are_alike_webs -/
def f322 : Fn := { np := 2, nn := 2, dflt := [], keep := false, body := (.c (.ret (.cmp .in_ (.v 0) (.tup (.c (.v 1) (.c (.rev (.v 1) false) .n))))) .n) }
/-- check_ties -/
def f323 : Fn := { np := 2, nn := 5, dflt := [], keep := false, body := (.c (.ite (.not (.isi (.v 1) [.py 3])) (.c (.rai (.exc 11 [1] (.c (.k .non) .n))) .n) .n) (.c (.for (.tup (.c (.v 2) (.c (.v 3) .n))) (.enu (.v 1)) (.c (.ite (.or (.c (.not (.cal 14 (.c (.v 0) (.c (.v 3) .n)))) (.c (.bi .any (.c (.lc [4] (.v 4) (.e (.sli (.v 1) .n (.s (.v 2)))) (.k (.bl true)) (.cal 322 (.c (.v 3) (.c (.v 4) .n)))) .n)) .n))) (.c (.rai (.exc 11 [1] (.c (.v 2) .n))) .n) .n) .n)) .n)) }
/-- Web.__init__ -/
def f324 : Fn := { np := 3, nn := 3, dflt := [(.tup [])], keep := false, body := (.c (.ex (.cal 13 (.c (.v 1) .n))) (.c (.ex (.cal 323 (.c (.v 1) (.c (.v 2) .n)))) (.c (.asg (.at (.v 0) 5) (.v 1)) (.c (.asg (.at (.v 0) 6) (.v 2)) (.c (.asg (.at (.v 0) 7) (.cal 17 (.c (.v 1) (.c (.v 2) .n)))) .n))))) }
def l0 : Lam := { ps := [], body := (.new 29 (.c (.v 6) .n)) }
def l1 : Lam := { ps := [], body := (.new 29 (.c (.v 6) (.c (.k .non) .n))) }
def l2 : Lam := { ps := [], body := (.nwk 29 .n [2, 1] (.c (.k (.int 5)) (.c (.v 6) .n))) }
def l3 : Lam := { ps := [], body := (.new 29 (.c (.v 9) .n)) }
def l4 : Lam := { ps := [], body := (.new 29 (.c (.v 9) (.c (.tup (.c (.tup (.c (.k (.int 1)) (.c (.k (.int 2)) .n))) .n)) .n))) }
def l6 : Lam := { ps := [], body := (.new 29 (.c (.v 2) (.c (.v 9) .n))) }
def l9 : Lam := { ps := [], body := (.bi .str (.c (.cal 20 (.c (.k (.cls 29)) (.c (.v 4) .n))) .n)) }
def l10 : Lam := { ps := [], body := (.clk 20 (.c (.k (.cls 29)) .n) [1] (.c (.v 7) .n)) }
def l11 : Lam := { ps := [], body := (.cal 20 (.c (.k (.cls 29)) (.c (.bin .add (.v 8) (.k (.str " ninth"))) .n))) }
def l64 : Lam := { ps := [], body := (.cal 225 (.c (.v 7) .n)) }
def gls : List (Nat × D) := [(0, (.int 8)), (1, (.int 12)), (2, (.int 5)), (3, (.str "abcdefghijklmnopqrstuvwxyz")), (4, (.int 3)), (5, (.dct false [(.str "even"), (.str "plus"), (.str "same"), (.str "many")] [(.int 2), (.int 2), (.int 3), (.int 2)])), (6, (.dct false [(.str "even"), (.str "odd"), (.str "plus"), (.str "minus"), (.str "same"), (.str "unlike")] [(.int 3), (.int 3), (.int 3), (.int 3), (.int 4), (.int 4)])), (7, (.tup [(.str "put NAME TEXT")])), (8, (.str "0123456789")), (9, (.tup [(.str "remove NAME"), (.str "claim plus NAME NAME"), (.str "claim same NAME NAME NAME"), (.str "claim many NAME N"), (.str "lift N"), (.str "undo"), (.str "count NAME"), (.str "rings NAME"), (.str "plus NAME"), (.str "keys NAME"), (.str "names"), (.str "show NAME")])), (10, (.dct false [(.str "even"), (.str "plus"), (.str "same"), (.str "many")] [(.int 2), (.int 2), (.int 3), (.int 2)])), (11, (.dct false [(.str "even"), (.str "odd"), (.str "plus"), (.str "minus"), (.str "same"), (.str "unlike")] [(.int 3), (.int 3), (.int 3), (.int 3), (.int 4), (.int 4)]))]
end DI
end

section
set_option linter.all false
set_option maxRecDepth 100000
open PySem
namespace DI
end DI
end

section
set_option Elab.async false
set_option linter.all false
set_option maxRecDepth 100000
set_option maxHeartbeats 1000000
namespace DI
namespace Wk08
open PySem L2 PySem.Spec PyProof.Rows
def top (i : Nat) : Stmt := PySem.Challenge.pw_markedrings_k08_webs_compared.main.body.getD i (.Pass ⟨0, 0, 0, 0⟩)
abbrev s8 : Stmt := top 20
def n8 : List Str := ["_law_tub_here", "_law_top", "_law_digit", "_law_level", "_law_factor"]
theorem sc8 : FnScope n8 ["_law_tub_here", "_law_top"] (defScope s8) := ⟨rfl, rfl, rfl, by decide +kernel, rfl, by decide +kernel, by decide +kernel⟩
abbrev s9 : Stmt := top 22
def n9 : List Str := ["_law_tub_here", "_law_many", "_law_menu", "_law_found", "_law_k"]
theorem sc9 : FnScope n9 ["_law_tub_here", "_law_many"] (defScope s9) := ⟨rfl, rfl, rfl, by decide +kernel, rfl, by decide +kernel, by decide +kernel⟩
abbrev s10 : Stmt := top 23
def n10 : List Str := ["_law_row_here", "_law_found", "_law_k", "_law_far"]
theorem sc10 : FnScope n10 ["_law_row_here"] (defScope s10) := ⟨rfl, rfl, rfl, by decide +kernel, rfl, by decide +kernel, by decide +kernel⟩
abbrev s11 : Stmt := top 24
def n11 : List Str := ["_law_tub_here", "_law_most", "_law_spots", "_law_found", "_law_thick", "_law_near", "_law_far"]
theorem sc11 : FnScope n11 ["_law_tub_here", "_law_most"] (defScope s11) := ⟨rfl, rfl, rfl, by decide +kernel, rfl, by decide +kernel, by decide +kernel⟩
abbrev s12 : Stmt := top 8
def n12 : List Str := ["value", "sign"]
theorem sc12 : FnScope n12 ["value"] (defScope s12) := ⟨rfl, rfl, rfl, by decide +kernel, rfl, by decide +kernel, by decide +kernel⟩
abbrev s13 : Stmt := top 11
def n13 : List Str := ["places", "index", "place"]
theorem sc13 : FnScope n13 ["places"] (defScope s13) := ⟨rfl, rfl, rfl, by decide +kernel, rfl, by decide +kernel, by decide +kernel⟩
abbrev s14 : Stmt := top 12
def n14 : List Str := ["places", "value", "place"]
theorem sc14 : FnScope n14 ["places", "value"] (defScope s14) := ⟨rfl, rfl, rfl, by decide +kernel, rfl, by decide +kernel, by decide +kernel⟩
abbrev s15 : Stmt := top 13
def n15 : List Str := ["tie", "other"]
theorem sc15 : FnScope n15 ["tie", "other"] (defScope s15) := ⟨rfl, rfl, rfl, by decide +kernel, rfl, by decide +kernel, by decide +kernel⟩
abbrev s16 : Stmt := top 14
def n16 : List Str := ["places", "ties", "index", "tie", "other"]
theorem sc16 : FnScope n16 ["places", "ties"] (defScope s16) := ⟨rfl, rfl, rfl, by decide +kernel, rfl, by decide +kernel, by decide +kernel⟩
abbrev s17 : Stmt := top 15
def n17 : List Str := ["places", "ties", "known", "one", "other", "place"]
theorem sc17 : FnScope n17 ["places", "ties"] (defScope s17) := ⟨rfl, rfl, rfl, by decide +kernel, rfl, by decide +kernel, by decide +kernel⟩
abbrev s18 : Stmt := inClass (top 17) 0
def n18 : List Str := ["self", "places", "ties"]
theorem sc18 : FnScope n18 ["self", "places", "ties"] (defScope s18) := ⟨rfl, rfl, rfl, by decide +kernel, rfl, by decide +kernel, by decide +kernel⟩
abbrev s19 : Stmt := top 16
def n19 : List Str := ["text", "lines", "line"]
theorem sc19 : FnScope n19 ["text"] (defScope s19) := ⟨rfl, rfl, rfl, by decide +kernel, rfl, by decide +kernel, by decide +kernel⟩
abbrev s20 : Stmt := inClass (top 17) 1
def n20 : List Str := ["cls", "text", "found"]
theorem sc20 : FnScope n20 ["cls", "text"] (defScope s20) := ⟨rfl, rfl, rfl, by decide +kernel, rfl, by decide +kernel, by decide +kernel⟩
abbrev s32 : Stmt := top 21
def n32 : List Str := ["_law_tub_here", "_law_some"]
theorem sc32 : FnScope n32 ["_law_tub_here", "_law_some"] (defScope s32) := ⟨rfl, rfl, rfl, by decide +kernel, rfl, by decide +kernel, by decide +kernel⟩
abbrev s57 : Stmt := top 25
def n57 : List Str := ["_law_tub_here", "_law_again", "_law_spots", "_law_knots", "_law_mine", "_law_mates", "_law_pair", "_law_mate", "_law_due", "_law_others", "_law_odd"]
theorem sc57 : FnScope n57 ["_law_tub_here"] (defScope s57) := ⟨rfl, rfl, rfl, by decide +kernel, rfl, by decide +kernel, by decide +kernel⟩
abbrev s24 : Stmt := top 19
def n24 : List Str := ["_law_script", "_law_k", "_law_own", "_law_mixed", "_law_entry_here"]
theorem sc24 : FnScope n24 ["_law_script", "_law_k"] (defScope s24) := ⟨rfl, rfl, rfl, by decide +kernel, rfl, by decide +kernel, by decide +kernel⟩
abbrev s58 : Stmt := top 26
def n58 : List Str := ["_law_script", "_law_k"]
theorem sc58 : FnScope n58 ["_law_script"] (defScope s58) := ⟨rfl, rfl, rfl, by decide +kernel, rfl, by decide +kernel, by decide +kernel⟩
abbrev s26 : Stmt := inClass (top 17) 9
def n26 : List Str := ["self", "other"]
theorem sc26 : FnScope n26 ["self", "other"] (defScope s26) := ⟨rfl, rfl, rfl, by decide +kernel, rfl, by decide +kernel, by decide +kernel⟩
abbrev s27 : Stmt := inClass (top 17) 10
def n27 : List Str := ["self"]
theorem sc27 : FnScope n27 ["self"] (defScope s27) := ⟨rfl, rfl, rfl, by decide +kernel, rfl, by decide +kernel, by decide +kernel⟩
abbrev s28 : Stmt := inClass (top 17) 11
def n28 : List Str := ["self", "tie"]
theorem sc28 : FnScope n28 ["self"] (defScope s28) := ⟨rfl, rfl, rfl, by decide +kernel, rfl, by decide +kernel, by decide +kernel⟩
abbrev s29 : Stmt := inClass (top 17) 12
def n29 : List Str := ["self"]
theorem sc29 : FnScope n29 ["self"] (defScope s29) := ⟨rfl, rfl, rfl, by decide +kernel, rfl, by decide +kernel, by decide +kernel⟩
abbrev s30 : Stmt := inClass (top 17) 2
def n30 : List Str := ["self"]
theorem sc30 : FnScope n30 ["self"] (defScope s30) := ⟨rfl, rfl, rfl, by decide +kernel, rfl, by decide +kernel, by decide +kernel⟩
abbrev s31 : Stmt := inClass (top 17) 3
def n31 : List Str := ["self"]
theorem sc31 : FnScope n31 ["self"] (defScope s31) := ⟨rfl, rfl, rfl, by decide +kernel, rfl, by decide +kernel, by decide +kernel⟩
def xi0 : XI := xiOf 0 "InvalidText.__init__" (inClass (top 3) 0)
def xi10 : XI := xiOf 10 "InvalidPlaces.__init__" (inClass (top 4) 0)
def xi11 : XI := xiOf 11 "InvalidTies.__init__" (inClass (top 5) 0)
def T : LawT where
  fns := [(8, f8), (9, f9), (10, f10), (11, f11), (12, f12), (13, f13), (14, f14), (15, f15), (16, f16), (17, f17), (18, f18), (19, f19), (20, f20), (32, f32), (57, f57), (24, f24), (58, f58), (26, f26), (27, f27), (28, f28), (29, f29), (30, f30), (31, f31)]
  lams := []
  cls := [(26, ⟨[26], [6, 13, 14], none, [], [], [], [], false, []⟩), (0, ⟨[0, 26], [6, 13, 14], none, [], [], [], [], false, [0]⟩), (10, ⟨[10, 26], [6, 13, 14], none, [], [], [], [], false, [1]⟩), (11, ⟨[11, 26], [6, 13, 14], none, [], [], [], [], false, [1]⟩), (29, ⟨[29], [13], (some 18), [], [(8, 30), (9, 31)], [(0, 26), (1, 27), (2, 28), (3, 29)], [5, 6, 7], false, []⟩)]
  gls := gls
  pth := [(8, .glo "_law_ladle"), (9, .glo "_law_names"), (10, .glo "_law_duos"), (11, .glo "_law_plan"), (12, .glo "is_name"), (13, .glo "check_places"), (14, .glo "is_pair"), (15, .glo "are_alike"), (16, .glo "check_ties"), (17, .glo "sides_of"), (18, .meth "Web" "__init__"), (19, .glo "read_web"), (20, .cm "Web" "read"), (32, .glo "_law_pick"), (57, .glo "_law_right"), (24, .glo "_law_tub"), (58, .glo "law"), (26, .meth "Web" "__eq__"), (27, .meth "Web" "__len__"), (28, .meth "Web" "__str__"), (29, .meth "Web" "__repr__"), (30, .prop "Web" "places"), (31, .prop "Web" "ties")]
  cnm := [(26, "NotRight"), (0, "InvalidText"), (10, "InvalidPlaces"), (11, "InvalidTies"), (29, "Web")]
  ann := (["given", "index", "ring", "most", "shown", "spots", "knots", "sides", "places", "ties", "has_tie", "with_tie", "without_tie", "without", "near", "chain", "web", "marking", "changes", "sign"] : List Str) ++ (["become", "put", "strike", "turn", "close", "undo", "ground", "pairs", "told", "with_mark", "state", "table", "claims", "remove", "claim", "lift", "names", "desk", "ask", "carry"] : List Str) ++ (["respond", "respond_or_fault", "say"] : List Str)
  forms := [(8, [((2, []), [])]), (9, [((2, []), [])]), (10, [((1, []), [])]), (11, [((2, []), [])]), (12, [((1, []), [])]), (13, [((1, []), [])]), (14, [((2, []), [])]), (15, [((2, []), [])]), (16, [((2, []), [])]), (17, [((2, []), [])]), (18, [((3, []), [])]), (19, [((1, []), [])]), (20, [((2, []), [])]), (32, [((2, []), [])]), (57, [((1, []), [])]), (24, [((2, []), [])]), (58, [((1, []), [])]), (26, [((2, []), [])]), (27, [((1, []), [])]), (28, [((1, []), [])]), (29, [((1, []), [])]), (30, [((1, []), [])]), (31, [((1, []), [])])]
  isc := [29]
  gnm := [("LETTERS", 3), ("MOST_PLACES", 0)]
  free := ["abs", "all", "any", "divmod", "enumerate", "int", "isinstance", "len", "max", "min", "range", "repr", "str", "super", "tuple"]
  cms := [(29, "read", 20)]
  exs := true
  mks := []
  thk := []
  xis := [xi0, xi10, xi11]
  xns := []
  xts := [10, 11]
  xcs := []
  xit := []
  file := (PySem.Challenge.pw_markedrings_k08_webs_compared.main.file : Str)
section
variable {P : Program} {w : World} {K : PySem.W.Frag} {mg : Str → Option Value} {base : Heap} {n : Nat}
def OwA : Prop := ∀ (n : Nat) (Y : Cx), Own (T.tab Y.K) n Y → Good T Y.K Y.mg → OwnAll (T.tab Y.K) n Y
theorem spOk : SpForm (T.tab K) := sp_form (by decide +kernel)
def XiA (P : Program) (K : PySem.W.Frag) : Prop := ∀ x ∈ T.xis, XIni P K ((T.tab K).ca x.c) (x.at_ T K) x.fs
theorem xt0 : xi0.Txt := ⟨fun _ _ _ _ => ⟨_, rfl⟩, fun _ _ _ _ _ _ us h => match us, h with | [_, _], _ => rfl⟩
theorem xt10 : xi10.Txt := ⟨fun _ _ _ _ => ⟨_, rfl⟩, fun _ _ _ _ _ _ us h => match us, h with | [_, _], _ => rfl⟩
theorem xt11 : xi11.Txt := ⟨fun _ _ _ _ => ⟨_, rfl⟩, fun _ _ _ _ _ _ us h => match us, h with | [_, _], _ => rfl⟩
theorem xtA : ∀ x ∈ T.xis, x.Txt := List.forall_mem_cons.mpr ⟨xt0, List.forall_mem_cons.mpr ⟨xt10, List.forall_mem_cons.mpr ⟨xt11, fun _ h => nomatch h⟩⟩⟩
/-- _law_ladle -/
theorem b8 (G : Good T K mg) (ow : OwA) (xi : XiA P K) : BodyOk (T.tab K) P w K mg base n n8 "_law_ladle" (defScope s8) ((T.tab K).fa 8) (defBody s8) f8.body := by
  intro A outer s H E W O tk
  have B : Bd T n (cxOf (L2N.CX P w) P w K mg base n8 "_law_ladle" (defScope s8) ((T.tab K).fa 8) (cdOf K ((T.tab K).fa 8)) A outer s H E) W := Bd.of O G spOk (fun n Y => ow n Y) tk xi
  have nd := sc8.nd
  exact (sss_cons (asg_ (sf_bin .add (idx_ B (v_ 0) se_int) se_int).se (gi_ B (v_ 0) se_int))
  (sss_cons (ss_if (tcmp_ B .gt (idx_ B (v_ 0) se_int) se_int) (sss_cons (asg_ (b_2 B .divmod cb_divmod (b_ty B .int cb_int (idx_ B (v_ 0) se_int)).se (v_ 1)).se (gt_ B (gc_ (gi_ B (v_ 0) se_int) (gc_ (gv_ 2 nd) sgs_nil))))
  (sss_cons (ss_ret (v_ 2))
  sss_nil)) sss_nil)
  (sss_cons (set_ 3 nd (b_ty B .int cb_int (idx_ B (v_ 0) se_int)).se)
  (sss_cons (set_ 4 nd (sf_bin .add (sf_bin .mod (b_ty B .int cb_int (v_ 3)).se se_int).se se_int).se)
  (sss_cons (asg_ (sf_bin .mod (b_ty B .int cb_int (sf_bin .add (sf_bin .add (sf_bin .mul (v_ 3) (v_ 4)).se (sf_bin .mul se_int (idx_ B (v_ 0) se_int)).se).se se_int).se).se se_int).se (gi_ B (v_ 0) se_int))
  (sss_cons (ss_ret (sf_bin .mod (b_ty B .int cb_int (sf_bin .fdv (idx_ B (v_ 0) se_int) se_int).se).se (v_ 1)).se)
  sss_nil))))))
/-- _law_names -/
theorem b9 (G : Good T K mg) (ow : OwA) (xi : XiA P K) : BodyOk (T.tab K) P w K mg base n n9 "_law_names" (defScope s9) ((T.tab K).fa 9) (defBody s9) f9.body := by
  intro A outer s H E W O tk
  have B : Bd T n (cxOf (L2N.CX P w) P w K mg base n9 "_law_names" (defScope s9) ((T.tab K).fa 9) (cdOf K ((T.tab K).fa 9)) A outer s H E) W := Bd.of O G spOk (fun n Y => ow n Y) tk xi
  have nd := sc9.nd
  exact (sss_cons (par2_ B 2 3 nd (c_ (se_lay (lst_ (c_ st_ (c_ st_ (c_ st_ (c_ st_ (c_ st_ (c_ st_ (c_ st_ (c_ st_ (c_ st_ (c_ st_ sa_nil)))))))))))) (c_ (se_lay (lst_ sa_nil)) sa_nil)))
  (sss_cons (for_ B (r1_ B (c_ (v_ 1) sa_nil)) (gv_ 4 nd) (sss_cons (ex_ (bm_ .append tyOf_append PySem.F.plainAttrs_list PySem.F.slot_list_append PySem.F.type_list_append bm_append (v_ 3) (c_ (bme_ .pop tyOf_pop PySem.F.plainAttrs_list PySem.F.slot_list_pop PySem.F.type_list_pop bm_pop (v_ 2) (c_ (cal_ B 8 (c_ (v_ 0) (c_ (b_len B (v_ 2)).se sa_nil))) sa_nil)) sa_nil)).se)
  sss_nil))
  (sss_cons (ss_ret (b_ty B .tuple cb_tuple (v_ 3)).se)
  sss_nil)))
/-- _law_duos -/
theorem b10 (G : Good T K mg) (ow : OwA) (xi : XiA P K) : BodyOk (T.tab K) P w K mg base n n10 "_law_duos" (defScope s10) ((T.tab K).fa 10) (defBody s10) f10.body := by
  intro A outer s H E W O tk
  have B : Bd T n (cxOf (L2N.CX P w) P w K mg base n10 "_law_duos" (defScope s10) ((T.tab K).fa 10) (cdOf K ((T.tab K).fa 10)) A outer s H E) W := Bd.of O G spOk (fun n Y => ow n Y) tk xi
  have nd := sc10.nd
  exact (sss_cons (set_ 1 nd (lst_ sa_nil).se)
  (sss_cons (for_ B (r1_ B (c_ (b_len B (v_ 0)).se sa_nil)) (gv_ 2 nd) (sss_cons (set_ 1 nd (sf_bin .add (v_ 1) (lc_ B [("_law_far", 3)] n10 (defScope s10) nd (si_seq (sf_sli (v_ 0) (so_some (sf_bin .add (v_ 2) se_int).se) so_none).se) (fun _ _ _ _ _ => (gv_ 3 nd)) (fun _ _ _ _ _ => sps_nil) (fun _ _ _ _ _ => (tup_ (c_ (idx_ (Bd.blk B) (v_ 0) (v_ 2)) (c_ (v_ 3) sa_nil))))).se).se)
  sss_nil))
  (sss_cons (ss_ret (v_ 1))
  sss_nil)))
/-- _law_plan -/
theorem b11 (G : Good T K mg) (ow : OwA) (xi : XiA P K) : BodyOk (T.tab K) P w K mg base n n11 "_law_plan" (defScope s11) ((T.tab K).fa 11) (defBody s11) f11.body := by
  intro A outer s H E W O tk
  have B : Bd T n (cxOf (L2N.CX P w) P w K mg base n11 "_law_plan" (defScope s11) ((T.tab K).fa 11) (cdOf K ((T.tab K).fa 11)) A outer s H E) W := Bd.of O G spOk (fun n Y => ow n Y) tk xi
  have nd := sc11.nd
  exact (sss_cons (par2_ B 2 3 nd (c_ (cal_ B 9 (c_ (v_ 0) (c_ (sf_bin .add se_int (cal_ B 8 (c_ (v_ 0) (c_ (v_ 1) sa_nil)))).se sa_nil))) (c_ (se_lay (lst_ sa_nil)) sa_nil)))
  (sss_cons (set_ 4 nd (sf_bin .add se_int (cal_ B 8 (c_ (v_ 0) (c_ se_int sa_nil)))).se)
  (sss_cons (for_ B (si_seq (cal_ B 10 (c_ (v_ 2) sa_nil))) (gt_ B (gc_ (gv_ 5 nd) (gc_ (gv_ 6 nd) sgs_nil))) (sss_cons (ss_if (tcmp_ B .le (cal_ B 8 (c_ (v_ 0) (c_ se_int sa_nil))) (v_ 4)) (sss_cons (ex_ (bm_ .insert tyOf_insert PySem.F.plainAttrs_list PySem.F.slot_list_insert PySem.F.type_list_insert bm_insert (v_ 3) (c_ (cal_ B 8 (c_ (v_ 0) (c_ (sf_bin .add (b_len B (v_ 3)).se se_int).se sa_nil))) (c_ (se_ite (tcmp_ B .eq (cal_ B 8 (c_ (v_ 0) (c_ se_int sa_nil))) se_int) (tup_ (c_ (v_ 6) (c_ (v_ 5) sa_nil))) (tup_ (c_ (v_ 5) (c_ (v_ 6) sa_nil)))) sa_nil))).se)
  sss_nil) sss_nil)
  sss_nil))
  (sss_cons (ss_ret (tup_ (c_ (v_ 2) (c_ (b_ty B .tuple cb_tuple (v_ 3)).se sa_nil))))
  sss_nil))))
/-- is_name -/
theorem b12 (G : Good T K mg) (ow : OwA) (xi : XiA P K) : BodyOk (T.tab K) P w K mg base n n12 "is_name" (defScope s12) ((T.tab K).fa 12) (defBody s12) f12.body := by
  intro A outer s H E W O tk
  have B : Bd T n (cxOf (L2N.CX P w) P w K mg base n12 "is_name" (defScope s12) ((T.tab K).fa 12) (cdOf K ((T.tab K).fa 12)) A outer s H E) W := Bd.of O G spOk (fun n Y => ow n Y) tk xi
  have nd := sc12.nd
  exact (sss_cons (ss_ret (se_and (sv_and (isi_ B (v_ 0) (typ_ B 0)) (sv_and (cmp2_ B .lt .lt se_int (b_len B (v_ 0)).se se_int) (sva1_ (b_fn B .all (cb_all B.O.calm) (lc_ B [("sign", 1)] n12 (defScope s12) nd (si_seq (v_ 0)) (fun _ _ _ _ _ => (gv_ 1 nd)) (fun _ _ _ _ _ => sps_nil) (fun _ _ _ _ _ => (cmp_ (Bd.blk B) .in_ (v_ 1) (g_ (Bd.blk B) 3)))).se).se)))))
  sss_nil)
/-- check_places -/
theorem b13 (G : Good T K mg) (ow : OwA) (xi : XiA P K) : BodyOk (T.tab K) P w K mg base n n13 "check_places" (defScope s13) ((T.tab K).fa 13) (defBody s13) f13.body := by
  intro A outer s H E W O tk
  have B : Bd T n (cxOf (L2N.CX P w) P w K mg base n13 "check_places" (defScope s13) ((T.tab K).fa 13) (cdOf K ((T.tab K).fa 13)) A outer s H E) W := Bd.of O G spOk (fun n Y => ow n Y) tk xi
  have nd := sc13.nd
  exact (sss_cons (ss_if (st_or (sw_or (st_not (tv_ (isi_ B (v_ 0) (typ_ B 3)))) (sw_or1 (tcmp_ B .eq (v_ 0) (tup_ sa_nil))))) (sss_cons (rai1_ B 1 10 1 se_non)
  sss_nil) sss_nil)
  (sss_cons (for_ B (enu_ B (v_ 0)) (gt_ B (gc_ (gv_ 1 nd) (gc_ (gv_ 2 nd) sgs_nil))) (sss_cons (ss_if (st_or (sw_or (tcmp_ B .ge (v_ 1) (g_ B 0)) (sw_or (st_not (tv_ (cal_ B 12 (c_ (v_ 2) sa_nil)))) (sw_or1 (tcmp_ B .in_ (v_ 2) (sf_sli (v_ 0) so_none (so_some (v_ 1))).se))))) (sss_cons (rai1_ B 1 10 1 (v_ 1))
  sss_nil) sss_nil)
  sss_nil))
  sss_nil))
/-- is_pair -/
theorem b14 (G : Good T K mg) (ow : OwA) (xi : XiA P K) : BodyOk (T.tab K) P w K mg base n n14 "is_pair" (defScope s14) ((T.tab K).fa 14) (defBody s14) f14.body := by
  intro A outer s H E W O tk
  have B : Bd T n (cxOf (L2N.CX P w) P w K mg base n14 "is_pair" (defScope s14) ((T.tab K).fa 14) (cdOf K ((T.tab K).fa 14)) A outer s H E) W := Bd.of O G spOk (fun n Y => ow n Y) tk xi
  have nd := sc14.nd
  exact (sss_cons (ss_if (st_or (sw_or (st_not (tv_ (isi_ B (v_ 1) (typ_ B 3)))) (sw_or (tcmp_ B .ne (b_len B (v_ 1)).se se_int) (sw_or1 (st_not (tv_ (b_fn B .all (cb_all B.O.calm) (lc_ B [("place", 2)] n14 (defScope s14) nd (si_seq (v_ 1)) (fun _ _ _ _ _ => (gv_ 2 nd)) (fun _ _ _ _ _ => sps_nil) (fun _ _ _ _ _ => (isi_ (Bd.blk B) (v_ 2) (typ_ (Bd.blk B) 0)))).se).se)))))) (sss_cons (ss_ret se_bl)
  sss_nil) sss_nil)
  (sss_cons (ss_ret (se_and (sv_and (cmp_ B .ne (idx_ B (v_ 1) se_int) (idx_ B (v_ 1) se_int)) (sv_and (cmp_ B .in_ (idx_ B (v_ 1) se_int) (v_ 0)) (sva1_ (cmp_ B .in_ (idx_ B (v_ 1) se_int) (v_ 0)))))))
  sss_nil))
/-- are_alike -/
theorem b15 (G : Good T K mg) (ow : OwA) (xi : XiA P K) : BodyOk (T.tab K) P w K mg base n n15 "are_alike" (defScope s15) ((T.tab K).fa 15) (defBody s15) f15.body := by
  intro A outer s H E W O tk
  have B : Bd T n (cxOf (L2N.CX P w) P w K mg base n15 "are_alike" (defScope s15) ((T.tab K).fa 15) (cdOf K ((T.tab K).fa 15)) A outer s H E) W := Bd.of O G spOk (fun n Y => ow n Y) tk xi
  have nd := sc15.nd
  exact (sss_cons (ss_ret (cmp_ B .in_ (v_ 0) (tup_ (c_ (v_ 1) (c_ (sf_rev (v_ 1) ph_none).se sa_nil)))))
  sss_nil)
/-- check_ties -/
theorem b16 (G : Good T K mg) (ow : OwA) (xi : XiA P K) : BodyOk (T.tab K) P w K mg base n n16 "check_ties" (defScope s16) ((T.tab K).fa 16) (defBody s16) f16.body := by
  intro A outer s H E W O tk
  have B : Bd T n (cxOf (L2N.CX P w) P w K mg base n16 "check_ties" (defScope s16) ((T.tab K).fa 16) (cdOf K ((T.tab K).fa 16)) A outer s H E) W := Bd.of O G spOk (fun n Y => ow n Y) tk xi
  have nd := sc16.nd
  exact (sss_cons (ss_if (st_not (tv_ (isi_ B (v_ 1) (typ_ B 3)))) (sss_cons (rai1_ B 2 11 1 se_non)
  sss_nil) sss_nil)
  (sss_cons (for_ B (enu_ B (v_ 1)) (gt_ B (gc_ (gv_ 2 nd) (gc_ (gv_ 3 nd) sgs_nil))) (sss_cons (ss_if (st_or (sw_or (st_not (tv_ (cal_ B 14 (c_ (v_ 0) (c_ (v_ 3) sa_nil))))) (sw_or1 (tv_ (b_fn B .any (cb_any B.O.calm) (lc_ B [("other", 4)] n16 (defScope s16) nd (si_seq (sf_sli (v_ 1) so_none (so_some (v_ 2))).se) (fun _ _ _ _ _ => (gv_ 4 nd)) (fun _ _ _ _ _ => sps_nil) (fun _ _ _ _ _ => (cal_ (Bd.blk B) 15 (c_ (v_ 3) (c_ (v_ 4) sa_nil))))).se).se)))) (sss_cons (rai1_ B 2 11 1 (v_ 2))
  sss_nil) sss_nil)
  sss_nil))
  sss_nil))
/-- sides_of -/
theorem b17 (G : Good T K mg) (ow : OwA) (xi : XiA P K) : BodyOk (T.tab K) P w K mg base n n17 "sides_of" (defScope s17) ((T.tab K).fa 17) (defBody s17) f17.body := by
  intro A outer s H E W O tk
  have B : Bd T n (cxOf (L2N.CX P w) P w K mg base n17 "sides_of" (defScope s17) ((T.tab K).fa 17) (cdOf K ((T.tab K).fa 17)) A outer s H E) W := Bd.of O G spOk (fun n Y => ow n Y) tk xi
  have nd := sc17.nd
  exact (sss_cons (set_ 2 nd (se_lay (sf_dct0 true)))
  (sss_cons (for_ B (si_seq (v_ 1)) (gt_ B (gc_ (gv_ 3 nd) (gc_ (gv_ 4 nd) sgs_nil))) (sss_cons (asg_ se_bl (gi_ B (v_ 2) (key_ (c_ (v_ 3) (c_ (v_ 4) sa_nil)))))
  (sss_cons (asg_ se_bl (gi_ B (v_ 2) (key_ (c_ (v_ 4) (c_ (v_ 3) sa_nil)))))
  sss_nil)))
  (sss_cons (ss_ret (dc_ B [("place", 5)] n17 (defScope s17) nd (si_seq (v_ 0)) (fun _ _ _ _ _ => (gv_ 5 nd)) (fun _ _ _ _ _ => sps_nil) (fun _ _ _ _ _ => (v_ 5)) (fun _ _ _ _ _ => (b_ty (Bd.blk B) .tuple cb_tuple (lc_ (Bd.blk B) [("other", 4)] n17 _ nd (si_seq (v_ 0)) (fun _ _ _ _ _ => (gv_ 4 nd)) (fun _ _ _ _ _ => (sps_one (tcmp_ (Bd.blk (Bd.blk B)) .in_ (key_ (c_ (v_ 5) (c_ (v_ 4) sa_nil))) (v_ 2)))) (fun _ _ _ _ _ => (v_ 4))).se).se)).se)
  sss_nil)))
/-- Web.__init__ -/
theorem b18 (G : Good T K mg) (ow : OwA) (xi : XiA P K) : BodyOk (T.tab K) P w K mg base n n18 "Web.__init__" (defScope s18) ((T.tab K).fa 18) (defBody s18) f18.body := by
  intro A outer s H E W O tk
  have B : Bd T n (cxOf (L2N.CX P w) P w K mg base n18 "Web.__init__" (defScope s18) ((T.tab K).fa 18) (cdOf K ((T.tab K).fa 18)) A outer s H E) W := Bd.of O G spOk (fun n Y => ow n Y) tk xi
  have nd := sc18.nd
  exact (sss_cons (ex_ (cal_ B 13 (c_ (v_ 1) sa_nil)))
  (sss_cons (ex_ (cal_ B 16 (c_ (v_ 1) (c_ (v_ 2) sa_nil))))
  (sss_cons (fld_ B 5 (v_ 0) (v_ 1))
  (sss_cons (fld_ B 6 (v_ 0) (v_ 2))
  (sss_cons (fld_ B 7 (v_ 0) (cal_ B 17 (c_ (v_ 1) (c_ (v_ 2) sa_nil))))
  sss_nil)))))
/-- read_web -/
theorem b19 (G : Good T K mg) (ow : OwA) (xi : XiA P K) : BodyOk (T.tab K) P w K mg base n n19 "read_web" (defScope s19) ((T.tab K).fa 19) (defBody s19) f19.body := by
  intro A outer s H E W O tk
  have B : Bd T n (cxOf (L2N.CX P w) P w K mg base n19 "read_web" (defScope s19) ((T.tab K).fa 19) (cdOf K ((T.tab K).fa 19)) A outer s H E) W := Bd.of O G spOk (fun n Y => ow n Y) tk xi
  have nd := sc19.nd
  exact (sss_cons (slc_ B 1 [("line", 2)] n19 (defScope s19) nd (si_seq (bm_ .split tyOf_split PySem.F.plainAttrs_str PySem.F.slot_str_split PySem.F.type_str_split bm_split (v_ 0) (c_ st_ sa_nil)).se) (fun _ _ _ _ _ => (gv_ 2 nd)) (fun _ _ _ _ _ => sps_nil) (fun _ _ _ _ _ => (b_ty (Bd.blk B) .tuple cb_tuple (bm_ .split tyOf_split PySem.F.plainAttrs_str PySem.F.slot_str_split PySem.F.type_str_split bm_split (v_ 2) (c_ st_ sa_nil)).se).se))
  (sss_cons (ss_if (tcmp_ B .ne (idx_ B (idx_ B (v_ 1) se_int) se_int) st_) (sss_cons (ss_ret se_non)
  sss_nil) sss_nil)
  (sss_cons (ss_try B.O.nex rfl rfl nd B.tk (fun W' pn xe tk' po' => (sss_cons (ss_ret (new_ (Bd.tr B tk' po') 29 18 (c_ (sf_sli (idx_ (Bd.tr B tk' po') (v_ 1) se_int) (so_some se_int) so_none).se (c_ (b_ty (Bd.tr B tk' po') .tuple cb_tuple (sf_sli (v_ 1) (so_some se_int) so_none).se).se sa_nil))))
  sss_nil))
  (HdsS.cons (.two (nm_ B.g 10) (nm_ B.g 11)) (tysN_ B.g [10, 11]) (fun a oe cls d pn hz hf => (sss_cons (ss_ret se_non)
  sss_nil))
  HdsS.nil))
  sss_nil)))
/-- Web.read -/
theorem b20 (G : Good T K mg) (ow : OwA) (xi : XiA P K) : BodyOk (T.tab K) P w K mg base n n20 "Web.read" (defScope s20) ((T.tab K).fa 20) (defBody s20) f20.body := by
  intro A outer s H E W O tk
  have B : Bd T n (cxOf (L2N.CX P w) P w K mg base n20 "Web.read" (defScope s20) ((T.tab K).fa 20) (cdOf K ((T.tab K).fa 20)) A outer s H E) W := Bd.of O G spOk (fun n Y => ow n Y) tk xi
  have nd := sc20.nd
  exact (sss_cons (set_ 2 nd (se_ite (tv_ (isi_ B (v_ 1) (typ_ B 0))) (cal_ B 19 (c_ (v_ 1) sa_nil)) se_non))
  (sss_cons (ss_if (tcmp_ B .is_ (v_ 2) se_non) (sss_cons (rai1_ B 0 0 0 (v_ 1))
  sss_nil) sss_nil)
  (sss_cons (ss_ret (v_ 2))
  sss_nil)))
/-- _law_pick -/
theorem b32 (G : Good T K mg) (ow : OwA) (xi : XiA P K) : BodyOk (T.tab K) P w K mg base n n32 "_law_pick" (defScope s32) ((T.tab K).fa 32) (defBody s32) f32.body := by
  intro A outer s H E W O tk
  have B : Bd T n (cxOf (L2N.CX P w) P w K mg base n32 "_law_pick" (defScope s32) ((T.tab K).fa 32) (cdOf K ((T.tab K).fa 32)) A outer s H E) W := Bd.of O G spOk (fun n Y => ow n Y) tk xi
  have nd := sc32.nd
  exact (sss_cons (ss_ret (idx_ B (v_ 1) (cal_ B 8 (c_ (v_ 0) (c_ (b_len B (v_ 1)).se sa_nil)))))
  sss_nil)
/-- _law_right -/
theorem b57 (G : Good T K mg) (ow : OwA) (xi : XiA P K) : BodyOk (T.tab K) P w K mg base n n57 "_law_right" (defScope s57) ((T.tab K).fa 57) (defBody s57) f57.body := by
  intro A outer s H E W O tk
  have B : Bd T n (cxOf (L2N.CX P w) P w K mg base n57 "_law_right" (defScope s57) ((T.tab K).fa 57) (cdOf K ((T.tab K).fa 57)) A outer s H E) W := Bd.of O G spOk (fun n Y => ow n Y) tk xi
  have nd := sc57.nd
  exact (sss_cons (for_ B (r1_ B (c_ se_int sa_nil)) (gv_ 1 nd) (sss_cons (asg_ (cal_ B 11 (c_ (v_ 0) (c_ se_int sa_nil))) (gt_ B (gc_ (gv_ 2 nd) (gc_ (gv_ 3 nd) sgs_nil))))
  (sss_cons (set_ 4 nd (new_ B 29 18 (c_ (v_ 2) (c_ (v_ 3) sa_nil))))
  (sss_cons (set_ 5 nd (lst_ (c_ (new_ B 29 18 (c_ (v_ 2) (c_ (v_ 3) sa_nil))) (c_ (cm_ B 29 20 (c_ (b_ty B .str (cb_str B.O B.sf) (v_ 4)).se sa_nil)) (c_ (new_ B 29 18 (c_ (v_ 2) (c_ (sf_rev (v_ 3) ph_none).se sa_nil))) (c_ (new_ B 29 18 (c_ (sf_rev (v_ 2) ph_none).se (c_ (v_ 3) sa_nil))) sa_nil))))).se)
  (sss_cons (set_ 5 nd (sf_bin .add (v_ 5) (lst_ (c_ (new_ B 29 18 (c_ (v_ 2) (c_ (sf_sli (v_ 3) (so_some se_int) so_none).se sa_nil))) (c_ (new_ B 29 18 (c_ (v_ 2) (c_ (b_ty B .tuple cb_tuple (lc_ B [("_law_pair", 6)] n57 (defScope s57) nd (si_seq (v_ 3)) (fun _ _ _ _ _ => (gv_ 6 nd)) (fun _ _ _ _ _ => sps_nil) (fun _ _ _ _ _ => (sf_rev (v_ 6) ph_none).se)).se).se sa_nil))) sa_nil))).se).se)
  (sss_cons (for_ B (si_seq (sf_bin .add (v_ 5) (lst_ (c_ (new_ B 29 18 (c_ (v_ 2) (c_ (sf_sli (v_ 3) so_none (so_some se_int)).se sa_nil))) (c_ (v_ 4) sa_nil))).se).se) (gv_ 7 nd) (sss_cons (set_ 8 nd (cmp_ B .eq (b_ty B .str (cb_str B.O B.sf) (v_ 7)).se (b_ty B .str (cb_str B.O B.sf) (v_ 4)).se))
  (sss_cons (ss_if (tcmp_ B .ne (lst_ (c_ (cmp_ B .eq (v_ 4) (v_ 7)) (c_ (cmp_ B .eq (v_ 7) (v_ 4)) (c_ (cmp_ B .ne (v_ 4) (v_ 7)) (c_ (cmp_ B .ne (v_ 7) (v_ 4)) sa_nil))))).se (lst_ (c_ (v_ 8) (c_ (v_ 8) (c_ (se_not (v_ 8)) (c_ (se_not (v_ 8)) sa_nil))))).se) (sss_cons (ss_ret se_bl)
  sss_nil) sss_nil)
  sss_nil)))
  (sss_cons (set_ 9 nd (lst_ (c_ (b_ty B .str (cb_str B.O B.sf) (v_ 4)).se (c_ (v_ 2) (c_ (v_ 3) (c_ (tup_ (c_ (v_ 2) (c_ (v_ 3) sa_nil))) (c_ se_non (c_ se_bl (c_ (b_len B (v_ 2)).se (c_ (sf_dct0 false).se (c_ (lst_ (c_ (v_ 4) sa_nil)).se (c_ (tup_ (c_ (v_ 4) sa_nil)) (c_ (b_fn B .repr (cb_repr B.O B.sf rfl) (v_ 4)).se sa_nil)))))))))))).se)
  (sss_cons (set_ 10 nd (cal_ B 32 (c_ (v_ 0) (c_ (v_ 9) sa_nil))))
  (sss_cons (ss_if (st_or (sw_or (tcmp_ B .eq (v_ 4) (v_ 10)) (sw_or (tcmp_ B .eq (v_ 10) (v_ 4)) (sw_or (st_not (tcmp_ B .ne (v_ 4) (v_ 10))) (sw_or (st_not (tcmp_ B .eq (v_ 4) (idx_ B (v_ 5) se_int))) (sw_or1 (st_not (tcmp_ B .eq (v_ 4) (idx_ B (v_ 5) se_int))))))))) (sss_cons (ss_ret se_bl)
  sss_nil) sss_nil)
  sss_nil)))))))))
  (sss_cons (ss_ret se_bl)
  sss_nil))
/-- _law_tub -/
theorem b24 (G : Good T K mg) (ow : OwA) (xi : XiA P K) : BodyOk (T.tab K) P w K mg base n n24 "_law_tub" (defScope s24) ((T.tab K).fa 24) (defBody s24) f24.body := by
  intro A outer s H E W O tk
  have B : Bd T n (cxOf (L2N.CX P w) P w K mg base n24 "_law_tub" (defScope s24) ((T.tab K).fa 24) (cdOf K ((T.tab K).fa 24)) A outer s H E) W := Bd.of O G spOk (fun n Y => ow n Y) tk xi
  have nd := sc24.nd
  exact (sss_cons (set_ 2 nd (se_ite (tcmp_ B .lt (v_ 1) (b_len B (v_ 0)).se) (b_ty B .int cb_int (idx_ B (v_ 0) (v_ 1))).se (sf_bin .add (sf_bin .mul se_int (v_ 1)).se se_int).se))
  (sss_cons (set_ 3 nd (sf_bin .add se_int (sf_bin .mul se_int (v_ 1)).se).se)
  (sss_cons (for_ B (si_seq (sf_sli (v_ 0) so_none (so_some se_int)).se) (gv_ 4 nd) (sss_cons (set_ 3 nd (sf_bin .mod (b_ty B .int cb_int (sf_bin .add (sf_bin .mul (v_ 3) se_int).se (b_ty B .int cb_int (v_ 4)).se).se).se se_int).se)
  sss_nil))
  (sss_cons (ss_ret (se_lay (lst_ (c_ (sf_bin .mod (b_ty B .int cb_int (sf_bin .add (v_ 3) (sf_bin .mul (v_ 2) se_int).se).se).se se_int).se (c_ se_int (c_ (se_ite (st_or (sw_or (tcmp_ B .lt (v_ 2) se_int) (sw_or1 (tcmp_ B .ge (v_ 2) (sf_bin .pow se_int se_int).se)))) (b_fn B .abs cb_abs (v_ 2)).se se_int) sa_nil))))))
  sss_nil))))
/-- law -/
theorem b58 (G : Good T K mg) (ow : OwA) (xi : XiA P K) : BodyOk (T.tab K) P w K mg base n n58 "law" (defScope s58) ((T.tab K).fa 58) (defBody s58) f58.body := by
  intro A outer s H E W O tk
  have B : Bd T n (cxOf (L2N.CX P w) P w K mg base n58 "law" (defScope s58) ((T.tab K).fa 58) (cdOf K ((T.tab K).fa 58)) A outer s H E) W := Bd.of O G spOk (fun n Y => ow n Y) tk xi
  have nd := sc58.nd
  exact (sss_cons (ss_ret (b_fn B .all (cb_all B.O.calm) (lc_ B [("_law_k", 1)] n58 (defScope s58) nd (r1_ B (c_ (b_2 B .max2 (cb_max2 B.O.calm) se_int (b_2 B .min2 (cb_min2 B.O.calm) (b_len B (v_ 0)).se se_int).se).se sa_nil)) (fun _ _ _ _ _ => (gv_ 1 nd)) (fun _ _ _ _ _ => sps_nil) (fun _ _ _ _ _ => (cal_ (Bd.blk B) 57 (c_ (cal_ (Bd.blk B) 24 (c_ (v_ 0) (c_ (v_ 1) sa_nil))) sa_nil)))).se).se)
  sss_nil)
/-- Web.__eq__ -/
theorem b26 (G : Good T K mg) (ow : OwA) (xi : XiA P K) : BodyOk (T.tab K) P w K mg base n n26 "Web.__eq__" (defScope s26) ((T.tab K).fa 26) (defBody s26) f26.body := by
  intro A outer s H E W O tk
  have B : Bd T n (cxOf (L2N.CX P w) P w K mg base n26 "Web.__eq__" (defScope s26) ((T.tab K).fa 26) (cdOf K ((T.tab K).fa 26)) A outer s H E) W := Bd.of O G spOk (fun n Y => ow n Y) tk xi
  have nd := sc26.nd
  exact (sss_cons (ss_ret (se_and (sv_and (isi_ B (v_ 1) (tyo_ B 29)) (sv_and (cmp_ B .eq (att_ B 5 (v_ 0)) (att_ B 5 (v_ 1))) (sva1_ (cmp_ B .eq (att_ B 6 (v_ 0)) (att_ B 6 (v_ 1))))))))
  sss_nil)
/-- Web.__len__ -/
theorem b27 (G : Good T K mg) (ow : OwA) (xi : XiA P K) : BodyOk (T.tab K) P w K mg base n n27 "Web.__len__" (defScope s27) ((T.tab K).fa 27) (defBody s27) f27.body := by
  intro A outer s H E W O tk
  have B : Bd T n (cxOf (L2N.CX P w) P w K mg base n27 "Web.__len__" (defScope s27) ((T.tab K).fa 27) (cdOf K ((T.tab K).fa 27)) A outer s H E) W := Bd.of O G spOk (fun n Y => ow n Y) tk xi
  have nd := sc27.nd
  exact (sss_cons (ss_ret (b_len B (att_ B 5 (v_ 0))).se)
  sss_nil)
/-- Web.__str__ -/
theorem b28 (G : Good T K mg) (ow : OwA) (xi : XiA P K) : BodyOk (T.tab K) P w K mg base n n28 "Web.__str__" (defScope s28) ((T.tab K).fa 28) (defBody s28) f28.body := by
  intro A outer s H E W O tk
  have B : Bd T n (cxOf (L2N.CX P w) P w K mg base n28 "Web.__str__" (defScope s28) ((T.tab K).fa 28) (cdOf K ((T.tab K).fa 28)) A outer s H E) W := Bd.of O G spOk (fun n Y => ow n Y) tk xi
  have nd := sc28.nd
  exact (sss_cons (ss_ret (bm_ .join tyOf_join PySem.F.plainAttrs_str PySem.F.slot_str_join PySem.F.type_str_join bm_join st_ (c_ (sf_lstX (xc_ (bm_ .join tyOf_join PySem.F.plainAttrs_str PySem.F.slot_str_join PySem.F.type_str_join bm_join st_ (c_ (sf_lstX (xc_ st_ (xs_ (att_ B 5 (v_ 0)) sx_nil))).se sa_nil)).se (xs_ (lc_ B [("tie", 1)] n28 (defScope s28) nd (si_seq (att_ B 6 (v_ 0))) (fun _ _ _ _ _ => (gv_ 1 nd)) (fun _ _ _ _ _ => sps_nil) (fun _ _ _ _ _ => (bm_ .join tyOf_join PySem.F.plainAttrs_str PySem.F.slot_str_join PySem.F.type_str_join bm_join st_ (c_ (v_ 1) sa_nil)).se)).se sx_nil))).se sa_nil)).se)
  sss_nil)
/-- Web.__repr__ -/
theorem b29 (G : Good T K mg) (ow : OwA) (xi : XiA P K) : BodyOk (T.tab K) P w K mg base n n29 "Web.__repr__" (defScope s29) ((T.tab K).fa 29) (defBody s29) f29.body := by
  intro A outer s H E W O tk
  have B : Bd T n (cxOf (L2N.CX P w) P w K mg base n29 "Web.__repr__" (defScope s29) ((T.tab K).fa 29) (cdOf K ((T.tab K).fa 29)) A outer s H E) W := Bd.of O G spOk (fun n Y => ow n Y) tk xi
  have nd := sc29.nd
  exact (sss_cons (ss_ret (se_fst ⟨st_, se_fmt (b_len B (att_ B 5 (v_ 0))).se, st_, se_fmt (b_len B (att_ B 6 (v_ 0))).se, st_, trivial⟩))
  sss_nil)
/-- Web.places -/
theorem b30 (G : Good T K mg) (ow : OwA) (xi : XiA P K) : BodyOk (T.tab K) P w K mg base n n30 "Web.places" (defScope s30) ((T.tab K).fa 30) (defBody s30) f30.body := by
  intro A outer s H E W O tk
  have B : Bd T n (cxOf (L2N.CX P w) P w K mg base n30 "Web.places" (defScope s30) ((T.tab K).fa 30) (cdOf K ((T.tab K).fa 30)) A outer s H E) W := Bd.of O G spOk (fun n Y => ow n Y) tk xi
  have nd := sc30.nd
  exact (sss_cons (ss_ret (att_ B 5 (v_ 0)))
  sss_nil)
/-- Web.ties -/
theorem b31 (G : Good T K mg) (ow : OwA) (xi : XiA P K) : BodyOk (T.tab K) P w K mg base n n31 "Web.ties" (defScope s31) ((T.tab K).fa 31) (defBody s31) f31.body := by
  intro A outer s H E W O tk
  have B : Bd T n (cxOf (L2N.CX P w) P w K mg base n31 "Web.ties" (defScope s31) ((T.tab K).fa 31) (cdOf K ((T.tab K).fa 31)) A outer s H E) W := Bd.of O G spOk (fun n Y => ow n Y) tk xi
  have nd := sc31.nd
  exact (sss_cons (ss_ret (att_ B 6 (v_ 0)))
  sss_nil)
end
end Wk08
end DI
end

section
set_option Elab.async false
set_option linter.all false
set_option maxRecDepth 100000
set_option maxHeartbeats 1000000
namespace DI
namespace Wk08
open PySem L2 PySem.Spec PyProof.Rows
def da8 : He5.DefA := ⟨fun K => Pth.adr K (.glo "_law_ladle"), "_law_ladle", "_law_ladle", defArgs s8, defBody s8, defScope s8, [], []⟩
def da9 : He5.DefA := ⟨fun K => Pth.adr K (.glo "_law_names"), "_law_names", "_law_names", defArgs s9, defBody s9, defScope s9, [], []⟩
def da10 : He5.DefA := ⟨fun K => Pth.adr K (.glo "_law_duos"), "_law_duos", "_law_duos", defArgs s10, defBody s10, defScope s10, [], []⟩
def da11 : He5.DefA := ⟨fun K => Pth.adr K (.glo "_law_plan"), "_law_plan", "_law_plan", defArgs s11, defBody s11, defScope s11, [], []⟩
def da12 : He5.DefA := ⟨fun K => Pth.adr K (.glo "is_name"), "is_name", "is_name", defArgs s12, defBody s12, defScope s12, [], []⟩
def da13 : He5.DefA := ⟨fun K => Pth.adr K (.glo "check_places"), "check_places", "check_places", defArgs s13, defBody s13, defScope s13, [], []⟩
def da14 : He5.DefA := ⟨fun K => Pth.adr K (.glo "is_pair"), "is_pair", "is_pair", defArgs s14, defBody s14, defScope s14, [], []⟩
def da15 : He5.DefA := ⟨fun K => Pth.adr K (.glo "are_alike"), "are_alike", "are_alike", defArgs s15, defBody s15, defScope s15, [], []⟩
def da16 : He5.DefA := ⟨fun K => Pth.adr K (.glo "check_ties"), "check_ties", "check_ties", defArgs s16, defBody s16, defScope s16, [], []⟩
def da17 : He5.DefA := ⟨fun K => Pth.adr K (.glo "sides_of"), "sides_of", "sides_of", defArgs s17, defBody s17, defScope s17, [], []⟩
def da18 : He5.DefA := ⟨fun K => Pth.adr K (.meth "Web" "__init__"), "__init__", "Web.__init__", defArgs s18, defBody s18, defScope s18, [.adr (He.dflAt ("Web", some "__init__") 0)], []⟩
def da19 : He5.DefA := ⟨fun K => Pth.adr K (.glo "read_web"), "read_web", "read_web", defArgs s19, defBody s19, defScope s19, [], []⟩
def da20 : He5.DefA := ⟨fun K => Pth.adr K (.cm "Web" "read"), "read", "Web.read", defArgs s20, defBody s20, defScope s20, [], []⟩
def da32 : He5.DefA := ⟨fun K => Pth.adr K (.glo "_law_pick"), "_law_pick", "_law_pick", defArgs s32, defBody s32, defScope s32, [], []⟩
def da57 : He5.DefA := ⟨fun K => Pth.adr K (.glo "_law_right"), "_law_right", "_law_right", defArgs s57, defBody s57, defScope s57, [], []⟩
def da24 : He5.DefA := ⟨fun K => Pth.adr K (.glo "_law_tub"), "_law_tub", "_law_tub", defArgs s24, defBody s24, defScope s24, [], []⟩
def da58 : He5.DefA := ⟨fun K => Pth.adr K (.glo "law"), "law", "law", defArgs s58, defBody s58, defScope s58, [], []⟩
def da26 : He5.DefA := ⟨fun K => Pth.adr K (.meth "Web" "__eq__"), "__eq__", "Web.__eq__", defArgs s26, defBody s26, defScope s26, [], []⟩
def da27 : He5.DefA := ⟨fun K => Pth.adr K (.meth "Web" "__len__"), "__len__", "Web.__len__", defArgs s27, defBody s27, defScope s27, [], []⟩
def da28 : He5.DefA := ⟨fun K => Pth.adr K (.meth "Web" "__str__"), "__str__", "Web.__str__", defArgs s28, defBody s28, defScope s28, [], []⟩
def da29 : He5.DefA := ⟨fun K => Pth.adr K (.meth "Web" "__repr__"), "__repr__", "Web.__repr__", defArgs s29, defBody s29, defScope s29, [], []⟩
def da30 : He5.DefA := ⟨fun K => Pth.adr K (.prop "Web" "places"), "places", "Web.places", defArgs s30, defBody s30, defScope s30, [], []⟩
def da31 : He5.DefA := ⟨fun K => Pth.adr K (.prop "Web" "ties"), "ties", "Web.ties", defArgs s31, defBody s31, defScope s31, [], []⟩
def das : List He5.DefA := [da8, da9, da10, da11, da12, da13, da14, da15, da16, da17, da18, da19, da20, da32, da57, da24, da58, da26, da27, da28, da29, da30, da31]
def ex (K : PySem.W.Frag) : Bool := (tup0B K (He.dflAt ("Web", some "__init__") 0 K))
section
variable {P : Program} {w : World} {K : PySem.W.Frag} {mg : Str → Option Value}
theorem ex_ok (c : obsDI T das ex K = valDI T das) : ex K = true := (says_chk c).2
theorem d8 (G : Good T K mg) (ow : OwA) (xi : XiA P K) (c : obsDI T das ex K = valDI T das) : DefOk (T.tab K) P w K mg 8 f8 := by
  obtain ⟨fd, F⟩ := says_def c 0 (d := da8) rfl
  refine ⟨⟨_, _, _, _, _, _, fd, n8, ["_law_tub_here", "_law_top"], F, sc8, rfl, rfl, bindAll (L := T) (l := [((2, []), [])]) rfl ?_, fun base n => b8 G ow xi⟩⟩
  exact List.forall_mem_cons.mpr ⟨bind_n F rfl rfl fun _ _ _ _ _ _ us ws h1 h2 => match us, h1, ws, h2 with | [_, _], _, [], _ => rfl, fun _ h => nomatch h⟩
theorem d9 (G : Good T K mg) (ow : OwA) (xi : XiA P K) (c : obsDI T das ex K = valDI T das) : DefOk (T.tab K) P w K mg 9 f9 := by
  obtain ⟨fd, F⟩ := says_def c 1 (d := da9) rfl
  refine ⟨⟨_, _, _, _, _, _, fd, n9, ["_law_tub_here", "_law_many"], F, sc9, rfl, rfl, bindAll (L := T) (l := [((2, []), [])]) rfl ?_, fun base n => b9 G ow xi⟩⟩
  exact List.forall_mem_cons.mpr ⟨bind_n F rfl rfl fun _ _ _ _ _ _ us ws h1 h2 => match us, h1, ws, h2 with | [_, _], _, [], _ => rfl, fun _ h => nomatch h⟩
theorem d10 (G : Good T K mg) (ow : OwA) (xi : XiA P K) (c : obsDI T das ex K = valDI T das) : DefOk (T.tab K) P w K mg 10 f10 := by
  obtain ⟨fd, F⟩ := says_def c 2 (d := da10) rfl
  refine ⟨⟨_, _, _, _, _, _, fd, n10, ["_law_row_here"], F, sc10, rfl, rfl, bindAll (L := T) (l := [((1, []), [])]) rfl ?_, fun base n => b10 G ow xi⟩⟩
  exact List.forall_mem_cons.mpr ⟨bind_n F rfl rfl fun _ _ _ _ _ _ us ws h1 h2 => match us, h1, ws, h2 with | [_], _, [], _ => rfl, fun _ h => nomatch h⟩
theorem d11 (G : Good T K mg) (ow : OwA) (xi : XiA P K) (c : obsDI T das ex K = valDI T das) : DefOk (T.tab K) P w K mg 11 f11 := by
  obtain ⟨fd, F⟩ := says_def c 3 (d := da11) rfl
  refine ⟨⟨_, _, _, _, _, _, fd, n11, ["_law_tub_here", "_law_most"], F, sc11, rfl, rfl, bindAll (L := T) (l := [((2, []), [])]) rfl ?_, fun base n => b11 G ow xi⟩⟩
  exact List.forall_mem_cons.mpr ⟨bind_n F rfl rfl fun _ _ _ _ _ _ us ws h1 h2 => match us, h1, ws, h2 with | [_, _], _, [], _ => rfl, fun _ h => nomatch h⟩
theorem d12 (G : Good T K mg) (ow : OwA) (xi : XiA P K) (c : obsDI T das ex K = valDI T das) : DefOk (T.tab K) P w K mg 12 f12 := by
  obtain ⟨fd, F⟩ := says_def c 4 (d := da12) rfl
  refine ⟨⟨_, _, _, _, _, _, fd, n12, ["value"], F, sc12, rfl, rfl, bindAll (L := T) (l := [((1, []), [])]) rfl ?_, fun base n => b12 G ow xi⟩⟩
  exact List.forall_mem_cons.mpr ⟨bind_n F rfl rfl fun _ _ _ _ _ _ us ws h1 h2 => match us, h1, ws, h2 with | [_], _, [], _ => rfl, fun _ h => nomatch h⟩
theorem d13 (G : Good T K mg) (ow : OwA) (xi : XiA P K) (c : obsDI T das ex K = valDI T das) : DefOk (T.tab K) P w K mg 13 f13 := by
  obtain ⟨fd, F⟩ := says_def c 5 (d := da13) rfl
  refine ⟨⟨_, _, _, _, _, _, fd, n13, ["places"], F, sc13, rfl, rfl, bindAll (L := T) (l := [((1, []), [])]) rfl ?_, fun base n => b13 G ow xi⟩⟩
  exact List.forall_mem_cons.mpr ⟨bind_n F rfl rfl fun _ _ _ _ _ _ us ws h1 h2 => match us, h1, ws, h2 with | [_], _, [], _ => rfl, fun _ h => nomatch h⟩
theorem d14 (G : Good T K mg) (ow : OwA) (xi : XiA P K) (c : obsDI T das ex K = valDI T das) : DefOk (T.tab K) P w K mg 14 f14 := by
  obtain ⟨fd, F⟩ := says_def c 6 (d := da14) rfl
  refine ⟨⟨_, _, _, _, _, _, fd, n14, ["places", "value"], F, sc14, rfl, rfl, bindAll (L := T) (l := [((2, []), [])]) rfl ?_, fun base n => b14 G ow xi⟩⟩
  exact List.forall_mem_cons.mpr ⟨bind_n F rfl rfl fun _ _ _ _ _ _ us ws h1 h2 => match us, h1, ws, h2 with | [_, _], _, [], _ => rfl, fun _ h => nomatch h⟩
theorem d15 (G : Good T K mg) (ow : OwA) (xi : XiA P K) (c : obsDI T das ex K = valDI T das) : DefOk (T.tab K) P w K mg 15 f15 := by
  obtain ⟨fd, F⟩ := says_def c 7 (d := da15) rfl
  refine ⟨⟨_, _, _, _, _, _, fd, n15, ["tie", "other"], F, sc15, rfl, rfl, bindAll (L := T) (l := [((2, []), [])]) rfl ?_, fun base n => b15 G ow xi⟩⟩
  exact List.forall_mem_cons.mpr ⟨bind_n F rfl rfl fun _ _ _ _ _ _ us ws h1 h2 => match us, h1, ws, h2 with | [_, _], _, [], _ => rfl, fun _ h => nomatch h⟩
theorem d16 (G : Good T K mg) (ow : OwA) (xi : XiA P K) (c : obsDI T das ex K = valDI T das) : DefOk (T.tab K) P w K mg 16 f16 := by
  obtain ⟨fd, F⟩ := says_def c 8 (d := da16) rfl
  refine ⟨⟨_, _, _, _, _, _, fd, n16, ["places", "ties"], F, sc16, rfl, rfl, bindAll (L := T) (l := [((2, []), [])]) rfl ?_, fun base n => b16 G ow xi⟩⟩
  exact List.forall_mem_cons.mpr ⟨bind_n F rfl rfl fun _ _ _ _ _ _ us ws h1 h2 => match us, h1, ws, h2 with | [_, _], _, [], _ => rfl, fun _ h => nomatch h⟩
theorem d17 (G : Good T K mg) (ow : OwA) (xi : XiA P K) (c : obsDI T das ex K = valDI T das) : DefOk (T.tab K) P w K mg 17 f17 := by
  obtain ⟨fd, F⟩ := says_def c 9 (d := da17) rfl
  refine ⟨⟨_, _, _, _, _, _, fd, n17, ["places", "ties"], F, sc17, rfl, rfl, bindAll (L := T) (l := [((2, []), [])]) rfl ?_, fun base n => b17 G ow xi⟩⟩
  exact List.forall_mem_cons.mpr ⟨bind_n F rfl rfl fun _ _ _ _ _ _ us ws h1 h2 => match us, h1, ws, h2 with | [_, _], _, [], _ => rfl, fun _ h => nomatch h⟩
theorem d18 (G : Good T K mg) (ow : OwA) (xi : XiA P K) (c : obsDI T das ex K = valDI T das) : DefOk (T.tab K) P w K mg 18 f18 := by
  obtain ⟨fd, F⟩ := says_def c 10 (d := da18) rfl
  have hx : ((tup0B K (He.dflAt ("Web", some "__init__") 0 K))) = true := ex_ok c
  refine ⟨⟨_, _, _, _, _, _, fd, n18, ["self", "places", "ties"], F, sc18, rfl, rfl, bindAll (L := T) (l := [((3, []), [])]) rfl ?_, fun base n => b18 G ow xi⟩⟩
  exact List.forall_mem_cons.mpr ⟨bind_d F (by simp [da18, He5.DefA.dvs]) (df_tup0 hx df_nil) rfl fun _ _ _ _ _ _ _ us its ws h1 h2 h3 => match us, h1, its, h2, ws, h3 with | [_, _, _], _, [_], _, [], _ => ⟨_, rfl, rfl⟩, fun _ h => nomatch h⟩
theorem d19 (G : Good T K mg) (ow : OwA) (xi : XiA P K) (c : obsDI T das ex K = valDI T das) : DefOk (T.tab K) P w K mg 19 f19 := by
  obtain ⟨fd, F⟩ := says_def c 11 (d := da19) rfl
  refine ⟨⟨_, _, _, _, _, _, fd, n19, ["text"], F, sc19, rfl, rfl, bindAll (L := T) (l := [((1, []), [])]) rfl ?_, fun base n => b19 G ow xi⟩⟩
  exact List.forall_mem_cons.mpr ⟨bind_n F rfl rfl fun _ _ _ _ _ _ us ws h1 h2 => match us, h1, ws, h2 with | [_], _, [], _ => rfl, fun _ h => nomatch h⟩
theorem d20 (G : Good T K mg) (ow : OwA) (xi : XiA P K) (c : obsDI T das ex K = valDI T das) : DefOk (T.tab K) P w K mg 20 f20 := by
  obtain ⟨fd, F⟩ := says_def c 12 (d := da20) rfl
  refine ⟨⟨_, _, _, _, _, _, fd, n20, ["cls", "text"], F, sc20, rfl, rfl, bindAll (L := T) (l := [((2, []), [])]) rfl ?_, fun base n => b20 G ow xi⟩⟩
  exact List.forall_mem_cons.mpr ⟨bind_n F rfl rfl fun _ _ _ _ _ _ us ws h1 h2 => match us, h1, ws, h2 with | [_, _], _, [], _ => rfl, fun _ h => nomatch h⟩
theorem d32 (G : Good T K mg) (ow : OwA) (xi : XiA P K) (c : obsDI T das ex K = valDI T das) : DefOk (T.tab K) P w K mg 32 f32 := by
  obtain ⟨fd, F⟩ := says_def c 13 (d := da32) rfl
  refine ⟨⟨_, _, _, _, _, _, fd, n32, ["_law_tub_here", "_law_some"], F, sc32, rfl, rfl, bindAll (L := T) (l := [((2, []), [])]) rfl ?_, fun base n => b32 G ow xi⟩⟩
  exact List.forall_mem_cons.mpr ⟨bind_n F rfl rfl fun _ _ _ _ _ _ us ws h1 h2 => match us, h1, ws, h2 with | [_, _], _, [], _ => rfl, fun _ h => nomatch h⟩
theorem d57 (G : Good T K mg) (ow : OwA) (xi : XiA P K) (c : obsDI T das ex K = valDI T das) : DefOk (T.tab K) P w K mg 57 f57 := by
  obtain ⟨fd, F⟩ := says_def c 14 (d := da57) rfl
  refine ⟨⟨_, _, _, _, _, _, fd, n57, ["_law_tub_here"], F, sc57, rfl, rfl, bindAll (L := T) (l := [((1, []), [])]) rfl ?_, fun base n => b57 G ow xi⟩⟩
  exact List.forall_mem_cons.mpr ⟨bind_n F rfl rfl fun _ _ _ _ _ _ us ws h1 h2 => match us, h1, ws, h2 with | [_], _, [], _ => rfl, fun _ h => nomatch h⟩
theorem d24 (G : Good T K mg) (ow : OwA) (xi : XiA P K) (c : obsDI T das ex K = valDI T das) : DefOk (T.tab K) P w K mg 24 f24 := by
  obtain ⟨fd, F⟩ := says_def c 15 (d := da24) rfl
  refine ⟨⟨_, _, _, _, _, _, fd, n24, ["_law_script", "_law_k"], F, sc24, rfl, rfl, bindAll (L := T) (l := [((2, []), [])]) rfl ?_, fun base n => b24 G ow xi⟩⟩
  exact List.forall_mem_cons.mpr ⟨bind_n F rfl rfl fun _ _ _ _ _ _ us ws h1 h2 => match us, h1, ws, h2 with | [_, _], _, [], _ => rfl, fun _ h => nomatch h⟩
theorem d58 (G : Good T K mg) (ow : OwA) (xi : XiA P K) (c : obsDI T das ex K = valDI T das) : DefOk (T.tab K) P w K mg 58 f58 := by
  obtain ⟨fd, F⟩ := says_def c 16 (d := da58) rfl
  refine ⟨⟨_, _, _, _, _, _, fd, n58, ["_law_script"], F, sc58, rfl, rfl, bindAll (L := T) (l := [((1, []), [])]) rfl ?_, fun base n => b58 G ow xi⟩⟩
  exact List.forall_mem_cons.mpr ⟨bind_n F rfl rfl fun _ _ _ _ _ _ us ws h1 h2 => match us, h1, ws, h2 with | [_], _, [], _ => rfl, fun _ h => nomatch h⟩
theorem d26 (G : Good T K mg) (ow : OwA) (xi : XiA P K) (c : obsDI T das ex K = valDI T das) : DefOk (T.tab K) P w K mg 26 f26 := by
  obtain ⟨fd, F⟩ := says_def c 17 (d := da26) rfl
  refine ⟨⟨_, _, _, _, _, _, fd, n26, ["self", "other"], F, sc26, rfl, rfl, bindAll (L := T) (l := [((2, []), [])]) rfl ?_, fun base n => b26 G ow xi⟩⟩
  exact List.forall_mem_cons.mpr ⟨bind_n F rfl rfl fun _ _ _ _ _ _ us ws h1 h2 => match us, h1, ws, h2 with | [_, _], _, [], _ => rfl, fun _ h => nomatch h⟩
theorem d27 (G : Good T K mg) (ow : OwA) (xi : XiA P K) (c : obsDI T das ex K = valDI T das) : DefOk (T.tab K) P w K mg 27 f27 := by
  obtain ⟨fd, F⟩ := says_def c 18 (d := da27) rfl
  refine ⟨⟨_, _, _, _, _, _, fd, n27, ["self"], F, sc27, rfl, rfl, bindAll (L := T) (l := [((1, []), [])]) rfl ?_, fun base n => b27 G ow xi⟩⟩
  exact List.forall_mem_cons.mpr ⟨bind_n F rfl rfl fun _ _ _ _ _ _ us ws h1 h2 => match us, h1, ws, h2 with | [_], _, [], _ => rfl, fun _ h => nomatch h⟩
theorem d28 (G : Good T K mg) (ow : OwA) (xi : XiA P K) (c : obsDI T das ex K = valDI T das) : DefOk (T.tab K) P w K mg 28 f28 := by
  obtain ⟨fd, F⟩ := says_def c 19 (d := da28) rfl
  refine ⟨⟨_, _, _, _, _, _, fd, n28, ["self"], F, sc28, rfl, rfl, bindAll (L := T) (l := [((1, []), [])]) rfl ?_, fun base n => b28 G ow xi⟩⟩
  exact List.forall_mem_cons.mpr ⟨bind_n F rfl rfl fun _ _ _ _ _ _ us ws h1 h2 => match us, h1, ws, h2 with | [_], _, [], _ => rfl, fun _ h => nomatch h⟩
theorem d29 (G : Good T K mg) (ow : OwA) (xi : XiA P K) (c : obsDI T das ex K = valDI T das) : DefOk (T.tab K) P w K mg 29 f29 := by
  obtain ⟨fd, F⟩ := says_def c 20 (d := da29) rfl
  refine ⟨⟨_, _, _, _, _, _, fd, n29, ["self"], F, sc29, rfl, rfl, bindAll (L := T) (l := [((1, []), [])]) rfl ?_, fun base n => b29 G ow xi⟩⟩
  exact List.forall_mem_cons.mpr ⟨bind_n F rfl rfl fun _ _ _ _ _ _ us ws h1 h2 => match us, h1, ws, h2 with | [_], _, [], _ => rfl, fun _ h => nomatch h⟩
theorem d30 (G : Good T K mg) (ow : OwA) (xi : XiA P K) (c : obsDI T das ex K = valDI T das) : DefOk (T.tab K) P w K mg 30 f30 := by
  obtain ⟨fd, F⟩ := says_def c 21 (d := da30) rfl
  refine ⟨⟨_, _, _, _, _, _, fd, n30, ["self"], F, sc30, rfl, rfl, bindAll (L := T) (l := [((1, []), [])]) rfl ?_, fun base n => b30 G ow xi⟩⟩
  exact List.forall_mem_cons.mpr ⟨bind_n F rfl rfl fun _ _ _ _ _ _ us ws h1 h2 => match us, h1, ws, h2 with | [_], _, [], _ => rfl, fun _ h => nomatch h⟩
theorem d31 (G : Good T K mg) (ow : OwA) (xi : XiA P K) (c : obsDI T das ex K = valDI T das) : DefOk (T.tab K) P w K mg 31 f31 := by
  obtain ⟨fd, F⟩ := says_def c 22 (d := da31) rfl
  refine ⟨⟨_, _, _, _, _, _, fd, n31, ["self"], F, sc31, rfl, rfl, bindAll (L := T) (l := [((1, []), [])]) rfl ?_, fun base n => b31 G ow xi⟩⟩
  exact List.forall_mem_cons.mpr ⟨bind_n F rfl rfl fun _ _ _ _ _ _ us ws h1 h2 => match us, h1, ws, h2 with | [_], _, [], _ => rfl, fun _ h => nomatch h⟩
theorem defs (G : Good T K mg) (ow : OwA) (xi : XiA P K) (c : obsDI T das ex K = valDI T das) : ∀ f F, (T.tab K).P.fns f = some F → DefOk (T.tab K) P w K mg f F := by
  intro f F h
  have h : (f, F) ∈ T.fns := lookup_mem h
  have all : ∀ z ∈ T.fns, DefOk (T.tab K) P w K mg z.1 z.2 := List.forall_mem_cons.mpr ⟨d8 G ow xi c, List.forall_mem_cons.mpr ⟨d9 G ow xi c, List.forall_mem_cons.mpr ⟨d10 G ow xi c, List.forall_mem_cons.mpr ⟨d11 G ow xi c, List.forall_mem_cons.mpr ⟨d12 G ow xi c, List.forall_mem_cons.mpr ⟨d13 G ow xi c, List.forall_mem_cons.mpr ⟨d14 G ow xi c, List.forall_mem_cons.mpr ⟨d15 G ow xi c, List.forall_mem_cons.mpr ⟨d16 G ow xi c, List.forall_mem_cons.mpr ⟨d17 G ow xi c, List.forall_mem_cons.mpr ⟨d18 G ow xi c, List.forall_mem_cons.mpr ⟨d19 G ow xi c, List.forall_mem_cons.mpr ⟨d20 G ow xi c, List.forall_mem_cons.mpr ⟨d32 G ow xi c, List.forall_mem_cons.mpr ⟨d57 G ow xi c, List.forall_mem_cons.mpr ⟨d24 G ow xi c, List.forall_mem_cons.mpr ⟨d58 G ow xi c, List.forall_mem_cons.mpr ⟨d26 G ow xi c, List.forall_mem_cons.mpr ⟨d27 G ow xi c, List.forall_mem_cons.mpr ⟨d28 G ow xi c, List.forall_mem_cons.mpr ⟨d29 G ow xi c, List.forall_mem_cons.mpr ⟨d30 G ow xi c, List.forall_mem_cons.mpr ⟨d31 G ow xi c, fun _ h => nomatch h⟩⟩⟩⟩⟩⟩⟩⟩⟩⟩⟩⟩⟩⟩⟩⟩⟩⟩⟩⟩⟩⟩⟩
  exact all _ h
theorem tks (G : Good T K mg) (c : obsDI T das ex K = valDI T das) : ∀ f, (T.tab K).thk.contains f = true → DefOkT (T.tab K) P w K mg f := by
  intro f h
  have h : f ∈ T.thk := List.contains_iff_mem.mp h
  have all : ∀ z ∈ T.thk, DefOkT (T.tab K) P w K mg z := fun _ h => nomatch h
  exact all _ h
theorem isf (c : obsDI T das ex K = valDI T das) : ∀ f F, (T.tab K).P.fns f = some F → PySem.W.isFn K (.ref ((T.tab K).fa f)) = true := by
  intro f F h
  refine isf_of (says_chk c).1 (by decide +kernel) h
end
abbrev R : PySem.W.OpenRow := PySem.W.OpenLaw.row PySem.Challenge.rw_markedrings_k08_webs_compared
def asL : List Addr := ([1, 3, 6, 4, 21, 31, 53, 74, 95, 102, 109, 114, 121, 126, 131, 136, 243, 254, 261, 268, 275, 280, 287, 292, 297, 0, 20, 30, 52, 73] : List Addr) ++ ([94, 101, 108, 113, 120, 125, 130, 135, 242, 253, 260, 267, 274, 279, 286, 291, 296, 15, 16, 17, 18, 19, 29, 32, 50, 51, 71, 72, 92, 93] : List Addr) ++ ([98, 99, 100, 103, 104, 105, 106, 107, 110, 111, 112, 115, 116, 117, 118, 119, 122, 123, 124, 127, 128, 129, 132, 133, 134, 152, 161, 170, 178, 186] : List Addr) ++ ([193, 200, 207, 214, 221, 228, 233, 240, 241, 244, 245, 248, 249, 250, 251, 252, 255, 256, 257, 258, 259, 262, 263, 264, 265, 266, 269, 270, 271, 272] : List Addr) ++ ([273, 276, 277, 278, 281, 282, 283, 284, 285, 288, 289, 290, 293, 294, 295, 49, 38, 70, 59, 91, 80, 151, 145, 159, 160, 169, 177, 185, 192, 199] : List Addr) ++ ([206, 213, 220, 227, 232, 239, 44, 45, 46, 47, 48, 65, 66, 67, 68, 69, 86, 87, 88, 89, 90, 146, 147, 148, 149, 150, 144, 158, 162, 168] : List Addr) ++ ([176, 184, 187, 188, 189, 190, 191, 194, 195, 196, 197, 198, 201, 202, 203, 204, 205, 208, 209, 210, 211, 212, 215, 216, 217, 218, 219, 222, 223, 224] : List Addr) ++ ([225, 226, 229, 230, 231, 234, 235, 236, 237, 238, 153, 154, 155, 156, 157, 163, 164, 165, 166, 167, 171, 172, 173, 174, 175, 179, 180, 181, 182, 183] : List Addr) ++ ([2] : List Addr)
abbrev hk : PySem.W.Hook := hookA asL T das ex
def ob (s : PySem.W.SharedT) : He.AlD := obsA asL T das ex (HandSHeadRun.getT s)
theorem ob_eq (s : PySem.W.SharedT) : ob s = hk.obs s.abs := by
  have e : HandSHeadRun.getT s = s.abs.heap.get? := funext (HandSHeadRun.getT_eq s)
  unfold ob
  rw [e] <;> rfl
def loose : List Str := (["_wall", "NotRight", "InvalidText", "InvalidPlaces", "InvalidTies", "LETTERS", "is_name", "MOST_PLACES", "check_places", "is_pair", "are_alike", "check_ties", "sides_of", "read_web", "Web", "_law_tub", "_law_ladle", "_law_pick", "_law_names", "_law_duos"] : List Str) ++ (["_law_plan", "_law_right"] : List Str)
theorem run (w : World) : HandSHeadRun.RunEq R (PySem.W.view R.prog [26]) hk ob 8000 loose w := by
  intro os
  kernel_rfl
end Wk08
end DI
open PySem PySem.W PySem.Calls PyProof.Rows
theorem DI.Wk08.holds_of (ans : ∀ zs : List Int, zs.length ≤ 63 → (∀ z ∈ zs, Builtin.Int.intBits z ≤ 1048576) → ∃ μ, DI.calD DI.Wk08.T.prog DI.shownD 60 58 [.rol (zs.map DI.D.int)] [] = .ok (.bl true) μ) : PySem.Challenge.rw_markedrings_k08_webs_compared.Holds := by
  w_on; o_law
  refine HandSHeadRun.head_any (r := OpenLaw.row PySem.Challenge.rw_markedrings_k08_webs_compared) (q := view (OpenLaw.row PySem.Challenge.rw_markedrings_k08_webs_compared).prog [26]) (H := DI.Wk08.hk) (ob := DI.Wk08.ob) (M := 8000) (loose := DI.Wk08.loose) (d := HandSHeadRun.topDef (OpenLaw.row PySem.Challenge.rw_markedrings_k08_webs_compared).prog 26) (kwd := []) DI.Wk08.ob_eq
    (by kernel_rfl) (fun s => by kernel_rfl) DI.Wk08.run (by kernel_rfl) (by kernel_rfl) (by kernel_rfl) (by rfl) (by first | assumption | decide +kernel) (by decide +kernel) ⟨rfl, rfl, rfl, rfl, rfl, by decide +kernel⟩ ?hw ?hc
  case hw => w_witness2
  case hc =>
    refine DI.walk_di (l := PySem.Challenge.rw_markedrings_k08_webs_compared) (L := DI.Wk08.T) (x := "_law_script") (n := 60) (f := 58) rfl (by kernel_rfl) ⟨rfl, by decide, by decide⟩ ?F ans
    intro w mg fa h Y G0 hmg0
    obtain ⟨K, KX, tb, c⟩ := Y
    have G := DI.good_of KX G0 (DI.says_chk c).1
    have hmg : mg ("law" : PySem.Str) = some (.ref fa) := by
      have e : (HandSHeadRun.topDef (OpenLaw.row PySem.Challenge.rw_markedrings_k08_webs_compared).prog 26).name = ("law" : PySem.Str) := by kernel_rfl
      rw [← e]
      exact hmg0
    have e := hmg.symm.trans (G.fn "law" 58 rfl)
    cases e
    have ow : DI.Wk08.OwA := fun n Y O G => DI.own_some (by decide +kernel) Y O DI.Wk08.spOk G
    have xi : DI.Wk08.XiA PySem.Challenge.rw_markedrings_k08_webs_compared.prog K := DI.says_xi c (by decide +kernel) DI.Wk08.xtA (by kernel_rfl) (by kernel_rfl)
    obtain ⟨fd, F⟩ := DI.says_def c 16 (d := DI.Wk08.da58) rfl
    have b := L2.FunD.bindsA (ps := ["_law_script"]) F fun _ _ _ _ _ _ us hl => match us, hl with | [_], _ => rfl
    refine ⟨K, fd, KX, (DI.says_chk c).1, tb, fun s v => b s [v] rfl, fun base kb nb => ?_⟩
    have all := DI.fns_all (base := base) (w := w) G.tab (G.tabs base kb nb) rfl (DI.Wk08.isf c) (DI.Wk08.defs G ow xi c) (DI.Wk08.tks G c) 59
    exact DI.def_ok (n := 59) (F := DI.f58) rfl F DI.Wk08.sc58 rfl rfl G.tab (G.tabs base kb nb) rfl (fun i hi => (all i hi).1) (fun _ i hi => (all i hi).2) (DI.Wk08.b58 G ow xi)
end

section
set_option linter.all false
set_option maxRecDepth 100000
namespace DI
open PySem
abbrev Cn (P : Prog) (r : D → Option Str) (n : Nat) : Cal := ⟨calD P r n, lamD P r n⟩
abbrev F0 : D → Mem → Prop := fun _ _ => False
section
variable {α β : Type} {k : β → Mem → Prop} {kx : D → Mem → Prop}
theorem w_bind {r : R α} {f : α → Mem → R β} (h : WpR r (fun d μ => WpR (f d μ) k kx) kx) : WpR (r.bind f) k kx := by
  cases r <;> exact h
theorem w_of {μ : Mem} {o : Option β} {d : β} (e : o = some d) (h : k d μ) : WpR (R.of μ o) k kx := by subst e; exact h
theorem w_nox {r : R β} (h : WpR r k F0) : WpR (nox r) k kx := by
  cases r with
  | ok d μ => exact h
  | ex x μ => exact h.elim
  | no => exact h
theorem w_eq {r : R β} {d : β} {μ : Mem} (e : r = .ok d μ) (h : k d μ) : WpR r k kx := by subst e; exact h
theorem eq_w {r : R β} {d : β} {μ : Mem} (h : WpR r (fun d' μ' => d' = d ∧ μ' = μ) F0) : r = .ok d μ := by
  cases r with
  | ok d' μ' => obtain ⟨rfl, rfl⟩ := h; rfl
  | ex x μ => exact h.elim
  | no => exact h.elim
end
section
variable {P : Prog} {C : Cal} {r : D → Option Str} {ρ : Env} {μ : Mem} {k : D → Mem → Prop} {kx : D → Mem → Prop}
theorem w_v {i : Nat} {d : D} (e : readV ρ i = some d) (h : k d μ) : WpR (evE P C r (.v i) ρ μ) k kx := by
  simp only [evE, e]; exact h
/-- .. of any value that is neither an exception nor a lambda -/
theorem w_vs {i : Nat} {d : D} (e : getE ρ i = some d) (hs : isSp d = false) (h : k d μ) : WpR (evE P C r (.v i) ρ μ) k kx := by
  refine w_v (d := d) ?_ h
  unfold readV
  rw [e]
  simp [hs]
theorem w_k {d : D} (h : k d μ) : WpR (evE P C r (.k d) ρ μ) k kx := by simp only [evE]; exact h
theorem w_g {i : Nat} {d : D} (e : P.gl i = some d) (h : k d μ) : WpR (evE P C r (.g i) ρ μ) k kx := by
  simp only [evE, e]; exact h
theorem w_bin {o : Bop} {a b : E} (h : WpR (evE P C r a ρ μ) (fun x μ => WpR (evE P C r b ρ μ) (fun y μ => WpR (R.of μ (binV μ o x y)) k kx) kx) kx) : WpR (evE P C r (.bin o a b) ρ μ) k kx := by
  simp only [evE]; exact w_bind (h.mono (fun _ _ h => w_bind h) fun _ _ h => h)
theorem w_neg {a : E} (h : WpR (evE P C r a ρ μ) (fun x μ => ∃ i, x = .int i ∧ k (.int (-i)) μ) kx) : WpR (evE P C r (.neg a) ρ μ) k kx := by
  simp only [evE]; refine w_bind (h.mono (fun _ _ h => ?_) fun _ _ h => h)
  obtain ⟨i, rfl, h⟩ := h; exact h
theorem w_cmp {o : Cop} {a b : E} (h : WpR (evE P C r a ρ μ) (fun x μ => WpR (evE P C r b ρ μ) (fun y μ => WpR (cmpV P C μ o x y) (fun c μ => k (.bl c) μ) F0) kx) kx) : WpR (evE P C r (.cmp o a b) ρ μ) k kx := by
  simp only [evE]; exact w_bind (h.mono (fun _ _ h => w_bind (h.mono (fun _ _ h => w_bind (w_nox h)) fun _ _ h => h)) fun _ _ h => h)
theorem w_cmp2 {o p : Cop} {a b c : E} (h : WpR (evE P C r a ρ μ) (fun x μ => WpR (evE P C r b ρ μ) (fun y μ => WpR (cmpV P C μ o x y) (fun t μ => (t = true → WpR (evE P C r c ρ μ) (fun z μ => WpR (cmpV P C μ p y z) (fun c μ => k (.bl c) μ) F0) kx) ∧ (t = false → k (.bl false) μ)) F0) kx) kx) : WpR (evE P C r (.cmp2 o p a b c) ρ μ) k kx := by
  simp only [evE]
  refine w_bind (h.mono (fun _ _ h => w_bind (h.mono (fun _ _ h => w_bind (w_nox (h.mono (fun t _ h => ?_) fun _ _ h => h))) fun _ _ h => h)) fun _ _ h => h)
  cases t with
  | true => exact w_bind ((h.1 rfl).mono (fun _ _ h => w_bind (w_nox h)) fun _ _ h => h)
  | false => exact h.2 rfl
theorem w_not {a : E} (h : WpR (evE P C r a ρ μ) (fun x μ => ∃ b, x = .bl b ∧ k (.bl (!b)) μ) kx) : WpR (evE P C r (.not a) ρ μ) k kx := by
  simp only [evE]; refine w_bind (h.mono (fun _ _ h => ?_) fun _ _ h => h)
  obtain ⟨i, rfl, h⟩ := h; exact h
theorem w_ite {c a b : E} (h : WpR (evE P C r c ρ μ) (fun x μ => ∃ t, x = .bl t ∧ (t = true → WpR (evE P C r a ρ μ) k kx) ∧ (t = false → WpR (evE P C r b ρ μ) k kx)) kx) : WpR (evE P C r (.ite c a b) ρ μ) k kx := by
  simp only [evE]; refine w_bind (h.mono (fun _ _ h => ?_) fun _ _ h => h)
  obtain ⟨t, rfl, h1, h2⟩ := h
  cases t with
  | true => exact h1 rfl
  | false => exact h2 rfl
theorem w_and1 {a : E} (h : WpR (evE P C r a ρ μ) k kx) : WpR (evE P C r (.and (.c a .n)) ρ μ) k kx := by
  simp only [evE, evAnd]; exact h
theorem w_and {a b : E} {es : Es} (h : WpR (evE P C r a ρ μ) (fun x μ => ∃ t, x = .bl t ∧ (t = true → WpR (evE P C r (.and (.c b es)) ρ μ) k kx) ∧ (t = false → k (.bl false) μ)) kx) : WpR (evE P C r (.and (.c a (.c b es))) ρ μ) k kx := by
  simp only [evE, evAnd]; refine w_bind (h.mono (fun _ _ h => ?_) fun _ _ h => h)
  obtain ⟨t, rfl, h1, h2⟩ := h
  cases t with
  | true => have := h1 rfl; simp only [evE] at this; exact this
  | false => exact h2 rfl
theorem w_or1 {a : E} (h : WpR (evE P C r a ρ μ) k kx) : WpR (evE P C r (.or (.c a .n)) ρ μ) k kx := by
  simp only [evE, evOr]; exact h
theorem w_or {a b : E} {es : Es} (h : WpR (evE P C r a ρ μ) (fun x μ => ∃ t, x = .bl t ∧ (t = false → WpR (evE P C r (.or (.c b es)) ρ μ) k kx) ∧ (t = true → k (.bl true) μ)) kx) : WpR (evE P C r (.or (.c a (.c b es))) ρ μ) k kx := by
  simp only [evE, evOr]; refine w_bind (h.mono (fun _ _ h => ?_) fun _ _ h => h)
  obtain ⟨t, rfl, h1, h2⟩ := h
  cases t with
  | true => exact h2 rfl
  | false => have := h1 rfl; simp only [evE] at this; exact this
theorem w_iteT {c a b : E} (h : WpR (evE P C r c ρ μ) (fun x μ => x = .bl true ∧ WpR (evE P C r a ρ μ) k kx) kx) : WpR (evE P C r (.ite c a b) ρ μ) k kx := w_ite (h.mono (fun _ _ h => ⟨true, h.1, fun _ => h.2, fun z => nomatch z⟩) fun _ _ h => h)
theorem w_andT {a b : E} {es : Es} (h : WpR (evE P C r a ρ μ) (fun x μ => x = .bl true ∧ WpR (evE P C r (.and (.c b es)) ρ μ) k kx) kx) : WpR (evE P C r (.and (.c a (.c b es))) ρ μ) k kx := w_and (h.mono (fun _ _ h => ⟨true, h.1, fun _ => h.2, fun z => nomatch z⟩) fun _ _ h => h)
theorem w_orF {a b : E} {es : Es} (h : WpR (evE P C r a ρ μ) (fun x μ => x = .bl false ∧ WpR (evE P C r (.or (.c b es)) ρ μ) k kx) kx) : WpR (evE P C r (.or (.c a (.c b es))) ρ μ) k kx := w_or (h.mono (fun _ _ h => ⟨false, h.1, fun _ => h.2, fun z => nomatch z⟩) fun _ _ h => h)
theorem w_orT {a b : E} {es : Es} (h : WpR (evE P C r a ρ μ) (fun x μ => x = .bl true ∧ k (.bl true) μ) kx) : WpR (evE P C r (.or (.c a (.c b es))) ρ μ) k kx := w_or (h.mono (fun _ _ h => ⟨true, h.1, fun z => (nomatch z), fun _ => h.2⟩) fun _ _ h => h)
section
variable {kl : List D → Mem → Prop}
theorem w_es0 (h : kl [] μ) : WpR (evEs P C r .n ρ μ) kl kx := by simp only [evEs]; exact h
theorem w_es {e : E} {es : Es} (h : WpR (evE P C r e ρ μ) (fun d μ => WpR (evEs P C r es ρ μ) (fun l μ => kl (d :: l) μ) kx) kx) : WpR (evEs P C r (.c e es) ρ μ) kl kx := by
  simp only [evEs]; exact w_bind (h.mono (fun _ _ h => w_bind h) fun _ _ h => h)
def isStV : E → Bool
  | .star _ => true
  | _ => false
def Es.plnV : Es → Bool
  | .n => true
  | .c e r => !isStV e && r.plnV
def Es.size : Es → Nat
  | .n => 0
  | .c _ r => r.size + 1
theorem evX_plnV : ∀ {es : Es} {ρ : Env} {μ : Mem}, es.plnV = true → evX P C r es ρ μ = evEs P C r es ρ μ
  | .n, _, _, _ => by simp only [evX, evEs]
  | .c e es, ρ, μ, h => by
    simp only [Es.plnV, Bool.and_eq_true] at h
    have h2 : ∀ μ, evX P C r es ρ μ = evEs P C r es ρ μ := fun μ => evX_plnV h.2
    cases e <;> first | (simp only [evX, evEs, h2]; done) | (simp [isStV] at h)
theorem evEs_size {kl : List D → Mem → Prop} {kx : D → Mem → Prop} : ∀ {es : Es} {ρ : Env} {μ : Mem}, WpR (evEs P C r es ρ μ) kl kx → WpR (evEs P C r es ρ μ) (fun l μ => l.length = es.size ∧ kl l μ) kx
  | .n, _, _, h => by simp only [evEs] at h ⊢; exact ⟨rfl, h⟩
  | .c e es, ρ, μ, h => by
    simp only [evEs] at h ⊢
    refine w_bind (h.bind.mono (fun d μ h => ?_) fun _ _ h => h)
    have h := h.bind
    have h2 := evEs_size h
    exact w_bind (h2.mono (fun l μ h => ⟨by simp [h.1, Es.size], h.2⟩) fun _ _ h => h)
theorem w_x0 (h : kl [] μ) : WpR (evX P C r .n ρ μ) kl kx := by simp only [evX]; exact h
theorem w_x {e : E} {es : Es} (hs : isStV e = false) (h : WpR (evE P C r e ρ μ) (fun d μ => WpR (evX P C r es ρ μ) (fun l μ => kl (d :: l) μ) kx) kx) : WpR (evX P C r (.c e es) ρ μ) kl kx := by
  have : evX P C r (.c e es) ρ μ = (evE P C r e ρ μ).bind fun d μ => (evX P C r es ρ μ).bind fun l μ => .ok (d :: l) μ := by
    cases e <;> first | (simp only [evX]; done) | (simp [isStV] at hs)
  rw [this]; exact w_bind (h.mono (fun _ _ h => w_bind h) fun _ _ h => h)
theorem w_xs {e : E} {es : Es} (h : WpR (evE P C r e ρ μ) (fun d μ => ∃ l, (rd μ d = .tup l ∨ rd μ d = .lst l) ∧ WpR (evX P C r es ρ μ) (fun m μ => kl (l ++ m) μ) kx) kx) : WpR (evX P C r (.c (.star e) es) ρ μ) kl kx := by
  simp only [evX]; refine w_bind (h.mono (fun _ _ h => ?_) fun _ _ h => h)
  obtain ⟨l, h1, h2⟩ := h
  rcases h1 with h1 | h1 <;> (rw [h1]; exact w_bind h2)
end
def okEs (es : Es) : Bool := es.plnV && decide (es.size ≤ 1000)
theorem evX_ok {es : Es} {kl : List D → Mem → Prop} (ok : okEs es = true) (h : WpR (evEs P C r es ρ μ) kl kx) : WpR (evX P C r es ρ μ) (fun l μ => l.length ≤ sizeLn ∧ kl l μ) kx := by
  simp only [okEs, Bool.and_eq_true, decide_eq_true_eq] at ok
  rw [evX_plnV ok.1]
  exact (evEs_size h).mono (fun l μ h => ⟨by unfold sizeLn; omega, h.2⟩) fun _ _ h => h
theorem w_tupX {es : Es} (h : WpR (evX P C r es ρ μ) (fun l μ => l.length ≤ sizeLn ∧ k (.tup l) μ) kx) : WpR (evE P C r (.tup es) ρ μ) k kx := by
  simp only [evE]; exact w_bind (h.mono (fun _ _ h => by rw [if_pos h.1]; exact h.2) fun _ _ h => h)
theorem w_lstX {es : Es} (h : WpR (evX P C r es ρ μ) (fun l μ => l.length ≤ sizeLn ∧ k (.lst l) μ) kx) : WpR (evE P C r (.lst es) ρ μ) k kx := by
  simp only [evE]; exact w_bind (h.mono (fun _ _ h => by rw [if_pos h.1]; exact h.2) fun _ _ h => h)
theorem w_keyX {es : Es} (h : WpR (evX P C r es ρ μ) (fun l μ => l.length ≤ sizeLn ∧ k (.key l) μ) kx) : WpR (evE P C r (.key es) ρ μ) k kx := by
  simp only [evE]; exact w_bind (h.mono (fun _ _ h => by rw [if_pos h.1]; exact h.2) fun _ _ h => h)
theorem w_tup {es : Es} (ok : okEs es = true) (h : WpR (evEs P C r es ρ μ) (fun l μ => k (.tup l) μ) kx) : WpR (evE P C r (.tup es) ρ μ) k kx := w_tupX (evX_ok ok h)
theorem w_lst {es : Es} (ok : okEs es = true) (h : WpR (evEs P C r es ρ μ) (fun l μ => k (.lst l) μ) kx) : WpR (evE P C r (.lst es) ρ μ) k kx := w_lstX (evX_ok ok h)
theorem w_key {es : Es} (ok : okEs es = true) (h : WpR (evEs P C r es ρ μ) (fun l μ => k (.key l) μ) kx) : WpR (evE P C r (.key es) ρ μ) k kx := w_keyX (evX_ok ok h)
theorem w_dct0 {t : Bool} (h : k (.dct t [] []) μ) : WpR (evE P C r (.dct t .n) ρ μ) k kx := by
  simp only [evE, evKV, R.bind_ok, List.all_nil, if_true]; exact h
theorem w_cal {f : Nat} {es : Es} (h : WpR (evEs P C r es ρ μ) (fun l μ => WpR (calF P C f l [] [] μ) k kx) kx) : WpR (evE P C r (.cal f es) ρ μ) k kx := by
  simp only [evE]; exact w_bind h
theorem w_clk {f : Nat} {es kv : Es} {ps : List Nat} (h : WpR (evEs P C r es ρ μ) (fun l μ => WpR (evEs P C r kv ρ μ) (fun m μ => WpR (calF P C f l ps m μ) k kx) kx) kx) : WpR (evE P C r (.clk f es ps kv) ρ μ) k kx := by
  simp only [evE]; exact w_bind (h.mono (fun _ _ h => w_bind h) fun _ _ h => h)
theorem w_new {f : Nat} {es : Es} (h : WpR (evEs P C r es ρ μ) (fun l μ => WpR (newV P C f l [] [] μ) k kx) kx) : WpR (evE P C r (.new f es) ρ μ) k kx := by
  simp only [evE]; exact w_bind h
theorem w_nwk {f : Nat} {es kv : Es} {ps : List Nat} (h : WpR (evEs P C r es ρ μ) (fun l μ => WpR (evEs P C r kv ρ μ) (fun m μ => WpR (newV P C f l ps m μ) k kx) kx) kx) : WpR (evE P C r (.nwk f es ps kv) ρ μ) k kx := by
  simp only [evE]; exact w_bind (h.mono (fun _ _ h => w_bind h) fun _ _ h => h)
theorem w_mth {o : E} {m : Nat} {es : Es} (h : WpR (evE P C r o ρ μ) (fun o μ => ∃ f, methOf P μ o m = some f ∧ WpR (evEs P C r es ρ μ) (fun l μ => WpR (calF P C f (o :: l) [] [] μ) k kx) kx) kx) : WpR (evE P C r (.mth o m es) ρ μ) k kx := by
  simp only [evE]; refine w_bind (h.mono (fun _ _ h => ?_) fun _ _ h => h)
  obtain ⟨f, e, h⟩ := h
  rw [e]; exact w_bind h
theorem w_att {o : E} {f : Nat} (h : WpR (evE P C r o ρ μ) (fun o μ => WpR (attV P C μ o f) k F0) kx) : WpR (evE P C r (.att o f) ρ μ) k kx := by
  simp only [evE]; exact w_bind (h.mono (fun _ _ h => w_nox h) fun _ _ h => h)
theorem w_bi {b : Bi} {es : Es} (h : WpR (evEs P C r es ρ μ) (fun l μ => WpR (biV P C r μ b l) k F0) kx) : WpR (evE P C r (.bi b es) ρ μ) k kx := by
  simp only [evE]; exact w_bind (h.mono (fun _ _ h => w_nox h) fun _ _ h => h)
theorem w_bi1 {b : Bi} {e : E} (h : WpR (evE P C r e ρ μ) (fun d μ => WpR (bi1V P C r μ b d) k F0) kx) : WpR (evE P C r (.bi b (.c e .n)) ρ μ) k kx :=
  w_bi (w_es (h.mono (fun _ _ h => w_es0 h) fun _ _ h => h))
theorem w_bm {m : Bm} {o : E} {es : Es} (h : WpR (evE P C r o ρ μ) (fun o μ => bmTy m (rd μ o) = true ∧ WpR (evEs P C r es ρ μ) (fun l μ => WpR (bmV μ m o l) k kx) kx) kx) : WpR (evE P C r (.bm m o es) ρ μ) k kx := by
  simp only [evE]; refine w_bind (h.mono (fun _ _ h => ?_) fun _ _ h => h)
  rw [if_pos h.1]; exact w_bind h.2
theorem w_isi {e : E} {ts : List Ty} (h : WpR (evE P C r e ρ μ) (fun d μ => ∃ b, isTys P μ d ts = some b ∧ k (.bl b) μ) kx) : WpR (evE P C r (.isi e ts) ρ μ) k kx := by
  simp only [evE]; refine w_bind (h.mono (fun _ _ h => ?_) fun _ _ h => h)
  obtain ⟨b, e, h⟩ := h
  rw [e]; exact h
theorem w_idx {a i : E} (h : WpR (evE P C r a ρ μ) (fun a μ => WpR (evE P C r i ρ μ) (fun i μ => WpR (idxV P C μ a i) k kx) kx) kx) : WpR (evE P C r (.idx a i) ρ μ) k kx := by
  simp only [evE]; exact w_bind (h.mono (fun _ _ h => w_bind h) fun _ _ h => h)
section
variable {ko : Option Int → Mem → Prop}
theorem w_o0 (h : ko none μ) : WpR (evO P C r .n ρ μ) ko kx := by simp only [evO]; exact h
theorem w_o {e : E} (h : WpR (evE P C r e ρ μ) (fun d μ => ∃ i, d = .int i ∧ ko (some i) μ) kx) : WpR (evO P C r (.s e) ρ μ) ko kx := by
  simp only [evO]; refine w_bind (h.mono (fun _ _ h => ?_) fun _ _ h => h)
  obtain ⟨b, rfl, h⟩ := h; exact h
end
theorem w_sli {a : E} {lo hi : O} (h : WpR (evE P C r a ρ μ) (fun a μ => WpR (evO P C r lo ρ μ) (fun l μ => WpR (evO P C r hi ρ μ) (fun h μ => WpR (R.of μ (sliD (rd μ a) l h)) k kx) kx) kx) kx) : WpR (evE P C r (.sli a lo hi) ρ μ) k kx := by
  simp only [evE]; exact w_bind (h.mono (fun _ _ h => w_bind (h.mono (fun _ _ h => w_bind h) fun _ _ h => h)) fun _ _ h => h)
theorem w_rev {a : E} {z : Bool} (h : WpR (evE P C r a ρ μ) (fun a μ => WpR (R.of μ (revV μ a z)) k kx) kx) : WpR (evE P C r (.rev a z) ρ μ) k kx := by
  simp only [evE]; exact w_bind h
theorem w_lay {e : E} (h : WpR (evE P C r e ρ μ) (fun d μ => (∃ l, d = .lst l ∧ k (.obj μ.length) (μ ++ [.lst l])) ∨ ∃ t ks vs, d = .dct t ks vs ∧ k (.obj μ.length) (μ ++ [.dct t ks vs])) kx) : WpR (evE P C r (.lay e) ρ μ) k kx := by
  simp only [evE]; refine w_bind (h.mono (fun _ _ h => ?_) fun _ _ h => h)
  rcases h with ⟨l, rfl, h⟩ | ⟨t, ks, vs, rfl, h⟩ <;> exact h
theorem w_fmt {e : E} (h : WpR (evE P C r e ρ μ) (fun d μ => WpR (R.of μ (fmtV d)) k kx) kx) : WpR (evE P C r (.fmt e) ρ μ) k kx := by
  simp only [evE]; exact w_bind h
theorem w_fst {es : Es} (h : WpR (evEs P C r es ρ μ) (fun l μ => ∃ xs, strsD l = some xs ∧ (xs.map sL).flatten.length ≤ sizeLn ∧ k (.str (sM (xs.map sL).flatten)) μ) F0) : WpR (evE P C r (.fst es) ρ μ) k kx := by
  simp only [evE]; refine w_bind (w_nox (h.mono (fun _ _ h => ?_) fun _ _ h => h))
  obtain ⟨xs, e, h1, h2⟩ := h
  exact w_of (by simp only [e, Option.bind_some, if_pos h1]) h2
theorem w_srt {e : E} (h : WpR (evE P C r e ρ μ) (fun d μ => ∃ l m, (rd μ d = .lst l ∨ rd μ d = .tup l ∨ rd μ d = .key l) ∧ srtL dlt l = some m ∧ k (.lst m) μ) kx) : WpR (evE P C r (.srt e) ρ μ) k kx := by
  simp only [evE]; refine w_bind (h.mono (fun _ _ h => ?_) fun _ _ h => h)
  obtain ⟨l, m, h1, h2, h3⟩ := h
  rcases h1 with h1 | h1 | h1 <;> (rw [h1]; exact w_of (by rw [h2]; rfl) h3)
section
variable {ki : Option (Nat × Ob) × List D → Mem → Prop}
theorem w_ie {e : E} (h : WpR (evE P C r e ρ μ) (fun d μ => WpR (R.of μ (itV μ d)) ki kx) kx) : WpR (evIt P C r (.e e) ρ μ) ki kx := by
  simp only [evIt]; exact w_bind h
theorem w_irng {es : Es} (h : WpR (evEs P C r es ρ μ) (fun l μ => ∃ m, rngV l = some m ∧ ki (none, m) μ) kx) : WpR (evIt P C r (.rng es) ρ μ) ki kx := by
  simp only [evIt]; refine w_bind (h.mono (fun _ _ h => ?_) fun _ _ h => h)
  obtain ⟨m, e, h⟩ := h
  exact w_of (by rw [e]; rfl) h
theorem w_ienu {e : E} (h : WpR (evE P C r e ρ μ) (fun d μ => ∃ s l, (∀ x, d ≠ .str x) ∧ itV μ d = some (s, l) ∧ ki (s, enuL 0 l) μ) kx) : WpR (evIt P C r (.enu e) ρ μ) ki kx := by
  simp only [evIt]; refine w_bind (h.mono (fun d _ h => ?_) fun _ _ h => h)
  obtain ⟨s, l, hs, e, h⟩ := h
  refine w_of (d := (s, enuL 0 l)) ?_ h
  split
  · exact absurd rfl (hs _)
  · rw [e]; rfl
theorem w_izip {a b : E} (h : WpR (evE P C r a ρ μ) (fun x μ => WpR (evE P C r b ρ μ) (fun y μ => WpR (R.of μ (zipV x y)) ki kx) kx) kx) : WpR (evIt P C r (.zip a b) ρ μ) ki kx := by
  simp only [evIt]; exact w_bind (h.mono (fun _ _ h => w_bind h) fun _ _ h => h)
end
section
variable {kt : Env → Mem → Prop}
theorem w_tv {i : Nat} {d : D} (h : kt (setE ρ i d) μ) : WpR (asT P C r (.v i) d ρ μ) kt kx := by simp only [asT]; exact h
theorem w_tix {o i : E} {d : D} (h : WpR (evE P C r o ρ μ) (fun o μ => WpR (evE P C r i ρ μ) (fun i μ => WpR (setV P C μ o i d) (fun _ μ => kt ρ μ) kx) kx) kx) : WpR (asT P C r (.ix o i) d ρ μ) kt kx := by
  simp only [asT]; exact w_bind (h.mono (fun _ _ h => w_bind (h.mono (fun _ _ h => w_bind h) fun _ _ h => h)) fun _ _ h => h)
theorem w_tat {o : E} {f : Nat} {d : D} (h : WpR (evE P C r o ρ μ) (fun x μ => ∃ n c ns vs kk, x = .obj n ∧ (μ : Mem)[n]? = some (.ins c ns vs) ∧ P.cls c = some kk ∧ kk.flds.contains f = true ∧ ns.length < 900 ∧ kt ρ ((μ : Mem).set n (.ins c (fput f d ns vs).1 (fput f d ns vs).2))) kx) : WpR (asT P C r (.at o f) d ρ μ) kt kx := by
  simp only [asT]; refine w_bind (h.mono (fun _ μ h => ?_) fun _ _ h => h)
  obtain ⟨n, c, ns, vs, kk, rfl, e1, e2, e3, e4, h⟩ := h
  simp only [e1, e2, e3, e4, decide_true, Bool.and_self, if_true]
  exact h
theorem w_ttup {ts : Ts} {d : D} {l : List D} (e : d = .tup l ∨ d = .key l ∨ d = .lst l) (h : WpR (asTs P C r ts l ρ μ) kt kx) : WpR (asT P C r (.tup ts) d ρ μ) kt kx := by
  simp only [asT]; rcases e with rfl | rfl | rfl <;> exact h
theorem w_ts0 (h : kt ρ μ) : WpR (asTs P C r .n [] ρ μ) kt kx := by simp only [asTs]; exact h
theorem w_ts {t : T} {ts : Ts} {d : D} {l : List D} (h : WpR (asT P C r t d ρ μ) (fun ρ μ => WpR (asTs P C r ts l ρ μ) kt kx) kx) : WpR (asTs P C r (.c t ts) (d :: l) ρ μ) kt kx := by
  simp only [asTs]; exact w_bind h
end
section
variable {kn : Env → Mem → Prop} {kr : D → Mem → Prop} {ks : D → Env → Mem → Prop}
theorem s_seR {α : Type} {q : R α} {f : α → Mem → SR} (h : WpR q (fun d μ => WpS (f d μ) kn kr ks) fun x μ => ks x ρ μ) : WpS (seR q ρ f) kn kr ks := by
  cases q <;> exact h
theorem s_nil (h : kn ρ μ) : WpS (evSs P C r .n ρ μ) kn kr ks := by simp only [evSs]; exact h
theorem s_cons {s : S} {ss : Ss} (h : WpS (evS P C r s ρ μ) (fun ρ μ => WpS (evSs P C r ss ρ μ) kn kr ks) kr ks) : WpS (evSs P C r (.c s ss) ρ μ) kn kr ks := by
  simp only [evSs]
  cases e : evS P C r s ρ μ with
  | nx ρ μ => rw [e] at h; exact h
  | rt d μ => rw [e] at h; exact h
  | ex x ρ μ => rw [e] at h; exact h
  | no => rw [e] at h; exact h
theorem s_asg {t : T} {e : E} (h : WpR (evE P C r e ρ μ) (fun d μ => WpR (asT P C r t d ρ μ) kn F0) fun x μ => ks x ρ μ) : WpS (evS P C r (.asg t e) ρ μ) kn kr ks := by
  simp only [evS]; exact s_seR (h.mono (fun _ _ h => s_seR (w_nox h)) fun _ _ h => h)
theorem s_set {i : Nat} {e : E} (h : WpR (evE P C r e ρ μ) (fun d μ => kn (setE ρ i d) μ) fun x μ => ks x ρ μ) : WpS (evS P C r (.asg (.v i) e) ρ μ) kn kr ks := s_asg (h.mono (fun _ _ h => w_tv h) fun _ _ h => h)
theorem s_par {ts : Ts} {es : Es} (h : WpR (evEs P C r es ρ μ) (fun l μ => WpR (asTs P C r ts l ρ μ) kn F0) fun x μ => ks x ρ μ) : WpS (evS P C r (.par ts es) ρ μ) kn kr ks := by
  simp only [evS]; exact s_seR (h.mono (fun _ _ h => s_seR (w_nox h)) fun _ _ h => h)
theorem s_ex {e : E} (h : WpR (evE P C r e ρ μ) (fun _ μ => kn ρ μ) fun x μ => ks x ρ μ) : WpS (evS P C r (.ex e) ρ μ) kn kr ks := by
  simp only [evS]; exact s_seR h
theorem s_ret {e : E} (h : WpR (evE P C r e ρ μ) kr fun x μ => ks x ρ μ) : WpS (evS P C r (.ret e) ρ μ) kn kr ks := by
  simp only [evS]; exact s_seR h
theorem s_pass (h : kn ρ μ) : WpS (evS P C r .pass ρ μ) kn kr ks := by simp only [evS]; exact h
theorem s_ite {c : E} {a b : Ss} (h : WpR (evE P C r c ρ μ) (fun d μ => ∃ t, d = .bl t ∧ (t = true → WpS (evSs P C r a ρ μ) kn kr ks) ∧ (t = false → WpS (evSs P C r b ρ μ) kn kr ks)) fun x μ => ks x ρ μ) : WpS (evS P C r (.ite c a b) ρ μ) kn kr ks := by
  simp only [evS]; refine s_seR (h.mono (fun _ _ h => ?_) fun _ _ h => h)
  obtain ⟨t, rfl, h1, h2⟩ := h
  cases t with
  | true => exact h1 rfl
  | false => exact h2 rfl
theorem s_iteF {c : E} {a b : Ss} (h : WpR (evE P C r c ρ μ) (fun d μ => d = .bl false ∧ WpS (evSs P C r b ρ μ) kn kr ks) fun x μ => ks x ρ μ) : WpS (evS P C r (.ite c a b) ρ μ) kn kr ks := s_ite (h.mono (fun _ _ h => ⟨false, h.1, fun z => (nomatch z), fun _ => h.2⟩) fun _ _ h => h)
theorem s_for {t : T} {it : It} {b : Ss} (h : WpR (evIt P C r it ρ μ) (fun p μ => WpS (forL (fun d ρ μ => seR (nox (asT P C r t d ρ μ)) ρ fun ρ μ => evSs P C r b ρ μ) p.1 p.2 ρ μ) kn kr ks) fun x μ => ks x ρ μ) : WpS (evS P C r (.for t it b) ρ μ) kn kr ks := by
  simp only [evS]; exact s_seR h
/-- a loop by what holds ahead of the items left -/
theorem for_inv {f : D → Env → Mem → SR} (I : List D → Env → Mem → Prop) : ∀ {l : List D} {ρ : Env} {μ : Mem}, I l ρ μ → (∀ d ds ρ μ, I (d :: ds) ρ μ → WpS (f d ρ μ) (I ds) kr ks) → (∀ ρ μ, I [] ρ μ → kn ρ μ) → WpS (forL f none l ρ μ) kn kr ks
  | [], ρ, μ, h0, _, fin => by simp only [forL, srcOk, if_true]; exact fin _ _ h0
  | d :: ds, ρ, μ, h0, step, fin => by
    simp only [forL, srcOk, if_true]
    have h := step d ds ρ μ h0
    cases e : f d ρ μ with
    | nx ρ μ => rw [e] at h; exact for_inv I h step fin
    | rt d μ => rw [e] at h; exact h
    | ex x ρ μ => rw [e] at h; exact h
    | no => rw [e] at h; exact h
/-- .. of the turns of a loop -/
theorem for_turn {t : T} {b : Ss} {d : D} {kn2 : Env → Mem → Prop} (h : WpR (asT P C r t d ρ μ) (fun ρ μ => WpS (evSs P C r b ρ μ) kn2 kr ks) F0) : WpS (seR (nox (asT P C r t d ρ μ)) ρ fun ρ μ => evSs P C r b ρ μ) kn2 kr ks := s_seR (w_nox h)
theorem s_whl {c : E} {b : Ss} (h : WpS (whlL (evE P C r c) (evSs P C r b) WH ρ μ) kn kr ks) : WpS (evS P C r (.whl c b) ρ μ) kn kr ks := by
  simp only [evS]; exact h
theorem s_try {b : Ss} {hs : Hs} (h : WpS (evSs P C r b ρ μ) kn kr fun _ _ _ => False) : WpS (evS P C r (.try b hs) ρ μ) kn kr ks := by
  simp only [evS]
  cases e : evSs P C r b ρ μ with
  | nx ρ μ => rw [e] at h; exact h
  | rt d μ => rw [e] at h; exact h
  | ex x ρ μ => rw [e] at h; exact h.elim
  | no => rw [e] at h; exact h
end
/-- an item of a comprehension, without effect -/
def Pick (P : Prog) (C : Cal) (r : D → Option Str) (own : List Nat) (t : T) (c e : E) (ρ : Env) (μ : Mem) (d : D) (o : Option D) : Prop :=
  WpR (asT P C r t d (wipeE ρ own) μ) (fun ρ μ1 => WpR (evE P C r c ρ μ1) (fun x μ2 => ∃ b, x = .bl b ∧ (b = true → WpR (evE P C r e ρ μ2) (fun y μ3 => μ3 = μ ∧ o = some y) F0) ∧ (b = false → μ2 = μ ∧ o = none)) F0) F0
theorem pick_eq {own : List Nat} {t : T} {c e : E} {d : D} {o : Option D} (h : Pick P C r own t c e ρ μ d o) : ((asT P C r t d (wipeE ρ own) μ).bind fun ρ μ =>
      (evE P C r c ρ μ).bind fun b μ => match tru b with
        | some true => (evE P C r e ρ μ).bind fun x μ => .ok (some x) μ
        | some false => .ok none μ
        | none => .no) = .ok o μ := by
  refine eq_w (w_bind (h.mono (fun ρ1 μ1 h => w_bind (h.mono (fun x μ2 h => ?_) fun _ _ h => h)) fun _ _ h => h))
  obtain ⟨b, rfl, h1, h2⟩ := h
  cases b with
  | true =>
    refine w_bind ((h1 rfl).mono (fun y μ3 h => ?_) fun _ _ h => h)
    exact ⟨h.2.symm, h.1⟩
  | false => exact ⟨(h2 rfl).2.symm, (h2 rfl).1⟩
/-- a comprehension over encoded items, kept where q, g the value -/
theorem w_lcF {α : Type} {own : List Nat} {t : T} {it : It} {c e : E} (l : List α) (enc : α → D) (q : α → Bool) (g : α → D) (h : WpR (evIt P C r it ρ μ) (fun p μ => srcOk p.1 μ = true ∧ p.2 = l.map enc ∧ (∀ x ∈ l, Pick P C r own t c e ρ μ (enc x) (if q x then some (g x) else none)) ∧ l.length ≤ sizeLn ∧ k (.lst ((l.filter q).map g)) μ) kx) : WpR (evE P C r (.lc own t it c e) ρ μ) k kx := by
  simp only [evE]; refine w_bind (h.mono (fun p μ h => ?_) fun _ _ h => h)
  obtain ⟨h1, h2, h3, h4, h5⟩ := h
  have key : ∀ {l : List α}, (∀ x ∈ l, Pick P C r own t c e ρ μ (enc x) (if q x then some (g x) else none)) → compL (fun d μ => (asT P C r t d (wipeE ρ own) μ).bind fun ρ μ =>
      (evE P C r c ρ μ).bind fun b μ => match tru b with
        | some true => (evE P C r e ρ μ).bind fun x μ => .ok (some x) μ
        | some false => .ok none μ
        | none => .no) p.1 (l.map enc) μ = .ok ((l.filter q).map g) μ := by
    intro l
    induction l with
    | nil => intro _; simp [compL, h1]
    | cons x l ih =>
      intro hl
      have e1 := pick_eq (hl x (List.mem_cons_self ..))
      have e2 := ih fun y hy => hl y (List.mem_cons_of_mem _ hy)
      simp only [List.map_cons, compL, h1, if_true, e1, R.bind_ok, e2]
      cases hq : q x <;> simp [hq]
  rw [h2]
  refine w_bind (w_nox (w_eq (key h3) ?_))
  rw [if_pos (by rw [List.length_map]; exact Nat.le_trans (List.length_filter_le ..) h4)]; exact h5
/-- .. all kept -/
theorem w_lcM {α : Type} {own : List Nat} {t : T} {it : It} {e : E} (l : List α) (enc : α → D) (g : α → D) (h : WpR (evIt P C r it ρ μ) (fun p μ => srcOk p.1 μ = true ∧ p.2 = l.map enc ∧ (∀ x ∈ l, WpR (asT P C r t (enc x) (wipeE ρ own) μ) (fun ρ μ1 => WpR (evE P C r e ρ μ1) (fun y μ3 => μ3 = μ ∧ y = g x) F0) F0) ∧ l.length ≤ sizeLn ∧ k (.lst (l.map g)) μ) kx) : WpR (evE P C r (.lc own t it (.k (.bl true)) e) ρ μ) k kx := by
  refine w_lcF l enc (fun _ => true) g (h.mono (fun p μ h => ?_) fun _ _ h => h)
  obtain ⟨h1, h2, h3, h4, h5⟩ := h
  refine ⟨h1, h2, fun x hx => ?_, h4, ?_⟩
  · unfold Pick
    refine (h3 x hx).mono (fun ρ μ1 h => w_k ⟨true, rfl, fun _ => h.mono (fun y μ3 h => ⟨h.1, by simp [h.2]⟩) fun _ _ h => h, fun z => nomatch z⟩) fun _ _ h => h
  · have e : l.filter (fun _ => true) = l := List.filter_eq_self.mpr fun _ _ => rfl
    rw [e]; exact h5
/-- a comprehension by what holds behind the items gone through -/
theorem comp_inv {f : D → Mem → R (Option D)} {kl : List D → Mem → Prop} (I : List D → List D → Mem → Prop) : ∀ {l acc : List D} {μ : Mem}, I l acc μ → (∀ d ds acc μ, I (d :: ds) acc μ → WpR (f d μ) (fun o μ => I ds (acc ++ o.toList) μ) kx) → (∀ acc μ, I [] acc μ → kl acc μ) → WpR (compL f none l μ) (fun l μ => kl (acc ++ l) μ) kx
  | [], acc, μ, h0, _, fin => by simp only [compL, srcOk, if_true]; show kl (acc ++ []) μ; rw [List.append_nil]; exact fin _ _ h0
  | d :: ds, acc, μ, h0, step, fin => by
    simp only [compL, srcOk, if_true]
    refine w_bind ((step d ds acc μ h0).mono (fun o μ h => ?_) fun _ _ h => h)
    refine w_bind ((comp_inv I h step fin).mono (fun l μ h => ?_) fun _ _ h => h)
    cases o with
    | none => show kl (acc ++ l) μ; simpa using h
    | some x => show kl (acc ++ x :: l) μ; simpa using h
theorem w_lcI {own : List Nat} {t : T} {it : It} {c e : E} (I : List D → List D → Mem → Prop) (h : WpR (evIt P C r it ρ μ) (fun p μ => p.1 = none ∧ I p.2 [] μ ∧ (∀ d ds acc μ, I (d :: ds) acc μ → WpR (asT P C r t d (wipeE ρ own) μ) (fun ρ μ1 => WpR (evE P C r c ρ μ1) (fun x μ2 => ∃ b, x = .bl b ∧ (b = true → WpR (evE P C r e ρ μ2) (fun y μ3 => I ds (acc ++ [y]) μ3) F0) ∧ (b = false → I ds acc μ2)) F0) F0) ∧
    (∀ acc μ, I [] acc μ → acc.length ≤ sizeLn ∧ k (.lst acc) μ)) kx) : WpR (evE P C r (.lc own t it c e) ρ μ) k kx := by
  simp only [evE]; refine w_bind (h.mono (fun p μ h => ?_) fun _ _ h => h)
  obtain ⟨h1, h2, h3, h4⟩ := h
  rw [h1]
  have := comp_inv (kx := F0) (f := fun d μ => (asT P C r t d (wipeE ρ own) μ).bind fun ρ μ =>
      (evE P C r c ρ μ).bind fun b μ => match tru b with
        | some true => (evE P C r e ρ μ).bind fun x μ => .ok (some x) μ
        | some false => .ok none μ
        | none => .no) (kl := fun l μ => l.length ≤ sizeLn ∧ k (.lst l) μ) I h2 (fun d ds acc μ hi => ?_) h4
  · refine w_bind (w_nox (this.mono (fun l μ h => ?_) fun _ _ h => h))
    have h : l.length ≤ sizeLn ∧ k (.lst l) μ := h
    rw [if_pos h.1]; exact h.2
  · refine w_bind ((h3 d ds acc μ hi).mono (fun ρ1 μ1 h => w_bind (h.mono (fun x μ2 h => ?_) fun _ _ h => h)) fun _ _ h => h)
    obtain ⟨b, rfl, g1, g2⟩ := h
    cases b with
    | true => exact w_bind ((g1 rfl).mono (fun y μ3 h => h) fun _ _ h => h)
    | false => show I ds (acc ++ []) μ2; rw [List.append_nil]; exact g2 rfl
theorem w_calF {f : Nat} {F : Fn} {args kv ds : List D} {ps : List Nat} (hf : P.fns f = some F) (hb : bindK F.np F.dflt args ps kv = some ds) (h : WpR (C.fn f ds μ) k kx) : WpR (calF P C f args ps kv μ) k kx := by
  unfold calF; rw [hf]; simp only [hb]; exact h
/-- a def by its body -/
theorem d_w {n f np nn : Nat} {dflt : List D} {keep : Bool} {body : Ss} {args : List D} {ρ0 : Env} (hf : P.fns f = some ⟨np, nn, dflt, keep, body⟩) (hn : args.length = np) (hρ : args.map some ++ List.replicate (nn - np) none = ρ0)
    (h : WpS (evSs P (Cn P r n) r body ρ0 μ) (fun _ μ' => WpR (fin keep μ .non μ') k kx) (fun d μ' => WpR (fin keep μ d μ') k kx) (fun x _ μ' => WpR (finX keep μ x μ') k kx)) : WpR (calD P r (n + 1) f args μ) k kx := by
  subst hρ
  simp only [calD, hf, hn, if_true]
  cases e : evSs P (Cn P r n) r body (args.map some ++ List.replicate (nn - np) none) μ with
  | nx ρ μ => rw [e] at h; exact h
  | rt d μ => rw [e] at h; exact h
  | ex x ρ μ => rw [e] at h; exact h
  | no => rw [e] at h; exact h.elim
end
/-- every object of the store is without names of the store -/
def Flat (μ : Mem) : Prop := ∀ ob ∈ μ, limOb ob = 0
theorem chkOld_of : ∀ {μ ν : Mem} {n : Nat}, μ.length ≤ ν.length → Flat (ν.take μ.length) → chkOld μ ν n = true
  | [], _, _, _, _ => by simp [chkOld]
  | a :: μ, [], n, hl, h => by simp at hl
  | a :: μ, b :: ν, n, hl, h => by
    have h1 := h b (by simp)
    simp only [chkOld, h1, Nat.zero_le, decide_true, Bool.or_true, Bool.true_and]
    exact chkOld_of (by simpa using hl) fun e he => h e (by simp [he])
theorem sms_of {α : Type} {f : α → D} (n : Nat) (h : ∀ x, sm n (f x) = true) : ∀ l : List α, sms n (l.map f) = true
  | [] => by simp [sms]
  | x :: l => by simp only [List.map_cons, sms, h x, sms_of n h l, Bool.and_self]
theorem sms_mem (n : Nat) : ∀ {l : List D}, (∀ x ∈ l, sm n x = true) → sms n l = true
  | [], _ => by simp [sms]
  | x :: l, h => by simp only [sms, h x (List.mem_cons_self ..), sms_mem n fun y hy => h y (List.mem_cons_of_mem _ hy), Bool.and_self]
@[simp] theorem sm_str (n : Nat) (x : Str) : sm n (.str x) = true := by cases n <;> rfl
@[simp] theorem sm_int (n : Nat) (x : Int) : sm n (.int x) = true := by cases n <;> rfl
@[simp] theorem sm_bl (n : Nat) (x : Bool) : sm n (.bl x) = true := by cases n <;> rfl
@[simp] theorem sm_non (n : Nat) : sm n .non = true := by cases n <;> rfl
@[simp] theorem deq_str (x y : Str) : deq (.str x) (.str y) = (x == y) := by simp only [deq]
@[simp] theorem deq_int (x y : Int) : deq (.int x) (.int y) = (x == y) := by simp only [deq]
theorem enuL_map {α : Type} (f : α → D) : ∀ (k : Nat) (l : List α), enuL k (l.map f) = (l.zipIdx k).map fun p => .key [.int (p.2 : Nat), f p.1]
  | _, [] => rfl
  | k, x :: l => by simp only [List.map_cons, enuL, List.zipIdx_cons, enuL_map f (k + 1) l]
theorem any_strs (s : Str) (ns : List Str) : ((ns.map D.str).any fun x => deq x (.str s)) = decide (s ∈ ns) := by
  induction ns with
  | nil => simp
  | cons a l ih =>
    rw [List.map_cons, List.any_cons, ih, deq_str]
    by_cases h : a = s
    · subst h; simp
    · have h2 : ¬ s = a := fun e => h e.symm
      simp [h, h2]
theorem dcomp_strs {f : D → Mem → R (Option (D × D))} {α : Type} {enc : α → D} {kf : α → Str} {g : α → D} {src : Option (Nat × Ob)} {μ : Mem} (hs : srcOk src μ = true) : ∀ {l : List α} {ks : List Str} {vs : List D}, (∀ x ∈ l, f (enc x) μ = .ok (some (.str (kf x), g x)) μ) → (ks ++ l.map kf).Nodup → ks.length + l.length < sizeLn → dcompL f src (l.map enc) (ks.map .str, vs) μ = .ok ((ks ++ l.map kf).map .str, vs ++ l.map g) μ
  | [], ks, vs, _, _, _ => by simp [dcompL, hs]
  | x :: l, ks, vs, h, nd, hz => by
    have e1 := h x (List.mem_cons_self ..)
    simp only [List.length_cons] at hz
    simp only [List.map_cons, dcompL, hs, if_true, e1, R.bind_ok, List.length_map]
    rw [if_pos (by omega)]
    have hx : kf x ∉ ks := by
      rw [List.nodup_append] at nd
      intro h2
      exact nd.2.2 _ h2 (kf x) (by simp) rfl
    have e2 : dput (.str (kf x)) (g x) (ks.map D.str) vs = ((ks ++ [kf x]).map D.str, vs ++ [g x]) := by
      unfold dput
      rw [any_strs, decide_eq_false hx]
      simp
    rw [e2, dcomp_strs hs (ks := ks ++ [kf x]) (vs := vs ++ [g x]) (fun y hy => h y (List.mem_cons_of_mem _ hy)) (by simpa using nd) (by simp; omega)]
    simp
theorem w_dcM {P : Prog} {C : Cal} {r : D → Option Str} {ρ : Env} {μ : Mem} {k : D → Mem → Prop} {kx : D → Mem → Prop} {α : Type} {own : List Nat} {t : T} {it : It} {ek ev : E} (l : List α) (enc : α → D) (kf : α → Str) (g : α → D) (nd : (l.map kf).Nodup) (hz : l.length < sizeLn) (h : WpR (evIt P C r it ρ μ) (fun p μ => srcOk p.1 μ = true ∧ p.2 = l.map enc ∧ (∀ x ∈ l, WpR (asT P C r t (enc x) (wipeE ρ own) μ) (fun ρ μ1 => WpR (evE P C r ek ρ μ1) (fun a μ2 => WpR (evE P C r ev ρ μ2) (fun b μ3 => a = .str (kf x) ∧ μ3 = μ ∧ b = g x) F0) F0) F0) ∧ k (.dct false ((l.map kf).map .str) (l.map g)) μ) kx) : WpR (evE P C r (.dc own t it (.k (.bl true)) ek ev) ρ μ) k kx := by
  simp only [evE]; refine w_bind (h.mono (fun p μ h => ?_) fun _ _ h => h)
  obtain ⟨h1, h2, h3, h4⟩ := h
  rw [h2]
  refine w_bind (w_nox (w_eq (dcomp_strs (ks := []) (vs := []) (kf := kf) (g := g) h1 (fun x hx => ?_) (by simpa using nd) (by simpa using hz)) ?_))
  · refine eq_w (w_bind ((h3 x hx).mono (fun ρ1 μ1 h => ?_) fun _ _ h => h))
    simp only [evE, R.bind_ok, tru]
    refine w_bind (h.mono (fun a μ2 h => w_bind (h.mono (fun b μ3 h => ?_) fun _ _ h => h)) fun _ _ h => h)
    obtain ⟨rfl, rfl, rfl⟩ := h
    simp only [keyOk, Bool.not_false, if_true]
    exact ⟨rfl, rfl⟩
  · show k _ _
    simpa using h4
theorem get_last {α : Type} (l : List α) (x : α) : (l ++ [x])[l.length]? = some x := by
  rw [List.getElem?_append_right (Nat.le_refl _)]; simp
theorem set_last {α : Type} (l : List α) (x y : α) : (l ++ [x]).set l.length y = l ++ [y] := by
  rw [List.set_append_right _ _ (Nat.le_refl _)]; simp
/-- an attribute of a frozen instance -/
theorem w_attI {P : Prog} {C : Cal} {μ : Mem} {k : D → Mem → Prop} {kx : D → Mem → Prop} {c f : Nat} {ns : List Nat} {vs : List D} {kk : DI.Cls} {d : D} (h1 : P.cls c = some kk) (h2 : kk.props.lookup f = none) (h3 : kk.flds.contains f = true) (h4 : fget f ns vs = some d) (h : k d μ) : WpR (attV P C μ (.ins c ns vs) f) k kx := by
  unfold attV
  simp only [rd, h1, h2, h3, if_true, h4]
  exact h
/-- a property -/
theorem w_attP {P : Prog} {C : Cal} {μ : Mem} {k : D → Mem → Prop} {kx : D → Mem → Prop} {c f g : Nat} {ns : List Nat} {vs : List D} {kk : DI.Cls} (h1 : P.cls c = some kk) (h2 : kk.props.lookup f = some g) (h : WpR (calF P C g [.ins c ns vs] [] [] μ) k kx) : WpR (attV P C μ (.ins c ns vs) f) k kx := by
  unfold attV
  simp only [rd, h1, h2]
  exact h
theorem w_newX {μ : Mem} {r : R D} {k : D → Mem → Prop} {kx : D → Mem → Prop} (h : WpR r k fun x μ' => WpR (finX false μ x μ') k kx) : WpR (newX μ r) k kx := by
  cases r <;> exact h
theorem fin_same {k : D → Mem → Prop} {kx : D → Mem → Prop} {keep : Bool} {μ : Mem} {d : D} (h : k d μ) : WpR (fin keep μ d μ) k kx := by
  unfold fin; rw [if_pos (by simp)]; exact h
theorem fin_len {k : D → Mem → Prop} {kx : D → Mem → Prop} {keep : Bool} {μ μ' : Mem} {d : D} (hl : μ'.length = μ.length) (h : k d μ') : WpR (fin keep μ d μ') k kx := by
  unfold fin; rw [if_pos (by simp [hl])]; exact h
/-- what a def made is let go -/
theorem fin_cut {k : D → Mem → Prop} {kx : D → Mem → Prop} {keep : Bool} {μ μ' ν : Mem} {d d' : D} (hk : keep = false) (hl : μ'.length = μ.length) (hf : Flat μ') (hd : frz μ.length (μ' ++ ν) d = d') (hz : lim d' = 0) (h : k d' μ') : WpR (fin keep μ d (μ' ++ ν)) k kx := by
  subst hk
  unfold fin
  split
  · rename_i h1
    simp only [Bool.false_or, beq_iff_eq, decide_eq_true_eq, List.length_append] at h1
    have : ν = [] := List.eq_nil_of_length_eq_zero (by omega)
    subst this
    have e : frz μ.length (μ' ++ []) d = d := by
      cases d <;> simp only [frz]
      rename_i i
      split
      · have : (μ' ++ [])[i]? = none := by rw [List.append_nil]; exact List.getElem?_eq_none (by omega)
        rw [this]
      · rfl
    rw [e] at hd
    subst hd
    rw [List.append_nil]; exact h
  · rw [hd, hz, if_pos ⟨Nat.zero_le _, chkOld_of (by simp [hl]) (by rw [← hl]; simpa using hf)⟩]
    show k d' ((μ' ++ ν).take μ.length)
    rw [← hl]; simpa using h
end DI
end

local macro_rules | `(tactic| walk_at "e1") => `(tactic| with_reducible first
  | refine DI.w_bin ?_ | refine DI.w_neg ?_ | refine DI.w_cmp ?_ | refine DI.w_cmp2 ?_ | refine DI.w_not ?_ | refine DI.w_and1 ?_ | refine DI.w_or1 ?_
  | refine DI.w_k ?_ | refine DI.w_es ?_ | refine DI.w_es0 ?_ | refine DI.w_x0 ?_ | refine DI.w_xs ?_ | refine DI.w_x rfl ?_
  | refine DI.w_dct0 ?_ | refine DI.w_cal ?_ | refine DI.w_clk ?_ | refine DI.w_new ?_ | refine DI.w_nwk ?_ | refine DI.w_mth ?_ | refine DI.w_att ?_ | refine DI.w_bi1 ?_ | refine DI.w_bi ?_ | refine DI.w_bm ?_ | refine DI.w_isi ?_ | refine DI.w_idx ?_
  | refine DI.w_o0 ?_ | refine DI.w_o ?_ | refine DI.w_sli ?_ | refine DI.w_rev ?_ | refine DI.w_lay ?_ | refine DI.w_fmt ?_ | refine DI.w_fst ?_ | refine DI.w_srt ?_
  | refine DI.w_ie ?_ | refine DI.w_irng ?_ | refine DI.w_ienu ?_ | refine DI.w_izip ?_ | refine DI.w_tv ?_ | refine DI.w_tix ?_ | refine DI.w_ts0 ?_ | refine DI.w_ts ?_
  | refine DI.s_nil ?_ | refine DI.s_cons ?_ | refine DI.s_set ?_ | refine DI.s_asg ?_ | refine DI.s_par ?_ | refine DI.s_ex ?_ | refine DI.s_ret ?_ | refine DI.s_pass ?_ | refine DI.s_for ?_ | refine DI.s_whl ?_ | refine DI.s_try ?_)
local macro_rules | `(tactic| walk_at "ev") => `(tactic| repeat (first | walk_at "e1" | ((with_reducible refine DI.w_v (d := ?_) ?_ ?_); rotate_left; (focus rfl)) | ((with_reducible refine DI.w_vs (d := ?_) ?_ ?_ ?_); rotate_left; (focus rfl); (focus assumption)) | ((with_reducible refine DI.w_tup ?_ ?_); (focus rfl)) | ((with_reducible refine DI.w_lst ?_ ?_); (focus rfl)) | ((with_reducible refine DI.w_key ?_ ?_); (focus rfl))))

section
set_option linter.all false
set_option maxRecDepth 100000
namespace DI
open PySem
abbrev LETTERS : Str := "abcdefghijklmnopqrstuvwxyz"
def isNm (s : Str) : Bool := decide (0 < (sL s).length) && (decide ((sL s).length < 9) && (sL s).all fun c => (sL LETTERS).contains c)
theorem blsD_map {α : Type} (f : α → Bool) : ∀ l : List α, blsD (l.map fun x => D.bl (f x)) = some (l.map f)
  | [] => rfl
  | a :: l => by simp only [List.map_cons, blsD, blsD_map f l, Option.map_some]
theorem sL_sM (l : List Nat) : sL (sM l) = l := by simp [sL, sM]
theorem all_id {α : Type} (f : α → Bool) (l : List α) : (l.map f).all id = l.all f := by simp [List.all_map]
theorem any_id {α : Type} (f : α → Bool) (l : List α) : (l.map f).any id = l.any f := by simp [List.any_map]
theorem allV_map {α : Type} (f : α → Bool) (l : List α) : allV (.lst (l.map fun x => D.bl (f x))) = some (.bl (l.all f)) := by simp only [allV, blsD_map, Option.map_some, all_id]
theorem anyV_map {α : Type} (f : α → Bool) (l : List α) : anyV (.lst (l.map fun x => D.bl (f x))) = some (.bl (l.any f)) := by simp only [anyV, blsD_map, Option.map_some, any_id]
def nsD (ns : List Str) : D := .tup (ns.map .str)
def tieD (t : Str × Str) : D := .tup [.str t.1, .str t.2]
def tsD (ts : List (Str × Str)) : D := .tup (ts.map tieD)
def tied (ts : List (Str × Str)) (p q : Str) : Bool := ts.any fun t => (t.1 == p && t.2 == q) || (t.1 == q && t.2 == p)
def sidesD (ns : List Str) (ts : List (Str × Str)) : D := .dct false (ns.map .str) (ns.map fun p => .tup ((ns.filter (tied ts p)).map .str))
def webD (ns : List Str) (ts : List (Str × Str)) : D := .ins 29 [5, 6, 7] [nsD ns, tsD ts, sidesD ns ts]
structure OkNs (ns : List Str) : Prop where
  ne : ns ≠ []
  few : ns.length ≤ 8
  nm : ∀ s ∈ ns, isNm s = true
  nd : ns.Nodup
def alike (a b : Str × Str) : Bool := a == b || a == (b.2, b.1)
structure OkTs (ns : List Str) (ts : List (Str × Str)) : Prop where
  mem : ∀ t ∈ ts, t.1 ∈ ns ∧ t.2 ∈ ns ∧ t.1 ≠ t.2
  pw : ts.Pairwise fun a b => alike b a = false
/-- the program's defs that make webs -/
structure HasWeb (P : Prog) : Prop where
  f12 : P.fns 12 = some f12
  f13 : P.fns 13 = some f13
  f14 : P.fns 14 = some f14
  f15 : P.fns 15 = some f15
  f16 : P.fns 16 = some f16
  f17 : P.fns 17 = some f17
  f18 : P.fns 18 = some f18
  g0 : P.gl 0 = some (.int 8)
  g3 : P.gl 3 = some (.str LETTERS)
  cls : ∃ k, P.cls 29 = some k ∧ k.init = some 18 ∧ k.live = false ∧ k.flds = [5, 6, 7] ∧ k.props.lookup 5 = none ∧ k.props.lookup 6 = none ∧ k.props.lookup 7 = none
theorem names_sms (n : Nat) (ns : List Str) : sms n (ns.map D.str) = true := sms_of n (fun x => sm_str n x) ns
theorem any_str (s : Str) (ns : List Str) : ((ns.map D.str).any fun x => deq x (.str s)) = decide (s ∈ ns) := by
  induction ns with
  | nil => simp
  | cons a l ih =>
    rw [List.map_cons, List.any_cons, ih, deq_str]
    by_cases h : a = s
    · subst h; simp
    · have h2 : ¬ s = a := fun e => h e.symm
      simp [h, h2]
section
variable {P : Prog} {r : D → Option Str} {k : D → Mem → Prop} {kx : D → Mem → Prop} {μ : Mem}
theorem in_names {C : Cal} {s : Str} {ns : List Str} {kb : Bool → Mem → Prop} {kx : D → Mem → Prop} (h : kb (decide (s ∈ ns)) μ) : WpR (cmpV P C μ .in_ (.str s) (.tup (ns.map .str))) kb kx := by
  unfold cmpV inV
  simp only [rd, SMD, sm_str, names_sms, Bool.and_self, if_true, any_str]
  exact h
theorem is_name_s {n : Nat} (H : HasWeb P) (s : Str) (q : k (.bl (isNm s)) μ) : WpR (calD P r (n + 1) 12 [.str s] μ) k kx := by
  refine d_w (ρ0 := [some (.str s), none]) H.f12 rfl rfl ?_
  walk_at "ev"
  refine w_andT ?_
  walk_at "ev"
  refine ⟨true, rfl, rfl, ?_⟩
  refine w_and ?_
  walk_at "ev"
  refine ⟨fun h1 => ?_, fun h1 => ?_⟩
  · walk_at "ev"
    refine ⟨_, rfl, fun h2 => ?_, fun h2 => ?_⟩
    · walk_at "ev"
      refine w_lcM (sL s) (fun c => .str (sM [c])) (fun c => .bl ((sL LETTERS).contains c)) ?_
      walk_at "ev"
      refine w_of rfl ⟨rfl, rfl, fun c hc => ?_, ?_, ?_⟩
      · walk_at "ev"
        refine w_g H.g3 ?_
        refine w_eq (d := (sL LETTERS).contains c) (μ := μ) ?_ ⟨rfl, rfl⟩
        simp [cmpV, inV, rd, sL_sM]
      · have h4 := of_decide_eq_true h2
        unfold sizeLn; omega
      · refine w_of (allV_map _ _) (fin_same ?_)
        have e : isNm s = (sL s).all fun c => (sL LETTERS).contains c := by
          have := of_decide_eq_true h1
          have := of_decide_eq_true h2
          unfold isNm
          have a : 0 < (sL s).length := by omega
          have b : (sL s).length < 9 := by omega
          simp [a, b]
        rw [← e]; exact q
    · refine fin_same ?_
      have := of_decide_eq_false h2
      have e : isNm s = false := by
        unfold isNm
        have : ¬ (sL s).length < 9 := by omega
        simp [this]
      rw [e] at q; exact q
  · refine ⟨_, rfl, fun h => (nomatch h), fun _ => fin_same ?_⟩
    have := of_decide_eq_false h1
    have e : isNm s = false := by
      unfold isNm
      have : ¬ 0 < (sL s).length := by omega
      simp [this]
    rw [e] at q; exact q
theorem check_places_ok {n : Nat} (H : HasWeb P) {ns : List Str} (ok : OkNs ns) (q : k .non μ) : WpR (calD P r (n + 2) 13 [nsD ns] μ) k kx := by
  refine d_w (ρ0 := [some (nsD ns), none, none]) H.f13 rfl rfl ?_
  refine s_cons (s_iteF (w_orF ?_))
  walk_at "ev"
  refine ⟨true, rfl, true, rfl, rfl, ?_⟩
  walk_at "ev"
  refine w_eq (d := false) (μ := μ) ?_ ⟨rfl, ?_⟩
  · simp only [cmpV, eqV, nsD, rd, SMD, sm, sms, names_sms, Bool.and_self, if_true]
    have := ok.ne
    cases ns with
    | nil => exact absurd rfl this
    | cons a l => simp [deq, deqs]
  walk_at "ev"
  refine ⟨none, ns.map .str, fun _ h => (by cases h), rfl, ?_⟩
  show WpS (forL _ none _ _ _) _ _ _
  refine for_inv (fun rem ρ μ' => μ' = μ ∧ ∃ pre post, ns = pre ++ post ∧ rem = enuL pre.length (post.map .str) ∧ ∃ x y, ρ = [some (nsD ns), x, y]) ⟨rfl, [], ns, rfl, rfl, none, none, rfl⟩ ?_ ?_
  · rintro d ds ρ μ' ⟨rfl, pre, post, e1, e2, x, y, rfl⟩
    cases post with
    | nil => simp [enuL] at e2
    | cons p post =>
      simp only [List.map_cons, enuL, List.cons.injEq] at e2
      obtain ⟨rfl, rfl⟩ := e2
      have hlen : pre.length < 8 := by
        have := ok.few
        rw [e1] at this
        simp at this; omega
      have hp : p ∉ pre := by
        have := ok.nd
        rw [e1, List.nodup_append] at this
        intro h
        exact this.2.2 p h p (by simp) rfl
      refine for_turn (w_ttup (.inr (.inl rfl)) ?_)
      walk_at "ev"
      refine s_iteF (w_orF ?_)
      walk_at "ev"
      refine w_g H.g0 ?_
      show (D.bl (decide ((8 : Int) ≤ (pre.length : Nat)))) = _ ∧ _
      refine ⟨by simp; omega, ?_⟩
      refine w_orF ?_
      walk_at "ev"
      refine w_calF H.f12 rfl (is_name_s (n := n) H p ?_)
      refine ⟨true, by rw [ok.nm p (by rw [e1]; simp)], rfl, ?_⟩
      walk_at "ev"
      refine ⟨_, rfl, ?_⟩
      walk_at "ev"
      have ec : cut (ns.map D.str) none (some (pre.length : Int)) = pre.map D.str := by
        unfold cut clip
        simp only [List.drop_zero]
        rw [if_pos (by omega), e1]
        simp
      refine w_of (d := D.tup (pre.map .str)) (by show some (D.tup (cut (ns.map D.str) none (some (pre.length : Int)))) = _; rw [ec]) ?_
      refine in_names ⟨by simp [hp], ?_⟩
      walk_at "ev"
      exact ⟨rfl, pre ++ [p], post, by rw [e1]; simp, by simp, _, _, rfl⟩
  · rintro ρ μ' ⟨rfl, _⟩
    walk_at "ev"
    exact fin_same q
theorem sms_tie (n : Nat) (t : Str × Str) : sm (n + 1) (tieD t) = true := by simp [tieD, sm, sms]
theorem is_pair_ok {n : Nat} (H : HasWeb P) {ns : List Str} {a b : Str} (ha : a ∈ ns) (hb : b ∈ ns) (hab : a ≠ b) (q : k (.bl true) μ) : WpR (calD P r (n + 1) 14 [nsD ns, tieD (a, b)] μ) k kx := by
  refine d_w (ρ0 := [some (nsD ns), some (tieD (a, b)), none]) H.f14 rfl rfl ?_
  refine s_cons (s_iteF (w_orF ?_))
  walk_at "ev"
  refine ⟨true, rfl, true, rfl, rfl, ?_⟩
  refine w_orF ?_
  walk_at "ev"
  refine w_eq (d := D.int 2) (μ := μ) (by simp [bi1V, lenV, rd, tieD]) ?_
  walk_at "ev"
  refine w_eq (d := false) (μ := μ) (by simp [cmpV, eqV, rd, SMD, notR]) ⟨rfl, ?_⟩
  walk_at "ev"
  refine w_lcM [a, b] D.str (fun _ => D.bl true) ?_
  walk_at "ev"
  refine w_of rfl ⟨rfl, rfl, fun c hc => ?_, by simp [sizeLn], ?_⟩
  · walk_at "ev"
    exact ⟨true, rfl, rfl, rfl⟩
  refine w_of (d := D.bl true) rfl ⟨true, rfl, rfl, ?_⟩
  walk_at "ev"
  refine w_andT ?_
  walk_at "ev"
  refine w_of (d := D.str a) rfl ?_
  walk_at "ev"
  refine w_of (d := D.str b) rfl ?_
  refine w_eq (d := true) (μ := μ) (by simp [cmpV, eqV, rd, SMD, notR, hab]) ⟨rfl, ?_⟩
  refine w_andT ?_
  walk_at "ev"
  refine w_of (d := D.str a) rfl ?_
  walk_at "ev"
  refine in_names ⟨by simp [ha], ?_⟩
  walk_at "ev"
  refine w_of (d := D.str b) rfl ?_
  walk_at "ev"
  refine in_names ?_
  rw [show decide (b ∈ ns) = true from by simp [hb]]
  exact fin_same q
theorem deq_tie (a b : Str × Str) : deq (tieD a) (tieD b) = (a == b) := by
  obtain ⟨a1, a2⟩ := a
  obtain ⟨b1, b2⟩ := b
  simp only [tieD, deq, deqs, Bool.and_true]
  rfl
theorem are_alike_s {n : Nat} (H : HasWeb P) (a b : Str × Str) (q : k (.bl (alike a b)) μ) : WpR (calD P r (n + 1) 15 [tieD a, tieD b] μ) k kx := by
  refine d_w (ρ0 := [some (tieD a), some (tieD b)]) H.f15 rfl rfl ?_
  walk_at "ev"
  refine w_of (d := tieD (b.2, b.1)) rfl ?_
  walk_at "ev"
  refine w_eq (d := alike a b) (μ := μ) ?_ (fin_same q)
  have e1 := deq_tie b a
  have e2 := deq_tie (b.2, b.1) a
  have s1 : ∀ t, sm 40 (tieD t) = true := sms_tie 39
  have s2 : ∀ t, sm 39 (tieD t) = true := sms_tie 38
  simp only [cmpV, inV]
  show (if sm 40 (tieD a) && sms 40 [tieD b, tieD (b.2, b.1)] then R.ok ([tieD b, tieD (b.2, b.1)].any fun x => deq x (tieD a)) μ else .no) = _
  simp only [sms, s1, Bool.and_self, if_true, List.any_cons, List.any_nil, Bool.or_false, e1, e2, alike]
  congr 1
  have c1 : (b == a) = (a == b) := by rw [Bool.eq_iff_iff, beq_iff_eq, beq_iff_eq]; exact eq_comm
  have c2 : ((b.2, b.1) == a) = (a == (b.2, b.1)) := by rw [Bool.eq_iff_iff, beq_iff_eq, beq_iff_eq]; exact eq_comm
  rw [c1, c2]
theorem cut_pre {α : Type} (f : α → D) (pre post : List α) : cut ((pre ++ post).map f) none (some (pre.length : Int)) = pre.map f := by
  unfold cut clip
  simp only [List.drop_zero]
  rw [if_pos (by omega)]
  simp
theorem check_ties_ok {n : Nat} (H : HasWeb P) {ns : List Str} {ts : List (Str × Str)} (ok : OkTs ns ts) (hl : ts.length ≤ 1000) (q : k .non μ) : WpR (calD P r (n + 2) 16 [nsD ns, tsD ts] μ) k kx := by
  refine d_w (ρ0 := [some (nsD ns), some (tsD ts), none, none, none]) H.f16 rfl rfl ?_
  refine s_cons (s_iteF ?_)
  walk_at "ev"
  refine ⟨true, rfl, true, rfl, rfl, ?_⟩
  walk_at "ev"
  refine ⟨none, ts.map tieD, fun _ h => (by cases h), rfl, ?_⟩
  show WpS (forL _ none _ _ _) _ _ _
  refine for_inv (fun rem ρ μ' => μ' = μ ∧ ∃ pre post, ts = pre ++ post ∧ rem = enuL pre.length (post.map tieD) ∧ ∃ x y, ρ = [some (nsD ns), some (tsD ts), x, y, none]) ⟨rfl, [], ts, rfl, rfl, none, none, rfl⟩ ?_ ?_
  · rintro d ds ρ μ' ⟨rfl, pre, post, e1, e2, x, y, rfl⟩
    cases post with
    | nil => simp [enuL] at e2
    | cons p post =>
      simp only [List.map_cons, enuL, List.cons.injEq] at e2
      obtain ⟨rfl, rfl⟩ := e2
      obtain ⟨h1, h2, h3⟩ := ok.mem p (by rw [e1]; simp)
      refine for_turn (w_ttup (.inr (.inl rfl)) ?_)
      walk_at "ev"
      refine s_iteF (w_orF ?_)
      walk_at "ev"
      refine w_calF H.f14 rfl (is_pair_ok (n := n) H h1 h2 h3 ⟨true, rfl, rfl, ?_⟩)
      walk_at "ev"
      refine w_lcM pre tieD (fun z => .bl (alike p z)) ?_
      walk_at "ev"
      refine ⟨_, rfl, ?_⟩
      walk_at "ev"
      refine w_of (d := D.tup (pre.map tieD)) (by show some (D.tup (cut (ts.map tieD) none (some (pre.length : Int)))) = _; rw [e1, cut_pre]) ?_
      refine w_of rfl ⟨rfl, rfl, fun z hz => ?_, ?_, ?_⟩
      · walk_at "ev"
        exact w_calF H.f15 rfl (are_alike_s (n := n) H p z ⟨rfl, rfl⟩)
      · have : pre.length ≤ 1000 := by rw [e1] at hl; simp at hl; omega
        unfold sizeLn; omega
      · refine w_of (d := D.bl false) ?_ ⟨rfl, ?_⟩
        · show anyV (.lst (pre.map fun z => .bl (alike p z))) = _
          rw [anyV_map]
          have : (pre.any fun z => alike p z) = false := by
            rw [List.any_eq_false]
            intro z hz
            have := ok.pw
            rw [e1, List.pairwise_append] at this
            have := this.2.2 z hz p (by simp)
            simp [this]
          rw [this]
        walk_at "ev"
        exact ⟨rfl, pre ++ [p], post, by rw [e1]; simp, by simp, _, _, rfl⟩
  · rintro ρ μ' ⟨rfl, _⟩
    walk_at "ev"
    exact fin_same q
def kD (p : Str × Str) : D := .key [.str p.1, .str p.2]
theorem deq_kD (a b : Str × Str) : deq (kD a) (kD b) = (a == b) := by
  obtain ⟨a1, a2⟩ := a
  obtain ⟨b1, b2⟩ := b
  simp only [kD, deq, deqs, Bool.and_true]
  rfl
theorem any_kD (p : Str × Str) (l : List (Str × Str)) : ((l.map kD).any fun x => deq x (kD p)) = l.contains p := by
  induction l with
  | nil => simp
  | cons a l ih =>
    rw [List.map_cons, List.any_cons, ih, deq_kD, List.contains_cons]
    congr 1
    rw [Bool.eq_iff_iff, beq_iff_eq, beq_iff_eq]; exact eq_comm
def addK (l : List (Str × Str)) (p : Str × Str) : List (Str × Str) := if l.contains p then l else l ++ [p]
theorem dput_kD (p : Str × Str) (l : List (Str × Str)) : dput (kD p) (.bl true) (l.map kD) (l.map fun _ => .bl true) = ((addK l p).map kD, (addK l p).map fun _ => .bl true) := by
  have hv : ∀ l : List (Str × Str), dputV (kD p) (.bl true) (l.map kD) (l.map fun _ => .bl true) = l.map fun _ => .bl true := by
    intro l
    induction l with
    | nil => rfl
    | cons a l ih =>
      simp only [List.map_cons, dputV, ih]
      split <;> rfl
  unfold dput addK
  rw [any_kD]
  cases h : l.contains p
  · simp
  · simp [hv]
theorem mem_addK (l : List (Str × Str)) (p q : Str × Str) : (addK l p).contains q = (l.contains q || p == q) := by
  have c1 : (p == q) = (q == p) := by rw [Bool.eq_iff_iff, beq_iff_eq, beq_iff_eq]; exact eq_comm
  unfold addK
  cases h : l.contains p
  · simp only [Bool.false_eq_true, if_false, List.contains_append, List.contains_cons, List.contains_nil, Bool.or_false, c1]
  · simp only [if_true]
    by_cases e : p = q
    · subst e; rw [h]; simp
    · have : (p == q) = false := by simpa using e
      rw [this, Bool.or_false]
theorem dget_kD (p : Str × Str) (l : List (Str × Str)) : (dget (kD p) (l.map kD) (l.map fun _ => .bl true)).isSome = l.contains p := by
  induction l with
  | nil => rfl
  | cons a l ih =>
    simp only [List.map_cons, dget, deq_kD, List.contains_cons]
    have c1 : (a == p) = (p == a) := by rw [Bool.eq_iff_iff, beq_iff_eq, beq_iff_eq]; exact eq_comm
    rw [c1]
    by_cases e : p = a
    · subst e; simp
    · have : (p == a) = false := by simpa using e
      simp only [this, Bool.false_eq_true, if_false, ih, Bool.false_or]
/-- the pairs known behind some ties -/
def knownOf : List (Str × Str) → List (Str × Str) → List (Str × Str)
  | [], l => l
  | t :: ts, l => knownOf ts (addK (addK l t) (t.2, t.1))
theorem mem_known (p q : Str) : ∀ (ts l : List (Str × Str)), (knownOf ts l).contains (p, q) = (l.contains (p, q) || tied ts p q)
  | [], l => by simp [knownOf, tied]
  | t :: ts, l => by
    have e1 : (t == (p, q)) = (t.1 == p && t.2 == q) := rfl
    have e2 : ((t.2, t.1) == (p, q)) = (t.1 == q && t.2 == p) := by
      show (t.2 == p && t.1 == q) = _
      rw [Bool.and_comm]
    simp only [knownOf]
    rw [mem_known p q ts, mem_addK, mem_addK, e1, e2]
    simp only [tied, List.any_cons, Bool.or_assoc]
theorem keyOk_kD (p : Str × Str) : keyOk true (kD p) = true := by simp [keyOk, kD]
theorem setV_known {C : Cal} {ν : Mem} {l : List (Str × Str)} {p : Str × Str} {ku : Unit → Mem → Prop} {kx : D → Mem → Prop} (hl : l.length < sizeLn) (h : ku () (ν ++ [.dct true ((addK l p).map kD) ((addK l p).map fun _ => .bl true)])) : WpR (setV P C (ν ++ [.dct true (l.map kD) (l.map fun _ => .bl true)]) (.obj ν.length) (kD p) (.bl true)) ku kx := by
  unfold setV
  simp only [List.getElem?_append_right (Nat.le_refl _), Nat.sub_self, List.getElem?_cons_zero, keyOk_kD, List.length_map, hl, decide_true, Bool.and_self, if_true, dput_kD]
  have e : (ν ++ [Ob.dct true (l.map kD) (l.map fun _ => D.bl true)]).set ν.length (.dct true ((addK l p).map kD) ((addK l p).map fun _ => .bl true)) = ν ++ [.dct true ((addK l p).map kD) ((addK l p).map fun _ => .bl true)] := by
    rw [List.set_append_right _ _ (Nat.le_refl _)]; simp
  show ku () _
  rw [e]; exact h
theorem lims_strs : ∀ l : List Str, lims (l.map D.str) = 0
  | [] => rfl
  | a :: l => by simp [lims, lim, lims_strs l]
theorem lims_ties : ∀ l : List (Str × Str), lims (l.map tieD) = 0
  | [] => rfl
  | a :: l => by simp [lims, lim, lims_ties l, tieD]
theorem lims_sides (ns : List Str) (f : Str → Str → Bool) : ∀ l : List Str, lims (l.map fun p => D.tup ((ns.filter (f p)).map .str)) = 0
  | [] => rfl
  | a :: l => by simp [lims, lim, lims_sides ns f l, lims_strs]
theorem lim_web (ns : List Str) (ts : List (Str × Str)) : lims [nsD ns, tsD ts, sidesD ns ts] = 0 := by
  simp [lims, lim, nsD, tsD, sidesD, lims_strs, lims_ties, lims_sides]
theorem flat_snoc {μ : Mem} {ob : Ob} (h : Flat μ) (h2 : limOb ob = 0) : Flat (μ ++ [ob]) := by
  intro o ho
  rcases List.mem_append.mp ho with ho | ho
  · exact h o ho
  · obtain rfl := List.mem_singleton.mp ho
    exact h2
end
end DI
end

section
set_option linter.all false
set_option maxRecDepth 100000
namespace DI
open PySem
/-- where draws come from, behind fewer than B draws -/
def Tub (B : Nat) (t : Ob) : Prop := ∃ a b c : Int, t = .lst [.int a, .int b, .int c] ∧ 0 ≤ a ∧ a < 2147483179 ∧ 0 ≤ b ∧ b < B ∧ 0 ≤ c
theorem Tub.mono {B B' : Nat} {t : Ob} (h : Tub B t) (hb : B ≤ B') : Tub B' t := by
  obtain ⟨a, b, c, e, h1, h2, h3, h4, h5⟩ := h
  exact ⟨a, b, c, e, h1, h2, h3, by omega, h5⟩
theorem Tub.flat {B : Nat} {t : Ob} (h : Tub B t) : limOb t = 0 := by
  obtain ⟨a, b, c, rfl, _⟩ := h
  simp [limOb, lims, lim]
theorem log2_small {i : Int} (h : i.natAbs < 2 ^ 64) : i.natAbs.log2 < 64 := by
  by_cases h0 : i.natAbs = 0
  · rw [h0]; decide
  · exact (Nat.log2_lt h0).mpr h
theorem mul_ok {μ : Mem} {i j : Int} (hi : i.natAbs < 2 ^ 64) (hj : j.natAbs < 2 ^ 64) : binV μ .mul (.int i) (.int j) = some (.int (i * j)) := by
  have h1 := log2_small hi
  have h2 := log2_small hj
  simp only [binV, rd, mulV]
  rw [if_pos (by omega)]
theorem mod_ok {μ : Mem} {i j : Int} (hj : 0 < j) : binV μ .mod (.int i) (.int j) = some (.int (i % j)) := by
  simp only [binV, rd, intV, if_pos hj, Option.map_some]
section
variable {P : Prog} {C : Cal} {μ : Mem} {k : D → Mem → Prop} {kx : D → Mem → Prop}
theorem w_idxO {i : Nat} {l : List D} {j : Int} {d : D} (h1 : μ[i]? = some (.lst l)) (h2 : ((atPl l.length j).bind fun n => l[n]?) = some d) (h : k d μ) : WpR (idxV P C μ (.obj i) (.int j)) k kx := by
  unfold idxV
  simp only [rd, h1, h2]
  exact h
theorem w_setO {i : Nat} {l : List D} {j : Int} {n : Nat} {d : D} {ku : Unit → Mem → Prop} (h1 : μ[i]? = some (.lst l)) (h2 : atPl l.length j = some n) (h : ku () (μ.set i (.lst (l.set n d)))) : WpR (setV P C μ (.obj i) (.int j) d) ku kx := by
  unfold setV
  simp only [h1, h2]
  exact h
theorem get_set {i : Nat} {x : Ob} (h : i < μ.length) : (μ.set i x)[i]? = some x := by simp [h]
theorem lt_of_get {i : Nat} {x : Ob} (h : μ[i]? = some x) : i < μ.length := (List.getElem?_eq_some_iff.mp h).1
end
structure HasTub (P : Prog) : Prop where
  f8 : P.fns 8 = some f8
  f9 : P.fns 9 = some f9
section
variable {P : Prog} {r : D → Option Str} {k : D → Mem → Prop} {kx : D → Mem → Prop} {μ : Mem}
def NAMES : List Str := ["a", "b", "c", "d", "q", "zz", "abcdefgh", "places", "m", "x"]
theorem NAMES_nm : ∀ s ∈ NAMES, isNm s = true := by decide +kernel
theorem NAMES_nd : NAMES.Nodup := by decide +kernel
theorem w_pop {i : Nat} {l : List D} {j : Int} {n : Nat} {d : D} (h1 : μ[i]? = some (.lst l)) (h2 : atPl l.length j = some n) (h3 : l[n]? = some d) (h : k d (μ.set i (.lst (l.eraseIdx n)))) : WpR (bmV μ .pop (.obj i) [.int j]) k kx := by
  simp only [bmV, popV, h1, h2, h3]
  exact h
theorem w_app {i : Nat} {l : List D} {d : D} (h1 : μ[i]? = some (.lst l)) (h2 : l.length < sizeLn) (h : k .non (μ.set i (.lst (l ++ [d])))) : WpR (bmV μ .append (.obj i) [d]) k kx := by
  simp only [bmV, appV, h1, h2, if_true]
  exact h
theorem set_same {μ : Mem} {i : Nat} {t : Ob} (h : μ[i]? = some t) : μ.set i t = μ := by
  obtain ⟨h1, rfl⟩ := List.getElem?_eq_some_iff.mp h
  exact List.set_getElem_self h1
theorem set_low {i : Nat} {μ ν : Mem} {x : Ob} (h : i < μ.length) : (μ ++ ν).set i x = μ.set i x ++ ν := List.set_append_left _ _ h
theorem get_low {i : Nat} {μ ν : Mem} (h : i < μ.length) : (μ ++ ν)[i]? = μ[i]? := List.getElem?_append_left h
theorem flat_set {μ : Mem} {i : Nat} {t : Ob} (h : Flat μ) (ht : limOb t = 0) : Flat (μ.set i t) := by
  intro o ho
  rcases List.mem_or_eq_of_mem_set ho with ho | rfl
  · exact h o ho
  · exact ht
def duosL : List Str → List (Str × Str)
  | [] => []
  | x :: l => l.map (fun y => (x, y)) ++ duosL l
theorem duosL_len : ∀ l : List Str, (duosL l).length ≤ l.length * l.length
  | [] => by simp [duosL]
  | x :: l => by
    have := duosL_len l
    simp only [duosL, List.length_append, List.length_map, List.length_cons, Nat.add_mul, Nat.mul_add]
    omega
theorem duosL_mem : ∀ {l : List Str} {p : Str × Str}, p ∈ duosL l → p.1 ∈ l ∧ p.2 ∈ l
  | x :: l, p, h => by
    simp only [duosL, List.mem_append, List.mem_map] at h
    rcases h with ⟨y, hy, rfl⟩ | h
    · exact ⟨List.mem_cons_self .., List.mem_cons_of_mem _ hy⟩
    · have := duosL_mem h
      exact ⟨List.mem_cons_of_mem _ this.1, List.mem_cons_of_mem _ this.2⟩
theorem duosL_ne : ∀ {l : List Str}, l.Nodup → ∀ p ∈ duosL l, p.1 ≠ p.2
  | x :: l, nd, p, h => by
    rw [List.nodup_cons] at nd
    simp only [duosL, List.mem_append, List.mem_map] at h
    rcases h with ⟨y, hy, rfl⟩ | h
    · intro e
      have e : x = y := e
      exact nd.1 (e ▸ hy)
    · exact duosL_ne nd.2 p h
theorem alike_iff {a b : Str × Str} : alike a b = true ↔ a = b ∨ a = (b.2, b.1) := by
  unfold alike
  rw [Bool.or_eq_true, beq_iff_eq, beq_iff_eq]
theorem alike_comm (a b : Str × Str) : alike a b = alike b a := by
  rw [Bool.eq_iff_iff, alike_iff, alike_iff]
  obtain ⟨a1, a2⟩ := a; obtain ⟨b1, b2⟩ := b
  simp only [Prod.mk.injEq]
  constructor <;> rintro (⟨h1, h2⟩ | ⟨h1, h2⟩) <;> simp [h1, h2]
theorem alike_swap (a b : Str × Str) : alike (a.2, a.1) b = alike a b := by
  rw [Bool.eq_iff_iff, alike_iff, alike_iff]
  obtain ⟨a1, a2⟩ := a; obtain ⟨b1, b2⟩ := b
  simp only [Prod.mk.injEq]
  constructor <;> rintro (⟨h1, h2⟩ | ⟨h1, h2⟩) <;> simp [h1, h2]
theorem duosL_pw : ∀ {l : List Str}, l.Nodup → (duosL l).Pairwise fun a b => alike a b = false
  | [], _ => List.Pairwise.nil
  | x :: l, nd => by
    rw [List.nodup_cons] at nd
    simp only [duosL, List.pairwise_append]
    refine ⟨?_, duosL_pw nd.2, ?_⟩
    · rw [List.pairwise_map]
      refine List.Pairwise.imp_of_mem ?_ nd.2
      intro y z hy hz hne
      rw [Bool.eq_false_iff]
      intro h
      rcases alike_iff.mp h with h | h
      · simp only [Prod.mk.injEq, true_and] at h; exact hne h
      · simp only [Prod.mk.injEq] at h; exact nd.1 (h.1 ▸ hz)
    · intro a ha b hb
      obtain ⟨y, hy, rfl⟩ := List.mem_map.mp ha
      have hm := duosL_mem hb
      rw [Bool.eq_false_iff]
      intro h
      rcases alike_iff.mp h with h | h
      · rw [← h] at hm; exact nd.1 hm.1
      · have h1 : b.2 = x := by simp only [Prod.mk.injEq] at h; exact h.1.symm
        exact nd.1 (h1 ▸ hm.2)
theorem rng_ok {n : Nat} (h : n < 1000000) : rngV [.int n] = some ((List.range n).map fun (j : Nat) => .int j) := by
  simp only [rngV]; rw [if_pos (by omega)]; simp
structure HasPlan (P : Prog) : Prop extends HasTub P where
  f10 : P.fns 10 = some f10
  f11 : P.fns 11 = some f11
theorem pw_ins {ts : List (Str × Str)} {p : Str × Str} (j : Nat) (h : ts.Pairwise fun a b => alike b a = false) (hp : ∀ t ∈ ts, alike t p = false) : (ts.take j ++ p :: ts.drop j).Pairwise fun a b => alike b a = false := by
  have perm : (ts.take j ++ p :: ts.drop j).Perm (p :: ts) := by
    refine List.perm_middle.trans ?_
    rw [List.take_append_drop]
  rw [perm.pairwise_iff fun {a b} h => by rw [alike_comm]; exact h]
  exact List.Pairwise.cons (fun t ht => hp t ht) h
/-- drawn ties: of the pairs done, either way, no two alike -/
structure Part (done ts : List (Str × Str)) : Prop where
  mem : ∀ t ∈ ts, t ∈ done ∨ (t.2, t.1) ∈ done
  pw : ts.Pairwise fun a b => alike b a = false
theorem Part.alike {done ts : List (Str × Str)} (h : Part done ts) {p : Str × Str} (hp : ∀ q ∈ done, DI.alike q p = false) : ∀ t ∈ ts, DI.alike t p = false := by
  intro t ht
  rcases h.mem t ht with h1 | h1
  · exact hp t h1
  · rw [← alike_swap]; exact hp _ h1
theorem w_idxR {C : Cal} {l : List D} {j : Int} {d : D} (h2 : ((atPl l.length j).bind fun n => l[n]?) = some d) (h : k d μ) : WpR (idxV P C μ (.rol l) (.int j)) k kx := by
  unfold idxV
  simp only [rd, h2]
  exact h
theorem log2_le {i : Int} {n : Nat} (h : i.natAbs < 2 ^ (n + 1)) : i.natAbs.log2 ≤ n := by
  by_cases h0 : i.natAbs = 0
  · rw [h0]; simp
  · have := (Nat.log2_lt h0).mpr h
    omega
theorem tub_w {n : Nat} (H : P.fns 24 = some f24) {zs : List Int} {j : Nat} (hz : zs.length ≤ 63) (hb : ∀ z ∈ zs, z.natAbs.log2 ≤ 1048576) (hj : j ≤ 100) (q : ∀ t, Tub 1 t → k (.obj μ.length) (μ ++ [t])) : WpR (calD P r (n + 1) 24 [.rol (zs.map .int), .int j] μ) k kx := by
  refine d_w (ρ0 := [some (.rol (zs.map .int)), some (.int j), none, none, none]) H rfl rfl ?_
  refine s_cons (s_set ?_)
  refine WpR.mono (k := fun d μ' => ∃ o : Int, d = .int o ∧ μ' = μ ∧ o.natAbs.log2 ≤ 1048576) (kx := F0) ?_ ?_ fun _ _ h => h.elim
  · refine w_ite ?_
    walk_at "ev"
    refine w_eq (d := D.int (zs.length : Nat)) (μ := μ) (by simp [bi1V, lenV, rd]) ?_
    refine w_eq (d := decide ((j : Int) < zs.length)) (μ := μ) rfl ⟨_, rfl, fun h => ?_, fun h => ?_⟩
    · have h := of_decide_eq_true h
      have h2 : j < zs.length := by omega
      walk_at "ev"
      refine w_idxR (d := D.int zs[j]) ?_ ?_
      · simp only [atPl, List.length_map]
        rw [if_pos (by omega), if_pos h]
        simp [h2]
      refine w_eq (d := D.int zs[j]) rfl ⟨_, rfl, rfl, hb _ (List.getElem_mem _)⟩
    · walk_at "ev"
      refine w_of (mul_ok (by omega) (by omega)) ?_
      walk_at "ev"
      refine w_of (d := D.int (71 * (j : Int) + 29)) rfl ⟨_, rfl, rfl, log2_le (n := 1048576) ?_⟩
      have : (2 : Nat) ^ 40 ≤ 2 ^ (1048576 + 1) := Nat.pow_le_pow_right (by omega) (by omega)
      omega
  rintro d μ' ⟨o, rfl, rfl, ho⟩
  refine s_cons ?_
  walk_at "ev"
  refine w_of (mul_ok (by omega) (by omega)) ?_
  refine w_of (d := D.int (40009 + 7001 * (j : Int))) rfl ?_
  walk_at "ev"
  refine ⟨8, rfl, ?_⟩
  refine w_of (d := D.lst ((zs.map D.int).take 8)) ?_ ?_
  · show some (D.lst (cut (zs.map D.int) none (some 8))) = _
    unfold cut clip
    simp only [List.drop_zero]
    rw [if_pos (by omega)]
    have e : (8 : Int).toNat = 8 := rfl
    rw [e]
    by_cases h : 8 ≤ (zs.map D.int).length
    · rw [Nat.min_eq_left h]
    · rw [Nat.min_eq_right (by omega), List.take_of_length_le (Nat.le_refl _), List.take_of_length_le (by omega)]
  refine w_of (d := (none, (zs.map D.int).take 8)) rfl ?_
  show WpS (forL _ none _ _ _) _ _ _
  refine for_inv (fun rem ρ μ2 => μ2 = μ' ∧ ∃ l m x, rem = List.map D.int l ∧ (0 : Int) ≤ m ∧ m < 2147483179 ∧ ρ = [some (.rol (zs.map .int)), some (.int j), some (.int o), some (.int m), x]) ⟨rfl, zs.take 8, 40009 + 7001 * (j : Int), none, by rw [List.map_take], by omega, by omega, rfl⟩ ?_ ?_
  · rintro d ds ρ μ2 ⟨rfl, l, m, x, e1, m0, m1, rfl⟩
    cases l with
    | nil => simp at e1
    | cons z l =>
      simp only [List.map_cons, List.cons.injEq] at e1
      obtain ⟨rfl, rfl⟩ := e1
      refine for_turn (w_tv ?_)
      walk_at "ev"
      refine w_of (mul_ok (by omega) (by omega)) ?_
      walk_at "ev"
      refine w_eq (d := D.int z) rfl ?_
      refine w_of (d := D.int (m * 24007 + z)) rfl ?_
      refine w_eq (d := D.int (m * 24007 + z)) rfl ?_
      walk_at "ev"
      refine w_of (mod_ok (by omega)) ?_
      walk_at "ev"
      exact ⟨rfl, l, _, _, rfl, Int.emod_nonneg _ (by omega), Int.emod_lt_of_pos _ (by omega), rfl⟩
  · rintro ρ μ2 ⟨rfl, l, m, x, e1, m0, m1, rfl⟩
    walk_at "ev"
    refine w_of (d := D.int (o * 8009)) ?_ ?_
    · simp only [binV, rd, mulV]
      have : (8009 : Int).natAbs.log2 < 64 := by decide
      rw [if_pos (by omega)]
    refine w_of (d := D.int (m + o * 8009)) rfl ?_
    refine w_eq (d := D.int (m + o * 8009)) rfl ?_
    walk_at "ev"
    refine w_of (mod_ok (by omega)) ?_
    walk_at "ev"
    generalize hx : (m + o * 8009) % 2147483179 = a
    have a0 : 0 ≤ a := by rw [← hx]; exact Int.emod_nonneg _ (by omega)
    have a1 : a < 2147483179 := by rw [← hx]; exact Int.emod_lt_of_pos _ (by omega)
    refine w_ite (w_or ?_)
    walk_at "ev"
    have last : ∀ c : Int, 0 ≤ c → WpR (fin true μ2 (.obj μ2.length) (μ2 ++ [.lst [.int a, .int 0, .int c]])) k kx := by
      intro c c0
      unfold fin
      rw [if_pos (by simp)]
      exact q _ ⟨a, 0, c, rfl, a0, a1, by omega, by omega, c0⟩
    refine w_eq (d := decide (o < 0)) (μ := μ2) rfl ⟨_, rfl, fun h => ?_, fun h => ?_⟩
    · walk_at "ev"
      refine w_of (d := D.int (10 ^ 18)) rfl ?_
      refine w_eq (d := decide ((10 ^ 18 : Int) ≤ o)) (μ := μ2) rfl ⟨_, rfl, fun h2 => ?_, fun h2 => ?_⟩
      · walk_at "ev"
        refine w_eq (d := D.int (o.natAbs : Int)) rfl ?_
        walk_at "ev"
        exact .inl ⟨_, rfl, last _ (by omega)⟩
      · walk_at "ev"
        exact .inl ⟨_, rfl, last _ (by omega)⟩
    · refine ⟨true, rfl, fun _ => ?_, fun z => nomatch z⟩
      walk_at "ev"
      refine w_eq (d := D.int (o.natAbs : Int)) rfl ?_
      walk_at "ev"
      exact .inl ⟨_, rfl, last _ (by omega)⟩
end
end DI
end

section
set_option linter.all false
set_option maxRecDepth 100000
namespace DI
open PySem
theorem br_t {A B : Prop} (h : A) : ∃ t, D.bl true = .bl t ∧ (t = true → A) ∧ (t = false → B) := ⟨true, rfl, fun _ => h, fun z => absurd z (by decide)⟩
theorem br_tn {A B : Prop} (h : A) : ∃ t, D.bl (!false) = .bl t ∧ (t = true → A) ∧ (t = false → B) := br_t h
theorem tied_eq (ts : List (Str × Str)) (a b : Str) : tied ts a b = (ts.contains (a, b) || ts.contains (b, a)) := by
  induction ts with
  | nil => rfl
  | cons t ts ih =>
    unfold tied at ih ⊢
    have e1 : ((a, b) == t) = (t.1 == a && t.2 == b) := by
      have c : ((a, b) == t) = (t == (a, b)) := by rw [Bool.eq_iff_iff, beq_iff_eq, beq_iff_eq]; exact eq_comm
      rw [c]; rfl
    have e2 : ((b, a) == t) = (t.1 == b && t.2 == a) := by
      have c : ((b, a) == t) = (t == (b, a)) := by rw [Bool.eq_iff_iff, beq_iff_eq, beq_iff_eq]; exact eq_comm
      rw [c]; rfl
    rw [List.any_cons, ih, List.contains_cons, List.contains_cons, e1, e2]
    cases (t.1 == a && t.2 == b) <;> cases (t.1 == b && t.2 == a) <;> simp
structure HasLoops (P : Prog) : Prop where
  f43 : P.fns 43 = some f43
  f59 : P.fns 59 = some f59
structure HasRings (P : Prog) : Prop extends HasPlan P, HasLoops P where
  f32 : P.fns 32 = some f32
section
variable {P : Prog} {r : D → Option Str} {k : D → Mem → Prop} {kx : D → Mem → Prop} {μ : Mem}
end
section
variable {P : Prog} {r : D → Option Str} {k : D → Mem → Prop} {kx : D → Mem → Prop} {μ : Mem}
end
end DI
end

section
set_option linter.all false
set_option maxRecDepth 100000
namespace DI
open PySem
structure HasJudge (P : Prog) : Prop extends HasRings P, HasWeb P where
  f63 : P.fns 63 = some f63
  f52 : P.fns 52 = some f52
  f64 : P.fns 64 = some f64
  f47 : P.fns 47 = some f47
  f65 : P.fns 65 = some f65
  f30 : P.fns 30 = some f30
  g4 : P.gl 4 = some (.int 3)
  web : ∃ sp, P.cls 29 = some ⟨[29], [13], some 18, [(10, 47)], [(8, 30), (9, 31)], sp, [5, 6, 7], false, []⟩
/-- what is asked of places -/
structure HasPl (P : Prog) : Prop where
  f63 : P.fns 63 = some f63
  f52 : P.fns 52 = some f52
  f64 : P.fns 64 = some f64
  f30 : P.fns 30 = some f30
  web : ∃ me sp, P.cls 29 = some ⟨[29], [13], some 18, me, [(8, 30), (9, 31)], sp, [5, 6, 7], false, []⟩
theorem HasJudge.pl {P : Prog} (H : HasJudge P) : HasPl P := ⟨H.f63, H.f52, H.f64, H.f30, let ⟨sp, e⟩ := H.web; ⟨_, sp, e⟩⟩
instance {P : Prog} : CoeOut (HasJudge P) (HasPl P) := ⟨HasJudge.pl⟩
section
variable {P : Prog} {r : D → Option Str} {k : D → Mem → Prop} {kx : D → Mem → Prop} {μ : Mem}
theorem has_place_w {n : Nat} {ns : List Str} {ts : List (Str × Str)} {s : Str} (H : HasPl P) (q : k (.bl (decide (s ∈ ns))) μ) : WpR (calD P r (n + 2) 52 [webD ns ts, .str s] μ) k kx := by
  obtain ⟨me, sp, hw⟩ := H.web
  refine d_w (ρ0 := [some (webD ns ts), some (.str s)]) H.f52 rfl rfl ?_
  walk_at "ev"
  refine w_andT ?_
  walk_at "ev"
  refine ⟨true, rfl, rfl, ?_⟩
  walk_at "ev"
  refine w_attP hw rfl (w_calF H.f30 rfl ?_)
  refine d_w (n := n) (ρ0 := [some (webD ns ts)]) H.f30 rfl rfl ?_
  walk_at "ev"
  refine w_attI hw rfl rfl rfl ?_
  refine fin_same ?_
  exact in_names (fin_same q)
theorem sp_ty {P : Prog} {μ : Mem} {d : D} {i : Nat} {b : Bool} (hi : i ≤ 5) (h : isTys P μ d [.py i] = some b) : isSp d = false := by
  cases d <;> first | rfl | (simp [isTys, isTy, hi, rd, tyNo] at h)
theorem has_place_no {n : Nat} {ns : List Str} {ts : List (Str × Str)} {d : D} (H : HasPl P) (hd : isTys P μ d [.py 0] = some false) (q : k (.bl false) μ) : WpR (calD P r (n + 2) 52 [webD ns ts, d] μ) k kx := by
  have hs := sp_ty (by decide) hd
  refine d_w (ρ0 := [some (webD ns ts), some d]) H.f52 rfl rfl ?_
  walk_at "ev"
  refine w_and ?_
  walk_at "ev"
  refine ⟨false, hd, false, rfl, (fun z => absurd z (by decide)), fun _ => ?_⟩
  exact fin_same q
theorem dup_iff (row : List Str) : (row.zipIdx.any fun p => decide (p.1 ∈ row.take p.2)) = !decide row.Nodup := by
  rw [Bool.eq_iff_iff, List.any_eq_true]
  simp only [Bool.not_eq_true', decide_eq_false_iff_not, decide_eq_true_eq]
  constructor
  · rintro ⟨⟨x, i⟩, hp, hx⟩ nd
    have hp := List.mem_zipIdx_iff_getElem?.mp hp
    obtain ⟨hi, he⟩ := List.getElem?_eq_some_iff.mp hp
    have hx : x ∈ row.take i := hx
    obtain ⟨j, hj, hjx⟩ := List.getElem_of_mem hx
    rw [List.length_take] at hj
    rw [List.getElem_take] at hjx
    exact List.pairwise_iff_getElem.mp nd j i (by omega) hi (by omega) (hjx.trans he.symm)
  · intro h
    have h : ¬ row.Pairwise (· ≠ ·) := h
    rw [List.pairwise_iff_getElem] at h
    simp only [Classical.not_forall] at h
    obtain ⟨i, j, hi, hj, hij, he⟩ := h
    have he : row[i] = row[j] := Classical.not_not.mp he
    refine ⟨(row[j], j), List.mem_zipIdx_iff_getElem?.mpr (List.getElem?_eq_getElem hj), ?_⟩
    show row[j] ∈ row.take j
    rw [← he, List.mem_iff_getElem?]
    exact ⟨i, by rw [List.getElem?_take, if_pos hij, List.getElem?_eq_getElem hi]⟩
theorem are_places_w {n : Nat} {ns row : List Str} {ts : List (Str × Str)} (H : HasPl P) (hr : row.length ≤ 100) (q : k (.bl ((row.all fun s => decide (s ∈ ns)) && decide row.Nodup)) μ) : WpR (calD P r (n + 3) 64 [webD ns ts, nsD row] μ) k kx := by
  refine d_w (ρ0 := [some (webD ns ts), some (nsD row), none, none]) H.f64 rfl rfl ?_
  refine s_cons (s_ite (w_orF ?_))
  walk_at "ev"
  refine ⟨true, rfl, true, rfl, rfl, ?_⟩
  walk_at "ev"
  with_reducible refine w_lcM row D.str (fun s => .bl (decide (s ∈ ns))) ?_
  walk_at "ev"
  refine w_of (d := (none, row.map .str)) rfl ⟨rfl, rfl, fun s hs => ?_, by unfold sizeLn; omega, ?_⟩
  · walk_at "ev"
    exact w_calF H.f52 rfl (has_place_w (n := n) H ⟨rfl, rfl⟩)
  refine w_of (allV_map _ _) ⟨_, rfl, ?_⟩
  refine ⟨_, rfl, fun h1 => ?_, fun h1 => ?_⟩
  · walk_at "ev"
    have e : (row.all fun s => decide (s ∈ ns)) = false := by simpa using h1
    rw [e, Bool.false_and] at q
    exact fin_same q
  · have a1 : (row.all fun s => decide (s ∈ ns)) = true := by simpa using h1
    rw [a1, Bool.true_and] at q
    walk_at "ev"
    with_reducible refine w_lcM row.zipIdx (fun p => .key [.int (p.2 : Nat), .str p.1]) (fun p => .bl (decide (p.1 ∈ row.take p.2))) ?_
    walk_at "ev"
    refine ⟨none, row.map .str, fun _ h => (by cases h), rfl, rfl, enuL_map D.str 0 row, fun p hp => ?_, by simp; unfold sizeLn; omega, ?_⟩
    · refine w_ttup (.inr (.inl rfl)) ?_
      walk_at "ev"
      refine ⟨_, rfl, ?_⟩
      walk_at "ev"
      obtain ⟨x, i⟩ := p
      have hp := List.mem_zipIdx_iff_getElem?.mp hp
      have hi := (List.getElem?_eq_some_iff.mp hp).1
      have ec : cut (row.map D.str) none (some (i : Int)) = (row.take i).map D.str := by
        unfold cut clip
        simp only [List.drop_zero]
        rw [if_pos (by omega)]
        have : min (i : Int).toNat (row.map D.str).length = i := by simp; omega
        rw [this, List.map_take]
      refine w_of (d := D.tup ((row.take i).map .str)) (by show some (D.tup (cut (row.map D.str) none (some (i : Int)))) = _; rw [ec]) ?_
      exact in_names ⟨rfl, rfl⟩
    · refine w_of (anyV_map _ _) ⟨_, rfl, fin_same ?_⟩
      rw [dup_iff, Bool.not_not]; exact q
theorem are_places_no {n : Nat} {ns : List Str} {ts : List (Str × Str)} {d : D} (H : HasPl P) (hd : isTys P μ d [.py 3] = some false) (q : k (.bl false) μ) : WpR (calD P r (n + 3) 64 [webD ns ts, d] μ) k kx := by
  have hs := sp_ty (by decide) hd
  refine d_w (ρ0 := [some (webD ns ts), some d, none, none]) H.f64 rfl rfl ?_
  refine s_cons (s_ite (w_orT ?_))
  walk_at "ev"
  refine ⟨false, hd, false, rfl, rfl, ?_⟩
  with_reducible refine br_t ?_
  walk_at "ev"
  exact fin_same q
end
end DI
end

section
set_option linter.all false
set_option maxRecDepth 100000
namespace DI
open PySem
def Shw (b : Nat) (s : Str) : Prop := (∀ c ∈ sL s, c < 0x110000) ∧ (sL s).length ≤ b
theorem Shw.mono {a b : Nat} {s : Str} (h : Shw a s) (hb : a ≤ b) : Shw b s := ⟨h.1, by have := h.2; omega⟩
theorem sL_cat (s t : Str) : sL (s ++ t) = sL s ++ sL t := by
  show (s.cps ++ t.cps).toList = _
  simp [sL]
theorem Shw.app {a b : Nat} {s t : Str} (h : Shw a s) (g : Shw b t) : Shw (a + b) (s ++ t) := by
  refine ⟨fun c hc => ?_, ?_⟩
  · rw [sL_cat] at hc
    rcases List.mem_append.mp hc with hc | hc
    · exact h.1 c hc
    · exact g.1 c hc
  · rw [sL_cat, List.length_append]
    have := h.2; have := g.2; omega
theorem Shw.okS {b : Nat} {s : Str} (h : Shw b s) (hb : b ≤ sizeLn) : okS s = true := by
  unfold DI.okS
  rw [Bool.and_eq_true]
  refine ⟨?_, by have := h.2; simp; omega⟩
  rw [List.all_eq_true]
  intro c hc
  simpa using h.1 c hc
theorem Shw.of {b : Nat} {s : Str} (h : ((sL s).all (fun c => decide (c < 0x110000)) && decide ((sL s).length ≤ b)) = true) : Shw b s := by
  rw [Bool.and_eq_true] at h
  refine ⟨fun c hc => ?_, of_decide_eq_true h.2⟩
  have := List.all_eq_true.mp h.1 c hc
  simpa using this
theorem shw_from {b : Nat} : ∀ {L : List Str} {k a : Nat} {acc : Str}, Shw a acc → (∀ t ∈ L, Shw b t) → Shw (a + L.length * (b + 2)) (textFrom k acc L)
  | [], k, a, acc, h, _ => h.mono (by simp)
  | t :: L, k, a, acc, h, g => by
    have e : Shw 2 ((if k > 0 then ", " else "" : String) : Str) := by
      split
      · exact .of (by decide +kernel)
      · exact .of (by decide +kernel)
    have := shw_from (k := k + 1) ((h.app e).app (g t (List.mem_cons_self ..))) fun t ht => g t (List.mem_cons_of_mem _ ht)
    refine Shw.mono (s := textFrom (k + 1) _ L) this ?_
    simp only [List.length_cons, Nat.add_mul]; omega
theorem shw_list {b : Nat} {L : List Str} (g : ∀ t ∈ L, Shw b t) : Shw (2 + L.length * (b + 2)) (listText L) := by
  have h : Shw 1 ("[" : Str) := .of (by decide +kernel)
  have h2 : Shw 1 ("]" : Str) := .of (by decide +kernel)
  exact ((shw_from (k := 0) h g).app h2).mono (by omega)
theorem shw_join {b : Nat} : ∀ {L : List Str}, (∀ t ∈ L, Shw b t) → Shw (L.length * (b + 2)) (Str.join ", " L)
  | [], _ => (Shw.of (b := 0) (s := Str.join ", " []) (by decide +kernel)).mono (Nat.zero_le _)
  | [x], g => (g x (List.mem_cons_self ..)).mono (by simp)
  | x :: y :: L, g => by
    have ih := shw_join (L := y :: L) fun t ht => g t (List.mem_cons_of_mem _ ht)
    have e : Shw 2 (", " : Str) := .of (by decide +kernel)
    refine Shw.mono (s := x ++ ", " ++ Str.join ", " (y :: L)) (((g x (List.mem_cons_self ..)).app e).app ih) ?_
    simp only [List.length_cons, Nat.add_mul]; omega
theorem shw_tuple {b : Nat} {L : List Str} (g : ∀ t ∈ L, Shw b t) : Shw (3 + L.length * (b + 2)) (tupleText L) := by
  have h : Shw 1 ("(" : Str) := .of (by decide +kernel)
  have h2 : Shw 2 ((if L.length == 1 then ",)" else ")" : String) : Str) := by
    split
    · exact .of (by decide +kernel)
    · exact .of (by decide +kernel)
  exact ((h.app (shw_join g)).app h2).mono (by omega)
theorem char_lt (c : Char) : c.toNat < 0x110000 := by
  have h := c.valid
  show c.val.toNat < _
  have h : c.val.toNat.isValidChar := h
  rcases h with h | h <;> omega
theorem reprChar_lt {q c : Nat} (h : c < 0x110000) : ∀ x ∈ Builtin.Str.reprChar q c, x < 0x110000 := by
  intro x hx
  have hex : ∀ w, x ∈ (List.replicate (w - ((Nat.toDigits 16 c).map Char.toNat).length) 48 ++ (Nat.toDigits 16 c).map Char.toNat) → x < 0x110000 := by
    intro w hx
    rcases List.mem_append.mp hx with hx | hx
    · have := (List.mem_replicate.mp hx).2; omega
    · obtain ⟨d, _, rfl⟩ := List.mem_map.mp hx
      exact char_lt d
  unfold Builtin.Str.reprChar at hx
  dsimp only at hx
  repeat' split at hx
  all_goals simp only [List.mem_append, List.mem_cons, List.not_mem_nil, or_false, List.mem_singleton] at hx
  all_goals first
    | omega
    | (rcases hx with (hx | hx) | hx
       · omega
       · omega
       · exact hex _ (List.mem_append.mpr hx))
theorem fold_lt {q : Nat} : ∀ {l : List Nat} {acc : Array Nat}, (∀ c ∈ l, c < 0x110000) → (∀ x ∈ acc.toList, x < 0x110000) → ∀ x ∈ (l.foldl (fun out c => out ++ (Builtin.Str.reprChar q c).toArray) acc).toList, x < 0x110000
  | [], acc, _, ha => ha
  | c :: l, acc, hl, ha => by
    simp only [List.foldl_cons]
    refine fold_lt (fun d hd => hl d (List.mem_cons_of_mem _ hd)) fun x hx => ?_
    simp only [Array.toList_append, List.mem_append] at hx
    rcases hx with hx | hx
    · exact ha x hx
    · exact reprChar_lt (hl c (List.mem_cons_self ..)) x hx
theorem shw_repr {b : Nat} {s : Str} (h : Shw b s) : Shw (10 * b + 2) (reprText s) := by
  refine ⟨?_, ?_⟩
  · have hq : reprQuote s < 0x110000 := by unfold reprQuote; split <;> omega
    intro c hc
    unfold reprText at hc
    simp only [sL, Array.toList_push, List.mem_append, List.mem_singleton] at hc
    rcases hc with hc | rfl
    · rw [← Array.foldl_toList] at hc
      exact fold_lt (fun d hd => h.1 d hd) (fun x hx => by
        have : x = reprQuote s := by simpa using hx
        omega) c hc
    · exact hq
  · have e : ∀ s : Str, (sL s).length = s.length := fun s => by simp [sL, Str.length]
    have := StrLaws.reprText_len s fun c hc => by
      have := h.1 c hc
      have e : (16 : Nat) ^ 8 = 4294967296 := by decide
      omega
    rw [e]
    have := h.2
    rw [e] at this
    omega
theorem shw_str {b : Nat} {s : Str} (h : Shw b s) : Shw (10 * b + 2) (toPy (.str s)).shown := shw_repr h
theorem shw_int {i : Nat} (h : i < 300) : Shw 3 (intS i) := by
  have := (by decide +kernel : ∀ i < 300, ((sL (intS (i : Nat))).all (fun c => decide (c < 0x110000)) && decide ((sL (intS (i : Nat))).length ≤ 3)) = true) i h
  exact .of this
theorem shownAll_map : ∀ l : List D, PyData.shownAll (toPys l) = l.map fun d => (toPy d).shown
  | [] => by simp only [toPys, PyData.shownAll, List.map_nil]
  | d :: l => by simp only [toPys, PyData.shownAll, List.map_cons, shownAll_map l]
theorem showableAll_iff : ∀ {l : List D}, (∀ d ∈ l, (toPy d).showable = true) → PyData.showableAll (toPys l) = true
  | [], _ => by simp only [toPys, PyData.showableAll]
  | d :: l, h => by simp only [toPys, PyData.showableAll, h d (List.mem_cons_self ..), showableAll_iff fun e he => h e (List.mem_cons_of_mem _ he), Bool.and_self]
theorem shw_lst {b : Nat} {l : List D} (h : ∀ d ∈ l, Shw b (toPy d).shown) : Shw (2 + l.length * (b + 2)) (toPy (.lst l)).shown := by
  simp only [toPy, PyData.shown, shownAll_map]
  refine (shw_list (b := b) fun t ht => ?_).mono (by simp)
  obtain ⟨d, hd, rfl⟩ := List.mem_map.mp ht
  exact h d hd
theorem shw_tup {b : Nat} {l : List D} (h : ∀ d ∈ l, Shw b (toPy d).shown) : Shw (3 + l.length * (b + 2)) (toPy (.tup l)).shown := by
  simp only [toPy, PyData.shown, shownAll_map]
  refine (shw_tuple (b := b) fun t ht => ?_).mono (by simp)
  obtain ⟨d, hd, rfl⟩ := List.mem_map.mp ht
  exact h d hd
theorem shown_lst {b : Nat} {l : List D} (h1 : sms 20 l = true) (h2 : ∀ d ∈ l, (toPy d).showable = true) (h3 : ∀ d ∈ l, Shw b (toPy d).shown) (hb : 2 + l.length * (b + 2) ≤ sizeLn) : shownD (.lst l) = some (toPy (.lst l)).shown := by
  simp only [shownD]
  rw [if_pos ⟨h1, by simp only [toPy, PyData.showable]; exact showableAll_iff h2, (shw_lst h3).okS hb⟩]
theorem able_int {i : Nat} (h : i < 2 ^ 64) : (toPy (.int i)).showable = true := by
  simp only [toPy, PyData.showable, decide_eq_true_eq]
  by_cases h0 : i = 0
  · subst h0; decide
  · have h1 : (i : Int).natAbs = i := Int.natAbs_natCast i
    rw [h1]
    have := (Nat.log2_lt h0).mpr h
    omega
theorem fmt_int {i : Nat} (h : i < 300) : fmtV (.int i) = some (.str (intS i)) := by
  have h1 : (i : Int).natAbs.log2 < 1920 := by
    have : (i : Int).natAbs = i := Int.natAbs_natCast i
    rw [this]
    by_cases h0 : i = 0
    · subst h0; decide
    · have := (Nat.log2_lt h0 (k := 1920)).mpr (Nat.lt_of_lt_of_le (m := 2 ^ 10) (by omega) (Nat.pow_le_pow_right (by omega) (by omega)))
      omega
  unfold fmtV
  simp only [if_pos (And.intro h1 ((shw_int h).okS (by unfold sizeLn; omega)))]
end DI
end

section
set_option linter.all false
set_option maxRecDepth 100000
namespace DI
open PySem
section
variable {P : Prog} {r : D → Option Str} {k : D → Mem → Prop} {kx : D → Mem → Prop} {μ : Mem}
end
end DI
end

section
set_option linter.all false
set_option maxRecDepth 100000
namespace DI
open PySem
/-- from one to the next -/
def PthD (R : Str → Str → Bool) : List Str → Bool
  | a :: b :: l => R a b && PthD R (b :: l)
  | _ => true
section
variable {R : Str → Str → Bool}
end
theorem tied_sym (ts : List (Str × Str)) (a b : Str) : tied ts a b = tied ts b a := by
  rw [tied_eq, tied_eq, Bool.or_comm]
end DI
end

section
set_option linter.all false
set_option maxRecDepth 100000
namespace DI
open PySem
theorem strsD_map : ∀ l : List Str, strsD (l.map .str) = some l
  | [] => rfl
  | a :: l => by simp only [List.map_cons, strsD, strsD_map l, Option.map_some]
theorem joinL_le (sep : List Nat) : ∀ xs : List (List Nat), (joinL sep xs).length ≤ (xs.map List.length).sum + xs.length * sep.length
  | [] => by simp [joinL]
  | [x] => by simp [joinL]
  | x :: y :: r => by
    have := joinL_le sep (y :: r)
    simp only [joinL, List.length_append, List.map_cons, List.sum_cons, List.length_cons, Nat.add_mul] at this ⊢
    omega
theorem joinL_cons (sep x : List Nat) {xs : List (List Nat)} (h : xs ≠ []) : joinL sep (x :: xs) = x ++ sep ++ joinL sep xs := by
  cases xs with
  | nil => exact absurd rfl h
  | cons y r => rfl
theorem splitC_no {c : Nat} : ∀ {x : List Nat}, c ∉ x → splitC c x = [x]
  | [], _ => rfl
  | a :: x, h => by
    rw [List.mem_cons, not_or] at h
    have h0 : ¬ a = c := fun e => h.1 e.symm
    simp only [splitC, if_neg h0, splitC_no h.2]
theorem splitC_pre {c : Nat} {r : List Nat} : ∀ {x : List Nat}, c ∉ x → splitC c (x ++ [c] ++ r) = x :: splitC c r
  | [], _ => by simp [splitC]
  | a :: x, h => by
    rw [List.mem_cons, not_or] at h
    have ih := splitC_pre (r := r) h.2
    have h0 : ¬ a = c := fun e => h.1 e.symm
    simp only [List.cons_append, splitC, if_neg h0, ih]
theorem splitC_joinL {c : Nat} : ∀ {xs : List (List Nat)}, xs ≠ [] → (∀ x ∈ xs, c ∉ x) → splitC c (joinL [c] xs) = xs
  | [], h, _ => absurd rfl h
  | [x], _, h => splitC_no (h x (List.mem_cons_self ..))
  | x :: y :: r, _, h => by
    show splitC c (x ++ [c] ++ joinL [c] (y :: r)) = _
    rw [splitC_pre (h x (List.mem_cons_self ..)), splitC_joinL (by simp) fun z hz => h z (List.mem_cons_of_mem _ hz)]
abbrev PLACES : Str := "places"
def lineL (ws : List Str) : List Nat := joinL [32] (ws.map sL)
def rowsOf (ns : List Str) (ts : List (Str × Str)) : List (List Str) := (PLACES :: ns) :: ts.map fun t => [t.1, t.2]
def pageS (ns : List Str) (ts : List (Str × Str)) : Str := sM (joinL [10] ((rowsOf ns ts).map lineL))
def reprS (ns : List Str) (ts : List (Str × Str)) : Str := sM (sL "Web of " ++ sL (intS ns.length) ++ sL " places and " ++ sL (intS ts.length) ++ sL " ties")
/-- a text of few small letters -/
def Low (s : Str) : Prop := (sL s).length ≤ 8 ∧ ∀ c ∈ sL s, 97 ≤ c ∧ c ≤ 122
theorem low_nm {s : Str} (h : isNm s = true) : Low s := by
  unfold isNm at h
  simp only [Bool.and_eq_true, decide_eq_true_eq, List.all_eq_true] at h
  refine ⟨by omega, fun c hc => ?_⟩
  have h2 := h.2.2 c hc
  have key : ∀ c ∈ sL LETTERS, 97 ≤ c ∧ c ≤ 122 := by decide +kernel
  exact key c (by simpa using h2)
theorem low_places : Low PLACES := by
  have : ((sL PLACES).all fun c => decide (97 ≤ c) && decide (c ≤ 122)) = true := by decide +kernel
  refine ⟨by decide +kernel, fun c hc => ?_⟩
  have := List.all_eq_true.mp this c hc
  simpa using this
theorem OkNs.low {ns : List Str} (h : OkNs ns) : ∀ s ∈ PLACES :: ns, Low s := by
  intro s hs
  rcases List.mem_cons.mp hs with rfl | hs
  · exact low_places
  · exact low_nm (h.nm s hs)
theorem rows_low {ns : List Str} {ts : List (Str × Str)} (h : OkNs ns) (ht : OkTs ns ts) : ∀ w ∈ rowsOf ns ts, w ≠ [] ∧ w.length ≤ 9 ∧ ∀ s ∈ w, Low s := by
  intro w hw
  rcases List.mem_cons.mp hw with rfl | hw
  · exact ⟨by simp, by have := h.few; simp; omega, h.low⟩
  · obtain ⟨t, ht2, rfl⟩ := List.mem_map.mp hw
    obtain ⟨h1, h2, _⟩ := ht.mem t ht2
    refine ⟨by simp, by simp, fun s hs => ?_⟩
    simp only [List.mem_cons, List.not_mem_nil, or_false] at hs
    rcases hs with rfl | rfl
    · exact low_nm (h.nm _ h1)
    · exact low_nm (h.nm _ h2)
theorem sum_le {α : Type} (f : α → Nat) (b : Nat) : ∀ {l : List α}, (∀ x ∈ l, f x ≤ b) → (l.map f).sum ≤ l.length * b
  | [], _ => by simp
  | x :: l, h => by
    have := sum_le f b fun y hy => h y (List.mem_cons_of_mem _ hy)
    have := h x (List.mem_cons_self ..)
    simp only [List.map_cons, List.sum_cons, List.length_cons, Nat.add_mul]; omega
theorem sizes (ws : List Str) : (ws.map fun x => (sL x).length).sum = ((ws.map sL).map List.length).sum := by simp [Function.comp_def]
theorem low_sum {ws : List Str} (h : ∀ s ∈ ws, Low s) : (ws.map fun x => (sL x).length).sum ≤ ws.length * 8 := sum_le _ 8 fun s hs => (h s hs).1
theorem line_len {ws : List Str} (h : ∀ s ∈ ws, Low s) : (lineL ws).length ≤ ws.length * 9 := by
  have := joinL_le [32] (ws.map sL)
  have h2 := low_sum h
  rw [sizes] at h2
  unfold lineL
  simp only [List.length_map, List.length_cons, List.length_nil] at this
  omega
theorem joinV_strs {s : Str} {ws : List Str} {b c : Nat} (h : ∀ w ∈ ws, (sL w).length ≤ b) (hl : ws.length ≤ 1000) (hs : (sL s).length ≤ c) (hb : b + c ≤ 10000) : joinV s (.lst (ws.map .str)) = some (.str (sM (joinL (sL s) (ws.map sL)))) ∧ joinV s (.tup (ws.map .str)) = some (.str (sM (joinL (sL s) (ws.map sL)))) := by
  have h1 := sum_le (fun x => (sL x).length) b h
  have h2 : ws.length * (sL s).length ≤ ws.length * c := Nat.mul_le_mul_left _ hs
  have h3 : ws.length * (b + c) ≤ 1000 * 10000 := Nat.mul_le_mul hl hb
  rw [Nat.mul_add] at h3
  have h4 : (ws.map fun x => (sL x).length).sum + ws.length * (sL s).length ≤ sizeLn := by unfold sizeLn; omega
  simp only [joinV, strsD_map, Option.bind_some, if_pos h4]
  exact ⟨trivial, trivial⟩
theorem mem_line {ws : List Str} (h : ∀ s ∈ ws, Low s) : ∀ c ∈ lineL ws, c = 32 ∨ (97 ≤ c ∧ c ≤ 122) := by
  unfold lineL
  induction ws with
  | nil => intro c hc; simp [joinL] at hc
  | cons a l ih =>
    cases l with
    | nil => intro c hc; exact .inr ((h a (List.mem_cons_self ..)).2 c hc)
    | cons b l =>
      intro c hc
      have hc : c ∈ sL a ++ [32] ++ joinL [32] ((b :: l).map sL) := hc
      simp only [List.mem_append, List.mem_cons, List.not_mem_nil, or_false] at hc
      rcases hc with (hc | hc) | hc
      · exact .inr ((h a (List.mem_cons_self ..)).2 c hc)
      · exact .inl hc
      · exact ih (fun s hs => h s (List.mem_cons_of_mem _ hs)) c hc
theorem no10 {ws : List Str} (h : ∀ s ∈ ws, Low s) : 10 ∉ lineL ws := fun hc => by
  have := mem_line h 10 hc
  omega
theorem no32 {s : Str} (h : Low s) : 32 ∉ sL s := fun hc => by
  have := h.2 32 hc
  omega
theorem page_split {ns : List Str} {ts : List (Str × Str)} (h : OkNs ns) (ht : OkTs ns ts) : splitC 10 (sL (pageS ns ts)) = (rowsOf ns ts).map lineL := by
  unfold pageS
  rw [sL_sM]
  refine splitC_joinL (by simp [rowsOf]) fun x hx => ?_
  obtain ⟨w, hw, rfl⟩ := List.mem_map.mp hx
  exact no10 (rows_low h ht w hw).2.2
theorem line_split {ws : List Str} (h : ∀ s ∈ ws, Low s) (hn : ws ≠ []) : splitC 32 (lineL ws) = ws.map sL := by
  refine splitC_joinL (by simpa using hn) fun x hx => ?_
  obtain ⟨w, hw, rfl⟩ := List.mem_map.mp hx
  exact no32 (h w hw)
theorem page_len {ns : List Str} {ts : List (Str × Str)} (h : OkNs ns) (ht : OkTs ns ts) : (sL (pageS ns ts)).length ≤ (ts.length + 1) * 82 := by
  unfold pageS
  rw [sL_sM]
  have h1 := joinL_le [10] ((rowsOf ns ts).map lineL)
  have h2 := sum_le (fun w => (lineL w).length) 81 (l := rowsOf ns ts) fun w hw => by
    have := line_len (rows_low h ht w hw).2.2
    have := (rows_low h ht w hw).2.1
    omega
  simp only [List.map_map, List.length_map, List.length_cons, List.length_nil] at h1
  have e : ((rowsOf ns ts).map (List.length ∘ lineL)).sum = ((rowsOf ns ts).map fun w => (lineL w).length).sum := rfl
  have e2 : (rowsOf ns ts).length = ts.length + 1 := by simp [rowsOf]
  rw [e] at h1
  rw [e2] at h1 h2
  omega
structure HasSay (P : Prog) : Prop extends HasWeb P where
  f19 : P.fns 19 = some f19
  f20 : P.fns 20 = some f20
  f21 : P.fns 21 = some f21
  f27 : P.fns 27 = some f27
  f28 : P.fns 28 = some f28
  f29 : P.fns 29 = some f29
  f30 : P.fns 30 = some f30
  f31 : P.fns 31 = some f31
  web : P.cls 29 = some ⟨[29], [13], some 18, [], [(8, 30), (9, 31)], [(1, 27), (2, 28), (3, 29)], [5, 6, 7], false, []⟩
structure HasTell (P : Prog) : Prop extends HasPlan P, HasSay P where
  f22 : P.fns 22 = some f22
  f23 : P.fns 23 = some f23
instance {P : Prog} : CoeOut (HasTell P) (HasSay P) := ⟨HasTell.toHasSay⟩
section
variable {P : Prog} {r : D → Option Str} {k : D → Mem → Prop} {kx : D → Mem → Prop} {μ : Mem}
theorem w_strI {C : Cal} {c f : Nat} {ns : List Nat} {vs : List D} (h1 : specOf P c 2 = some f) (h : WpR (calF P C f [.ins c ns vs] [] [] μ) (fun d μ => ∃ s, d = .str s ∧ k (.str s) μ) kx) : WpR (bi1V P C r μ .str (.ins c ns vs)) k kx := by
  simp only [bi1V, strV, rd, h1]
  refine w_bind (h.mono (fun d μ h => ?_) fun _ _ h => h)
  obtain ⟨n, rfl, h⟩ := h
  exact h
theorem w_reprI {C : Cal} {c f : Nat} {ns : List Nat} {vs : List D} (h1 : specOf P c 3 = some f) (h : WpR (calF P C f [.ins c ns vs] [] [] μ) (fun d μ => ∃ s, d = .str s ∧ k (.str s) μ) kx) : WpR (bi1V P C r μ .repr (.ins c ns vs)) k kx := by
  simp only [bi1V, reprV, rd, h1]
  refine w_bind (h.mono (fun d μ h => ?_) fun _ _ h => h)
  obtain ⟨n, rfl, h⟩ := h
  exact h
theorem page_join {ns : List Str} {ts : List (Str × Str)} (h : OkNs ns) (ht : OkTs ns ts) (hl : ts.length ≤ 200) : joinV "\n" (.lst (((rowsOf ns ts).map fun w => sM (lineL w)).map .str)) = some (.str (pageS ns ts)) := by
  have := (joinV_strs (s := "\n") (ws := (rowsOf ns ts).map fun w => sM (lineL w)) (b := 81) (c := 1) (fun w hw => ?_) (by simp [rowsOf]; omega) (by decide +kernel) (by omega)).1
  · rw [this]
    have e : sL "\n" = [10] := by decide +kernel
    simp only [e, List.map_map, pageS, Function.comp_def, sL_sM]
  · obtain ⟨x, hx, rfl⟩ := List.mem_map.mp hw
    rw [sL_sM]
    have := line_len (rows_low h ht x hx).2.2
    have := (rows_low h ht x hx).2.1
    omega
theorem low_shw {s : Str} (h : Low s) : Shw 8 s := ⟨fun c hc => by have := h.2 c hc; omega, h.1⟩
end
end DI
end

section
set_option linter.all false
set_option maxRecDepth 100000
namespace DI
open PySem
section
variable {P : Prog} {r : D → Option Str} {k : D → Mem → Prop} {kx : D → Mem → Prop} {μ : Mem}
abbrev El := Str ⊕ D
def encE : El → D
  | .inl s => .str s
  | .inr d => d
def okE (ns : List Str) : El → Bool
  | .inl s => decide (s ∈ ns)
  | .inr _ => false
def Odd (P : Prog) (μ : Mem) (es : List El) : Prop := ∀ d, Sum.inr d ∈ es → isTys P μ d [.py 0] = some false
/-- a value that is told of by both: no tuple, or a tuple of texts and others -/
inductive Kind (P : Prog) (μ : Mem) : D → Prop
  | no {d : D} (h : isTys P μ d [.py 3] = some false) : Kind P μ d
  | mix {es : List El} (h : Odd P μ es) (hl : es.length ≤ 100) : Kind P μ (.tup (es.map encE))
theorem Kind.sp {P : Prog} {μ : Mem} {d : D} (h : Kind P μ d) : isSp d = false := by
  cases h with
  | no h => exact sp_ty (by decide) h
  | mix h hl => rfl
theorem Odd.sp {P : Prog} {μ : Mem} {es : List El} (ho : Odd P μ es) {e : El} (hm : e ∈ es) : isSp (encE e) = false := by
  cases e with
  | inl s => rfl
  | inr d => exact sp_ty (by decide) (ho d hm)
theorem are_places_mix {n : Nat} {ns : List Str} {ts : List (Str × Str)} {es : List El} (H : HasPl P) (ho : Odd P μ es) (hl : es.length ≤ 100) (he : es.all (okE ns) = false) (q : k (.bl false) μ) : WpR (calD P r (n + 3) 64 [webD ns ts, .tup (es.map encE)] μ) k kx := by
  refine d_w (ρ0 := [some (webD ns ts), some (.tup (es.map encE)), none, none]) H.f64 rfl rfl ?_
  refine s_cons (s_ite (w_orF ?_))
  walk_at "ev"
  refine ⟨true, rfl, true, rfl, rfl, ?_⟩
  walk_at "ev"
  with_reducible refine w_lcM es encE (fun e => .bl (okE ns e)) ?_
  walk_at "ev"
  refine w_of (d := (none, es.map encE)) rfl ⟨rfl, rfl, fun e hm => ?_, by unfold sizeLn; omega, ?_⟩
  · have hs := ho.sp hm
    walk_at "ev"
    cases e with
    | inl s => exact w_calF H.f52 rfl (has_place_w (n := n) H ⟨rfl, rfl⟩)
    | inr d => exact w_calF H.f52 rfl (has_place_no (n := n) H (ho d hm) ⟨rfl, rfl⟩)
  refine w_of (allV_map _ _) ⟨_, rfl, ?_⟩
  rw [he]
  with_reducible refine br_tn ?_
  walk_at "ev"
  exact fin_same q
end
end DI
end

section
set_option Elab.async false
set_option linter.all false
set_option maxRecDepth 100000
namespace DI
open PySem
/-- what an exception of this class, with this field, is told as: class, its base, field, word -/
def XTELL : List (Nat × Nat × Nat × Str) := [(8, 26, 0, "NotAWeb"), (1, 26, 0, "InvalidTie"), (2, 26, 0, "InvalidRing"), (17, 27, 0, "UnknownPlace"), (0, 26, 0, "InvalidText"), (10, 26, 1, "InvalidPlaces"), (11, 26, 1, "InvalidTies"), (12, 26, 1, "InvalidMarking"), (23, 28, 3, "TooMany"), (20, 28, 2, "Odd")]
section
variable {P : Prog} {C : Cal} {r : D → Option Str} {ρ : Env} {μ : Mem} {k : D → Mem → Prop} {kx : D → Mem → Prop} {kn : Env → Mem → Prop} {kr : D → Mem → Prop} {ks : D → Env → Mem → Prop}
/-- the classes of errors, as _law_outcome asks for them -/
structure HasOut (P : Prog) : Prop where
  f33 : P.fns 33 = some f33
  exs : P.exs = true
  xcls : ∀ q ∈ XTELL, ∃ k, P.cls q.1 = some k ∧ k.sup = [q.1, q.2.1] ∧ k.xfl = [q.2.2.1]
end
end DI
end

section
set_option linter.all false
set_option maxRecDepth 100000
namespace DI
open PySem
/-- a lot: different places of the web -/
def lotB (ns row : List Str) : Bool := (row.all fun s => decide (s ∈ ns)) && decide row.Nodup
/-- what are_places makes of a value -/
inductive LotV (P : Prog) (ns : List Str) (μ : Mem) : D → Bool → Prop
  | str {row : List Str} (h : row.length ≤ 100) : LotV P ns μ (nsD row) (lotB ns row)
  | no {d : D} (h : isTys P μ d [.py 3] = some false) : LotV P ns μ d false
  | mix {es : List El} (h : Odd P μ es) (hl : es.length ≤ 100) (he : es.all (okE ns) = false) : LotV P ns μ (.tup (es.map encE)) false
theorem LotV.sp {P : Prog} {ns : List Str} {μ : Mem} {d : D} {b : Bool} (h : LotV P ns μ d b) : isSp d = false := by
  cases h with
  | str h => rfl
  | no h => exact sp_ty (by decide) h
  | mix h hl he => rfl
section
variable {P : Prog} {r : D → Option Str} {k : D → Mem → Prop} {kx : D → Mem → Prop} {μ : Mem}
theorem LotV.run {n : Nat} {ns : List Str} {ts : List (Str × Str)} {d : D} {b : Bool} (H : HasPl P) (h : LotV P ns μ d b) (q : k (.bl b) μ) : WpR (calD P r (n + 3) 64 [webD ns ts, d] μ) k kx := by
  cases h with
  | str h => exact are_places_w H h q
  | no h => exact are_places_no H h q
  | mix h hl he => exact are_places_mix H h hl he q
end
end DI
end

section
set_option Elab.async false
set_option linter.all false
set_option maxRecDepth 100000
namespace DI
open PySem
/-- μ's store with the tub at i drawn from, further objects behind -/
def Stk (μ : Mem) (i : Nat) (M : Mem) (B : Nat) : Prop := ∃ t ν, M = μ.set i t ++ ν ∧ Tub B t ∧ Flat ν
theorem flat_app {μ ν : Mem} (h : Flat μ) (g : Flat ν) : Flat (μ ++ ν) := fun o ho => (List.mem_append.mp ho).elim (h o) (g o)
section
variable {μ M : Mem} {i B : Nat}
theorem Stk.start {t : Ob} (ht : μ[i]? = some t) (tub : Tub B t) : Stk μ i μ B := ⟨t, [], by rw [set_same ht, List.append_nil], tub, fun _ h => nomatch h⟩
theorem Stk.mono (s : Stk μ i M B) {B' : Nat} (h : B ≤ B') : Stk μ i M B' := by
  obtain ⟨t, ν, e, tub, f⟩ := s
  exact ⟨t, ν, e, tub.mono h, f⟩
theorem Stk.get (s : Stk μ i M B) (hi : i < μ.length) : ∃ t, M[i]? = some t ∧ Tub B t := by
  obtain ⟨t, ν, rfl, tub, f⟩ := s
  exact ⟨t, by rw [get_low (by simpa using hi)]; exact get_set hi, tub⟩
theorem Stk.draw (s : Stk μ i M B) (hi : i < μ.length) {t' : Ob} {B' : Nat} (tub : Tub B' t') : Stk μ i (M.set i t') B' := by
  obtain ⟨t, ν, rfl, _, f⟩ := s
  exact ⟨t', ν, by rw [set_low (by simpa using hi), List.set_set], tub, f⟩
theorem Stk.flat (s : Stk μ i M B) (h : Flat μ) : Flat M := by
  obtain ⟨t, ν, rfl, tub, f⟩ := s
  exact flat_app (flat_set h tub.flat) f
theorem Stk.len (s : Stk μ i M B) : μ.length ≤ M.length := by
  obtain ⟨t, ν, rfl, tub, f⟩ := s
  simp
theorem Stk.lay (s : Stk μ i M B) {ob : Ob} (h : limOb ob = 0) : Stk μ i (M ++ [ob]) B := by
  obtain ⟨t, ν, rfl, tub, f⟩ := s
  exact ⟨t, ν ++ [ob], by rw [List.append_assoc], tub, flat_app f (fun o ho => by rw [List.mem_singleton.mp ho]; exact h)⟩
theorem Stk.put (s : Stk μ i M B) {j : Nat} (hj : μ.length ≤ j) {ob : Ob} (h : limOb ob = 0) : Stk μ i (M.set j ob) B := by
  obtain ⟨t, ν, rfl, tub, f⟩ := s
  refine ⟨t, ν.set (j - μ.length) ob, ?_, tub, flat_set f h⟩
  rw [List.set_append_right _ _ (by simpa using hj)]
  simp
theorem Stk.fin {k : D → Mem → Prop} {kx : D → Mem → Prop} (s : Stk μ i M B) (h : Flat μ) {b : Bool} (q : ∀ t', limOb t' = 0 → k (.bl b) (μ.set i t')) : WpR (fin false μ (.bl b) M) k kx := by
  obtain ⟨t, ν, rfl, tub, f⟩ := s
  exact fin_cut rfl (by simp) (flat_set h tub.flat) rfl rfl (q t tub.flat)
end
end DI
end

section
set_option Elab.async false
set_option linter.all false
set_option maxRecDepth 100000
namespace DI
open PySem
structure Sh (h b : Nat) (d : D) : Prop where
  sm : ∀ m, h ≤ m → DI.sm m d = true
  ab : (toPy d).showable = true
  sw : Shw b (toPy d).shown
theorem Sh.mono {h b h' b' : Nat} {d : D} (s : Sh h b d) (hh : h ≤ h' := by omega) (hb : b ≤ b' := by omega) : Sh h' b' d := ⟨fun m g => s.sm m (by omega), s.ab, s.sw.mono hb⟩
theorem sms_ge {h : Nat} {l : List D} {m : Nat} (g : h ≤ m) (s : ∀ d ∈ l, ∀ m, h ≤ m → sm m d = true) : sms m l = true := sms_mem m fun d hd => s d hd m g
theorem Sh.tup {h b : Nat} {l : List D} (s : ∀ d ∈ l, Sh h b d) : Sh (h + 1) (3 + l.length * (b + 2)) (.tup l) := by
  refine ⟨fun m g => ?_, ?_, shw_tup fun d hd => (s d hd).sw⟩
  · cases m with
    | zero => omega
    | succ m => exact sms_ge (h := h) (by omega) fun d hd => (s d hd).sm
  · simp only [toPy, PyData.showable]
    exact showableAll_iff fun d hd => (s d hd).ab
theorem Sh.lst {h b : Nat} {l : List D} (s : ∀ d ∈ l, Sh h b d) : Sh (h + 1) (2 + l.length * (b + 2)) (.lst l) := by
  refine ⟨fun m g => ?_, ?_, shw_lst fun d hd => (s d hd).sw⟩
  · cases m with
    | zero => omega
    | succ m => exact sms_ge (h := h) (by omega) fun d hd => (s d hd).sm
  · simp only [toPy, PyData.showable]
    exact showableAll_iff fun d hd => (s d hd).ab
theorem Sh.str {b : Nat} {s : Str} (h : Shw b s) : Sh 0 (10 * b + 2) (.str s) := ⟨fun m _ => sm_str m s, by simp only [toPy, PyData.showable], shw_str h⟩
theorem Sh.nm {s : Str} (h : isNm s = true) : Sh 0 82 (.str s) := .str (low_shw (low_nm h))
theorem Sh.wd {s : Str} (h : ((sL s).all (fun c => decide (c < 0x110000)) && decide ((sL s).length ≤ 20)) = true) : Sh 0 202 (.str s) := .str (.of h)
theorem Sh.non : Sh 0 10 .non := ⟨fun m _ => by cases m <;> rfl, by simp only [toPy, PyData.showable], .of (by decide +kernel)⟩
theorem Sh.bl (b : Bool) : Sh 0 10 (.bl b) := ⟨fun m _ => by cases m <;> rfl, by simp only [toPy, PyData.showable], by cases b <;> exact .of (by decide +kernel)⟩
theorem Sh.int {i : Nat} (h : i < 300) : Sh 0 3 (.int i) := ⟨fun m _ => by cases m <;> rfl, able_int (by omega), shw_int h⟩
theorem Sh.ns {ns : List Str} (h : ∀ s ∈ ns, isNm s = true) (few : ns.length ≤ 8) : Sh 1 1000 (nsD ns) := (Sh.tup (h := 0) (b := 82) fun d hd => by obtain ⟨s, hs, rfl⟩ := List.mem_map.mp hd; exact .nm (h s hs)).mono (by omega) (by simp only [List.length_map]; omega)
theorem Sh.tie {t : Str × Str} (h1 : isNm t.1 = true) (h2 : isNm t.2 = true) : Sh 1 171 (tieD t) := (Sh.tup (h := 0) (b := 82) fun d hd => by
  simp only [List.mem_cons, List.not_mem_nil, or_false] at hd
  rcases hd with rfl | rfl
  · exact .nm h1
  · exact .nm h2).mono (by omega) (by simp)
theorem Sh.ts {ns : List Str} {ts : List (Str × Str)} (ok : OkNs ns) (okt : OkTs ns ts) (hl : ts.length ≤ 200) : Sh 2 40000 (tsD ts) := (Sh.tup (h := 1) (b := 171) fun d hd => by
  obtain ⟨t, ht, rfl⟩ := List.mem_map.mp hd
  obtain ⟨h1, h2, _⟩ := okt.mem t ht
  exact .tie (ok.nm _ h1) (ok.nm _ h2)).mono (by omega) (by simp only [List.length_map]; omega)
theorem Sh.two {h b : Nat} {x y : D} (hx : Sh h b x) (hy : Sh h b y) : ∀ d ∈ [x, y], Sh h b d := fun d hd => by
  simp only [List.mem_cons, List.not_mem_nil, or_false] at hd
  rcases hd with rfl | rfl
  · exact hx
  · exact hy
theorem Sh.shown {h b : Nat} {l : List D} (s : ∀ d ∈ l, Sh h b d) (hh : h ≤ 20 := by omega) (hb : 2 + l.length * (b + 2) ≤ sizeLn := by simp [sizeLn]) : shownD (.lst l) = some (toPy (.lst l)).shown :=
  shown_lst (sms_ge hh fun d hd => (s d hd).sm) (fun d hd => (s d hd).ab) (fun d hd => (s d hd).sw) hb
section
variable {P : Prog} {k : D → Mem → Prop} {kx : D → Mem → Prop} {μ : Mem}
end
end DI
end

section
set_option Elab.async false
set_option linter.all false
set_option maxRecDepth 100000
namespace DI
open PySem
/-- what is_pair makes of a value -/
inductive PairV (P : Prog) (ns : List Str) (μ : Mem) : D → Bool → Prop
  | tie (a b : Str) : PairV P ns μ (tieD (a, b)) (decide (a ≠ b) && (decide (a ∈ ns) && decide (b ∈ ns)))
  | no {d : D} (h : isTys P μ d [.py 3] = some false) : PairV P ns μ d false
  | len {l : List D} (h : l.length ≠ 2) (few : l.length ≤ 1000000) : PairV P ns μ (.tup l) false
  | mix {x y : D} {f g : Bool} (hx : isTys P μ x [.py 0] = some f) (hy : isTys P μ y [.py 0] = some g) (h : (f && g) = false) : PairV P ns μ (.tup [x, y]) false
theorem PairV.sp {P : Prog} {ns : List Str} {μ : Mem} {d : D} {b : Bool} (h : PairV P ns μ d b) : isSp d = false := by
  cases h with
  | tie a b => rfl
  | no h => exact sp_ty (by decide) h
  | len h => rfl
  | mix hx hy h => rfl
section
variable {P : Prog} {r : D → Option Str} {k : D → Mem → Prop} {kx : D → Mem → Prop} {μ : Mem}
end
end DI
end

section
set_option Elab.async false
set_option linter.all false
set_option maxRecDepth 100000
namespace DI
open PySem
section
variable {P : Prog} {r : D → Option Str} {k : D → Mem → Prop} {kx : D → Mem → Prop} {μ : Mem}
/-- what is_name makes of a value -/
inductive NameV (P : Prog) (μ : Mem) : D → Bool → Prop
  | str (s : Str) : NameV P μ (.str s) (isNm s)
  | no {d : D} (h : isTys P μ d [.py 0] = some false) : NameV P μ d false
theorem NameV.sp {d : D} {b : Bool} (h : NameV P μ d b) : isSp d = false := by
  cases h with
  | str s => rfl
  | no h => exact sp_ty (by decide) h
/-- the first place that is refused: at its index, or none where there are no places at all -/
inductive BadP (P : Prog) (μ : Mem) : D → D → Prop
  | none {d : D} (h : isTys P μ d [.py 3] = some false) : BadP P μ d .non
  | nil : BadP P μ (.tup []) .non
  | at {pre : List Str} {d : D} {rest : List D} (nm : ∀ s ∈ pre, isNm s = true) (nd : pre.Nodup) (few : pre.length ≤ 8) (sp : isSp d = false)
      (h : pre.length = 8 ∨ (pre.length < 8 ∧ NameV P μ d false) ∨ (pre.length < 8 ∧ ∃ s, d = .str s ∧ s ∈ pre)) : BadP P μ (.tup (pre.map .str ++ d :: rest)) (.int pre.length)
theorem BadP.sp {d v : D} (h : BadP P μ d v) : isSp d = false := by
  cases h with
  | none h => exact sp_ty (by decide) h
  | nil => rfl
  | «at» => rfl
end
end DI
end

section
set_option Elab.async false
set_option linter.all false
set_option maxRecDepth 100000
namespace DI
open PySem
section
variable {P : Prog} {r : D → Option Str} {k : D → Mem → Prop} {kx : D → Mem → Prop} {μ : Mem}
/-- the first tie that is refused -/
inductive BadT (P : Prog) (ns : List Str) (μ : Mem) : D → D → Prop
  | none {d : D} (h : isTys P μ d [.py 3] = some false) : BadT P ns μ d .non
  | at {pre : List (Str × Str)} {d : D} {rest : List D} (ok : OkTs ns pre) (few : pre.length ≤ 900)
      (h : PairV P ns μ d false ∨ ∃ t : Str × Str, d = tieD t ∧ t.1 ∈ ns ∧ t.2 ∈ ns ∧ t.1 ≠ t.2 ∧ (pre.any fun z => alike t z) = true) : BadT P ns μ (.tup (pre.map tieD ++ d :: rest)) (.int pre.length)
theorem BadT.sp {ns : List Str} {d v : D} (h : BadT P ns μ d v) : isSp d = false := by
  cases h with
  | none h => exact sp_ty (by decide) h
  | «at» => rfl
end
end DI
end

section
set_option Elab.async false
set_option linter.all false
set_option maxRecDepth 100000
namespace DI
open PySem
theorem splitC_ne (c : Nat) : ∀ l : List Nat, splitC c l ≠ []
  | [] => by simp [splitC]
  | x :: l => by
    unfold splitC
    split
    · simp
    · split <;> simp
theorem join_split (c : Nat) : ∀ l : List Nat, joinL [c] (splitC c l) = l
  | [] => by simp [splitC, joinL]
  | x :: l => by
    have ih := join_split c l
    have ne := splitC_ne c l
    unfold splitC
    split
    · rename_i h
      subst h
      rw [joinL_cons [x] [] ne, ih]; simp
    · split
      · rename_i w r e
        rw [e] at ih
        cases r with
        | nil => simp only [joinL] at ih ⊢; rw [ih]
        | cons v r =>
          rw [joinL_cons _ _ (by simp)] at ih ⊢
          rw [← ih]; simp
      · rename_i e
        exact absurd e ne
theorem split_lens (c : Nat) : ∀ l : List Nat, (splitC c l).length ≤ l.length + 1 ∧ ∀ r ∈ splitC c l, r.length ≤ l.length
  | [] => by simp [splitC]
  | x :: l => by
    obtain ⟨h1, h2⟩ := split_lens c l
    unfold splitC
    split
    · refine ⟨by simp; omega, fun r hr => ?_⟩
      rcases List.mem_cons.mp hr with rfl | hr
      · simp
      · have := h2 r hr; simp; omega
    · split
      · rename_i w r e
        rw [e] at h1 h2
        refine ⟨by simp at h1 ⊢; omega, fun v hv => ?_⟩
        rcases List.mem_cons.mp hv with rfl | hv
        · have := h2 w (by simp); simp; omega
        · have := h2 v (by simp [hv]); simp; omega
      · simp
def rowsT (t : Str) : List (List Str) := (splitC 10 (sL t)).map fun r => (splitC 32 r).map sM
theorem rowsT_ne (t : Str) : ∃ h names rest, rowsT t = (h :: names) :: rest := by
  unfold rowsT
  have e1 := splitC_ne 10 (sL t)
  cases h1 : splitC 10 (sL t) with
  | nil => exact absurd h1 e1
  | cons r rs =>
    have e2 := splitC_ne 32 r
    cases h2 : splitC 32 r with
    | nil => exact absurd h2 e2
    | cons w ws => exact ⟨sM w, ws.map sM, rs.map fun r => (splitC 32 r).map sM, by simp only [List.map_cons, h2]⟩
theorem okt_len {ns : List Str} {ts : List (Str × Str)} (few : ns.length ≤ 8) (ok : OkTs ns ts) : ts.length ≤ 64 := by
  have nd : ts.Nodup := ok.pw.imp fun {a b} h e => by
    subst e
    simp [alike] at h
  have sub : ts ⊆ ns.flatMap fun a => ns.map fun b => (a, b) := fun t ht => by
    obtain ⟨h1, h2, _⟩ := ok.mem t ht
    exact List.mem_flatMap.mpr ⟨t.1, h1, List.mem_map.mpr ⟨t.2, h2, rfl⟩⟩
  have e : (ns.flatMap fun a => ns.map fun b => (a, b)).length = ns.length * ns.length := by
    rw [List.length_flatMap]
    have : ∀ l : List Str, (l.map fun a => (ns.map fun b => (a, b)).length).sum = l.length * ns.length := fun l => by
      induction l with
      | nil => simp
      | cons x l ih =>
        simp only [List.length_map] at ih ⊢
        simp only [List.map_cons, List.sum_cons, List.length_cons, Nat.add_mul]; omega
    exact this ns
  have := List.Nodup.length_le_of_subset nd sub
  rw [e] at this
  exact Nat.le_trans this (Nat.mul_le_mul few few)
theorem names_from : ∀ (post pre : List Str), (∀ s ∈ pre, isNm s = true) → pre.Nodup → pre.length ≤ 8 → pre ++ post ≠ [] → OkNs (pre ++ post) ∨ ∃ v, lim v = 0 ∧ ∀ (P : Prog) (μ : Mem), BadP P μ (.tup ((pre ++ post).map .str)) v
  | [], pre, nm, nd, few, ne => .inl (by rw [List.append_nil] at ne ⊢; exact ⟨ne, few, nm, nd⟩)
  | s :: post, pre, nm, nd, few, ne => by
    have bad : (pre.length = 8 ∨ (pre.length < 8 ∧ isNm s = false) ∨ (pre.length < 8 ∧ s ∈ pre)) → ∃ v, lim v = 0 ∧ ∀ (P : Prog) (μ : Mem), BadP P μ (.tup ((pre ++ s :: post).map .str)) v := fun h => by
      refine ⟨.int pre.length, rfl, fun P μ => ?_⟩
      rw [List.map_append, List.map_cons]
      refine .at nm nd few rfl ?_
      rcases h with h | ⟨h1, h2⟩ | ⟨h1, h2⟩
      · exact .inl h
      · refine .inr (.inl ⟨h1, ?_⟩)
        rw [← h2]; exact .str s
      · exact .inr (.inr ⟨h1, s, rfl, h2⟩)
    by_cases h8 : pre.length = 8
    · exact .inr (bad (.inl h8))
    · have h8' : pre.length < 8 := by omega
      by_cases hn : isNm s = true
      · by_cases hm : s ∈ pre
        · exact .inr (bad (.inr (.inr ⟨h8', hm⟩)))
        · have := names_from post (pre ++ [s]) (fun x hx => by
            rcases List.mem_append.mp hx with hx | hx
            · exact nm x hx
            · rw [List.mem_singleton.mp hx]; exact hn) (by
            rw [List.nodup_append]
            exact ⟨nd, by simp, fun a ha b hb e => by rw [List.mem_singleton.mp hb] at e; subst e; exact hm ha⟩) (by simp; omega) (by simp)
          rw [List.append_assoc] at this
          exact this
      · exact .inr (bad (.inr (.inl ⟨h8', by simpa using hn⟩)))
theorem names_or (ws : List Str) : OkNs ws ∨ ∃ v, lim v = 0 ∧ ∀ (P : Prog) (μ : Mem), BadP P μ (.tup (ws.map .str)) v := by
  cases ws with
  | nil => exact .inr ⟨.non, rfl, fun P μ => .nil⟩
  | cons s ws => exact names_from (s :: ws) [] (fun _ h => nomatch h) .nil (by simp) (by simp)
def twoL (t : Str × Str) : List Str := [t.1, t.2]
theorem ties_from {ns : List Str} (few : ns.length ≤ 8) : ∀ (post : List (List Str)) (pre : List (Str × Str)), OkTs ns pre → (∀ r ∈ post, r.length ≤ 1000000) → (∃ ts, pre.map twoL ++ post = ts.map twoL ∧ OkTs ns ts) ∨ ∃ v, lim v = 0 ∧ ∀ (P : Prog) (μ : Mem), BadT P ns μ (.tup ((pre.map twoL ++ post).map nsD)) v
  | [], pre, ok, _ => .inl ⟨pre, by simp, ok⟩
  | r :: post, pre, ok, hl => by
    have bad : ∀ {d : D}, nsD r = d → (∀ (P : Prog) (μ : Mem), PairV P ns μ d false ∨ ∃ t : Str × Str, d = tieD t ∧ t.1 ∈ ns ∧ t.2 ∈ ns ∧ t.1 ≠ t.2 ∧ (pre.any fun z => alike t z) = true) → ∃ v, lim v = 0 ∧ ∀ (P : Prog) (μ : Mem), BadT P ns μ (.tup ((pre.map twoL ++ r :: post).map nsD)) v := fun {d} e h => by
      refine ⟨.int pre.length, rfl, fun P μ => ?_⟩
      have e2 : (pre.map twoL ++ r :: post).map nsD = pre.map tieD ++ d :: post.map nsD := by
        rw [List.map_append, List.map_cons, List.map_map, e]; rfl
      rw [e2]
      exact .at ok (by have := okt_len few ok; omega) (h P μ)
    by_cases h2 : r.length = 2
    · obtain ⟨x, y, rfl⟩ : ∃ x y, r = [x, y] := by
        match r, h2 with
        | [x, y], _ => exact ⟨x, y, rfl⟩
      by_cases hp : (decide (x ≠ y) && (decide (x ∈ ns) && decide (y ∈ ns))) = true
      · simp only [Bool.and_eq_true, decide_eq_true_eq] at hp
        obtain ⟨h1, h2, h3⟩ := hp
        by_cases ha : (pre.any fun z => alike (x, y) z) = true
        · exact .inr (bad (d := tieD (x, y)) rfl fun P μ => .inr ⟨(x, y), rfl, h2, h3, h1, ha⟩)
        · have ok2 : OkTs ns (pre ++ [(x, y)]) := by
            refine ⟨fun t ht => ?_, List.pairwise_append.mpr ⟨ok.pw, List.pairwise_singleton .., fun a ha' b hb => ?_⟩⟩
            · rcases List.mem_append.mp ht with ht | ht
              · exact ok.mem t ht
              · rw [List.mem_singleton.mp ht]; exact ⟨h2, h3, h1⟩
            · rw [List.mem_singleton.mp hb]
              have := List.any_eq_false.mp (by simpa using ha) a ha'
              simpa using this
          have := ties_from few post (pre ++ [(x, y)]) ok2 fun r hr => hl r (by simp [hr])
          rw [List.map_append, List.append_assoc] at this
          exact this
      · refine .inr (bad (d := tieD (x, y)) rfl fun P μ => .inl ?_)
        have z : PairV P ns μ (tieD (x, y)) (decide (x ≠ y) && (decide (x ∈ ns) && decide (y ∈ ns))) := .tie x y
        have e : (decide (x ≠ y) && (decide (x ∈ ns) && decide (y ∈ ns))) = false := by simpa using hp
        rw [e] at z; exact z
    · exact .inr (bad (d := .tup (r.map .str)) rfl fun P μ => .inl (.len (by simpa using h2) (by simpa using hl r (by simp))))
theorem ties_or {ns : List Str} (few : ns.length ≤ 8) (rows : List (List Str)) (hl : ∀ r ∈ rows, r.length ≤ 1000000) : (∃ ts, rows = ts.map twoL ∧ OkTs ns ts) ∨ ∃ v, lim v = 0 ∧ ∀ (P : Prog) (μ : Mem), BadT P ns μ (.tup (rows.map nsD)) v :=
  ties_from few rows [] ⟨fun _ h => (nomatch h), .nil⟩ hl
/-- a text that tells a web, or how it is refused -/
inductive TextV (t : Str) : Option (List Str × List (Str × Str)) → Prop
  | ok {ns : List Str} {ts : List (Str × Str)} (on : OkNs ns) (ot : OkTs ns ts) (e : rowsT t = rowsOf ns ts) : TextV t (some (ns, ts))
  | head {h : Str} {names : List Str} {rest : List (List Str)} (e : rowsT t = (h :: names) :: rest) (hh : h ≠ PLACES) : TextV t none
  | names {names : List Str} {rest : List (List Str)} {v : D} (e : rowsT t = (PLACES :: names) :: rest) (no : ¬ OkNs names) (hz : lim v = 0) (h : ∀ (P : Prog) (μ : Mem), BadP P μ (.tup (names.map .str)) v) : TextV t none
  | ties {names : List Str} {rest : List (List Str)} {v : D} (e : rowsT t = (PLACES :: names) :: rest) (on : OkNs names) (no : ¬ ∃ ts, rest = ts.map twoL ∧ OkTs names ts) (hz : lim v = 0) (h : ∀ (P : Prog) (μ : Mem), BadT P names μ (.tup (rest.map nsD)) v) : TextV t none
theorem text_or (t : Str) (hl : (sL t).length ≤ 900000) : ∃ o, TextV t o := by
  obtain ⟨h, names, rest, e⟩ := rowsT_ne t
  by_cases hh : h = PLACES
  · subst hh
    have rl : ∀ r ∈ rest, r.length ≤ 1000000 := fun r hr => by
      have hm : r ∈ rowsT t := by rw [e]; simp [hr]
      obtain ⟨x, hx, rfl⟩ := List.mem_map.mp hm
      have h1 := (split_lens 10 (sL t)).2 x hx
      have h2 := (split_lens 32 x).1
      rw [List.length_map]; omega
    by_cases on : OkNs names
    · rcases Classical.em (∃ ts, rest = ts.map twoL ∧ OkTs names ts) with ht | ht
      · obtain ⟨ts, rfl, ot⟩ := ht
        exact ⟨_, .ok on ot e⟩
      · rcases ties_or on.few rest rl with h | ⟨v, hz, h⟩
        · exact absurd h ht
        · exact ⟨_, .ties e on ht hz h⟩
    · rcases names_or names with h | ⟨v, hz, h⟩
      · exact absurd h on
      · exact ⟨_, .names e on hz h⟩
  · exact ⟨_, .head e hh⟩
end DI
end

section
set_option Elab.async false
set_option linter.all false
set_option maxRecDepth 100000
namespace DI
open PySem
structure Has05 (P : Prog) : Prop extends HasPlan P, HasSay P, HasOut P where
  f24 : P.fns 24 = some f24
  f32 : P.fns 32 = some f32
  f38 : P.fns 38 = some f38
  f39 : P.fns 39 = some f39
  f40 : P.fns 40 = some f40
  f41 : P.fns 41 = some f41
  f42 : P.fns 42 = some f42
  l9 : P.lams 9 = some l9
  l10 : P.lams 10 = some l10
  l11 : P.lams 11 = some l11
theorem e32 : sL (" " : Str) = [32] := by decide +kernel
theorem e10 : sL ("\n" : Str) = [10] := by decide +kernel
section
variable {P : Prog} {r : D → Option Str} {k : D → Mem → Prop} {kx : D → Mem → Prop} {μ : Mem}
def cutS (c : Nat) (s : Str) : List Str := (splitC c (sL s)).map sM
set_option maxHeartbeats 800000 in
end
end DI
end

section
set_option Elab.async false
set_option linter.all false
set_option maxRecDepth 100000
namespace DI
open PySem
section
variable {P : Prog} {r : D → Option Str} {k : D → Mem → Prop} {kx : D → Mem → Prop} {μ : Mem}
theorem TextV.no {t : Str} (hl : (sL t).length ≤ 900000) (h : ∀ ns ts, OkNs ns → rowsT t ≠ rowsOf ns ts) : TextV t none := by
  obtain ⟨o, z⟩ := text_or t hl
  cases o with
  | none => exact z
  | some p => cases z with
    | ok on ot e => exact absurd e (h _ _ on)
theorem Has05.str (H : Has05 P) : specOf P 29 2 = some 28 := by unfold specOf; rw [H.web]; rfl
set_option maxHeartbeats 800000 in
end
end DI
end

section
set_option linter.all false
set_option maxRecDepth 100000
namespace DI
open PySem
section
variable {P : Prog} {C : Cal} {r : D → Option Str} {ρ : Env} {μ : Mem}
theorem i_v {i : Nat} {d : D} (e : readV ρ i = some d) : evE P C r (.v i) ρ μ = .ok d μ := by simp only [evE, e, R.of]
theorem i_vs {i : Nat} {d : D} (e : getE ρ i = some d) (hs : isSp d = false) : evE P C r (.v i) ρ μ = .ok d μ := i_v (by unfold readV; rw [e]; simp [hs])
theorem i_k {d : D} : evE P C r (.k d) ρ μ = .ok d μ := by simp only [evE]
theorem i_bin {o : Bop} {a b : E} {x y z : D} (ha : evE P C r a ρ μ = .ok x μ) (hb : evE P C r b ρ μ = .ok y μ) (h : binV μ o x y = some z) : evE P C r (.bin o a b) ρ μ = .ok z μ := by
  simp only [evE, ha, hb, R.bind_ok, h, R.of]
theorem i_cmp {o : Cop} {a b : E} {x y : D} {c : Bool} (ha : evE P C r a ρ μ = .ok x μ) (hb : evE P C r b ρ μ = .ok y μ) (h : cmpV P C μ o x y = .ok c μ) : evE P C r (.cmp o a b) ρ μ = .ok (.bl c) μ := by
  simp only [evE, ha, hb, R.bind_ok, h, nox]
theorem i_not {a : E} {b : Bool} (ha : evE P C r a ρ μ = .ok (.bl b) μ) : evE P C r (.not a) ρ μ = .ok (.bl (!b)) μ := by simp only [evE, ha, R.bind_ok, tru, Option.map, R.of]
theorem i_and1 {a : E} {d : D} (ha : evE P C r a ρ μ = .ok d μ) : evE P C r (.and (.c a .n)) ρ μ = .ok d μ := by simp only [evE, evAnd, ha]
theorem i_and {a b : E} {es : Es} {x y : Bool} (ha : evE P C r a ρ μ = .ok (.bl x) μ) (hb : x = true → evE P C r (.and (.c b es)) ρ μ = .ok (.bl y) μ) : evE P C r (.and (.c a (.c b es))) ρ μ = .ok (.bl (x && y)) μ := by
  cases x with
  | true =>
    have h := hb rfl
    simp only [evE] at h
    simp only [evE, evAnd, ha, R.bind_ok, tru, h, Bool.true_and]
  | false => simp only [evE, evAnd, ha, R.bind_ok, tru, Bool.false_and]
theorem i_or1 {a : E} {d : D} (ha : evE P C r a ρ μ = .ok d μ) : evE P C r (.or (.c a .n)) ρ μ = .ok d μ := by simp only [evE, evOr, ha]
theorem i_or {a b : E} {es : Es} {x y : Bool} (ha : evE P C r a ρ μ = .ok (.bl x) μ) (hb : x = false → evE P C r (.or (.c b es)) ρ μ = .ok (.bl y) μ) : evE P C r (.or (.c a (.c b es))) ρ μ = .ok (.bl (x || y)) μ := by
  cases x with
  | false =>
    have h := hb rfl
    simp only [evE] at h
    simp only [evE, evOr, ha, R.bind_ok, tru, h, Bool.false_or]
  | true => simp only [evE, evOr, ha, R.bind_ok, tru, Bool.true_or]
theorem j_n : evEs P C r .n ρ μ = .ok [] μ := by simp only [evEs]
theorem j_c {e : E} {es : Es} {d : D} {l : List D} (he : evE P C r e ρ μ = .ok d μ) (hs : evEs P C r es ρ μ = .ok l μ) : evEs P C r (.c e es) ρ μ = .ok (d :: l) μ := by simp only [evEs, he, hs, R.bind_ok]
theorem x_n : evX P C r .n ρ μ = .ok [] μ := by simp only [evX]
theorem x_c {e : E} {es : Es} {d : D} {l : List D} (hp : isStV e = false) (he : evE P C r e ρ μ = .ok d μ) (hs : evX P C r es ρ μ = .ok l μ) : evX P C r (.c e es) ρ μ = .ok (d :: l) μ := by
  have : evX P C r (.c e es) ρ μ = (evE P C r e ρ μ).bind fun d μ => (evX P C r es ρ μ).bind fun l μ => .ok (d :: l) μ := by
    cases e <;> first | (simp only [evX]; done) | (simp [isStV] at hp)
  rw [this, he, R.bind_ok, hs, R.bind_ok]
theorem i_tup {es : Es} {l : List D} (h : evX P C r es ρ μ = .ok l μ) (hz : l.length ≤ sizeLn) : evE P C r (.tup es) ρ μ = .ok (.tup l) μ := by simp only [evE, h, R.bind_ok, if_pos hz]
theorem i_lst {es : Es} {l : List D} (h : evX P C r es ρ μ = .ok l μ) (hz : l.length ≤ sizeLn) : evE P C r (.lst es) ρ μ = .ok (.lst l) μ := by simp only [evE, h, R.bind_ok, if_pos hz]
theorem sz_ (n : Nat) {l : List D} (h : l.length = n) (hn : n ≤ 1000) : l.length ≤ sizeLn := by unfold sizeLn; omega
theorem calF_ok {f : Nat} {F : Fn} {args kv ds : List D} {ps : List Nat} {d : D} (hf : P.fns f = some F) (hb : bindK F.np F.dflt args ps kv = some ds) (h : C.fn f ds μ = .ok d μ) : calF P C f args ps kv μ = .ok d μ := by
  unfold calF; rw [hf]; simp only [hb]; exact h
theorem i_cal {f : Nat} {F : Fn} {es : Es} {ds : List D} {d : D} (hes : evEs P C r es ρ μ = .ok ds μ) (hf : P.fns f = some F) (hb : bindK F.np F.dflt ds [] [] = some ds) (h : C.fn f ds μ = .ok d μ) : evE P C r (.cal f es) ρ μ = .ok d μ := by
  simp only [evE, hes, R.bind_ok]; exact calF_ok hf hb h
def CFld (P : Prog) (c f : Nat) : Prop := ∃ k, P.cls c = some k ∧ k.props.lookup f = none ∧ k.flds.contains f = true
def COwn (P : Prog) (c : Nat) : Prop := ∃ k, P.cls c = some k ∧ k.init.isSome = true ∧ k.sup = [c]
theorem i_attF {o : E} {c f : Nat} {ns : List Nat} {vs : List D} {d : D} (ho : evE P C r o ρ μ = .ok (.ins c ns vs) μ) (hc : CFld P c f) (h : fget f ns vs = some d) : evE P C r (.att o f) ρ μ = .ok d μ := by
  obtain ⟨k, h1, h2, h3⟩ := hc
  simp only [evE, ho, R.bind_ok, attV, rd, h1, h2, h3, if_true, h, R.of, nox]
theorem i_isiW {e : E} {ns : List Nat} {vs : List D} {c : Nat} (he : evE P C r e ρ μ = .ok (.ins c ns vs) μ) (hc : COwn P c) : evE P C r (.isi e [.own c]) ρ μ = .ok (.bl true) μ := by
  obtain ⟨k, h1, h2, h3⟩ := hc
  have e1 : isTys P μ (.ins c ns vs) [.own c] = some true := by simp [isTys, isTy, rd, h1, h2, h3]
  simp only [evE, he, R.bind_ok, e1, Option.map, R.of]
theorem m3 (b : Bool) : (match some b with | some true => some true | some false => some false | none => none) = some b := by cases b <;> rfl
theorem i_bi {b : Bi} {e : E} {x y : D} (he : evE P C r e ρ μ = .ok x μ) (h : bi1V P C r μ b x = .ok y μ) : evE P C r (.bi b (.c e .n)) ρ μ = .ok y μ := by
  simp only [evE, evEs, he, R.bind_ok, biV, h, nox]
theorem b_lenT {l : List D} : bi1V P C r μ .len (.tup l) = .ok (.int (l.length : Nat)) μ := rfl
theorem b_lenL {l : List D} : bi1V P C r μ .len (.lst l) = .ok (.int (l.length : Nat)) μ := rfl
theorem b_lenTm {α : Type} {f : α → D} {l : List α} : bi1V P C r μ .len (.tup (l.map f)) = .ok (.int (l.length : Nat)) μ := by rw [b_lenT, List.length_map]
theorem b_lenLm {α : Type} {f : α → D} {l : List α} : bi1V P C r μ .len (.lst (l.map f)) = .ok (.int (l.length : Nat)) μ := by rw [b_lenL, List.length_map]
theorem b_tupL {l : List D} : bi1V P C r μ .tuple (.lst l) = .ok (.tup l) μ := rfl
/-- .. of a depth -/
structure GoodN {α : Type} (k : Nat) (f : α → D) : Prop where
  sm : ∀ n, k ≤ n → ∀ x, sm n (f x) = true
  eq : ∀ x y, deq (f x) (f y) = true ↔ x = y
theorem n_str : GoodN 0 D.str := ⟨fun n _ x => sm_str n x, fun x y => by simp⟩
theorem n_nat : GoodN 0 fun n : Nat => D.int n := ⟨fun n _ x => sm_int n x, fun x y => by simp; omega⟩
theorem n_bl : GoodN 0 D.bl := ⟨fun n _ x => sm_bl n x, fun x y => by simp [deq]⟩
theorem sms_mapN {α : Type} {f : α → D} {n : Nat} (h : ∀ x, sm n (f x) = true) : ∀ l : List α, sms n (l.map f) = true
  | [] => by simp [sms]
  | a :: l => by simp only [List.map_cons, sms, h a, sms_mapN h l, Bool.and_self]
theorem deqs_mapN {α : Type} {f : α → D} (h : ∀ x y, deq (f x) (f y) = true ↔ x = y) : ∀ l m : List α, deqs (l.map f) (m.map f) = true ↔ l = m
  | [], [] => by simp [deqs]
  | [], b :: m => by simp [deqs]
  | a :: l, [] => by simp [deqs]
  | a :: l, b :: m => by simp only [List.map_cons, deqs, Bool.and_eq_true, h, deqs_mapN h l m, List.cons.injEq]
theorem n_tup {α : Type} {f : α → D} {k : Nat} (h : GoodN k f) : GoodN (k + 1) fun l : List α => D.tup (l.map f) := ⟨fun n hn x => by
  obtain ⟨m, rfl⟩ : ∃ m, n = m + 1 := ⟨n - 1, by omega⟩
  simp only [sm]; exact sms_mapN (h.sm m (by omega)) x, fun x y => by simp only [deq]; exact deqs_mapN h.eq x y⟩
theorem n_lst {α : Type} {f : α → D} {k : Nat} (h : GoodN k f) : GoodN (k + 1) fun l : List α => D.lst (l.map f) := ⟨fun n hn x => by
  obtain ⟨m, rfl⟩ : ∃ m, n = m + 1 := ⟨n - 1, by omega⟩
  simp only [sm]; exact sms_mapN (h.sm m (by omega)) x, fun x y => by simp only [deq]; exact deqs_mapN h.eq x y⟩
theorem n_pair {α β : Type} {f : α → D} {g : β → D} {j k : Nat} (h : GoodN j f) (h2 : GoodN k g) : GoodN (max j k + 1) fun p : α × β => D.tup [f p.1, g p.2] := ⟨fun n hn x => by
  obtain ⟨m, rfl⟩ : ∃ m, n = m + 1 := ⟨n - 1, by omega⟩
  simp only [sm, sms, h.sm m (by omega), h2.sm m (by omega), Bool.and_self], fun x y => by simp only [deq, deqs, Bool.and_eq_true, h.eq, h2.eq, and_true]; exact Prod.ext_iff.symm⟩
theorem rd_tupm {α : Type} {f : α → D} {k : Nat} (h : GoodN k f) (x : α) : rd μ (f x) = f x := by
  have := h.sm (max k 20) (by omega) x
  cases e : f x <;> first | rfl | (rw [e] at this; simp [sm] at this)
theorem c_eq {α : Type} [DecidableEq α] {f : α → D} {k : Nat} (h : GoodN k f) (hk : k ≤ 40) (x y : α) : cmpV P C μ .eq (f x) (f y) = .ok (decide (x = y)) μ := by
  have e : deq (f x) (f y) = decide (x = y) := by
    rw [Bool.eq_iff_iff, h.eq]; simp
  simp only [cmpV, eqV, rd_tupm h, SMD, h.sm 40 hk, Bool.and_self, if_true, e]
theorem c_ne {α : Type} [DecidableEq α] {f : α → D} {k : Nat} (h : GoodN k f) (hk : k ≤ 40) (x y : α) : cmpV P C μ .ne (f x) (f y) = .ok (!decide (x = y)) μ := by
  have e : deq (f x) (f y) = decide (x = y) := by
    rw [Bool.eq_iff_iff, h.eq]; simp
  simp only [cmpV, eqV, rd_tupm h, SMD, h.sm 40 hk, Bool.and_self, if_true, e, notR]
theorem c_le (a b : Nat) : cmpV P C μ .le (.int a) (.int b) = .ok (decide (a ≤ b)) μ := by simp [cmpV]
theorem o_addN (a b : Nat) : binV μ .add (.int a) (.int b) = some (.int (a + b : Nat)) := by simp [binV, rd, addV]
theorem o_addL {l m : List D} (h : l.length + m.length ≤ sizeLn) : binV μ .add (.lst l) (.lst m) = some (.lst (l ++ m)) := by simp only [binV, rd, addV, if_pos h]
theorem o_addLm {α : Type} {f : α → D} {l m : List α} (h : l.length + m.length ≤ sizeLn) : binV μ .add (.lst (l.map f)) (.lst (m.map f)) = some (.lst ((l ++ m).map f)) := by rw [o_addL (by simpa using h), List.map_append]
theorem i_ix0 {o e : E} {d y : D} {k : Nat} {l : List D} (ho : evE P C r o ρ μ = .ok d μ) (hd : d = .tup l ∨ d = .lst l ∨ d = .key l ∨ d = .rol l) (he : evE P C r e ρ μ = .ok (.int (k : Nat)) μ) (h : l[k]? = some y) : evE P C r (.idx o e) ρ μ = .ok y μ := by
  have hk : k < l.length := (List.getElem?_eq_some_iff.mp h).1
  have e1 : atPl l.length (k : Int) = some k := by
    unfold atPl; rw [if_pos (by omega), if_pos (by omega)]; simp
  rcases hd with rfl | rfl | rfl | rfl <;> simp only [evE, ho, he, R.bind_ok, idxV, rd, e1, Option.bind_some, h, R.of]
theorem get_map {α : Type} {f : α → D} {l : List α} {k : Nat} (dflt : α) (h : k < l.length) : (l.map f)[k]? = some (f (l.getD k dflt)) := by
  rw [List.getElem?_map, List.getD_eq_getElem?_getD, List.getElem?_eq_getElem h]; rfl
theorem cut_hi {α : Type} (l : List α) (k : Nat) : cut l none (some (k : Int)) = l.take k := by
  simp [cut, clip, List.take_eq_take_iff]
theorem cut_lo {α : Type} (l : List α) (k : Nat) : cut l (some (k : Int)) none = l.drop k := by
  simp only [cut, clip]
  rw [if_pos (by omega), List.take_length]
  by_cases h : k ≤ l.length
  · congr 1; simp; omega
  · rw [List.drop_of_length_le (by simp; omega), List.drop_of_length_le (by omega)]
theorem i_slT {a : E} {l : List D} {lo hi : O} {x y : Option Int} (ha : evE P C r a ρ μ = .ok (.tup l) μ) (h1 : evO P C r lo ρ μ = .ok x μ) (h2 : evO P C r hi ρ μ = .ok y μ) : evE P C r (.sli a lo hi) ρ μ = .ok (.tup (cut l x y)) μ := by simp only [evE, ha, h1, h2, R.bind_ok, rd, sliD, R.of]
theorem h_n : evO P C r .n ρ μ = .ok none μ := by simp only [evO]
theorem h_s {e : E} {i : Int} (he : evE P C r e ρ μ = .ok (.int i) μ) : evO P C r (.s e) ρ μ = .ok (some i) μ := by simp only [evO, he, R.bind_ok]
theorem i_takeT {α : Type} {f : α → D} {a e : E} {l : List α} {k : Nat} (ha : evE P C r a ρ μ = .ok (.tup (l.map f)) μ) (he : evE P C r e ρ μ = .ok (.int (k : Nat)) μ) : evE P C r (.sli a .n (.s e)) ρ μ = .ok (.tup ((l.take k).map f)) μ := by rw [i_slT ha h_n (h_s he), cut_hi, List.map_take]
theorem i_dropT {α : Type} {f : α → D} {a e : E} {l : List α} {k : Nat} (ha : evE P C r a ρ μ = .ok (.tup (l.map f)) μ) (he : evE P C r e ρ μ = .ok (.int (k : Nat)) μ) : evE P C r (.sli a (.s e) .n) ρ μ = .ok (.tup ((l.drop k).map f)) μ := by rw [i_slT ha (h_s he) h_n, cut_lo, List.map_drop]
theorem i_revT {α : Type} {f : α → D} {a : E} {l : List α} (ha : evE P C r a ρ μ = .ok (.tup (l.map f)) μ) : evE P C r (.rev a false) ρ μ = .ok (.tup (l.reverse.map f)) μ := by
  simp only [evE, ha, R.bind_ok, revV, rd, cutR, R.of, Bool.false_eq_true, if_false, List.map_reverse]
theorem t_T {e : E} {l : List D} (he : evE P C r e ρ μ = .ok (.tup l) μ) : evIt P C r (.e e) ρ μ = .ok (none, l) μ := by simp only [evIt, he, R.bind_ok, itV, R.of]
theorem t_L {e : E} {l : List D} (he : evE P C r e ρ μ = .ok (.lst l) μ) : evIt P C r (.e e) ρ μ = .ok (none, l) μ := by simp only [evIt, he, R.bind_ok, itV, R.of]
theorem rng1 {k : Nat} (h : k < 1000000) : rngV [.int (k : Nat)] = some ((List.range k).map fun i => .int (i : Nat)) := by
  simp only [rngV]; rw [if_pos (by omega)]; simp
theorem t_r {es : Es} {l m : List D} (h1 : evEs P C r es ρ μ = .ok l μ) (h2 : rngV l = some m) : evIt P C r (.rng es) ρ μ = .ok (none, m) μ := by simp only [evIt, h1, R.bind_ok, h2, Option.map, R.of]
theorem t_r1 {e : E} {k : Nat} (he : evE P C r e ρ μ = .ok (.int (k : Nat)) μ) (h : k < 1000000) : evIt P C r (.rng (.c e .n)) ρ μ = .ok (none, (List.range k).map fun i => .int (i : Nat)) μ := t_r (j_c he j_n) (rng1 h)
theorem a_v {i : Nat} {d : D} : asT P C r (.v i) d ρ μ = .ok (setE ρ i d) μ := by simp only [asT]
theorem a_t2 {i j : Nat} {a b : D} : asT P C r (.tup (.c (.v i) (.c (.v j) .n))) (.tup [a, b]) ρ μ = .ok (setE (setE ρ i a) j b) μ := by simp only [asT, asTs, R.bind_ok]
theorem compL_ok {α β : Type} {F : D → Mem → R (Option D)} {en : α → D} {f : β → D} {q : α → Bool} {g : α → β} : ∀ {l : List α}, (∀ x ∈ l, F (en x) μ = .ok (if q x = true then some (f (g x)) else none) μ) → compL F none (l.map en) μ = .ok (((l.filter q).map g).map f) μ
  | [], _ => by simp [compL, srcOk]
  | x :: l, h => by
    have h1 := h x (List.mem_cons_self ..)
    have h2 := compL_ok (l := l) fun y hy => h y (List.mem_cons_of_mem _ hy)
    simp only [List.map_cons, compL, srcOk, if_true, h1, h2, R.bind_ok]
    cases hq : q x <;> simp [List.filter_cons, hq]
/-- [e for t in it if c] -/
theorem i_lcF {α β : Type} (en : α → D) (f : β → D) (q : α → Bool) (g : α → β) (ρ' : α → Env) {own : List Nat} {t : T} {it : It} {c e : E} {l : List α} (hit : evIt P C r it ρ μ = .ok (none, l.map en) μ) (ha : ∀ x, asT P C r t (en x) (wipeE ρ own) μ = .ok (ρ' x) μ) (hc : ∀ x ∈ l, evE P C r c (ρ' x) μ = .ok (.bl (q x)) μ)
    (he : ∀ x ∈ l, q x = true → evE P C r e (ρ' x) μ = .ok (f (g x)) μ) (hz : l.length ≤ sizeLn) : evE P C r (.lc own t it c e) ρ μ = .ok (.lst (((l.filter q).map g).map f)) μ := by
  have key := compL_ok (μ := μ) (F := fun d μ => (asT P C r t d (wipeE ρ own) μ).bind fun ρ μ => (evE P C r c ρ μ).bind fun b μ => match tru b with
      | some true => (evE P C r e ρ μ).bind fun x μ => .ok (some x) μ
      | some false => .ok none μ
      | none => .no) (en := en) (f := f) (q := q) (g := g) (l := l) (fun x hx => by
    simp only [ha x, R.bind_ok, hc x hx, tru]
    cases hq : q x with
    | true => simp only [he x hx hq, R.bind_ok, if_true]
    | false => simp only [Bool.false_eq_true, if_false])
  simp only [evE, hit, R.bind_ok]
  refine (congrArg (fun z : R (List D) => (nox z).bind fun l μ => if l.length ≤ sizeLn then R.ok (D.lst l) μ else R.no) key).trans ?_
  simp only [nox, R.bind_ok]
  rw [if_pos (by rw [List.length_map, List.length_map]; exact Nat.le_trans (List.length_filter_le ..) hz)]
/-- [e for t in it] -/
theorem i_lcM {α β : Type} (en : α → D) (f : β → D) (g : α → β) (ρ' : α → Env) {own : List Nat} {t : T} {it : It} {e : E} {l : List α} (hit : evIt P C r it ρ μ = .ok (none, l.map en) μ) (ha : ∀ x, asT P C r t (en x) (wipeE ρ own) μ = .ok (ρ' x) μ)
    (he : ∀ x ∈ l, evE P C r e (ρ' x) μ = .ok (f (g x)) μ) (hz : l.length ≤ sizeLn) : evE P C r (.lc own t it (.k (.bl true)) e) ρ μ = .ok (.lst ((l.map g).map f)) μ := by
  have h := i_lcF en f (fun _ => true) g ρ' (c := .k (.bl true)) hit ha (fun x _ => i_k) (fun x hx _ => he x hx) hz
  rw [h, List.filter_eq_self.mpr fun _ _ => rfl]
theorem r_ret {e : E} {ss : Ss} {d : D} (h : evE P C r e ρ μ = .ok d μ) : evSs P C r (.c (.ret e) ss) ρ μ = .rt d μ := by simp only [evSs, evS, h, seR_ok]
theorem d_ok {n f np nn : Nat} {dflt : List D} {keep : Bool} {body : Ss} {args : List D} {ρ0 : Env} {d : D} (hf : P.fns f = some ⟨np, nn, dflt, keep, body⟩) (hn : args.length = np) (hρ : args.map some ++ List.replicate (nn - np) none = ρ0) (h : evSs P (Cn P r n) r body ρ0 μ = .rt d μ) : calD P r (n + 1) f args μ = .ok d μ := by
  subst hρ
  simp only [calD, hf, hn, if_true, h]
  unfold fin
  rw [if_pos (by simp)]
end
end DI
namespace DI
open PySem
abbrev Wb := List Str × List (Str × Str)
def wD (w : Wb) : D := webD w.1 w.2
structure OkW (w : Wb) : Prop where
  ns : OkNs w.1
  ts : OkTs w.1 w.2
  few : w.2.length ≤ 900
section
variable {P : Prog} {C : Cal} {r : D → Option Str} {ρ : Env} {μ : Mem}
/-- defs that return nothing -/
def Nx (P : Prog) (C : Cal) (r : D → Option Str) (ss : Ss) (ρ : Env) (μ : Mem) : Prop := ∃ ρ', evSs P C r ss ρ μ = .nx ρ' μ
theorem i_kT {α : Type} {f : α → D} {o e : E} {l : List α} {k : Nat} (dflt : α) (ho : evE P C r o ρ μ = .ok (.tup (l.map f)) μ) (he : evE P C r e ρ μ = .ok (.int (k : Nat)) μ) (h : k < l.length) : evE P C r (.idx o e) ρ μ = .ok (f (l.getD k dflt)) μ := i_ix0 ho (.inl rfl) he (get_map dflt h)
theorem i_kL {α : Type} {f : α → D} {o e : E} {l : List α} {k : Nat} (dflt : α) (ho : evE P C r o ρ μ = .ok (.lst (l.map f)) μ) (he : evE P C r e ρ μ = .ok (.int (k : Nat)) μ) (h : k < l.length) : evE P C r (.idx o e) ρ μ = .ok (f (l.getD k dflt)) μ := i_ix0 ho (.inr (.inl rfl)) he (get_map dflt h)
end
end DI
namespace DI
open PySem
mutual
theorem seqD_refl : ∀ d : D, seqD d d = true
  | .non => rfl
  | .bl _ => by simp [seqD]
  | .int _ => by simp [seqD]
  | .str _ => by simp [seqD]
  | .tup l => by simp only [seqD]; exact seqs_refl l
  | .key l => by simp only [seqD]; exact seqs_refl l
  | .lst l => by simp only [seqD]; exact seqs_refl l
  | .rol l => by simp only [seqD]; exact seqs_refl l
  | .dct t ks vs => by simp only [seqD, seqs_refl ks, seqs_refl vs]; simp
  | .ins c ns vs => by simp only [seqD, seqs_refl vs]; simp
  | .exc c ns vs => by simp only [seqD, seqs_refl vs]; simp
  | .cls _ => by simp [seqD]
  | .fn _ => by simp [seqD]
  | .obj _ => by simp [seqD]
  | .clo k l => by simp only [seqD, seqo_refl l]; simp
theorem seqs_refl : ∀ l : List D, seqs l l = true
  | [] => rfl
  | d :: l => by simp only [seqs, seqD_refl d, seqs_refl l, Bool.and_self]
theorem seqo_refl : ∀ l : List (Option D), seqo l l = true
  | [] => rfl
  | none :: l => by simp only [seqo, seqo_refl l]
  | some d :: l => by simp only [seqo, seqD_refl d, seqo_refl l, Bool.and_self]
end
theorem obEq_refl (o : Ob) : obEq o o = true := by
  cases o <;> simp only [obEq, seqs_refl] <;> simp
theorem chkOld_app (n : Nat) : ∀ (μ ν : Mem), chkOld μ (μ ++ ν) n = true
  | [], _ => by simp [chkOld]
  | o :: μ, ν => by simp only [List.cons_append, chkOld, obEq_refl, Bool.true_or, Bool.true_and]; exact chkOld_app n μ ν
/-- what a def made is let go, all that was there is as it was -/
theorem fin_app {μ ν : Mem} {d d' : D} (hd : frz μ.length (μ ++ ν) d = d') (hz : lim d' ≤ μ.length) (h0 : ν = [] → d = d') : fin false μ d (μ ++ ν) = .ok d' μ := by
  unfold fin
  split
  · rename_i h1
    have : ν = [] := by
      simp only [Bool.false_or, decide_eq_true_eq, List.length_append] at h1
      exact List.eq_nil_of_length_eq_zero (by omega)
    subst this
    rw [h0 rfl, List.append_nil]
  · rw [hd, if_pos ⟨hz, chkOld_app _ _ _⟩]; simp
section
variable {P : Prog} {C : Cal} {r : D → Option Str} {ρ : Env} {μ : Mem}
end
end DI
namespace DI
open PySem
section
variable {P : Prog} {C : Cal} {r : D → Option Str} {ρ : Env} {μ : Mem}
end
end DI
namespace DI
open PySem
section
variable {P : Prog} {C : Cal} {r : D → Option Str} {ρ : Env} {μ : Mem}
end
end DI
end

section
set_option Elab.async false
set_option linter.all false
set_option maxRecDepth 100000
namespace DI
open PySem
/-- as many draws as may be made -/
def BB : Nat := 2 ^ 1000
/-- a kind of source of draws -/
structure Cups (C : Nat → Ob → Prop) : Prop where
  flat : ∀ {B : Nat} {t : Ob}, C B t → limOb t = 0
  mono : ∀ {B B' : Nat} {t : Ob}, C B t → B ≤ B' → C B' t
/-- no source -/
def NoC : Nat → Ob → Prop := fun _ t => limOb t = 0
theorem noC : Cups NoC := ⟨fun h => h, fun h _ => h⟩
def ForW {α σ : Type} (l : List α) (s : σ) (body : α → σ → (σ → Prop) → Prop) (k : σ → Prop) : Prop :=
  ∃ I : List α → σ → Prop, I l s ∧ (∀ x r s, I (x :: r) s → body x s (I r)) ∧ ∀ s, I [] s → k s
/-- a draw from 0 to top - 1 -/
def DrawW (top : Nat) (K : Nat → Prop) : Prop := 0 < top ∧ top < 1073741824 ∧ ∀ a, a < top → K a
/-- μ's store with the source at i drawn from, own lists behind: those told in ob, and others -/
def Vw (C : Nat → Ob → Prop) (μ : Mem) (i : Nat) (M : Mem) (B : Nat) (ob : List (Nat × Ob)) : Prop :=
  ∃ t ν, M = μ.set i t ++ ν ∧ C B t ∧ (ob.map Prod.fst).Nodup ∧ ∀ p ∈ ob, μ.length ≤ p.1 ∧ M[p.1]? = some p.2
theorem chkOld_set (n : Nat) : ∀ (μ : Mem) (i : Nat) (t : Ob) (ν : Mem), limOb t ≤ n → chkOld μ (μ.set i t ++ ν) n = true
  | [], i, t, ν, h => by simp [chkOld]
  | o :: μ, 0, t, ν, h => by
    simp only [List.set_cons_zero, List.cons_append, chkOld, h, decide_true, Bool.or_true, Bool.true_and]
    exact chkOld_app n μ ν
  | o :: μ, i + 1, t, ν, h => by
    simp only [List.set_cons_succ, List.cons_append, chkOld, obEq_refl, Bool.true_or, Bool.true_and]
    exact chkOld_set n μ i t ν h
section
variable {C : Nat → Ob → Prop} {μ M : Mem} {i B : Nat} {ob : List (Nat × Ob)}
theorem Vw.start {t : Ob} (ht : μ[i]? = some t) (h : C B t) : Vw C μ i μ B [] := ⟨t, [], by rw [set_same ht, List.append_nil], h, List.nodup_nil, fun _ h => nomatch h⟩
theorem Vw.start0 : Vw NoC μ μ.length μ B [] := ⟨.lst [], [], by rw [List.set_eq_of_length_le (Nat.le_refl _), List.append_nil], rfl, List.nodup_nil, fun _ h => nomatch h⟩
theorem Vw.get (v : Vw C μ i M B ob) (hi : i < μ.length) : ∃ t, M[i]? = some t ∧ C B t := by
  obtain ⟨t, ν, rfl, h, _, _⟩ := v
  exact ⟨t, by rw [get_low (by simpa using hi)]; exact get_set hi, h⟩
theorem Vw.len (v : Vw C μ i M B ob) : μ.length ≤ M.length := by
  obtain ⟨t, ν, rfl, h, _, _⟩ := v
  simp
theorem Vw.at (v : Vw C μ i M B ob) (k : Nat) {p : Nat × Ob} (h : ob[k]? = some p) : M[p.1]? = some p.2 := by
  obtain ⟨t, ν, _, _, _, g⟩ := v
  exact (g p (List.mem_of_getElem? h)).2
theorem Vw.draw (v : Vw C μ i M B ob) (hi : i < μ.length) {t' : Ob} {B' : Nat} (h : C B' t') : Vw C μ i (M.set i t') B' ob := by
  obtain ⟨t, ν, rfl, _, nd, g⟩ := v
  refine ⟨t', ν, by rw [set_low (by simpa using hi), List.set_set], h, nd, fun p hp => ⟨(g p hp).1, ?_⟩⟩
  have h1 := (g p hp).1
  rw [List.getElem?_set_ne (by omega)]
  exact (g p hp).2
theorem Vw.lay (v : Vw C μ i M B ob) (o : Ob) : Vw C μ i (M ++ [o]) B ((M.length, o) :: ob) := by
  have hl := v.len
  obtain ⟨t, ν, e, h, nd, g⟩ := v
  have lt : ∀ p ∈ ob, p.1 < M.length := fun p hp => lt_of_get (g p hp).2
  refine ⟨t, ν ++ [o], by rw [e, List.append_assoc], h, ?_, ?_⟩
  · simp only [List.map_cons, List.nodup_cons]
    refine ⟨fun hm => ?_, nd⟩
    obtain ⟨p, hp, e⟩ := List.mem_map.mp hm
    have := lt p hp
    omega
  · intro p hp
    rcases List.mem_cons.mp hp with rfl | hp
    · exact ⟨hl, get_last _ _⟩
    · refine ⟨(g p hp).1, ?_⟩
      rw [List.getElem?_append_left (lt p hp)]
      exact (g p hp).2
theorem Vw.put (v : Vw C μ i M B ob) {k j : Nat} {o : Ob} (h : ob[k]? = some (j, o)) (o' : Ob) : Vw C μ i (M.set j o') B (ob.set k (j, o')) := by
  obtain ⟨t, ν, e, hc, nd, g⟩ := v
  have hj := (g _ (List.mem_of_getElem? h)).1
  have hjM : j < M.length := lt_of_get (g _ (List.mem_of_getElem? h)).2
  refine ⟨t, ν.set (j - μ.length) o', ?_, hc, ?_, ?_⟩
  · rw [e, List.set_append_right _ _ (by simpa using hj)]; simp
  · have : (ob.set k (j, o')).map Prod.fst = ob.map Prod.fst := by
      rw [List.map_set]
      refine List.ext_getElem? fun m => ?_
      by_cases hm : m = k
      · subst hm
        have hl : m < ob.length := (List.getElem?_eq_some_iff.mp h).1
        rw [List.getElem?_set_self (by simpa using hl), List.getElem?_map, h]; rfl
      · rw [List.getElem?_set_ne (fun z => hm z.symm)]
    rw [this]; exact nd
  · intro p hp
    obtain ⟨m, hm⟩ := List.getElem?_of_mem hp
    by_cases hk : m = k
    · subst hk
      have hl : m < ob.length := (List.getElem?_eq_some_iff.mp h).1
      rw [List.getElem?_set_self hl] at hm
      cases hm
      exact ⟨hj, get_set hjM⟩
    · rw [List.getElem?_set_ne (fun z => hk z.symm)] at hm
      have hp2 := g p (List.mem_of_getElem? hm)
      have hne : p.1 ≠ j := by
        intro e2
        have h1 : (ob.map Prod.fst)[m]? = some j := by rw [List.getElem?_map, hm, ← e2]; rfl
        have h2 : (ob.map Prod.fst)[k]? = some j := by rw [List.getElem?_map, h]; rfl
        have hl : m < (ob.map Prod.fst).length := (List.getElem?_eq_some_iff.mp h1).1
        obtain ⟨hl2, e3⟩ := List.getElem?_eq_some_iff.mp h1
        obtain ⟨hl3, e4⟩ := List.getElem?_eq_some_iff.mp h2
        have pw := List.pairwise_iff_getElem.mp nd
        rcases Nat.lt_or_gt_of_ne hk with hlt | hlt
        · exact pw m k hl2 hl3 hlt (e3.trans e4.symm)
        · exact pw k m hl3 hl2 hlt (e4.trans e3.symm)
      exact ⟨hp2.1, by rw [List.getElem?_set_ne (fun z => hne z.symm)]; exact hp2.2⟩
theorem Vw.mono (v : Vw C μ i M B ob) (hc : Cups C) {B' : Nat} (h : B ≤ B') : Vw C μ i M B' ob := by
  obtain ⟨t, ν, e, c, nd, g⟩ := v
  exact ⟨t, ν, e, hc.mono c h, nd, g⟩
theorem Vw.sub (v : Vw C μ i M B ob) {ob' : List (Nat × Ob)} (h : List.Sublist ob' ob) : Vw C μ i M B ob' := by
  obtain ⟨t, ν, e, c, nd, g⟩ := v
  exact ⟨t, ν, e, c, nd.sublist (h.map _), fun p hp => g p (h.subset hp)⟩
theorem Vw.fin {k : D → Mem → Prop} {kx : D → Mem → Prop} {d : D} (hc : Cups C) (v : Vw C μ i M B ob) (hf : ∀ n M, frz n M d = d) (hz : lim d = 0) (q : ∀ t', C B t' → k d (μ.set i t')) : WpR (DI.fin false μ d M) k kx := by
  obtain ⟨t, ν, e, c, nd, g⟩ := v
  unfold DI.fin
  split
  · rename_i h1
    have : ν = [] := by
      rw [e] at h1
      simp only [Bool.false_or, decide_eq_true_eq, List.length_append, List.length_set] at h1
      exact List.eq_nil_of_length_eq_zero (by omega)
    rw [e, this, List.append_nil]
    exact q t c
  · rw [hf, e, if_pos ⟨by omega, chkOld_set _ _ _ _ _ (by rw [hc.flat c]; exact Nat.zero_le _)⟩]
    have e2 : (μ.set i t ++ ν).take μ.length = μ.set i t := by
      have : μ.length = (μ.set i t).length := by simp
      rw [this]; simp
    rw [e2]
    exact q t c
theorem set_len0 (μ : Mem) (t : Ob) : μ.set μ.length t = μ := List.set_eq_of_length_le (Nat.le_refl _)
theorem lims_map0 {α : Type} {f : α → D} (h : ∀ x, lim (f x) = 0) : ∀ l : List α, lims (l.map f) = 0
  | [] => rfl
  | x :: l => by simp only [List.map_cons, lims, h x, lims_map0 h l, Nat.max_self]
end
section
variable {P : Prog} {C : Cal} {r : D → Option Str} {ρ : Env} {M : Mem} {kn : Env → Mem → Prop} {kr : D → Mem → Prop} {ks : D → Env → Mem → Prop} {k : D → Mem → Prop} {kx : D → Mem → Prop}
theorem q_asgW {i : Nat} {e : E} {rest : Ss} (h : WpR (evE P C r e ρ M) (fun d M' => WpS (evSs P C r rest (setE ρ i d) M') kn kr ks) fun x μ => ks x ρ μ) : WpS (evSs P C r (.c (.asg (.v i) e) rest) ρ M) kn kr ks := s_cons (s_set h)
theorem q_asgT {t : T} {e : E} {rest : Ss} (h : WpR (evE P C r e ρ M) (fun d M' => ∃ ρ', asT P C r t d ρ M' = .ok ρ' M' ∧ WpS (evSs P C r rest ρ' M') kn kr ks) fun x μ => ks x ρ μ) : WpS (evSs P C r (.c (.asg t e) rest) ρ M) kn kr ks :=
  s_cons (s_asg (h.mono (fun _ _ h => by obtain ⟨ρ', e, h⟩ := h; exact w_eq e h) fun _ _ h => h))
theorem q_par {ts : Ts} {es : Es} {rest : Ss} (h : WpR (evEs P C r es ρ M) (fun l M' => ∃ ρ', asTs P C r ts l ρ M' = .ok ρ' M' ∧ WpS (evSs P C r rest ρ' M') kn kr ks) fun x μ => ks x ρ μ) : WpS (evSs P C r (.c (.par ts es) rest) ρ M) kn kr ks :=
  s_cons (s_par (h.mono (fun _ _ h => by obtain ⟨ρ', e, h⟩ := h; exact w_eq e h) fun _ _ h => h))
theorem q_ex {e : E} {rest : Ss} (h : WpR (evE P C r e ρ M) (fun _ M' => WpS (evSs P C r rest ρ M') kn kr ks) fun x μ => ks x ρ μ) : WpS (evSs P C r (.c (.ex e) rest) ρ M) kn kr ks := s_cons (s_ex h)
theorem q_ret {e : E} {rest : Ss} (h : WpR (evE P C r e ρ M) kr fun x μ => ks x ρ μ) : WpS (evSs P C r (.c (.ret e) rest) ρ M) kn kr ks := s_cons (s_ret h)
theorem q_nil (h : kn ρ M) : WpS (evSs P C r .n ρ M) kn kr ks := s_nil h
theorem q_ifW {c : E} {a b rest : Ss} (h : WpR (evE P C r c ρ M) (fun d M => ∃ t, d = .bl t ∧ (t = true → WpS (evSs P C r a ρ M) (fun ρ M => WpS (evSs P C r rest ρ M) kn kr ks) kr ks) ∧ (t = false → WpS (evSs P C r b ρ M) (fun ρ M => WpS (evSs P C r rest ρ M) kn kr ks) kr ks)) fun x μ => ks x ρ μ) : WpS (evSs P C r (.c (.ite c a b) rest) ρ M) kn kr ks :=
  s_cons (s_ite h)
/-- both ways meet again -/
theorem q_ifJ {c : E} {a b rest : Ss} (J : Env → Mem → Prop) (h : WpR (evE P C r c ρ M) (fun d M => ∃ t, d = .bl t ∧ (t = true → WpS (evSs P C r a ρ M) J kr ks) ∧ (t = false → WpS (evSs P C r b ρ M) J kr ks)) fun x μ => ks x ρ μ) (hj : ∀ ρ M, J ρ M → WpS (evSs P C r rest ρ M) kn kr ks) : WpS (evSs P C r (.c (.ite c a b) rest) ρ M) kn kr ks :=
  s_cons (s_ite (h.mono (fun d M h => by
    obtain ⟨t, e, h1, h2⟩ := h
    exact ⟨t, e, fun z => (h1 z).mono (fun _ _ h => hj _ _ h) (fun _ _ h => h) fun _ _ _ h => h, fun z => (h2 z).mono (fun _ _ h => hj _ _ h) (fun _ _ h => h) fun _ _ _ h => h⟩) fun _ _ h => h))
theorem q_forW {t : T} {it : It} {b rest : Ss} (h : WpR (evIt P C r it ρ M) (fun p M => WpS (forL (fun d ρ μ => seR (nox (asT P C r t d ρ μ)) ρ fun ρ μ => evSs P C r b ρ μ) p.1 p.2 ρ M) (fun ρ M => WpS (evSs P C r rest ρ M) kn kr ks) kr ks) fun x μ => ks x ρ μ) : WpS (evSs P C r (.c (.for t it b) rest) ρ M) kn kr ks := s_cons (s_for h)
theorem q_forL {α : Type} {t : T} {b : Ss} (en : α → D) (I : List α → Env → Mem → Prop) {l : List α} (h0 : I l ρ M) (step : ∀ x rem ρ M, I (x :: rem) ρ M → ∃ ρ', asT P C r t (en x) ρ M = .ok ρ' M ∧ WpS (evSs P C r b ρ' M) (I rem) kr ks) (hr : ∀ ρ M, I [] ρ M → kn ρ M) :
    WpS (forL (fun d ρ μ => seR (nox (asT P C r t d ρ μ)) ρ fun ρ μ => evSs P C r b ρ μ) none (l.map en) ρ M) kn kr ks := by
  refine for_inv (fun rem ρ M => ∃ m : List α, rem = m.map en ∧ I m ρ M) ⟨l, rfl, h0⟩ ?_ ?_
  · rintro d ds ρ M ⟨m, e, h⟩
    cases m with
    | nil => simp at e
    | cons x m =>
      simp only [List.map_cons, List.cons.injEq] at e
      obtain ⟨rfl, rfl⟩ := e
      obtain ⟨ρ', e, h2⟩ := step x m ρ M h
      exact for_turn (w_eq e (h2.mono (fun _ _ h => ⟨m, rfl, h⟩) (fun _ _ h => h) fun _ _ _ h => h))
  · rintro ρ M ⟨m, e, h⟩
    obtain rfl : m = [] := by simpa using e.symm
    exact hr ρ M h
variable {Q : Nat → Ob → Prop} {μ : Mem} {i B : Nat} {ob : List (Nat × Ob)}
theorem w_layV {e : E} (h : WpR (evE P C r e ρ M) (fun d M => ∃ l B ob, d = .lst l ∧ Vw Q μ i M B ob ∧ ∀ j M', Vw Q μ i M' B ((j, .lst l) :: ob) → k (.obj j) M') kx) : WpR (evE P C r (.lay e) ρ M) k kx := by
  refine w_lay (h.mono (fun d M h => ?_) fun _ _ h => h)
  obtain ⟨l, B, ob, rfl, v, h⟩ := h
  exact .inl ⟨l, rfl, h _ _ (v.lay _)⟩
theorem w_appV {a e : E} {j : Nat} (ha : evE P C r a ρ M = .ok (.obj j) M) {l0 : List D} (hg : M[j]? = some (.lst l0)) (h : WpR (evE P C r e ρ M) (fun d M => ∃ (B m : Nat) (ob : List (Nat × Ob)) (l : List D), Vw Q μ i M B ob ∧ ob[m]? = some (j, .lst l) ∧ l.length < sizeLn ∧ ∀ M', Vw Q μ i M' B (ob.set m (j, .lst (l ++ [d]))) → k .non M') kx) : WpR (evE P C r (.bm .append a (.c e .n)) ρ M) k kx := by
  refine w_bm (w_eq ha ⟨?_, ?_⟩)
  · simp only [rd, hg, bmTy]
  · refine w_es (h.mono (fun d M h => w_es0 ?_) fun _ _ h => h)
    obtain ⟨B, m, ob, l, v, hm, hz, h⟩ := h
    exact w_app (v.at m hm) hz (h _ (v.put hm _))
theorem w_popV {a e : E} {j : Nat} (ha : evE P C r a ρ M = .ok (.obj j) M) {l0 : List D} (hg : M[j]? = some (.lst l0)) {α : Type} {f : α → D} (h : WpR (evE P C r e ρ M) (fun d M => ∃ (B m n : Nat) (ob : List (Nat × Ob)) (l : List α) (dflt : α), d = .int (n : Nat) ∧ n < l.length ∧ Vw Q μ i M B ob ∧ ob[m]? = some (j, .lst (l.map f)) ∧ ∀ M', Vw Q μ i M' B (ob.set m (j, .lst ((l.eraseIdx n).map f))) → k (f (l.getD n dflt)) M') kx) : WpR (evE P C r (.bm .pop a (.c e .n)) ρ M) k kx := by
  refine w_bm (w_eq ha ⟨?_, ?_⟩)
  · simp only [rd, hg, bmTy]
  · refine w_es (h.mono (fun d M h => w_es0 ?_) fun _ _ h => h)
    obtain ⟨B, m, n, ob, l, dflt, rfl, hn, v, hm, h⟩ := h
    refine w_pop (n := n) (v.at m hm) ?_ (get_map dflt hn) ?_
    · simp only [atPl, List.length_map]
      rw [if_pos (by omega), if_pos (by omega)]; simp
    · have e : (l.map f).eraseIdx n = (l.eraseIdx n).map f := by
        clear h hm v hg hn
        induction l generalizing n with
        | nil => rfl
        | cons x l ih => cases n with
          | zero => rfl
          | succ n => simp only [List.map_cons, List.eraseIdx_cons_succ, ih]
      rw [e]
      exact h _ (by have := v.put hm (.lst ((l.eraseIdx n).map f)); exact this)
theorem b_lenO {α : Type} {f : α → D} {l : List α} {j : Nat} (h : M[j]? = some (.lst (l.map f))) : bi1V P C r M .len (.obj j) = .ok (.int (l.length : Nat)) M := by
  simp only [bi1V, lenV, rd, h, List.length_map]
theorem b_tupO {α : Type} {f : α → D} {l : List α} {j : Nat} (h : M[j]? = some (.lst (l.map f))) : bi1V P C r M .tuple (.obj j) = .ok (.tup (l.map f)) M := by
  simp only [bi1V, rd, h, tupV, R.of]
end
end DI
namespace DI
open PySem
section
variable {P : Prog} {C : Cal} {r : D → Option Str} {ρ : Env} {M : Mem} {kn : Env → Mem → Prop} {kr : D → Mem → Prop} {ks : D → Env → Mem → Prop} {k : D → Mem → Prop} {kx : D → Mem → Prop}
theorem eq_c {α : Type} {f : α → D} {a b : α} (h : b = a) {q : R D} (p : q = .ok (f a) M) : q = .ok (f b) M := by rw [h]; exact p
/-- a choice whose ways are without effect -/
theorem w_iteP {α : Type} (f : α → D) {c a b : E} {x y : α} (h : WpR (evE P C r c ρ M) (fun d M => ∃ t, d = .bl t ∧ (t = true → evE P C r a ρ M = .ok (f x) M) ∧ (t = false → evE P C r b ρ M = .ok (f y) M) ∧ k (f (if t = true then x else y)) M) kx) : WpR (evE P C r (.ite c a b) ρ M) k kx := by
  refine w_ite (h.mono (fun d M h => ?_) fun _ _ h => h)
  obtain ⟨t, rfl, h1, h2, h3⟩ := h
  refine ⟨t, rfl, fun e => ?_, fun e => ?_⟩
  · subst e; exact w_eq (h1 rfl) (by simpa using h3)
  · subst e; exact w_eq (h2 rfl) (by simpa using h3)
variable {Q : Nat → Ob → Prop} {μ : Mem} {i : Nat}
/-- l.append(x), typed -/
theorem w_appT {α : Type} {f : α → D} {a e : E} {j : Nat} (ha : evE P C r a ρ M = .ok (.obj j) M) {l0 : List D} (hg : M[j]? = some (.lst l0)) (h : WpR (evE P C r e ρ M) (fun d M => ∃ (B m : Nat) (ob : List (Nat × Ob)) (l : List α) (x : α), d = f x ∧ Vw Q μ i M B ob ∧ ob[m]? = some (j, .lst (l.map f)) ∧ l.length < sizeLn ∧ ∀ M', Vw Q μ i M' B (ob.set m (j, .lst ((l ++ [x]).map f))) → k .non M') kx) : WpR (evE P C r (.bm .append a (.c e .n)) ρ M) k kx := by
  refine w_appV (Q := Q) (μ := μ) (i := i) ha hg (h.mono (fun d M h => ?_) fun _ _ h => h)
  obtain ⟨B, m, ob, l, x, rfl, v, hm, hz, h⟩ := h
  exact ⟨B, m, ob, l.map f, v, hm, by rw [List.length_map]; exact hz, fun M' v' => h M' (by rw [List.map_append]; exact v')⟩
theorem w_layT {α : Type} {f : α → D} {e : E} (h : WpR (evE P C r e ρ M) (fun d M => ∃ (l : List α) (B : Nat) (ob : List (Nat × Ob)), d = .lst (l.map f) ∧ Vw Q μ i M B ob ∧ ∀ j M', Vw Q μ i M' B ((j, .lst (l.map f)) :: ob) → k (.obj j) M') kx) : WpR (evE P C r (.lay e) ρ M) k kx := by
  refine w_layV (Q := Q) (μ := μ) (i := i) (h.mono (fun d M h => ?_) fun _ _ h => h)
  obtain ⟨l, B, ob, rfl, v, h⟩ := h
  exact ⟨_, B, ob, rfl, v, h⟩
end
end DI
namespace DI
open PySem
end DI
namespace DI
open PySem
section
variable {P : Prog} {C : Cal} {r : D → Option Str} {ρ : Env} {M : Mem} {kn : Env → Mem → Prop} {kr : D → Mem → Prop} {ks : D → Env → Mem → Prop} {k : D → Mem → Prop} {kx : D → Mem → Prop}
theorem idx_L {α : Type} {f : α → D} {l : List α} {i : Nat} (dflt : α) (h : i < l.length) : idxV P C M (.lst (l.map f)) (.int (i : Nat)) = .ok (f (l.getD i dflt)) M := by
  have e1 : atPl (l.map f).length (i : Int) = some i := by
    unfold atPl; rw [List.length_map, if_pos (by omega), if_pos (by omega)]; simp
  simp only [idxV, rd, e1, Option.bind_some, get_map dflt h, R.of]
theorem a_u2 {i j : Nat} {a b : D} : asT P C r (.tup (.c (.v i) (.c (.v j) .n))) (.tup [a, b]) ρ M = .ok (setE (setE ρ i a) j b) M := a_t2
theorem as_2 {i j : Nat} {a b : D} : asTs P C r (.c (.v i) (.c (.v j) .n)) [a, b] ρ M = .ok (setE (setE ρ i a) j b) M := by simp only [asT, asTs, R.bind_ok]
theorem lim_of_2T {a b : D} (h1 : lim a = 0) (h2 : lim b = 0) : lim (.tup [a, b]) = 0 := by simp only [lim, lims, h1, h2, Nat.max_self]
theorem lim_wD (w : Wb) : lim (wD w) = 0 := by
  show lims [nsD w.1, tsD w.2, sidesD w.1 w.2] = 0
  exact lim_web _ _
end
end DI
namespace DI
open PySem
section
variable {P : Prog} {C : Cal} {r : D → Option Str} {ρ : Env} {M : Mem} {k : D → Mem → Prop} {kx : D → Mem → Prop}
end
end DI
namespace DI
theorem bb {B a c d X : Nat} (h : B + d ≤ X) (e : a + c ≤ d) : B + a + c ≤ X := by
  rw [Nat.add_assoc]; exact Nat.le_trans (Nat.add_le_add_left e B) h
theorem bm {B a c d : Nat} (e : a + c ≤ d) : B + a + c ≤ B + d := by
  rw [Nat.add_assoc]; exact Nat.add_le_add_left e B
theorem ba {B a d : Nat} (e : a ≤ d) : B + a ≤ B + d := Nat.add_le_add_left e B
end DI
namespace DI
open PySem
section
variable {P : Prog} {C : Cal} {r : D → Option Str} {ρ : Env} {M : Mem} {k : D → Mem → Prop} {kx : D → Mem → Prop}
theorem Vw.base {μ M : Mem} {B : Nat} {ob : List (Nat × Ob)} (v : Vw NoC μ μ.length M B ob) {j : Nat} {o : Ob} (h : μ[j]? = some o) : M[j]? = some o := by
  obtain ⟨t, ν, e, _, _, _⟩ := v
  rw [e, set_len0, List.getElem?_append_left (lt_of_get h)]; exact h
end
end DI
namespace DI
open PySem
end DI
namespace DI
open PySem
section
variable {P : Prog} {C : Cal} {r : D → Option Str} {ρ : Env} {M : Mem}
end
end DI
end

section
set_option Elab.async false
set_option linter.all false
set_option maxRecDepth 100000
namespace DI
open PySem
/-- a new frozen instance, in any store -/
theorem w_newF {P : Prog} {C : Cal} {μ : Mem} {k : D → Mem → Prop} {kx : D → Mem → Prop} {c f : Nat} {args kv : List D} {ps : List Nat} {kk : DI.Cls} (h1 : P.cls c = some kk) (h2 : kk.init = some f) (h3 : kk.live = false)
    (h : WpR (calF P C f (.obj μ.length :: args) ps kv (μ ++ [.ins c [] []])) (fun d μ' => d = .non ∧ ∃ ns vs, μ' = μ ++ [.ins c ns vs] ∧ lims vs = 0 ∧ k (.ins c ns vs) μ) fun x μ' => WpR (finX false μ x μ') k kx) : WpR (newV P C c args ps kv μ) k kx := by
  unfold newV
  simp only [h1, h2]
  refine w_newX (w_bind (h.mono (fun d μ' h => ?_) fun _ _ h => h))
  obtain ⟨rfl, ns, vs, rfl, hz, h⟩ := h
  simp only [h3, get_last, hz, List.length_append, List.length_cons, List.length_nil, Nat.zero_le, true_and, Bool.false_eq_true, if_false]
  rw [if_pos (chkOld_app _ _ _)]
  show k _ ((μ ++ [_]).take μ.length)
  simpa using h

section
variable {P : Prog} {r : D → Option Str} {k : D → Mem → Prop} {kx : D → Mem → Prop} {μ : Mem}
theorem sides_of_F {n : Nat} (H : HasWeb P) {ns : List Str} {ts : List (Str × Str)} (hn : ns.length ≤ 8) (nd : ns.Nodup) (hl : ts.length ≤ 1000) (q : k (sidesD ns ts) μ) : WpR (calD P r (n + 1) 17 [nsD ns, tsD ts] μ) k kx := by
  refine d_w (ρ0 := [some (nsD ns), some (tsD ts), none, none, none, none]) H.f17 rfl rfl ?_
  walk_at "ev"
  refine .inr ⟨true, [], [], rfl, ?_⟩
  walk_at "ev"
  refine w_of (d := (none, ts.map tieD)) rfl ?_
  show WpS (forL _ none _ _ _) _ _ _
  refine for_inv (fun rem ρ μ' => ∃ post l x y, rem = post.map tieD ∧ knownOf post l = knownOf ts [] ∧ l.length + 2 * post.length ≤ 2 * ts.length ∧ μ' = μ ++ [.dct true (l.map kD) (l.map fun _ => .bl true)] ∧ ρ = [some (nsD ns), some (tsD ts), some (.obj μ.length), x, y, none]) ⟨ts, [], none, none, rfl, rfl, by simp, rfl, rfl⟩ ?_ ?_
  · rintro d ds ρ μ' ⟨post, l, x, y, e1, e2, e3, rfl, rfl⟩
    cases post with
    | nil => simp at e1
    | cons t post =>
      simp only [List.map_cons, List.cons.injEq] at e1
      obtain ⟨rfl, rfl⟩ := e1
      simp only [List.length_cons] at e3
      refine for_turn (w_ttup (.inl rfl) ?_)
      walk_at "ev"
      refine setV_known (p := t) (by unfold sizeLn; omega) ?_
      walk_at "ev"
      have h1 : ∀ (l : List (Str × Str)) p, (addK l p).length ≤ l.length + 1 := by
        intro l p; unfold addK; split <;> simp
      have h2 := h1 l t
      have h3 := h1 (addK l t) (t.2, t.1)
      refine setV_known (p := (t.2, t.1)) (by unfold sizeLn; omega) ?_
      walk_at "ev"
      exact ⟨post, _, _, _, rfl, e2, by omega, rfl, rfl⟩
  · rintro ρ μ' ⟨post, l, x, y, e1, e2, e3, rfl, rfl⟩
    have ep : post = [] := by
      cases post with
      | nil => rfl
      | cons a l => simp at e1
    subst ep
    have e2 : l = knownOf ts [] := e2
    walk_at "ev"
    refine w_dcM ns .str id (fun p => .tup ((ns.filter (tied ts p)).map .str)) (by simpa using nd) (by unfold sizeLn; omega) ?_
    walk_at "ev"
    refine w_of (d := (none, ns.map .str)) rfl ⟨rfl, rfl, fun p hp => ?_, ?_⟩
    · walk_at "ev"
      refine w_lcF ns .str (tied ts p) .str ?_
      walk_at "ev"
      refine w_of (d := (none, ns.map .str)) rfl ⟨rfl, rfl, fun z hz => ?_, by unfold sizeLn; omega, ?_⟩
      · unfold Pick
        walk_at "ev"
        refine w_eq (d := tied ts p z) (μ := μ ++ [.dct true (l.map kD) (l.map fun _ => .bl true)]) ?_ ⟨_, rfl, fun h => ?_, fun h => ?_⟩
        · have e5 := dget_kD (p, z) l
          have e6 := mem_known p z ts []
          rw [← e2] at e6
          unfold cmpV inV
          simp only [rd, List.getElem?_append_right (Nat.le_refl _), Nat.sub_self, List.getElem?_cons_zero]
          show (if keyOk true (kD (p, z)) then R.ok (dget (kD (p, z)) (l.map kD) (l.map fun _ => .bl true)).isSome _ else .no) = _
          rw [keyOk_kD, e5, e6]
          simp
        · walk_at "ev"
          exact ⟨rfl, by rw [h]; rfl⟩
        · exact ⟨rfl, by rw [h]; rfl⟩
      · exact w_of (d := D.tup ((ns.filter (tied ts p)).map .str)) rfl ⟨rfl, rfl, rfl⟩
    · refine w_eq (fin_app (d' := sidesD ns ts) (by simp [frz, sidesD]) ?_ (fun _ => by simp [sidesD])) q
      refine Nat.le_trans (Nat.le_of_eq ?_) (Nat.zero_le _)
      have h1 : ∀ l : List Str, lims (l.map D.str) = 0 := by
        intro l; induction l with
        | nil => rfl
        | cons a l ih => simp [lims, lim, ih]
      have h2 : ∀ l : List Str, lims (l.map fun p => D.tup ((ns.filter (tied ts p)).map .str)) = 0 := by
        intro l; induction l with
        | nil => rfl
        | cons a l ih => simp [lims, lim, ih, h1]
      simp [sidesD, lim, h1, h2]
theorem web_initF {n : Nat} (H : HasWeb P) {ns : List Str} {ts : List (Str × Str)} (ok : OkNs ns) (okt : OkTs ns ts) (hl : ts.length ≤ 1000) (q : k .non (μ ++ [.ins 29 [5, 6, 7] [nsD ns, tsD ts, sidesD ns ts]])) : WpR (calD P r (n + 3) 18 [.obj μ.length, nsD ns, tsD ts] (μ ++ [.ins 29 [] []])) k kx := by
  obtain ⟨kk, c1, c2, c3, c4, c5, c6, c7⟩ := H.cls
  refine d_w (ρ0 := [some (.obj μ.length), some (nsD ns), some (tsD ts)]) H.f18 rfl rfl ?_
  walk_at "ev"
  refine w_calF H.f13 rfl (check_places_ok (n := n) H ok ?_)
  walk_at "ev"
  refine w_calF H.f16 rfl (check_ties_ok (n := n) H okt hl ?_)
  walk_at "ev"
  refine w_tat (w_v rfl ⟨_, _, _, _, kk, rfl, get_last _ _, c1, by rw [c4]; rfl, by simp, ?_⟩)
  rw [set_last]
  walk_at "ev"
  refine w_tat (w_v rfl ⟨_, _, _, _, kk, rfl, get_last _ _, c1, by rw [c4]; rfl, by simp [fput], ?_⟩)
  rw [set_last]
  walk_at "ev"
  refine w_calF H.f17 rfl (sides_of_F (n := n + 1) H ok.few ok.nd hl ?_)
  refine w_tat (w_v rfl ⟨_, _, _, _, kk, rfl, get_last _ _, c1, by rw [c4]; rfl, by simp [fput], ?_⟩)
  rw [set_last]
  walk_at "ev"
  exact fin_len (by simp) q
theorem web_newF {n : Nat} (H : HasWeb P) {ns : List Str} {ts : List (Str × Str)} {args kv : List D} {ps : List Nat} (ok : OkNs ns) (okt : OkTs ns ts) (hl : ts.length ≤ 1000) (hb : bindK 3 [.tup []] (.obj μ.length :: args) ps kv = some [.obj μ.length, nsD ns, tsD ts]) (q : k (webD ns ts) μ) : WpR (newV P (Cn P r (n + 3)) 29 args ps kv μ) k kx := by
  obtain ⟨kk, c1, c2, c3, c4, c5, c6, c7⟩ := H.cls
  refine w_newF c1 c2 c3 (w_calF H.f18 hb (web_initF (n := n) H ok okt hl ⟨rfl, _, _, rfl, lim_web ns ts, q⟩))
end
theorem newW_eq {P : Prog} {r : D → Option Str} {μ : Mem} {n : Nat} (H : HasWeb P) {w : Wb} (ok : OkW w) {args kv : List D} {ps : List Nat} (hb : bindK 3 [.tup []] (.obj μ.length :: args) ps kv = some [.obj μ.length, nsD w.1, tsD w.2]) : newV P (Cn P r (n + 3)) 29 args ps kv μ = .ok (wD w) μ :=
  eq_w (web_newF H ok.ns ok.ts (Nat.le_trans ok.few (by omega)) hb ⟨rfl, rfl⟩)
theorem i_newW {P : Prog} {r : D → Option Str} {ρ : Env} {μ : Mem} {n : Nat} (H : HasWeb P) {es : Es} {w : Wb} (hes : evEs P (Cn P r (n + 3)) r es ρ μ = .ok [nsD w.1, tsD w.2] μ) (ok : OkW w) : evE P (Cn P r (n + 3)) r (.new 29 es) ρ μ = .ok (wD w) μ := by
  simp only [evE, hes, R.bind_ok]; exact newW_eq H ok rfl
namespace WB
structure HasWebB (P : Prog) : Prop where
  f12 : P.fns 12 = some f12
  f13 : P.fns 13 = some f13
  f14 : P.fns 14 = some f14
  f15 : P.fns 322 = some f322
  f16 : P.fns 323 = some f323
  f17 : P.fns 17 = some f17
  f18 : P.fns 324 = some f324
  g0 : P.gl 0 = some (.int 8)
  g3 : P.gl 3 = some (.str LETTERS)
  cls : ∃ k, P.cls 29 = some k ∧ k.init = some 324 ∧ k.live = false ∧ k.flds = [5, 6, 7] ∧ k.props.lookup 5 = none ∧ k.props.lookup 6 = none ∧ k.props.lookup 7 = none
section
variable {P : Prog} {r : D → Option Str} {k : D → Mem → Prop} {kx : D → Mem → Prop} {μ : Mem}
theorem is_name_s {n : Nat} (H : HasWebB P) (s : Str) (q : k (.bl (isNm s)) μ) : WpR (calD P r (n + 1) 12 [.str s] μ) k kx := by
  refine d_w (ρ0 := [some (.str s), none]) H.f12 rfl rfl ?_
  walk_at "ev"
  refine w_andT ?_
  walk_at "ev"
  refine ⟨true, rfl, rfl, ?_⟩
  refine w_and ?_
  walk_at "ev"
  refine ⟨fun h1 => ?_, fun h1 => ?_⟩
  · walk_at "ev"
    refine ⟨_, rfl, fun h2 => ?_, fun h2 => ?_⟩
    · walk_at "ev"
      refine w_lcM (sL s) (fun c => .str (sM [c])) (fun c => .bl ((sL LETTERS).contains c)) ?_
      walk_at "ev"
      refine w_of rfl ⟨rfl, rfl, fun c hc => ?_, ?_, ?_⟩
      · walk_at "ev"
        refine w_g H.g3 ?_
        refine w_eq (d := (sL LETTERS).contains c) (μ := μ) ?_ ⟨rfl, rfl⟩
        simp [cmpV, inV, rd, sL_sM]
      · have h4 := of_decide_eq_true h2
        unfold sizeLn; omega
      · refine w_of (allV_map _ _) (fin_same ?_)
        have e : isNm s = (sL s).all fun c => (sL LETTERS).contains c := by
          have := of_decide_eq_true h1
          have := of_decide_eq_true h2
          unfold isNm
          have a : 0 < (sL s).length := by omega
          have b : (sL s).length < 9 := by omega
          simp [a, b]
        rw [← e]; exact q
    · refine fin_same ?_
      have := of_decide_eq_false h2
      have e : isNm s = false := by
        unfold isNm
        have : ¬ (sL s).length < 9 := by omega
        simp [this]
      rw [e] at q; exact q
  · refine ⟨_, rfl, fun h => (nomatch h), fun _ => fin_same ?_⟩
    have := of_decide_eq_false h1
    have e : isNm s = false := by
      unfold isNm
      have : ¬ 0 < (sL s).length := by omega
      simp [this]
    rw [e] at q; exact q
theorem check_places_ok {n : Nat} (H : HasWebB P) {ns : List Str} (ok : OkNs ns) (q : k .non μ) : WpR (calD P r (n + 2) 13 [nsD ns] μ) k kx := by
  refine d_w (ρ0 := [some (nsD ns), none, none]) H.f13 rfl rfl ?_
  refine s_cons (s_iteF (w_orF ?_))
  walk_at "ev"
  refine ⟨true, rfl, true, rfl, rfl, ?_⟩
  walk_at "ev"
  refine w_eq (d := false) (μ := μ) ?_ ⟨rfl, ?_⟩
  · simp only [cmpV, eqV, nsD, rd, SMD, sm, sms, names_sms, Bool.and_self, if_true]
    have := ok.ne
    cases ns with
    | nil => exact absurd rfl this
    | cons a l => simp [deq, deqs]
  walk_at "ev"
  refine ⟨none, ns.map .str, fun _ h => (by cases h), rfl, ?_⟩
  show WpS (forL _ none _ _ _) _ _ _
  refine for_inv (fun rem ρ μ' => μ' = μ ∧ ∃ pre post, ns = pre ++ post ∧ rem = enuL pre.length (post.map .str) ∧ ∃ x y, ρ = [some (nsD ns), x, y]) ⟨rfl, [], ns, rfl, rfl, none, none, rfl⟩ ?_ ?_
  · rintro d ds ρ μ' ⟨rfl, pre, post, e1, e2, x, y, rfl⟩
    cases post with
    | nil => simp [enuL] at e2
    | cons p post =>
      simp only [List.map_cons, enuL, List.cons.injEq] at e2
      obtain ⟨rfl, rfl⟩ := e2
      have hlen : pre.length < 8 := by
        have := ok.few
        rw [e1] at this
        simp at this; omega
      have hp : p ∉ pre := by
        have := ok.nd
        rw [e1, List.nodup_append] at this
        intro h
        exact this.2.2 p h p (by simp) rfl
      refine for_turn (w_ttup (.inr (.inl rfl)) ?_)
      walk_at "ev"
      refine s_iteF (w_orF ?_)
      walk_at "ev"
      refine w_g H.g0 ?_
      show (D.bl (decide ((8 : Int) ≤ (pre.length : Nat)))) = _ ∧ _
      refine ⟨by simp; omega, ?_⟩
      refine w_orF ?_
      walk_at "ev"
      refine w_calF H.f12 rfl (is_name_s (n := n) H p ?_)
      refine ⟨true, by rw [ok.nm p (by rw [e1]; simp)], rfl, ?_⟩
      walk_at "ev"
      refine ⟨_, rfl, ?_⟩
      walk_at "ev"
      have ec : cut (ns.map D.str) none (some (pre.length : Int)) = pre.map D.str := by
        unfold cut clip
        simp only [List.drop_zero]
        rw [if_pos (by omega), e1]
        simp
      refine w_of (d := D.tup (pre.map .str)) (by show some (D.tup (cut (ns.map D.str) none (some (pre.length : Int)))) = _; rw [ec]) ?_
      refine in_names ⟨by simp [hp], ?_⟩
      walk_at "ev"
      exact ⟨rfl, pre ++ [p], post, by rw [e1]; simp, by simp, _, _, rfl⟩
  · rintro ρ μ' ⟨rfl, _⟩
    walk_at "ev"
    exact fin_same q
theorem is_pair_ok {n : Nat} (H : HasWebB P) {ns : List Str} {a b : Str} (ha : a ∈ ns) (hb : b ∈ ns) (hab : a ≠ b) (q : k (.bl true) μ) : WpR (calD P r (n + 1) 14 [nsD ns, tieD (a, b)] μ) k kx := by
  refine d_w (ρ0 := [some (nsD ns), some (tieD (a, b)), none]) H.f14 rfl rfl ?_
  refine s_cons (s_iteF (w_orF ?_))
  walk_at "ev"
  refine ⟨true, rfl, true, rfl, rfl, ?_⟩
  refine w_orF ?_
  walk_at "ev"
  refine w_eq (d := D.int 2) (μ := μ) (by simp [bi1V, lenV, rd, tieD]) ?_
  walk_at "ev"
  refine w_eq (d := false) (μ := μ) (by simp [cmpV, eqV, rd, SMD, notR]) ⟨rfl, ?_⟩
  walk_at "ev"
  refine w_lcM [a, b] D.str (fun _ => D.bl true) ?_
  walk_at "ev"
  refine w_of rfl ⟨rfl, rfl, fun c hc => ?_, by simp [sizeLn], ?_⟩
  · walk_at "ev"
    exact ⟨true, rfl, rfl, rfl⟩
  refine w_of (d := D.bl true) rfl ⟨true, rfl, rfl, ?_⟩
  walk_at "ev"
  refine w_andT ?_
  walk_at "ev"
  refine w_of (d := D.str a) rfl ?_
  walk_at "ev"
  refine w_of (d := D.str b) rfl ?_
  refine w_eq (d := true) (μ := μ) (by simp [cmpV, eqV, rd, SMD, notR, hab]) ⟨rfl, ?_⟩
  refine w_andT ?_
  walk_at "ev"
  refine w_of (d := D.str a) rfl ?_
  walk_at "ev"
  refine in_names ⟨by simp [ha], ?_⟩
  walk_at "ev"
  refine w_of (d := D.str b) rfl ?_
  walk_at "ev"
  refine in_names ?_
  rw [show decide (b ∈ ns) = true from by simp [hb]]
  exact fin_same q
theorem are_alike_s {n : Nat} (H : HasWebB P) (a b : Str × Str) (q : k (.bl (alike a b)) μ) : WpR (calD P r (n + 1) 322 [tieD a, tieD b] μ) k kx := by
  refine d_w (ρ0 := [some (tieD a), some (tieD b)]) H.f15 rfl rfl ?_
  walk_at "ev"
  refine w_of (d := tieD (b.2, b.1)) rfl ?_
  walk_at "ev"
  refine w_eq (d := alike a b) (μ := μ) ?_ (fin_same q)
  have e1 := deq_tie b a
  have e2 := deq_tie (b.2, b.1) a
  have s1 : ∀ t, sm 40 (tieD t) = true := sms_tie 39
  have s2 : ∀ t, sm 39 (tieD t) = true := sms_tie 38
  simp only [cmpV, inV]
  show (if sm 40 (tieD a) && sms 40 [tieD b, tieD (b.2, b.1)] then R.ok ([tieD b, tieD (b.2, b.1)].any fun x => deq x (tieD a)) μ else .no) = _
  simp only [sms, s1, Bool.and_self, if_true, List.any_cons, List.any_nil, Bool.or_false, e1, e2, alike]
  congr 1
  have c1 : (b == a) = (a == b) := by rw [Bool.eq_iff_iff, beq_iff_eq, beq_iff_eq]; exact eq_comm
  have c2 : ((b.2, b.1) == a) = (a == (b.2, b.1)) := by rw [Bool.eq_iff_iff, beq_iff_eq, beq_iff_eq]; exact eq_comm
  rw [c1, c2]
theorem check_ties_ok {n : Nat} (H : HasWebB P) {ns : List Str} {ts : List (Str × Str)} (ok : OkTs ns ts) (hl : ts.length ≤ 1000) (q : k .non μ) : WpR (calD P r (n + 2) 323 [nsD ns, tsD ts] μ) k kx := by
  refine d_w (ρ0 := [some (nsD ns), some (tsD ts), none, none, none]) H.f16 rfl rfl ?_
  refine s_cons (s_iteF ?_)
  walk_at "ev"
  refine ⟨true, rfl, true, rfl, rfl, ?_⟩
  walk_at "ev"
  refine ⟨none, ts.map tieD, fun _ h => (by cases h), rfl, ?_⟩
  show WpS (forL _ none _ _ _) _ _ _
  refine for_inv (fun rem ρ μ' => μ' = μ ∧ ∃ pre post, ts = pre ++ post ∧ rem = enuL pre.length (post.map tieD) ∧ ∃ x y, ρ = [some (nsD ns), some (tsD ts), x, y, none]) ⟨rfl, [], ts, rfl, rfl, none, none, rfl⟩ ?_ ?_
  · rintro d ds ρ μ' ⟨rfl, pre, post, e1, e2, x, y, rfl⟩
    cases post with
    | nil => simp [enuL] at e2
    | cons p post =>
      simp only [List.map_cons, enuL, List.cons.injEq] at e2
      obtain ⟨rfl, rfl⟩ := e2
      obtain ⟨h1, h2, h3⟩ := ok.mem p (by rw [e1]; simp)
      refine for_turn (w_ttup (.inr (.inl rfl)) ?_)
      walk_at "ev"
      refine s_iteF (w_orF ?_)
      walk_at "ev"
      refine w_calF H.f14 rfl (is_pair_ok (n := n) H h1 h2 h3 ⟨true, rfl, rfl, ?_⟩)
      walk_at "ev"
      refine w_lcM pre tieD (fun z => .bl (alike p z)) ?_
      walk_at "ev"
      refine ⟨_, rfl, ?_⟩
      walk_at "ev"
      refine w_of (d := D.tup (pre.map tieD)) (by show some (D.tup (cut (ts.map tieD) none (some (pre.length : Int)))) = _; rw [e1, cut_pre]) ?_
      refine w_of rfl ⟨rfl, rfl, fun z hz => ?_, ?_, ?_⟩
      · walk_at "ev"
        exact w_calF H.f15 rfl (are_alike_s (n := n) H p z ⟨rfl, rfl⟩)
      · have : pre.length ≤ 1000 := by rw [e1] at hl; simp at hl; omega
        unfold sizeLn; omega
      · refine w_of (d := D.bl false) ?_ ⟨rfl, ?_⟩
        · show anyV (.lst (pre.map fun z => .bl (alike p z))) = _
          rw [anyV_map]
          have : (pre.any fun z => alike p z) = false := by
            rw [List.any_eq_false]
            intro z hz
            have := ok.pw
            rw [e1, List.pairwise_append] at this
            have := this.2.2 z hz p (by simp)
            simp [this]
          rw [this]
        walk_at "ev"
        exact ⟨rfl, pre ++ [p], post, by rw [e1]; simp, by simp, _, _, rfl⟩
  · rintro ρ μ' ⟨rfl, _⟩
    walk_at "ev"
    exact fin_same q
theorem sides_of_F {n : Nat} (H : HasWebB P) {ns : List Str} {ts : List (Str × Str)} (hn : ns.length ≤ 8) (nd : ns.Nodup) (hl : ts.length ≤ 1000) (q : k (sidesD ns ts) μ) : WpR (calD P r (n + 1) 17 [nsD ns, tsD ts] μ) k kx := by
  refine d_w (ρ0 := [some (nsD ns), some (tsD ts), none, none, none, none]) H.f17 rfl rfl ?_
  walk_at "ev"
  refine .inr ⟨true, [], [], rfl, ?_⟩
  walk_at "ev"
  refine w_of (d := (none, ts.map tieD)) rfl ?_
  show WpS (forL _ none _ _ _) _ _ _
  refine for_inv (fun rem ρ μ' => ∃ post l x y, rem = post.map tieD ∧ knownOf post l = knownOf ts [] ∧ l.length + 2 * post.length ≤ 2 * ts.length ∧ μ' = μ ++ [.dct true (l.map kD) (l.map fun _ => .bl true)] ∧ ρ = [some (nsD ns), some (tsD ts), some (.obj μ.length), x, y, none]) ⟨ts, [], none, none, rfl, rfl, by simp, rfl, rfl⟩ ?_ ?_
  · rintro d ds ρ μ' ⟨post, l, x, y, e1, e2, e3, rfl, rfl⟩
    cases post with
    | nil => simp at e1
    | cons t post =>
      simp only [List.map_cons, List.cons.injEq] at e1
      obtain ⟨rfl, rfl⟩ := e1
      simp only [List.length_cons] at e3
      refine for_turn (w_ttup (.inl rfl) ?_)
      walk_at "ev"
      refine setV_known (p := t) (by unfold sizeLn; omega) ?_
      walk_at "ev"
      have h1 : ∀ (l : List (Str × Str)) p, (addK l p).length ≤ l.length + 1 := by
        intro l p; unfold addK; split <;> simp
      have h2 := h1 l t
      have h3 := h1 (addK l t) (t.2, t.1)
      refine setV_known (p := (t.2, t.1)) (by unfold sizeLn; omega) ?_
      walk_at "ev"
      exact ⟨post, _, _, _, rfl, e2, by omega, rfl, rfl⟩
  · rintro ρ μ' ⟨post, l, x, y, e1, e2, e3, rfl, rfl⟩
    have ep : post = [] := by
      cases post with
      | nil => rfl
      | cons a l => simp at e1
    subst ep
    have e2 : l = knownOf ts [] := e2
    walk_at "ev"
    refine w_dcM ns .str id (fun p => .tup ((ns.filter (tied ts p)).map .str)) (by simpa using nd) (by unfold sizeLn; omega) ?_
    walk_at "ev"
    refine w_of (d := (none, ns.map .str)) rfl ⟨rfl, rfl, fun p hp => ?_, ?_⟩
    · walk_at "ev"
      refine w_lcF ns .str (tied ts p) .str ?_
      walk_at "ev"
      refine w_of (d := (none, ns.map .str)) rfl ⟨rfl, rfl, fun z hz => ?_, by unfold sizeLn; omega, ?_⟩
      · unfold Pick
        walk_at "ev"
        refine w_eq (d := tied ts p z) (μ := μ ++ [.dct true (l.map kD) (l.map fun _ => .bl true)]) ?_ ⟨_, rfl, fun h => ?_, fun h => ?_⟩
        · have e5 := dget_kD (p, z) l
          have e6 := mem_known p z ts []
          rw [← e2] at e6
          unfold cmpV inV
          simp only [rd, List.getElem?_append_right (Nat.le_refl _), Nat.sub_self, List.getElem?_cons_zero]
          show (if keyOk true (kD (p, z)) then R.ok (dget (kD (p, z)) (l.map kD) (l.map fun _ => .bl true)).isSome _ else .no) = _
          rw [keyOk_kD, e5, e6]
          simp
        · walk_at "ev"
          exact ⟨rfl, by rw [h]; rfl⟩
        · exact ⟨rfl, by rw [h]; rfl⟩
      · exact w_of (d := D.tup ((ns.filter (tied ts p)).map .str)) rfl ⟨rfl, rfl, rfl⟩
    · refine w_eq (fin_app (d' := sidesD ns ts) (by simp [frz, sidesD]) ?_ (fun _ => by simp [sidesD])) q
      refine Nat.le_trans (Nat.le_of_eq ?_) (Nat.zero_le _)
      have h1 : ∀ l : List Str, lims (l.map D.str) = 0 := by
        intro l; induction l with
        | nil => rfl
        | cons a l ih => simp [lims, lim, ih]
      have h2 : ∀ l : List Str, lims (l.map fun p => D.tup ((ns.filter (tied ts p)).map .str)) = 0 := by
        intro l; induction l with
        | nil => rfl
        | cons a l ih => simp [lims, lim, ih, h1]
      simp [sidesD, lim, h1, h2]
theorem web_initF {n : Nat} (H : HasWebB P) {ns : List Str} {ts : List (Str × Str)} (ok : OkNs ns) (okt : OkTs ns ts) (hl : ts.length ≤ 1000) (q : k .non (μ ++ [.ins 29 [5, 6, 7] [nsD ns, tsD ts, sidesD ns ts]])) : WpR (calD P r (n + 3) 324 [.obj μ.length, nsD ns, tsD ts] (μ ++ [.ins 29 [] []])) k kx := by
  obtain ⟨kk, c1, c2, c3, c4, c5, c6, c7⟩ := H.cls
  refine d_w (ρ0 := [some (.obj μ.length), some (nsD ns), some (tsD ts)]) H.f18 rfl rfl ?_
  walk_at "ev"
  refine w_calF H.f13 rfl (check_places_ok (n := n) H ok ?_)
  walk_at "ev"
  refine w_calF H.f16 rfl (check_ties_ok (n := n) H okt hl ?_)
  walk_at "ev"
  refine w_tat (w_v rfl ⟨_, _, _, _, kk, rfl, get_last _ _, c1, by rw [c4]; rfl, by simp, ?_⟩)
  rw [set_last]
  walk_at "ev"
  refine w_tat (w_v rfl ⟨_, _, _, _, kk, rfl, get_last _ _, c1, by rw [c4]; rfl, by simp [fput], ?_⟩)
  rw [set_last]
  walk_at "ev"
  refine w_calF H.f17 rfl (sides_of_F (n := n + 1) H ok.few ok.nd hl ?_)
  refine w_tat (w_v rfl ⟨_, _, _, _, kk, rfl, get_last _ _, c1, by rw [c4]; rfl, by simp [fput], ?_⟩)
  rw [set_last]
  walk_at "ev"
  exact fin_len (by simp) q
theorem web_newF {n : Nat} (H : HasWebB P) {ns : List Str} {ts : List (Str × Str)} {args kv : List D} {ps : List Nat} (ok : OkNs ns) (okt : OkTs ns ts) (hl : ts.length ≤ 1000) (hb : bindK 3 [.tup []] (.obj μ.length :: args) ps kv = some [.obj μ.length, nsD ns, tsD ts]) (q : k (webD ns ts) μ) : WpR (newV P (Cn P r (n + 3)) 29 args ps kv μ) k kx := by
  obtain ⟨kk, c1, c2, c3, c4, c5, c6, c7⟩ := H.cls
  refine w_newF c1 c2 c3 (w_calF H.f18 hb (web_initF (n := n) H ok okt hl ⟨rfl, _, _, rfl, lim_web ns ts, q⟩))
end
theorem newW_eq {P : Prog} {r : D → Option Str} {μ : Mem} {n : Nat} (H : HasWebB P) {w : Wb} (ok : OkW w) {args kv : List D} {ps : List Nat} (hb : bindK 3 [.tup []] (.obj μ.length :: args) ps kv = some [.obj μ.length, nsD w.1, tsD w.2]) : newV P (Cn P r (n + 3)) 29 args ps kv μ = .ok (wD w) μ :=
  eq_w (web_newF H ok.ns ok.ts (Nat.le_trans ok.few (by omega)) hb ⟨rfl, rfl⟩)
theorem i_newW {P : Prog} {r : D → Option Str} {ρ : Env} {μ : Mem} {n : Nat} (H : HasWebB P) {es : Es} {w : Wb} (hes : evEs P (Cn P r (n + 3)) r es ρ μ = .ok [nsD w.1, tsD w.2] μ) (ok : OkW w) : evE P (Cn P r (n + 3)) r (.new 29 es) ρ μ = .ok (wD w) μ := by
  simp only [evE, hes, R.bind_ok]; exact newW_eq H ok rfl
end WB
end DI
end

section
set_option Elab.async false
set_option linter.all false
namespace DI
open PySem
def b1 (b : Bool) : Nat := if b then 1 else 0
end DI
end

section
set_option Elab.async false
set_option linter.all false
namespace DI
open PySem
def steps : List Str → List (Str × Str)
  | a :: b :: l => (a, b) :: steps (b :: l)
  | _ => []
end DI
end

section
set_option Elab.async false
set_option linter.all false
namespace DI
open PySem
abbrev Ties := List (Str × Str)
/-- what is wanted of a search for a way -/
structure WaySpec (way : Ties → Str → Str → Option (List Str)) : Prop where
  self : ∀ ts b, (way ts b b).isSome = true
  closed : ∀ ts b x y, tied ts x y = true → (way ts b x).isSome = true → (way ts b y).isSome = true
  path : ∀ ts b e p, way ts b e = some p → p.Nodup ∧ p.head? = some b ∧ p.getLast? = some e ∧ PthD (tied ts) p = true
section
variable {way : Ties → Str → Str → Option (List Str)}
theorem WaySpec.both (W : WaySpec way) {ts : Ties} {b x y : Str} (h : tied ts x y = true) : (way ts b x).isSome = (way ts b y).isSome := by
  rw [Bool.eq_iff_iff]
  exact ⟨W.closed _ _ _ _ h, W.closed _ _ _ _ (by rw [tied_sym]; exact h)⟩
end
end DI
end

section
set_option Elab.async false
set_option linter.all false
namespace DI
open PySem
section
variable {way : Ties → Str → Str → Option (List Str)} {F ts : Ties}
/-- its ties that are none of the forest's -/
def outer (F : Ties) (C : List Str) : List (Str × Str) := (steps (C ++ C.take 1)).filter fun p => !tied F p.1 p.2
end
end DI
namespace DI
open PySem
section
variable {way : Ties → Str → Str → Option (List Str)} {F ts : Ties}
end
end DI
end

section
set_option Elab.async false
set_option linter.all false
namespace DI
open PySem
/-- where c holds at two steps it holds between -/
def Conv (c : Str × Str → Bool) (l : List Str) : Prop := ∀ A s B t D, steps l = A ++ s :: (B ++ t :: D) → c s = true → c t = true → ∀ x ∈ B, c x = true
theorem Conv.tail {c : Str × Str → Bool} {a : Str} {l : List Str} (h : Conv c (a :: l)) : Conv c l := fun A s B t D e hs ht x hx => by
  cases l with
  | nil => cases A <;> simp [steps] at e
  | cons b l => exact h ((a, b) :: A) s B t D (by show (a, b) :: steps (b :: l) = _; rw [e]; rfl) hs ht x hx
end DI
namespace DI
open PySem
section
variable {way : Ties → Str → Str → Option (List Str)} {F ts : Ties}
end
end DI
end

section
set_option Elab.async false
set_option linter.all false
namespace DI
open PySem
end DI
namespace DI
open PySem
end DI
end

section
set_option Elab.async false
set_option linter.all false
namespace DI
open PySem
section
variable {way : Ties → Str → Str → Option (List Str)} {F ts : Ties}
end
end DI
namespace DI
open PySem
section
variable {way : Ties → Str → Str → Option (List Str)} {F ts : Ties}
end
end DI
end

section
set_option Elab.async false
set_option linter.all false
namespace DI
open PySem
section
variable {way : Ties → Str → Str → Option (List Str)} {F ts : Ties}
end
end DI
end

section
set_option Elab.async false
set_option linter.all false
namespace DI
open PySem
section
variable {way : Ties → Str → Str → Option (List Str)} {F ts : Ties}
end
end DI
end

section
set_option Elab.async false
set_option linter.all false
namespace DI
open PySem
section
variable {way : Ties → Str → Str → Option (List Str)} {F ts : Ties}
end
end DI
end

section
set_option Elab.async false
set_option linter.all false
namespace DI
open PySem
end DI
end

section
set_option Elab.async false
set_option linter.all false
set_option maxRecDepth 100000
namespace DI
open PySem
section
variable {P : Prog} {C : Cal} {r : D → Option Str} {ρ : Env} {M : Mem} {kn : Env → Mem → Prop} {kr : D → Mem → Prop} {ks : D → Env → Mem → Prop} {k : D → Mem → Prop} {kx : D → Mem → Prop}
end
section
variable {P : Prog} {C : Cal} {r : D → Option Str} {ρ : Env} {M : Mem}
end
end DI
end

section
set_option Elab.async false
set_option linter.all false
set_option maxRecDepth 100000
set_option maxHeartbeats 1000000
namespace DI
open PySem
end DI
end

section
set_option Elab.async false
set_option linter.all false
set_option maxRecDepth 100000
namespace DI
open PySem
end DI
end

section
set_option Elab.async false
set_option linter.all false
set_option maxRecDepth 100000
namespace DI
open PySem
section
variable {P : Prog} {r : D → Option Str} {n : Nat} {μ : Mem}
end
end DI
namespace DI
end DI
end

section
set_option Elab.async false
set_option linter.all false
set_option maxRecDepth 100000
set_option maxHeartbeats 1000000
namespace DI
open PySem
end DI
end

section
set_option Elab.async false
set_option linter.all false
set_option maxRecDepth 100000
namespace DI
open PySem
section
variable {P : Prog} {C : Cal} {r : D → Option Str} {ρ ρ' : Env} {μ μ' : Mem} {kn : Env → Mem → Prop} {kr : D → Mem → Prop} {ks : D → Env → Mem → Prop}
end
end DI
namespace DI
open PySem
section
variable {P : Prog} {r : D → Option Str} {k : D → Mem → Prop} {kx : D → Mem → Prop} {μ : Mem}
/-- .. of any number of turns -/
def lawFN (mx a b : Nat) : Fn := { np := 1, nn := 2, dflt := [], keep := false, body := (.c (.ret (.bi .all (.c (.lc [1] (.v 1) (.rng (.c (.bi .max2 (.c (.k (.int 2)) (.c (.bi .min2 (.c (.bi .len (.c (.v 0) .n)) (.c (.k (.int (mx : Nat))) .n))) .n))) .n)) (.k (.bl true)) (.cal a (.c (.cal b (.c (.v 0) (.c (.v 1) .n))) .n))) .n))) .n) }
end
end DI
namespace DI
open PySem
section
variable {P : Prog} {C : Cal} {r : D → Option Str} {ρ : Env} {μ : Mem}
end
end DI

namespace DI
open PySem
section
variable {P : Prog} {C : Cal} {μ : Mem}
end
end DI
end

section
set_option Elab.async false
set_option linter.all false
set_option maxRecDepth 100000
namespace DI
open PySem
section
variable {P : Prog} {r : D → Option Str} {n : Nat} {μ : Mem}
end
end DI
end

section
set_option Elab.async false
set_option linter.all false
set_option maxRecDepth 100000
set_option maxHeartbeats 1000000
namespace DI
open PySem
end DI
end

section
set_option Elab.async false
set_option linter.all false
set_option maxRecDepth 100000
set_option maxHeartbeats 1000000
namespace DI
open PySem
end DI
end

section
set_option Elab.async false
set_option linter.all false
namespace DI
open PySem
end DI
end

section
set_option Elab.async false
set_option linter.all false
set_option maxRecDepth 100000
set_option maxHeartbeats 1000000
namespace DI
open PySem
end DI
end

section
set_option Elab.async false
set_option linter.all false
namespace DI
open PySem
end DI
end

section
set_option Elab.async false
set_option linter.all false
set_option maxRecDepth 100000
namespace DI
open PySem
section
variable {P : Prog} {C : Cal} {r : D → Option Str} {ρ : Env} {μ : Mem}
end
section
variable {P : Prog} {C : Cal} {r : D → Option Str} {ρ : Env} {μ : Mem}
end
section
variable {P : Prog} {r : D → Option Str} {n : Nat} {μ : Mem}
end
end DI
end

section
set_option Elab.async false
set_option linter.all false
set_option maxRecDepth 100000
set_option maxHeartbeats 1000000
namespace DI
open PySem
end DI
end

section
set_option Elab.async false
set_option linter.all false
set_option maxRecDepth 100000
set_option maxHeartbeats 1000000
namespace DI
open PySem
end DI
end

section
set_option Elab.async false
set_option linter.all false
set_option maxRecDepth 100000
namespace DI
open PySem
def extA (m : Nat) (t : List Nat) : List (List Nat) := ((List.range' (t.getD 0 0 + 1) (m - (t.getD 0 0 + 1))).filter fun j => !decide (j ∈ t)).map fun j => t ++ [j]
def stageA (m : Nat) : Nat → List (List Nat)
  | 0 => (List.range m).map fun j => [j]
  | i + 1 => (stageA m i).flatMap (extA m)
end DI
namespace DI
open PySem
end DI
namespace DI
open PySem
def encI (t : List Nat) : D := D.lst (t.map fun z : Nat => D.int (z : Nat))
section
variable {P : Prog} {r : D → Option Str} {n : Nat} {μ : Mem}
def o4 (m : Nat) : Nat → Option D
  | 0 => none
  | i + 1 => ((stageA m i).getLast?.map encI).or (o4 m i)
def o5 (m : Nat) : Nat → Option D
  | 0 => none
  | i + 1 => some (.lst ((stageA m (i + 1)).map encI))
end
end DI
namespace DI
open PySem
section
variable {P : Prog} {k : D → Mem → Prop} {kx : D → Mem → Prop} {μ : Mem}
end
end DI

namespace DI
open PySem
end DI
end

section
set_option Elab.async false
set_option linter.all false
set_option maxRecDepth 100000
namespace DI
open PySem
section
variable {P : Prog} {k : D → Mem → Prop} {kx : D → Mem → Prop} {μ : Mem}
end
end DI
end

section
set_option Elab.async false
set_option linter.all false
set_option maxRecDepth 100000
set_option maxHeartbeats 1000000
namespace DI
open PySem
end DI
end

section
set_option Elab.async false
set_option linter.all false
set_option maxRecDepth 100000
set_option maxHeartbeats 1000000
namespace DI
open PySem
end DI
end

section
set_option Elab.async false
set_option linter.all false
set_option maxRecDepth 100000
namespace DI
open PySem
section
variable {P : Prog} {k : D → Mem → Prop} {kx : D → Mem → Prop} {μ : Mem}
end
end DI
namespace DI
open PySem
end DI
end

section
set_option Elab.async false
set_option linter.all false
set_option maxRecDepth 100000
set_option maxHeartbeats 1000000
namespace DI
open PySem
end DI
end

section
set_option Elab.async false
set_option linter.all false
set_option maxRecDepth 100000
namespace DI
open PySem
section
variable {P : Prog} {r : D → Option Str} {k : D → Mem → Prop} {kx : D → Mem → Prop} {μ : Mem}
end
end DI
end

section
set_option Elab.async false
set_option linter.all false
set_option maxRecDepth 100000
namespace DI
open PySem
end DI

namespace DI
open PySem
section
variable {P : Prog} {k : D → Mem → Prop} {kx : D → Mem → Prop} {μ : Mem}
end
end DI

namespace DI
open PySem
end DI
end

section
set_option Elab.async false
set_option linter.all false
namespace DI
open PySem
end DI
end

section
set_option Elab.async false
set_option linter.all false
namespace DI
open PySem
section
variable {w : Wb} {F : Ties}
end
end DI
end

section
set_option Elab.async false
set_option linter.all false
set_option maxRecDepth 100000
namespace DI
open PySem
end DI
end

section
set_option Elab.async false
set_option linter.all false
namespace DI
open PySem
section
variable {P : Prog} {r : D → Option Str} {n : Nat} {μ : Mem}
end
def par (us m row : List Str) : Nat := (us.filter fun v => decide (v ∈ row) && decide (v ∈ m)).length % 2
end DI
end

section
set_option Elab.async false
set_option linter.all false
namespace DI
open PySem
end DI
end

section
set_option Elab.async false
set_option linter.all false
set_option maxRecDepth 100000
set_option maxHeartbeats 1000000
namespace DI
open PySem
end DI
end

section
set_option Elab.async false
set_option linter.all false
namespace DI
open PySem
end DI
end

section
set_option Elab.async false
set_option linter.all false
set_option maxRecDepth 100000
set_option maxHeartbeats 1000000
namespace DI
open PySem
end DI
end

section
set_option Elab.async false
set_option linter.all false
set_option maxRecDepth 100000

namespace DI
open PySem

theorem pow1001 : (2 : Nat) ^ 1001 = 2 * BB := by unfold BB; decide +kernel
theorem log2_BB {i : Int} (h : i.natAbs < 2 * BB) : i.natAbs.log2 ≤ 1000 := log2_le (n := 1000) (by rw [pow1001]; exact h)
theorem mul_BB2 {μ : Mem} {i j : Int} (hi : i.natAbs < 2 ^ 64) (hj : j.natAbs < 2 * BB) : binV μ .mul (.int i) (.int j) = some (.int (i * j)) := by
  have h1 := log2_BB hj
  have h2 := log2_small hi
  simp only [binV, rd, mulV]
  rw [if_pos (by omega)]
theorem tubC : Cups Tub := ⟨fun h => h.flat, fun h hb => h.mono hb⟩
section
variable {P : Prog} {r : D → Option Str} {k : D → Mem → Prop} {kx : D → Mem → Prop} {μ : Mem}
end
section
variable {P : Prog} {r : D → Option Str} {k : D → Mem → Prop} {kx : D → Mem → Prop} {μ M0 : Mem} {n i B : Nat} {ob : List (Nat × Ob)}
end
section
variable {P : Prog} {r : D → Option Str} {k : D → Mem → Prop} {kx : D → Mem → Prop} {μ : Mem}
end
section
variable {P : Prog} {r : D → Option Str} {k : D → Mem → Prop} {kx : D → Mem → Prop} {μ : Mem}
theorem law_wC {Q : Nat → Ob → Prop} (hc : Cups Q) {mx n fl a b : Nat} {zs : List Int} {G H2 : Fn} (hx2 : 2 ≤ mx) (hx5 : mx ≤ 5) (H : P.fns fl = some (lawFN mx a b)) (ha : P.fns a = some G) (hb : P.fns b = some H2) (ga : G.np = 1) (gb : H2.np = 2)
    (tub : ∀ (μ : Mem) (j : Nat) (k : D → Mem → Prop), j ≤ 100 → (∀ t, Q 1 t → k (.obj μ.length) (μ ++ [t])) → WpR (calD P r (n + 1) b [.rol (zs.map .int), .int j] μ) k F0)
    (right : ∀ (μ : Mem) (i : Nat) (t : Ob), Flat μ → μ[i]? = some t → Q 1 t → WpR (calD P r (n + 1) a [.obj i] μ) (fun d μ' => d = .bl true ∧ ∃ t', limOb t' = 0 ∧ μ' = μ.set i t') F0) : ∃ μ, calD P r (n + 2) fl [.rol (zs.map .int)] [] = .ok (.bl true) μ := by
  refine ⟨[], eq_w (d_w (ρ0 := [some (.rol (zs.map .int)), none]) H rfl rfl ?_)⟩
  walk_at "ev"
  refine w_lcI (fun rem acc μ => Flat μ ∧ acc.length + rem.length ≤ 100 ∧ (∃ m : Nat, acc = List.replicate m (.bl true)) ∧ ∃ l : List Nat, rem = l.map (fun (j : Nat) => .int j) ∧ ∀ j ∈ l, j ≤ 100) ?_
  walk_at "ev"
  refine w_eq (d := D.int (zs.length : Nat)) (μ := []) (by simp [bi1V, lenV, rd]) ?_
  walk_at "ev"
  refine w_of (d := D.int (if ((mx : Nat) : Int) < (zs.length : Int) then ((mx : Nat) : Int) else (zs.length : Int))) rfl ?_
  walk_at "ev"
  show WpR (R.of [] (bi2V .max2 (.int 2) (.int (if ((mx : Nat) : Int) < (zs.length : Int) then ((mx : Nat) : Int) else (zs.length : Int))))) _ _
  refine w_of (d := D.int (((if mx < zs.length then mx else if 2 < zs.length then zs.length else 2 : Nat) : Int))) ?_ ?_
  · show some (D.int (if (2 : Int) < (if ((mx : Nat) : Int) < (zs.length : Int) then ((mx : Nat) : Int) else (zs.length : Int)) then (if ((mx : Nat) : Int) < (zs.length : Int) then ((mx : Nat) : Int) else (zs.length : Int)) else (2 : Int))) = _
    congr 2
    by_cases h5 : mx < zs.length
    · have h5' : ((mx : Nat) : Int) < (zs.length : Int) := by omega
      simp only [h5, h5', if_true]
      by_cases h2 : 2 < mx
      · have h2' : (2 : Int) < ((mx : Nat) : Int) := by omega
        simp [h2']
      · have h2' : ¬ (2 : Int) < ((mx : Nat) : Int) := by omega
        have : mx = 2 := by omega
        subst this; simp
    · have h5' : ¬ ((mx : Nat) : Int) < (zs.length : Int) := by omega
      simp only [h5, h5', if_false]
      by_cases h2 : 2 < zs.length
      · have h2' : (2 : Int) < (zs.length : Int) := by omega
        simp [h2, h2']
      · have h2' : ¬ (2 : Int) < (zs.length : Int) := by omega
        simp [h2, h2']
  generalize hm : (if mx < zs.length then mx else if 2 < zs.length then zs.length else 2 : Nat) = m
  have hm5 : m ≤ 5 := by subst hm; split <;> (try split) <;> omega
  walk_at "ev"
  refine ⟨_, rng_ok (by omega), rfl, ⟨(fun _ h => by cases h), (by simp; omega), ⟨0, rfl⟩, List.range m, rfl, (fun j hj => by have := List.mem_range.mp hj; omega)⟩, ?_, ?_⟩
  · rintro d ds acc μ ⟨hF, hl, ⟨m2, rfl⟩, l, e1, hl2⟩
    cases l with
    | nil => simp at e1
    | cons j l =>
      simp only [List.map_cons, List.cons.injEq] at e1
      obtain ⟨rfl, rfl⟩ := e1
      walk_at "ev"
      refine ⟨true, rfl, fun _ => ?_, fun z => nomatch z⟩
      walk_at "ev"
      refine w_calF (ds := [.rol (zs.map .int), .int j]) hb (by simp only [gb]; rfl) (tub μ j _ (hl2 j (List.mem_cons_self ..)) fun t ht => ?_)
      walk_at "ev"
      refine w_calF (ds := [.obj μ.length]) ha (by simp only [ga]; rfl) ((right (μ ++ [t]) μ.length t (flat_snoc hF (hc.flat ht)) (get_last _ _) ht).mono (fun d μ' h => ?_) fun _ _ h => h.elim)
      obtain ⟨rfl, t', ht', rfl⟩ := h
      rw [set_last]
      refine ⟨flat_snoc hF ht', by simp at hl ⊢; omega, ⟨m2 + 1, by rw [List.replicate_succ']⟩, l, rfl, fun j hj => hl2 j (List.mem_cons_of_mem _ hj)⟩
  · rintro acc μ ⟨hF, hl, ⟨m2, rfl⟩, l, e1, hl2⟩
    simp at hl
    refine ⟨by simp; unfold sizeLn; omega, ?_⟩
    refine w_of (d := D.bl true) ?_ ?_
    · have := allV_map (fun _ : Unit => true) (List.replicate m2 ())
      simp only [List.map_replicate] at this
      show allV (.lst (List.replicate m2 (.bl true))) = _
      rw [this]
      simp
    · have := fin_cut (k := fun d μ' => d = .bl true ∧ μ' = []) (kx := F0) (keep := false) (μ := []) (μ' := []) (ν := μ) (d := .bl true) (d' := .bl true) rfl rfl (fun _ h => by cases h) rfl rfl ⟨rfl, rfl⟩
      simpa using this
end

section
variable {P : Prog} {r : D → Option Str} {k : D → Mem → Prop} {kx : D → Mem → Prop} {μ M0 : Mem} {n i B : Nat} {ob : List (Nat × Ob)}
end
theorem right_end {Q : Nat → Ob → Prop} (hc : Cups Q) {μ M : Mem} {i B : Nat} {ob : List (Nat × Ob)} (v : Vw Q μ i M B ob) (hl : M.length = μ.length) : ∃ t', limOb t' = 0 ∧ M = μ.set i t' := by
  obtain ⟨t, ν, e, c, _, _⟩ := v
  have : ν = [] := by
    rw [e] at hl
    simp only [List.length_append, List.length_set] at hl
    exact List.eq_nil_of_length_eq_zero (by omega)
  exact ⟨t, hc.flat c, by rw [e, this, List.append_nil]⟩
end DI
end

section
set_option Elab.async false
set_option linter.all false
set_option maxRecDepth 100000
namespace DI
open PySem
section
variable {P : Prog} {r : D → Option Str} {k : D → Mem → Prop} {kx : D → Mem → Prop} {μ : Mem}
theorem ladle_B {n i B : Nat} {t : Ob} {top : Int} (H : P.fns 8 = some f8) (ht : μ[i]? = some t) (tub : Tub B t) (hB : B ≤ BB) (h0 : 0 < top) (h1 : top < 2 ^ 30) (q : ∀ t' j, Tub (B + 1) t' → 0 ≤ j → j < top → k (.int j) (μ.set i t')) : WpR (calD P r (n + 1) 8 [.obj i, .int top] μ) k kx := by
  obtain ⟨a, b, c, rfl, a0, a1, b0, b1, c0⟩ := tub
  have hi := lt_of_get ht
  refine d_w (ρ0 := [some (.obj i), some (.int top), none, none, none]) H rfl rfl ?_
  walk_at "ev"
  refine w_idxO ht rfl ?_
  walk_at "ev"
  refine w_of (d := D.int (b + 1)) rfl ?_
  walk_at "ev"
  refine w_setO ht (n := 1) rfl ?_
  walk_at "ev"
  refine s_ite ?_
  walk_at "ev"
  have e1 : (μ.set i (.lst [.int a, .int (b + 1), .int c]))[i]? = some (.lst [.int a, .int (b + 1), .int c]) := get_set hi
  refine w_idxO e1 rfl ?_
  walk_at "ev"
  refine ⟨decide (0 < c), rfl, fun hc => ?_, fun hc => ?_⟩
  · have hc := of_decide_eq_true hc
    walk_at "ev"
    refine w_idxO e1 rfl ?_
    refine w_eq (d := D.int c) rfl ?_
    walk_at "ev"
    refine w_of (d := D.key [.int (c / top), .int (c % top)]) (by simp only [bi2V]; rw [if_pos ⟨h0, by omega⟩]) ?_
    refine w_ttup (.inr (.inl rfl)) ?_
    walk_at "ev"
    refine w_setO e1 (n := 2) rfl ?_
    walk_at "ev"
    refine fin_len (by simp) ?_
    rw [List.set_set]
    exact q _ _ ⟨a, b + 1, c / top, rfl, a0, a1, by omega, by omega, Int.ediv_nonneg c0 (by omega)⟩ (Int.emod_nonneg _ (by omega)) (Int.emod_lt_of_pos _ h0)
  · walk_at "ev"
    refine w_idxO e1 rfl ?_
    refine w_of (d := D.int a) rfl ?_
    walk_at "ev"
    refine w_of (d := D.int a) rfl ?_
    walk_at "ev"
    refine w_of (d := D.int (a % 16001)) rfl ?_
    walk_at "ev"
    refine w_of (d := D.int (a % 16001 + 57001)) rfl ?_
    walk_at "ev"
    have f0 : 0 ≤ a % 16001 := Int.emod_nonneg _ (by omega)
    have f1 : a % 16001 < 16001 := Int.emod_lt_of_pos _ (by omega)
    refine w_of (mul_ok (by omega) (by omega)) ?_
    walk_at "ev"
    refine w_idxO e1 rfl ?_
    refine w_of (mul_BB2 (by omega) (by omega)) ?_
    refine w_of (d := D.int (a * (a % 16001 + 57001) + 70001 * (b + 1))) rfl ?_
    walk_at "ev"
    refine w_of (d := D.int (a * (a % 16001 + 57001) + 70001 * (b + 1) + 11)) rfl ?_
    refine w_of (d := D.int (a * (a % 16001 + 57001) + 70001 * (b + 1) + 11)) rfl ?_
    walk_at "ev"
    refine w_of (d := D.int ((a * (a % 16001 + 57001) + 70001 * (b + 1) + 11) % 2147483179)) rfl ?_
    walk_at "ev"
    refine w_setO e1 (n := 0) rfl ?_
    rw [List.set_set]
    generalize hx : (a * (a % 16001 + 57001) + 70001 * (b + 1) + 11) % 2147483179 = x
    have x0 : 0 ≤ x := by rw [← hx]; exact Int.emod_nonneg _ (by omega)
    have x1 : x < 2147483179 := by rw [← hx]; exact Int.emod_lt_of_pos _ (by omega)
    have e2 : (μ.set i (.lst [.int x, .int (b + 1), .int c]))[i]? = some (.lst [.int x, .int (b + 1), .int c]) := get_set hi
    walk_at "ev"
    refine w_idxO e2 rfl ?_
    walk_at "ev"
    refine w_of (d := D.int (x / 7001)) rfl ?_
    refine w_eq (d := D.int (x / 7001)) rfl ?_
    walk_at "ev"
    refine w_of (mod_ok h0) (fin_len (by simp) ?_)
    exact q _ _ ⟨x, b + 1, c, rfl, x0, x1, by omega, by omega, c0⟩ (Int.emod_nonneg _ (by omega)) (Int.emod_lt_of_pos _ h0)
end
section
variable {P : Prog} {r : D → Option Str} {k : D → Mem → Prop} {kx : D → Mem → Prop} {μ M0 : Mem} {n i B : Nat} {ob : List (Nat × Ob)}
theorem ladle_wB (H : P.fns 8 = some f8) (top : Nat) (K : Nat → Prop) (v0 : Vw Tub μ i M0 B ob) (hi : i < μ.length) (hB : B + 1 ≤ BB) (h : DrawW top K) (q : ∀ (a : Nat) (M' : Mem), K a → Vw Tub μ i M' (B + 1) ob → M'.length = M0.length → k (.int ((a : Nat) : Int)) M') : WpR (calD P r (n + 1) 8 [.obj i, .int ((top : Nat) : Int)] M0) k kx := by
  obtain ⟨t, ht, c⟩ := v0.get hi
  obtain ⟨h1, h2, h3⟩ := h
  refine ladle_B H ht c (by omega) (by omega) (by omega) fun t' j c' j0 j1 => ?_
  obtain ⟨a, rfl⟩ := Int.eq_ofNat_of_zero_le j0
  exact q a _ (h3 a (by omega)) (v0.draw hi c') (by simp)
end

section
variable {P : Prog} {C : Cal} {r : D → Option Str} {ρ : Env} {M μ : Mem} {k : D → Mem → Prop} {kx : D → Mem → Prop} {Q : Nat → Ob → Prop} {i : Nat}
theorem w_insT {α : Type} {f : α → D} {a e1 e2 : E} {j : Nat} (ha : evE P C r a ρ M = .ok (.obj j) M) {l0 : List D} (hg : M[j]? = some (.lst l0)) (h : WpR (evE P C r e1 ρ M) (fun d1 M => ∃ s : Nat, d1 = .int ((s : Nat) : Int) ∧ WpR (evE P C r e2 ρ M) (fun d M => ∃ (B m : Nat) (ob : List (Nat × Ob)) (l : List α) (x : α), d = f x ∧ Vw Q μ i M B ob ∧ ob[m]? = some (j, .lst (l.map f)) ∧ s ≤ l.length ∧ l.length < sizeLn ∧ ∀ M', Vw Q μ i M' B (ob.set m (j, .lst ((l.take s ++ x :: l.drop s).map f))) → k .non M') kx) kx) : WpR (evE P C r (.bm .insert a (.c e1 (.c e2 .n))) ρ M) k kx := by
  refine w_bm (w_eq ha ⟨?_, ?_⟩)
  · simp only [rd, hg, bmTy]
  · refine w_es (h.mono (fun d1 M h => ?_) fun _ _ h => h)
    obtain ⟨s, rfl, h⟩ := h
    refine w_es (h.mono (fun d M h => w_es0 ?_) fun _ _ h => h)
    obtain ⟨B, m, ob, l, x, rfl, v, hm, hs, hz, h⟩ := h
    have e := v.at m hm
    show WpR (insV M j ((s : Nat) : Int) (f x)) k kx
    unfold insV
    rw [e]
    simp only [List.length_map]
    rw [if_pos ⟨hz, by omega, by omega⟩]
    refine h _ ?_
    have e2 : (l.map f).take ((s : Nat) : Int).toNat ++ f x :: (l.map f).drop ((s : Nat) : Int).toNat = (l.take s ++ x :: l.drop s).map f := by
      rw [Int.toNat_natCast, ← List.map_take, ← List.map_drop, List.map_append, List.map_cons]
    rw [e2]
    exact v.put hm _
theorem i_rev2 {a : E} {x y : D} (ha : evE P C r a ρ M = .ok (.tup [x, y]) M) : evE P C r (.rev a false) ρ M = .ok (.tup [y, x]) M := by
  simp only [evE, ha, R.bind_ok, revV, rd, cutR, R.of, Bool.false_eq_true, if_false]; rfl
end

end DI
end

section
set_option Elab.async false
set_option linter.all false
set_option maxRecDepth 100000
namespace DI
open PySem
section
variable {P : Prog} {r : D → Option Str} {k : D → Mem → Prop} {kx : D → Mem → Prop} {μ : Mem}
end
end DI
end

section
set_option Elab.async false
set_option linter.all false
set_option maxRecDepth 100000
set_option maxHeartbeats 1000000
namespace DI
open PySem
structure RW9 (P : Prog) : Prop where
  fn : P.fns 9 = some f9
  s8 : P.fns 8 = some f8

/-- _law_names -/
def w9 (a1 : Nat) (K : (List Str) → Prop) : Prop :=
  (∀ z2 : (List Str), z2 = (("a" : Str) :: (("b" : Str) :: (("c" : Str) :: (("d" : Str) :: (("q" : Str) :: (("zz" : Str) :: (("abcdefgh" : Str) :: (("places" : Str) :: (("m" : Str) :: (("x" : Str) :: ([] : List Str))))))))))) → (a1 < 1000000) ∧ (∀ z6 : List (Nat), z6 = (List.range a1) → (z6.length ≤ sizeLn) ∧ (ForW z6 (([] : (List Str)), z2) (fun (x8 : Nat) (s11 : (List Str) × (List Str)) (Kl : (List Str) × (List Str) → Prop) => (DrawW s11.2.length fun y15 : Nat => (y15 < s11.2.length) ∧ (s11.1.length < sizeLn) ∧ (Kl ((s11.1 ++ [(s11.2.getD y15 (default : Str))]), (s11.2.eraseIdx y15))))) fun s11 : (List Str) × (List Str) => (K s11.1))))
theorem sw9 {P : Prog} {r : D → Option Str} {n : Nat} {M0 : Mem} {k : D → Mem → Prop} {kx : D → Mem → Prop} {μ : Mem} {i B : Nat} {ob : List (Nat × Ob)} (H : RW9 P) (a1 : Nat)  (K : (List Str) → Prop) (v0 : Vw Tub μ i M0 B ob) (hi : i < μ.length) (hB : B + 16777216 ≤ BB) (h : w9 a1 K) (q : ∀ (a : (List Str)) (M' : Mem), K a → Vw Tub μ i M' (B + 16777216) ob → M'.length = M0.length → k (D.tup (List.map D.str a)) M') : WpR (calD P r (n + 2) 9 [.obj i, (D.int ((a1 : Nat) : Int))] M0) k kx := by
  have hi1 := hi
  obtain ⟨t0, ht0, hc0⟩ := v0.get hi
  have hi0 := hi
  have hi : i < M0.length := lt_of_get ht0
  have v : Vw Tub M0 i M0 (B + 0) [] := (Vw.start ht0 hc0)
  unfold w9 at h
  refine d_w (ρ0 := [some (D.obj i), some (D.int ((a1 : Nat) : Int)), none, none, none]) H.fn rfl rfl ?_
  refine no_implicit_lambda% (q_par ?_)
  refine no_implicit_lambda% (w_es ?_)
  refine no_implicit_lambda% (w_layT (Q := Tub) (μ := M0) (i := i) (f := D.str) ?_)
  refine no_implicit_lambda% (w_eq (d := (D.lst (List.map D.str (("a" : Str) :: (("b" : Str) :: (("c" : Str) :: (("d" : Str) :: (("q" : Str) :: (("zz" : Str) :: (("abcdefgh" : Str) :: (("places" : Str) :: (("m" : Str) :: (("x" : Str) :: ([] : List Str)))))))))))))) (i_lst (x_c rfl i_k (x_c rfl i_k (x_c rfl i_k (x_c rfl i_k (x_c rfl i_k (x_c rfl i_k (x_c rfl i_k (x_c rfl i_k (x_c rfl i_k (x_c rfl i_k x_n)))))))))) (sz_ 10 rfl (by decide))) ?_)
  obtain ⟨z2, hz3⟩ : ∃ z : (List Str), z = (("a" : Str) :: (("b" : Str) :: (("c" : Str) :: (("d" : Str) :: (("q" : Str) :: (("zz" : Str) :: (("abcdefgh" : Str) :: (("places" : Str) :: (("m" : Str) :: (("x" : Str) :: ([] : List Str))))))))))) := ⟨_, rfl⟩
  replace h := h z2 hz3
  refine ⟨z2, _, _, by rw [hz3], v, fun j1 M v => ?_⟩
  replace v : Vw Tub M0 i M (B + 0) [(j1, .lst (List.map D.str z2))] := v
  refine no_implicit_lambda% (w_es ?_)
  refine no_implicit_lambda% (w_layT (Q := Tub) (μ := M0) (i := i) (f := D.str) ?_)
  refine no_implicit_lambda% (w_eq (d := (D.lst (List.map D.str ([] : (List Str))))) (i_lst x_n (Nat.zero_le _)) ?_)
  refine ⟨([] : (List Str)), _, _, rfl, v, fun j4 M v => ?_⟩
  replace v : Vw Tub M0 i M (B + 0) [(j4, .lst (List.map D.str ([] : (List Str)))), (j1, .lst (List.map D.str z2))] := v
  refine no_implicit_lambda% (w_es0 ?_)
  refine ⟨_, as_2, ?_⟩
  obtain ⟨g5, h⟩ := h
  obtain ⟨z6, hz7⟩ : ∃ z : List (Nat), z = (List.range a1) := ⟨_, rfl⟩
  replace h := h z6 hz7
  obtain ⟨g22, h⟩ := h
  replace g22 : z6.length ≤ 16777216 := by unfold sizeLn at g22; exact g22
  obtain ⟨I18, ha19, hb20, hc21⟩ := h
  refine no_implicit_lambda% (q_forW (w_eq (d := (none, List.map (fun z : Nat => (D.int ((z : Nat) : Int))) z6)) (by rw [hz7]; exact (t_r1 (i_v rfl) g5)) ?_))
  refine no_implicit_lambda% (q_forL (en := (fun z : Nat => (D.int ((z : Nat) : Int)))) (fun rem ρ M => rem.length ≤ 16777216 ∧ ∃ (s11 : (List Str) × (List Str)) (j12 : Nat) (j13 : Nat) (o14 : Option D), I18 rem s11 ∧ Vw Tub M0 i M ((B + 0) + 1 * (16777216 - rem.length)) [(j12, .lst (List.map D.str s11.1)), (j13, .lst (List.map D.str s11.2))] ∧ ρ = [some (D.obj i), some (D.int ((a1 : Nat) : Int)), some (D.obj j13), some (D.obj j12), o14]) ⟨g22, (([] : (List Str)), z2), _, _, _, ha19, v.mono tubC (by omega), rfl⟩ ?_ ?_)
  · rintro x8 rem9 ρ M ⟨hl, s11, j12, j13, o14, hI, v, rfl⟩
    have hlb10 : rem9.length ≤ 16777216 := Nat.le_of_succ_le hl
    have hkb10 : rem9.length + 1 ≤ 16777216 := hl
    obtain ⟨b10, hbb10⟩ : ∃ b, b = (B + 0) + 1 * (16777216 - (rem9.length + 1)) := ⟨_, rfl⟩
    replace v : Vw Tub M0 i M (b10 + 0) [(j12, .lst (List.map D.str s11.1)), (j13, .lst (List.map D.str s11.2))] := v.mono tubC (by simp only [List.length_cons]; omega)
    have hBb10 : b10 + 1 ≤ BB := by omega
    replace h := hb20 x8 rem9 s11 hI
    refine ⟨_, (fun _ => a_v) _, ?_⟩
    refine no_implicit_lambda% (q_ex (w_appT (Q := Tub) (μ := M0) (i := i) (f := D.str) (i_v rfl) (v.at 0 rfl) ?_))
    refine no_implicit_lambda% (w_popV (Q := Tub) (μ := M0) (i := i) (f := D.str) (i_v rfl) (v.at 1 rfl) ?_)
    refine no_implicit_lambda% (w_cal ?_)
    refine no_implicit_lambda% (w_es (w_eq (i_v rfl) ?_))
    refine no_implicit_lambda% (w_es ?_)
    refine no_implicit_lambda% (w_eq (d := (D.int ((s11.2.length : Nat) : Int))) (i_bi (i_v rfl) (b_lenO (f := D.str) (v.at 1 rfl))) ?_)
    refine no_implicit_lambda% (w_es0 ?_)
    refine no_implicit_lambda% (w_calF H.s8 rfl (ladle_wB H.s8 (n := n + 0) s11.2.length _ v hi (bb hBb10 (by decide)) h ?_))
    intro y15 M h v _
    replace v : Vw Tub M0 i M (b10 + 1) [(j12, .lst (List.map D.str s11.1)), (j13, .lst (List.map D.str s11.2))] := v.mono tubC (bm (by decide))
    obtain ⟨g16, h⟩ := h
    refine ⟨_, 1, y15, _, s11.2, (default : Str), rfl, g16, v, rfl, fun M v => ?_⟩
    replace v : Vw Tub M0 i M (b10 + 1) [(j12, .lst (List.map D.str s11.1)), (j13, .lst (List.map D.str (s11.2.eraseIdx y15)))] := v
    obtain ⟨g17, h⟩ := h
    refine ⟨_, 0, _, s11.1, (s11.2.getD y15 (default : Str)), rfl, v, rfl, g17, fun M v => ?_⟩
    replace v : Vw Tub M0 i M (b10 + 1) [(j12, .lst (List.map D.str (s11.1 ++ [(s11.2.getD y15 (default : Str))]))), (j13, .lst (List.map D.str (s11.2.eraseIdx y15)))] := v
    refine no_implicit_lambda% (q_nil ?_)
    exact ⟨hlb10, ((s11.1 ++ [(s11.2.getD y15 (default : Str))]), (s11.2.eraseIdx y15)), _, _, _, h, v.mono tubC (by omega), rfl⟩
  rintro ρ M ⟨hl, s11, j12, j13, o14, hI, v, rfl⟩
  replace h := hc21 s11 hI
  replace v : Vw Tub M0 i M (B + 16777216) [(j12, .lst (List.map D.str s11.1)), (j13, .lst (List.map D.str s11.2))] := v.mono tubC (by simp only [List.length_nil, Nat.sub_zero]; exact bm (by decide))
  refine no_implicit_lambda% (q_ret ?_)
  refine no_implicit_lambda% (w_eq (d := (D.tup (List.map D.str s11.1))) (i_bi (i_v rfl) (b_tupO (f := D.str) (v.at 0 rfl))) ?_)
  exact v.fin tubC (fun n M => rfl) ((fun z : (List Str) => show lim (D.tup (List.map D.str z)) = 0 from lims_map0 (f := D.str) (fun _ => rfl) z) s11.1) fun t hq => q _ _ h (v0.draw hi0 (tubC.mono hq (ba (by decide)))) (by simp)

structure RW10 (P : Prog) : Prop where
  fn : P.fns 10 = some f10

/-- _law_duos -/
def w10 (a0 : (List Str)) (K : (List (Str × Str)) → Prop) : Prop :=
  (a0.length < 1000000) ∧ (∀ z2 : List (Nat), z2 = (List.range a0.length) → (ForW z2 ([] : (List (Str × Str))) (fun (x4 : Nat) (s7 : (List (Str × Str))) (Kl : (List (Str × Str)) → Prop) => (((a0.drop (x4 + 1))).length ≤ sizeLn) ∧ (∀ z10_3 ∈ (a0.drop (x4 + 1)), x4 < a0.length) ∧ ((s7).length + (((a0.drop (x4 + 1)).map fun z10_3 : Str => ((a0.getD x4 (default : Str)), z10_3))).length ≤ sizeLn) ∧ (∀ v_found_12 : (List (Str × Str)), v_found_12 = (s7 ++ ((a0.drop (x4 + 1)).map fun z10_3 : Str => ((a0.getD x4 (default : Str)), z10_3))) → (Kl v_found_12))) fun s7 : (List (Str × Str)) => (K s7)))
theorem sw10 {P : Prog} {r : D → Option Str} {n : Nat} {M0 : Mem} {k : D → Mem → Prop} {kx : D → Mem → Prop} (H : RW10 P) (a0 : (List Str))  (K : (List (Str × Str)) → Prop) (h : w10 a0 K) (q : ∀ a : (List (Str × Str)), K a → k (D.lst (List.map (fun z : (Str × Str) => (D.tup [(D.str z.1), (D.str z.2)])) a)) M0) : WpR (calD P r (n + 1) 10 [(D.tup (List.map D.str a0))] M0) k kx := by
  have hB : 0 + 0 ≤ BB := by unfold BB; omega
  obtain ⟨B, hB0⟩ : ∃ B, B = 0 := ⟨_, rfl⟩
  rw [← hB0] at hB
  have v : Vw NoC M0 M0.length M0 (B + 0) [] := Vw.start0
  unfold w10 at h
  refine d_w (ρ0 := [some (D.tup (List.map D.str a0)), none, none, none]) H.fn rfl rfl ?_
  refine no_implicit_lambda% (q_asgW ?_)
  refine no_implicit_lambda% (w_eq (d := (D.lst (List.map (fun z : (Str × Str) => (D.tup [(D.str z.1), (D.str z.2)])) ([] : (List (Str × Str)))))) (i_lst x_n (Nat.zero_le _)) ?_)
  obtain ⟨g1, h⟩ := h
  obtain ⟨z2, hz3⟩ : ∃ z : List (Nat), z = (List.range a0.length) := ⟨_, rfl⟩
  replace h := h z2 hz3
  obtain ⟨I14, ha15, hb16, hc17⟩ := h
  refine no_implicit_lambda% (q_forW (w_eq (d := (none, List.map (fun z : Nat => (D.int ((z : Nat) : Int))) z2)) (by rw [hz3]; exact (t_r1 (i_bi (i_v rfl) (b_lenTm (f := D.str))) g1)) ?_))
  refine no_implicit_lambda% (q_forL (en := (fun z : Nat => (D.int ((z : Nat) : Int)))) (fun rem ρ M => True ∧ ∃ (s7 : (List (Str × Str))) (o8 : Option D), I14 rem s7 ∧ Vw NoC M0 M0.length M (B + 0) [] ∧ ρ = [some (D.tup (List.map D.str a0)), some (D.lst (List.map (fun z : (Str × Str) => (D.tup [(D.str z.1), (D.str z.2)])) s7)), o8, none]) ⟨trivial, ([] : (List (Str × Str))), _, ha15, v.mono noC (by omega), rfl⟩ ?_ ?_)
  · rintro x4 rem5 ρ M ⟨hl, s7, o8, hI, v, rfl⟩
    have hlb6 := trivial
    obtain ⟨b6, hbb6⟩ : ∃ b, b = (B + 0) := ⟨_, rfl⟩
    replace v : Vw NoC M0 M0.length M (b6 + 0) [] := v.mono noC (by omega)
    have hBb6 : b6 + 0 ≤ BB := by omega
    replace h := hb16 x4 rem5 s7 hI
    refine ⟨_, (fun _ => a_v) _, ?_⟩
    refine no_implicit_lambda% (q_asgW ?_)
    obtain ⟨g9, g10, g11, h⟩ := h
    obtain ⟨v_found_12, hz13⟩ : ∃ z : (List (Str × Str)), z = (s7 ++ ((a0.drop (x4 + 1)).map fun z10_3 : Str => ((a0.getD x4 (default : Str)), z10_3))) := ⟨_, rfl⟩
    replace h := h v_found_12 hz13
    refine no_implicit_lambda% (w_eq (d := (D.lst (List.map (fun z : (Str × Str) => (D.tup [(D.str z.1), (D.str z.2)])) v_found_12))) (eq_c (f := (fun z : (List (Str × Str)) => (D.lst (List.map (fun z : (Str × Str) => (D.tup [(D.str z.1), (D.str z.2)])) z)))) hz13 (i_bin (i_v rfl) (i_lcM D.str (fun z : (Str × Str) => (D.tup [(D.str z.1), (D.str z.2)])) (fun z10_3 : Str => ((a0.getD x4 (default : Str)), z10_3)) _ (t_T (i_dropT (f := D.str) (l := a0) (i_v rfl) (i_bin (i_v rfl) i_k (o_addN _ _)))) (fun _ => a_v) (fun z10_3 h4 => (i_tup (x_c rfl (i_kT (f := D.str) (l := a0) (default : Str) (i_v rfl) (i_v rfl) (g10 z10_3 h4)) (x_c rfl (i_v rfl) x_n)) (sz_ 2 rfl (by decide)))) g9) (o_addLm (f := (fun z : (Str × Str) => (D.tup [(D.str z.1), (D.str z.2)]))) g11))) ?_)
    refine no_implicit_lambda% (q_nil ?_)
    exact ⟨hlb6, v_found_12, _, h, v.mono noC (by omega), rfl⟩
  rintro ρ M ⟨hl, s7, o8, hI, v, rfl⟩
  replace h := hc17 s7 hI
  replace v : Vw NoC M0 M0.length M (B + 0) [] := v.mono noC (by exact ba (by decide))
  refine no_implicit_lambda% (q_ret ?_)
  refine no_implicit_lambda% (w_eq (d := (D.lst (List.map (fun z : (Str × Str) => (D.tup [(D.str z.1), (D.str z.2)])) s7))) (i_v rfl) ?_)
  exact v.fin noC (fun n M => rfl) ((fun z : (List (Str × Str)) => show lim (D.lst (List.map (fun z : (Str × Str) => (D.tup [(D.str z.1), (D.str z.2)])) z)) = 0 from lims_map0 (f := (fun z : (Str × Str) => (D.tup [(D.str z.1), (D.str z.2)]))) (fun z : (Str × Str) => show lim (D.tup [(D.str z.1), (D.str z.2)]) = 0 from lim_of_2T ((fun _ => rfl) z.1) ((fun _ => rfl) z.2)) z) s7) fun t _ => by rw [set_len0]; exact q _ h

structure RW11 (P : Prog) : Prop where
  fn : P.fns 11 = some f11
  s10 : RW10 P
  s8 : P.fns 8 = some f8
  s9 : RW9 P

/-- _law_plan -/
def w11 (a1 : Nat) (K : ((List Str) × (List (Str × Str))) → Prop) : Prop :=
  (DrawW a1 fun y1 : Nat => (w9 (1 + y1) fun y2 : (List Str) => (DrawW 4 fun y4 : Nat => (∀ v_thick_5 : Nat, v_thick_5 = (2 + y4) → (w10 y2 fun y7 : (List (Str × Str)) => (y7.length ≤ sizeLn) ∧ (ForW y7 ([] : (List (Str × Str))) (fun (x8 : (Str × Str)) (s11 : (List (Str × Str))) (Kl : (List (Str × Str)) → Prop) => (∃ J15 : (List (Str × Str)) → Prop, ((DrawW 7 fun y19 : Nat => (((decide (y19 ≤ v_thick_5)) = true → (DrawW (s11.length + 1) fun y21 : Nat => (DrawW 2 fun y22 : Nat => (y21 ≤ s11.length) ∧ (s11.length < sizeLn) ∧ (J15 (s11.take y21 ++ (if (decide (y22 = 0)) = true then (x8.2, x8.1) else (x8.1, x8.2)) :: s11.drop y21))))) ∧ ((decide (y19 ≤ v_thick_5)) = false → (J15 s11))))) ∧ ∀ s17 : (List (Str × Str)), J15 s17 → (Kl s17))) fun s11 : (List (Str × Str)) => (K (y2, s11))))))))
theorem sw11 {P : Prog} {r : D → Option Str} {n : Nat} {M0 : Mem} {k : D → Mem → Prop} {kx : D → Mem → Prop} {μ : Mem} {i B : Nat} {ob : List (Nat × Ob)} (H : RW11 P) (a1 : Nat)  (K : ((List Str) × (List (Str × Str))) → Prop) (v0 : Vw Tub μ i M0 B ob) (hi : i < μ.length) (hB : B + 67108866 ≤ BB) (h : w11 a1 K) (q : ∀ (a : ((List Str) × (List (Str × Str)))) (M' : Mem), K a → Vw Tub μ i M' (B + 67108866) ob → M'.length = M0.length → k (D.tup [(D.tup (List.map D.str a.1)), (D.tup (List.map (fun z : (Str × Str) => (D.tup [(D.str z.1), (D.str z.2)])) a.2))]) M') : WpR (calD P r (n + 3) 11 [.obj i, (D.int ((a1 : Nat) : Int))] M0) k kx := by
  have hi1 := hi
  obtain ⟨t0, ht0, hc0⟩ := v0.get hi
  have hi0 := hi
  have hi : i < M0.length := lt_of_get ht0
  have v : Vw Tub M0 i M0 (B + 0) [] := (Vw.start ht0 hc0)
  unfold w11 at h
  refine d_w (ρ0 := [some (D.obj i), some (D.int ((a1 : Nat) : Int)), none, none, none, none, none]) H.fn rfl rfl ?_
  refine no_implicit_lambda% (q_par ?_)
  refine no_implicit_lambda% (w_es ?_)
  refine no_implicit_lambda% (w_cal ?_)
  refine no_implicit_lambda% (w_es (w_eq (i_v rfl) ?_))
  refine no_implicit_lambda% (w_es ?_)
  refine no_implicit_lambda% (w_bin ?_)
  refine no_implicit_lambda% (w_eq (d := (D.int ((1 : Nat) : Int))) i_k ?_)
  refine no_implicit_lambda% (w_cal ?_)
  refine no_implicit_lambda% (w_es (w_eq (i_v rfl) ?_))
  refine no_implicit_lambda% (w_es ?_)
  refine no_implicit_lambda% (w_eq (d := (D.int ((a1 : Nat) : Int))) (i_v rfl) ?_)
  refine no_implicit_lambda% (w_es0 ?_)
  refine no_implicit_lambda% (w_calF H.s8 rfl (ladle_wB H.s8 (n := n + 1) a1 _ v hi (bb hB (by decide)) h ?_))
  intro y1 M h v _
  replace v : Vw Tub M0 i M (B + 1) [] := v.mono tubC (bm (by decide))
  refine no_implicit_lambda% (w_of (o_addN _ _) ?_)
  refine no_implicit_lambda% (w_es0 ?_)
  refine no_implicit_lambda% (w_calF H.s9.fn rfl (sw9 H.s9 (n := n + 0) (1 + y1) _ v hi (bb hB (by decide)) h ?_))
  intro y2 M h v _
  replace v : Vw Tub M0 i M (B + 16777217) [] := v.mono tubC (bm (by decide))
  refine no_implicit_lambda% (w_es ?_)
  refine no_implicit_lambda% (w_layT (Q := Tub) (μ := M0) (i := i) (f := (fun z : (Str × Str) => (D.tup [(D.str z.1), (D.str z.2)]))) ?_)
  refine no_implicit_lambda% (w_eq (d := (D.lst (List.map (fun z : (Str × Str) => (D.tup [(D.str z.1), (D.str z.2)])) ([] : (List (Str × Str)))))) (i_lst x_n (Nat.zero_le _)) ?_)
  refine ⟨([] : (List (Str × Str))), _, _, rfl, v, fun j3 M v => ?_⟩
  replace v : Vw Tub M0 i M (B + 16777217) [(j3, .lst (List.map (fun z : (Str × Str) => (D.tup [(D.str z.1), (D.str z.2)])) ([] : (List (Str × Str)))))] := v
  refine no_implicit_lambda% (w_es0 ?_)
  refine ⟨_, as_2, ?_⟩
  refine no_implicit_lambda% (q_asgW ?_)
  refine no_implicit_lambda% (w_bin ?_)
  refine no_implicit_lambda% (w_eq (d := (D.int ((2 : Nat) : Int))) i_k ?_)
  refine no_implicit_lambda% (w_cal ?_)
  refine no_implicit_lambda% (w_es (w_eq (i_v rfl) ?_))
  refine no_implicit_lambda% (w_es ?_)
  refine no_implicit_lambda% (w_eq (d := (D.int ((4 : Nat) : Int))) i_k ?_)
  refine no_implicit_lambda% (w_es0 ?_)
  refine no_implicit_lambda% (w_calF H.s8 rfl (ladle_wB H.s8 (n := n + 1) 4 _ v hi (bb hB (by decide)) h ?_))
  intro y4 M h v _
  replace v : Vw Tub M0 i M (B + 16777218) [(j3, .lst (List.map (fun z : (Str × Str) => (D.tup [(D.str z.1), (D.str z.2)])) ([] : (List (Str × Str)))))] := v.mono tubC (bm (by decide))
  refine no_implicit_lambda% (w_of (o_addN _ _) ?_)
  obtain ⟨v_thick_5, hz6⟩ : ∃ z : Nat, z = (2 + y4) := ⟨_, rfl⟩
  replace h := h v_thick_5 hz6
  rewrite [show (D.int (((2 + y4) : Nat) : Int)) = (D.int ((v_thick_5 : Nat) : Int)) from by rw [hz6]]
  refine no_implicit_lambda% (q_forW (w_ie ?_))
  refine no_implicit_lambda% (w_cal ?_)
  refine no_implicit_lambda% (w_es ?_)
  refine no_implicit_lambda% (w_eq (d := (D.tup (List.map D.str y2))) (i_v rfl) ?_)
  refine no_implicit_lambda% (w_es0 ?_)
  refine no_implicit_lambda% (w_calF H.s10.fn rfl (sw10 H.s10 (n := n + 1) y2 _ h ?_))
  intro y7 h
  refine no_implicit_lambda% (w_of rfl ?_)
  obtain ⟨g30, h⟩ := h
  replace g30 : y7.length ≤ 16777216 := by unfold sizeLn at g30; exact g30
  obtain ⟨I26, ha27, hb28, hc29⟩ := h
  refine no_implicit_lambda% (q_forL (en := (fun z : (Str × Str) => (D.tup [(D.str z.1), (D.str z.2)]))) (fun rem ρ M => rem.length ≤ 16777216 ∧ ∃ (s11 : (List (Str × Str))) (j12 : Nat) (o13 : Option D) (o14 : Option D), I26 rem s11 ∧ Vw Tub M0 i M ((B + 16777218) + 3 * (16777216 - rem.length)) [(j12, .lst (List.map (fun z : (Str × Str) => (D.tup [(D.str z.1), (D.str z.2)])) s11))] ∧ ρ = [some (D.obj i), some (D.int ((a1 : Nat) : Int)), some (D.tup (List.map D.str y2)), some (D.obj j12), some (D.int ((v_thick_5 : Nat) : Int)), o14, o13]) ⟨g30, ([] : (List (Str × Str))), _, _, _, ha27, v.mono tubC (by omega), rfl⟩ ?_ ?_)
  · rintro x8 rem9 ρ M ⟨hl, s11, j12, o13, o14, hI, v, rfl⟩
    have hlb10 : rem9.length ≤ 16777216 := Nat.le_of_succ_le hl
    have hkb10 : rem9.length + 1 ≤ 16777216 := hl
    obtain ⟨b10, hbb10⟩ : ∃ b, b = (B + 16777218) + 3 * (16777216 - (rem9.length + 1)) := ⟨_, rfl⟩
    replace v : Vw Tub M0 i M (b10 + 0) [(j12, .lst (List.map (fun z : (Str × Str) => (D.tup [(D.str z.1), (D.str z.2)])) s11))] := v.mono tubC (by simp only [List.length_cons]; omega)
    have hBb10 : b10 + 3 ≤ BB := by omega
    replace h := hb28 x8 rem9 s11 hI
    refine ⟨_, (fun _ => a_t2) _, ?_⟩
    obtain ⟨J15, h, hj16⟩ := h
    refine no_implicit_lambda% (q_ifJ (fun ρ M => ∃ (s17 : (List (Str × Str))) (j18 : Nat), J15 s17 ∧ Vw Tub M0 i M (b10 + 3) [(j18, .lst (List.map (fun z : (Str × Str) => (D.tup [(D.str z.1), (D.str z.2)])) s17))] ∧ ρ = [some (D.obj i), some (D.int ((a1 : Nat) : Int)), some (D.tup (List.map D.str y2)), some (D.obj j18), some (D.int ((v_thick_5 : Nat) : Int)), some (D.str x8.1), some (D.str x8.2)]) ?_ ?_)
    · refine no_implicit_lambda% (w_cmp ?_)
      refine no_implicit_lambda% (w_cal ?_)
      refine no_implicit_lambda% (w_es (w_eq (i_v rfl) ?_))
      refine no_implicit_lambda% (w_es ?_)
      refine no_implicit_lambda% (w_eq (d := (D.int ((7 : Nat) : Int))) i_k ?_)
      refine no_implicit_lambda% (w_es0 ?_)
      refine no_implicit_lambda% (w_calF H.s8 rfl (ladle_wB H.s8 (n := n + 1) 7 _ v hi (bb hBb10 (by decide)) h ?_))
      intro y19 M h v _
      replace v : Vw Tub M0 i M (b10 + 1) [(j12, .lst (List.map (fun z : (Str × Str) => (D.tup [(D.str z.1), (D.str z.2)])) s11))] := v.mono tubC (bm (by decide))
      refine no_implicit_lambda% (w_eq (d := (D.int ((v_thick_5 : Nat) : Int))) (i_v rfl) ?_)
      refine no_implicit_lambda% (w_eq (c_le _ _) ?_)
      refine ⟨_, rfl, fun c20 => ?_, fun c20 => ?_⟩
      · replace h := h.1 c20
        refine no_implicit_lambda% (q_ex (w_insT (Q := Tub) (μ := M0) (i := i) (f := (fun z : (Str × Str) => (D.tup [(D.str z.1), (D.str z.2)]))) (i_v rfl) (v.at 0 rfl) ?_))
        refine no_implicit_lambda% (w_cal ?_)
        refine no_implicit_lambda% (w_es (w_eq (i_v rfl) ?_))
        refine no_implicit_lambda% (w_es ?_)
        refine no_implicit_lambda% (w_eq (d := (D.int (((s11.length + 1) : Nat) : Int))) (i_bin (i_bi (i_v rfl) (b_lenO (f := (fun z : (Str × Str) => (D.tup [(D.str z.1), (D.str z.2)]))) (v.at 0 rfl))) i_k (o_addN _ _)) ?_)
        refine no_implicit_lambda% (w_es0 ?_)
        refine no_implicit_lambda% (w_calF H.s8 rfl (ladle_wB H.s8 (n := n + 1) (s11.length + 1) _ v hi (bb hBb10 (by decide)) h ?_))
        intro y21 M h v _
        replace v : Vw Tub M0 i M (b10 + 2) [(j12, .lst (List.map (fun z : (Str × Str) => (D.tup [(D.str z.1), (D.str z.2)])) s11))] := v.mono tubC (bm (by decide))
        refine ⟨y21, rfl, ?_⟩
        refine no_implicit_lambda% (w_iteP (fun z : (Str × Str) => (D.tup [(D.str z.1), (D.str z.2)])) (x := (x8.2, x8.1)) (y := (x8.1, x8.2)) ?_)
        refine no_implicit_lambda% (w_cmp ?_)
        refine no_implicit_lambda% (w_cal ?_)
        refine no_implicit_lambda% (w_es (w_eq (i_v rfl) ?_))
        refine no_implicit_lambda% (w_es ?_)
        refine no_implicit_lambda% (w_eq (d := (D.int ((2 : Nat) : Int))) i_k ?_)
        refine no_implicit_lambda% (w_es0 ?_)
        refine no_implicit_lambda% (w_calF H.s8 rfl (ladle_wB H.s8 (n := n + 1) 2 _ v hi (bb hBb10 (by decide)) h ?_))
        intro y22 M h v _
        replace v : Vw Tub M0 i M (b10 + 3) [(j12, .lst (List.map (fun z : (Str × Str) => (D.tup [(D.str z.1), (D.str z.2)])) s11))] := v.mono tubC (bm (by decide))
        refine no_implicit_lambda% (w_eq (d := (D.int ((0 : Nat) : Int))) i_k ?_)
        refine no_implicit_lambda% (w_eq (c_eq n_nat (by decide) y22 0) ?_)
        refine ⟨_, rfl, fun c23 => (i_tup (x_c rfl (i_v rfl) (x_c rfl (i_v rfl) x_n)) (sz_ 2 rfl (by decide))), fun c23 => (i_tup (x_c rfl (i_v rfl) (x_c rfl (i_v rfl) x_n)) (sz_ 2 rfl (by decide))), ?_⟩
        obtain ⟨g24a, g24, h⟩ := h
        refine ⟨_, 0, _, s11, (if (decide (y22 = 0)) = true then (x8.2, x8.1) else (x8.1, x8.2)), rfl, v, rfl, g24a, g24, fun M v => ?_⟩
        replace v : Vw Tub M0 i M (b10 + 3) [(j12, .lst (List.map (fun z : (Str × Str) => (D.tup [(D.str z.1), (D.str z.2)])) (s11.take y21 ++ (if (decide (y22 = 0)) = true then (x8.2, x8.1) else (x8.1, x8.2)) :: s11.drop y21)))] := v
        refine no_implicit_lambda% (q_nil ?_)
        exact ⟨(s11.take y21 ++ (if (decide (y22 = 0)) = true then (x8.2, x8.1) else (x8.1, x8.2)) :: s11.drop y21), _, h, v.mono tubC (ba (by decide)), rfl⟩
      · replace h := h.2 c20
        refine no_implicit_lambda% (q_nil ?_)
        exact ⟨s11, _, h, v.mono tubC (ba (by decide)), rfl⟩
    rintro ρ M ⟨s17, j18, hs25, v, rfl⟩
    replace h := hj16 s17 hs25
    refine no_implicit_lambda% (q_nil ?_)
    exact ⟨hlb10, s17, _, _, _, h, v.mono tubC (by omega), rfl⟩
  rintro ρ M ⟨hl, s11, j12, o13, o14, hI, v, rfl⟩
  replace h := hc29 s11 hI
  replace v : Vw Tub M0 i M (B + 67108866) [(j12, .lst (List.map (fun z : (Str × Str) => (D.tup [(D.str z.1), (D.str z.2)])) s11))] := v.mono tubC (by simp only [List.length_nil, Nat.sub_zero]; exact bm (by decide))
  refine no_implicit_lambda% (q_ret ?_)
  refine no_implicit_lambda% (w_eq (d := (D.tup [(D.tup (List.map D.str (y2, s11).1)), (D.tup (List.map (fun z : (Str × Str) => (D.tup [(D.str z.1), (D.str z.2)])) (y2, s11).2))])) (i_tup (x_c rfl (i_v rfl) (x_c rfl (i_bi (i_v rfl) (b_tupO (f := (fun z : (Str × Str) => (D.tup [(D.str z.1), (D.str z.2)]))) (v.at 0 rfl))) x_n)) (sz_ 2 rfl (by decide))) ?_)
  exact v.fin tubC (fun n M => rfl) ((fun z : ((List Str) × (List (Str × Str))) => show lim (D.tup [(D.tup (List.map D.str z.1)), (D.tup (List.map (fun z : (Str × Str) => (D.tup [(D.str z.1), (D.str z.2)])) z.2))]) = 0 from lim_of_2T ((fun z : (List Str) => show lim (D.tup (List.map D.str z)) = 0 from lims_map0 (f := D.str) (fun _ => rfl) z) z.1) ((fun z : (List (Str × Str)) => show lim (D.tup (List.map (fun z : (Str × Str) => (D.tup [(D.str z.1), (D.str z.2)])) z)) = 0 from lims_map0 (f := (fun z : (Str × Str) => (D.tup [(D.str z.1), (D.str z.2)]))) (fun z : (Str × Str) => show lim (D.tup [(D.str z.1), (D.str z.2)]) = 0 from lim_of_2T ((fun _ => rfl) z.1) ((fun _ => rfl) z.2)) z) z.2)) (y2, s11)) fun t hq => q _ _ h (v0.draw hi0 (tubC.mono hq (ba (by decide)))) (by simp)

end DI
end

section
set_option Elab.async false
set_option linter.all false
namespace DI
open PySem
section
variable {P : Prog} {r : D → Option Str} {n : Nat} {μ : Mem}
end
end DI
end

section
set_option Elab.async false
set_option linter.all false
set_option maxRecDepth 100000
set_option maxHeartbeats 1000000
namespace DI
open PySem
end DI
end

section
set_option Elab.async false
set_option linter.all false
namespace DI
open PySem
theorem draw_w {top : Nat} {K : Nat → Prop} (h0 : 0 < top) (h1 : top ≤ 1000000) (h : ∀ a, a < top → K a) : DrawW top K := ⟨h0, by omega, h⟩
theorem perm_erase {α : Type} : ∀ {l : List α} {i : Nat} (h : i < l.length), (l[i] :: l.eraseIdx i).Perm l
  | a :: l, 0, h => by simp
  | a :: l, i + 1, h => by
    have ih := perm_erase (l := l) (i := i) (by simpa using h)
    simp only [List.getElem_cons_succ, List.eraseIdx_cons_succ]
    exact (List.Perm.swap _ _ _).trans (ih.cons a)
theorem w9_ok {a : Nat} (ha : a ≤ 10) {K : List Str → Prop} (h : ∀ ns : List Str, ns.length = a → ns.Nodup → (∀ s ∈ ns, s ∈ NAMES) → K ns) : w9 a K := by
  have hs : 900000 < sizeLn := by unfold sizeLn; omega
  rintro z2 e2
  refine ⟨by omega, fun z6 e6 => ⟨by rw [e6, List.length_range]; omega, fun rem s => s.1.length + rem.length = a ∧ (s.1 ++ s.2).Perm NAMES, ⟨by rw [e6]; simp, by rw [e2]; exact List.Perm.refl _⟩, ?_, ?_⟩⟩
  · rintro x rem ⟨f, l⟩ ⟨h1, h2⟩
    rw [List.length_cons] at h1
    have hl := h2.length_eq
    have h10 : NAMES.length = 10 := rfl
    rw [List.length_append, h10] at hl
    simp only at h1 h2 hl ⊢
    refine draw_w (by omega) (by omega) fun y hy => ⟨hy, by omega, by simp; omega, ?_⟩
    refine List.Perm.trans ?_ h2
    rw [List.append_assoc]
    refine List.Perm.append_left _ ?_
    show (l.getD y default :: l.eraseIdx y).Perm l
    rw [List.getD_eq_getElem?_getD, List.getElem?_eq_getElem hy]
    exact perm_erase hy
  · rintro ⟨f, l⟩ ⟨h1, h2⟩
    simp only [List.length_nil, Nat.add_zero] at h1 ⊢
    have nd := h2.nodup_iff.mpr NAMES_nd
    exact h f h1 (List.nodup_append.mp nd).1 fun s hs => h2.mem_iff.mp (List.mem_append_left _ hs)
theorem duos_cons {us : List Str} {k : Nat} (h : k < us.length) : duosL (us.drop k) = ((us.drop (k + 1)).map fun y => (us.getD k default, y)) ++ duosL (us.drop (k + 1)) := by
  rw [List.drop_eq_getElem_cons h, List.getD_eq_getElem?_getD, List.getElem?_eq_getElem h]
  rfl
theorem duos_64 {us : List Str} (h : us.length ≤ 8) : (duosL us).length ≤ 64 := Nat.le_trans (duosL_len us) (Nat.mul_le_mul h h)
theorem w10_ok {us : List Str} (h8 : us.length ≤ 8) {K : List (Str × Str) → Prop} (h : K (duosL us)) : w10 us K := by
  have hs : 900000 < sizeLn := by unfold sizeLn; omega
  have hd := duos_64 h8
  refine ⟨by omega, fun z2 e2 => ⟨fun rem s => ∃ k, k + rem.length = us.length ∧ rem = (List.range us.length).drop k ∧ s ++ duosL (us.drop k) = duosL us, ⟨0, by rw [e2]; simp, by rw [e2]; rfl, by simp⟩, ?_, ?_⟩⟩
  · rintro x rem s ⟨k, h1, h2, h3⟩
    rw [List.length_cons] at h1
    have hk : k < us.length := by omega
    rw [List.drop_eq_getElem_cons (by simpa using hk), List.getElem_range] at h2
    obtain ⟨rfl, h2⟩ := List.cons.inj h2
    rw [duos_cons hk, ← List.append_assoc] at h3
    have hl : s.length + (us.drop (x + 1)).length ≤ (duosL us).length := by
      rw [← h3]; simp <;> omega
    refine ⟨by simp; omega, fun _ _ => hk, by rw [List.length_map]; omega, fun f e => ⟨x + 1, by omega, h2, ?_⟩⟩
    rw [e]; exact h3
  · rintro s ⟨k, h1, h2, h3⟩
    have : k = us.length := by simpa using h1
    rw [this, List.drop_length] at h3
    have e : s = duosL us := by simpa [duosL] using h3
    rw [e]; exact h
theorem part_ok {ns : List Str} (nd : ns.Nodup) {ts : List (Str × Str)} (p : Part (duosL ns) ts) : OkTs ns ts := by
  refine ⟨fun t ht => ?_, p.pw⟩
  rcases p.mem t ht with h | h
  · exact ⟨(duosL_mem h).1, (duosL_mem h).2, duosL_ne nd _ h⟩
  · exact ⟨(duosL_mem h).2, (duosL_mem h).1, fun e => duosL_ne nd _ h e.symm⟩
theorem part_ins {done ts : List (Str × Str)} {p : Str × Str} (part : Part done ts) (hnew : ∀ z ∈ done, alike z p = false) (j : Nat) (q : Str × Str) (hq : q = p ∨ q = (p.2, p.1)) : Part (done ++ [p]) (ts.take j ++ q :: ts.drop j) := by
  have hall := part.alike hnew
  refine ⟨fun z hz => ?_, pw_ins _ part.pw fun z hz => ?_⟩
  · simp only [List.mem_append, List.mem_cons] at hz
    rcases hz with hz | rfl | hz
    · rcases part.mem z (List.mem_of_mem_take hz) with h | h <;> simp [h]
    · rcases hq with rfl | rfl <;> simp
    · rcases part.mem z (List.mem_of_mem_drop hz) with h | h <;> simp [h]
  · rcases hq with rfl | rfl
    · exact hall z hz
    · rw [alike_comm, alike_swap, alike_comm]; exact hall z hz
theorem w11_ok {most : Nat} (m0 : 0 < most) (m1 : most ≤ 8) {K : List Str × List (Str × Str) → Prop} (h : ∀ ns ts, OkW (ns, ts) → ns.length ≤ most → ts.length ≤ 64 → K (ns, ts)) : w11 most K := by
  have hs : 900000 < sizeLn := by unfold sizeLn; omega
  refine draw_w m0 (by omega) fun y1 h1 => w9_ok (by omega) fun ns hl nd sub => draw_w (by omega) (by omega) fun y4 _ th eth => w10_ok (by omega) ?_
  have h8 : ns.length ≤ 8 := by omega
  have hd := duos_64 h8
  have okn : OkNs ns := ⟨by intro e; subst e; simp at hl; omega, h8, fun s hs => NAMES_nm s (sub s hs), nd⟩
  refine ⟨by omega, fun rem s => ∃ done, done ++ rem = duosL ns ∧ Part done s ∧ s.length ≤ done.length, ⟨[], rfl, ⟨(fun t h => nomatch h), List.Pairwise.nil⟩, Nat.le_refl _⟩, ?_, ?_⟩
  · rintro p rem s ⟨done, e, part, hn⟩
    have hlen : done.length + (rem.length + 1) = (duosL ns).length := by rw [← e]; simp
    have hnew : ∀ z ∈ done, alike z p = false := by
      have := duosL_pw nd
      rw [← e, List.pairwise_append] at this
      exact fun z hz => this.2.2 z hz p (by simp)
    refine ⟨fun s' => ∃ done, done ++ rem = duosL ns ∧ Part done s' ∧ s'.length ≤ done.length, draw_w (by omega) (by omega) fun y19 _ => ⟨fun _ => draw_w (by omega) (by omega) fun y21 h21 => draw_w (by omega) (by omega) fun y22 _ => ⟨by omega, by omega, done ++ [p], by rw [← e]; simp, part_ins part hnew _ _ ?_, ?_⟩, fun _ => ⟨done ++ [p], by rw [← e]; simp, ⟨fun z hz => ?_, part.pw⟩, by simp; omega⟩⟩, fun _ h => h⟩
    · split
      · exact .inr rfl
      · exact .inl rfl
    · simp; omega
    · rcases part.mem z hz with h | h <;> simp [h]
  · rintro s ⟨done, e, part, hn⟩
    rw [List.append_nil] at e
    subst e
    exact h ns s ⟨okn, part_ok nd part, by simp only; omega⟩ (by omega) (by omega)
theorem okTs_sub {ns : List Str} {ts us : List (Str × Str)} (o : OkTs ns ts) (h : us.Sublist ts) : OkTs ns us := ⟨fun t ht => o.mem t (h.subset ht), o.pw.sublist h⟩
theorem okTs_turn {ns : List Str} {ts : List (Str × Str)} (o : OkTs ns ts) : OkTs ns (ts.map fun z => (z.2, z.1)).reverse := by
  refine ⟨fun t ht => ?_, ?_⟩
  · obtain ⟨u, hu, rfl⟩ := List.mem_map.mp (List.mem_reverse.mp ht)
    obtain ⟨a, b, c⟩ := o.mem u hu
    exact ⟨b, a, c.symm⟩
  · rw [List.pairwise_reverse, List.pairwise_map]
    refine o.pw.imp fun {a b} e => ?_
    rw [alike_swap, alike_comm, alike_swap]; exact e
end DI
end

section
set_option Elab.async false
set_option linter.all false
set_option maxRecDepth 100000
namespace DI
open PySem
end DI
end

section
set_option Elab.async false
set_option linter.all false
set_option maxRecDepth 100000
namespace DI
open PySem
theorem okTs_perm {ns : List Str} {ts us : List (Str × Str)} (o : OkTs ns ts) (p : us.Perm ts) : OkTs ns us := by
  refine ⟨fun t ht => o.mem t (p.mem_iff.mp ht), ?_⟩
  rw [p.pairwise_iff fun {a b} e => by rw [alike_comm]; exact e]
  exact o.pw
end DI
end

section
set_option Elab.async false
set_option linter.all false
set_option maxRecDepth 100000
namespace DI
open PySem
end DI
end

section
set_option Elab.async false
set_option linter.all false
set_option maxRecDepth 100000
namespace DI
open PySem
end DI
end

section
set_option Elab.async false
set_option linter.all false
namespace DI
open PySem
section
variable {P : Prog} {C : Cal} {r : D → Option Str} {ρ : Env} {M : Mem}
end
end DI
end

section
set_option Elab.async false
set_option linter.all false
set_option maxRecDepth 100000
set_option maxHeartbeats 1000000
namespace DI
open PySem
end DI
end

section
set_option Elab.async false
set_option linter.all false
set_option maxRecDepth 100000
namespace DI
open PySem
section
variable {P : Prog} {r : D → Option Str} {k : D → Mem → Prop} {kx : D → Mem → Prop} {μ : Mem}
end
end DI
end

section
set_option Elab.async false
set_option linter.all false
set_option maxRecDepth 100000
set_option maxHeartbeats 1000000
namespace DI
open PySem
end DI
end

section
set_option Elab.async false
set_option linter.all false
namespace DI
open PySem
section
variable {P : Prog} {r : D → Option Str} {n : Nat} {μ : Mem}
end
end DI
end

section
set_option Elab.async false
set_option linter.all false
set_option maxRecDepth 100000
set_option maxHeartbeats 1000000
namespace DI
open PySem
end DI
end

section
set_option Elab.async false
set_option linter.all false
set_option maxRecDepth 100000
set_option maxHeartbeats 1000000
namespace DI
open PySem
end DI
end

section
set_option Elab.async false
set_option linter.all false
set_option maxRecDepth 100000
namespace DI
open PySem
end DI
end

section
set_option Elab.async false
set_option linter.all false
set_option maxRecDepth 100000
namespace DI
open PySem
section
variable {us : List Str} {l : List (Nat × Nat)} {ts : List (Str × Str)}
end
end DI
end

section
set_option Elab.async false
set_option linter.all false
set_option maxRecDepth 100000
set_option maxHeartbeats 1000000
namespace DI
open PySem
end DI
end

section
set_option Elab.async false
set_option linter.all false
set_option maxRecDepth 100000
set_option maxHeartbeats 1000000
namespace DI
open PySem
end DI
end

section
set_option Elab.async false
set_option linter.all false
namespace DI
open PySem
end DI
namespace DI
open PySem
theorem BB_big : (100000000000 : Nat) ≤ BB := by unfold BB; decide +kernel
end DI
end

section
set_option Elab.async false
set_option linter.all false
namespace DI
open PySem
end DI
namespace DI
open PySem
end DI
end

section
set_option Elab.async false
set_option linter.all false
set_option maxRecDepth 100000
namespace DI
open PySem
end DI
end

section
set_option Elab.async false
set_option linter.all false
set_option maxRecDepth 100000
namespace DI
open PySem
end DI
end

section
set_option Elab.async false
set_option linter.all false
set_option maxRecDepth 100000
namespace DI
open PySem
section
variable {P : Prog} {C : Cal} {r : D → Option Str} {ρ : Env} {M : Mem}
end
end DI
end

section
set_option Elab.async false
set_option linter.all false
set_option maxRecDepth 100000
set_option maxHeartbeats 1000000
namespace DI
open PySem
end DI
end

section
set_option Elab.async false
set_option linter.all false
set_option maxRecDepth 100000
namespace DI
open PySem
section
variable {us : List Str} {ts : List (Str × Str)}
end
end DI
end

section
set_option Elab.async false
set_option linter.all false
set_option maxRecDepth 100000
namespace DI
open PySem
section
variable {P : Prog} {C : Cal} {r : D → Option Str} {ρ : Env} {M : Mem} {kn : Env → Mem → Prop} {kr : D → Mem → Prop} {ks : D → Env → Mem → Prop}
end
end DI
end

section
set_option Elab.async false
set_option linter.all false
namespace DI
open PySem
section
variable {P : Prog} {C : Cal} {r : D → Option Str} {μ : Mem}
end
end DI
end

section
set_option Elab.async false
set_option linter.all false
namespace DI
open PySem
section
variable {P : Prog} {C : Cal} {r : D → Option Str} {μ : Mem}
end
end DI
end

section
set_option Elab.async false
set_option linter.all false
set_option maxRecDepth 100000
set_option maxHeartbeats 1000000
namespace DI
open PySem
end DI
end

section
set_option Elab.async false
set_option linter.all false
set_option maxRecDepth 100000
namespace DI
open PySem
section
variable {us : List Str} {rows rows' : List (Str × List Str)}
end
end DI
end

section
set_option Elab.async false
set_option linter.all false
set_option maxRecDepth 100000
namespace DI
open PySem
section
variable {P : Prog} {r : D → Option Str} {n : Nat} {μ : Mem}
end
end DI
end

section
set_option Elab.async false
set_option linter.all false
set_option maxRecDepth 100000
set_option maxHeartbeats 1000000
namespace DI
open PySem
end DI
end

section
set_option Elab.async false
set_option linter.all false
set_option maxRecDepth 100000
set_option maxHeartbeats 1000000
namespace DI
open PySem
end DI
end

section
set_option Elab.async false
set_option linter.all false
namespace DI
open PySem
end DI
end

section
set_option Elab.async false
set_option linter.all false
set_option maxRecDepth 100000
set_option maxHeartbeats 4000000
namespace DI
open PySem
/-- an error of the package -/
inductive Er where
  | nw (d : D) | nn (d : D) | ip (d : D) | num (d : D) | told (d : D) | mkg (d : D) | unk (d : D) | imp | many (d : D)
  deriving Inhabited
section
variable {P : Prog} {r : D → Option Str} {n : Nat} {μ : Mem}
end
end DI
namespace DI
open PySem
section
variable {P : Prog} {C : Cal} {r : D → Option Str} {ρ : Env} {μ : Mem} {α : Type} {f : α → D} {x : Except Er α}
end
end DI
end

section
set_option Elab.async false
set_option linter.all false
set_option maxRecDepth 100000
set_option maxHeartbeats 1000000
namespace DI
open PySem
end DI
end

section
set_option Elab.async false
set_option linter.all false
set_option maxRecDepth 100000
set_option maxHeartbeats 1000000
namespace DI
open PySem
end DI
end

section
set_option Elab.async false
set_option linter.all false
namespace DI
open PySem
end DI
namespace DI
open PySem
end DI
end

section
set_option Elab.async false
set_option linter.all false
namespace DI
open PySem
section
variable {P : Prog} {r : D → Option Str} {n : Nat} {μ : Mem}
end
end DI
end

section
set_option Elab.async false
set_option linter.all false
set_option maxRecDepth 100000
namespace DI
open PySem
structure SayW (P : Prog) : Prop where
  web : HasWeb P
  c5 : CFld P 29 5
  c6 : CFld P 29 6
  f19 : P.fns 19 = some f19
  f20 : P.fns 20 = some f20
  f28 : P.fns 28 = some f28
  s28 : specOf P 29 2 = some 28
  exs : P.exs = true
def pageW (w : Wb) : Str := pageS w.1 w.2
def readW (t : Str) : Wb := match rowsT t with | (_ :: ns) :: rest => (ns, rest.map fun w => (w.getD 0 default, w.getD 1 default)) | _ => ([], [])
theorem rowsT_page {ns : List Str} {ts : List (Str × Str)} (h : OkNs ns) (ht : OkTs ns ts) : rowsT (pageS ns ts) = rowsOf ns ts := by
  unfold rowsT
  rw [page_split h ht, List.map_map]
  conv => rhs; rw [← List.map_id (rowsOf ns ts)]
  refine List.map_congr_left fun w hw => ?_
  have h1 := rows_low h ht w hw
  show (splitC 32 (lineL w)).map sM = w
  rw [line_split h1.2.2 h1.1, List.map_map]
  conv => rhs; rw [← List.map_id w]
  exact List.map_congr_left fun s _ => sM_sL s
theorem read_page {w : Wb} (ok : OkW w) : readW (pageW w) = w := by
  unfold readW pageW
  rw [rowsT_page ok.ns ok.ts]
  obtain ⟨ns, ts⟩ := w
  show (ns, (ts.map fun t => [t.1, t.2]).map fun w : List Str => (w.getD 0 default, w.getD 1 default)) = (ns, ts)
  rw [List.map_map]
  congr 1
  conv => rhs; rw [← List.map_id ts]
  exact List.map_congr_left fun t _ => rfl
section
variable {P : Prog} {r : D → Option Str} {k : D → Mem → Prop} {kx : D → Mem → Prop} {μ : Mem}
theorem w_attC {C : Cal} {ns : List Str} {ts : List (Str × Str)} {f : Nat} {d : D} (H : CFld P 29 f) (e : fget f [5, 6, 7] [nsD ns, tsD ts, (match webD ns ts with | .ins _ _ vs => vs.getD 2 .non | _ => .non)] = some d) (q : k d μ) : WpR (attV P C μ (webD ns ts) f) k kx := by
  obtain ⟨kk, h1, h2, h3⟩ := H
  exact w_attI h1 h2 h3 e q
theorem str_W {n : Nat} {w : Wb} (H : SayW P) (ok : OkW w) : calD P r (n + 1) 28 [wD w] μ = .ok (.str (pageW w)) μ := by
  obtain ⟨ns, ts⟩ := w
  have okn : OkNs ns := ok.ns
  have okt : OkTs ns ts := ok.ts
  have hl : ts.length ≤ 200 := Nat.le_trans (okt_len ok.ns.few ok.ts) (by omega)
  refine eq_w ?_
  have e32 : sL " " = [32] := by decide +kernel
  have hj : ∀ w ∈ rowsOf ns ts, joinV " " (.lst (w.map .str)) = some (.str (sM (lineL w))) ∧ joinV " " (.tup (w.map .str)) = some (.str (sM (lineL w))) := by
    intro w hw
    have h1 := rows_low okn okt w hw
    have := joinV_strs (s := " ") (ws := w) (b := 8) (c := 1) (fun s hs => (h1.2.2 s hs).1) (by omega) (by decide +kernel) (by omega)
    rw [e32] at this
    exact this
  have hfew := okn.few
  show WpR (calD P r (n + 1) 28 [webD ns ts] μ) _ _
  refine d_w (ρ0 := [some (webD ns ts), none]) H.f28 rfl rfl ?_
  walk_at "ev"
  refine ⟨rfl, ?_⟩
  walk_at "ev"
  refine w_lstX ?_
  walk_at "ev"
  refine ⟨rfl, ?_⟩
  walk_at "ev"
  refine w_lstX ?_
  walk_at "ev"
  refine w_attC H.c5 rfl ?_
  refine ⟨ns.map .str, .inl rfl, ?_⟩
  walk_at "ev"
  refine ⟨by simp; unfold sizeLn; omega, ?_⟩
  refine w_of (d := D.str (sM (lineL (PLACES :: ns)))) ?_ ?_
  · have := (hj (PLACES :: ns) (by simp [rowsOf])).1
    simpa [rd] using this
  walk_at "ev"
  refine w_lcM ts tieD (fun t => .str (sM (lineL [t.1, t.2]))) ?_
  walk_at "ev"
  refine w_attC H.c6 rfl ?_
  refine w_of (d := (none, ts.map tieD)) rfl ⟨rfl, rfl, fun t ht => ?_, ?_, ?_⟩
  · walk_at "ev"
    refine ⟨rfl, ?_⟩
    walk_at "ev"
    refine w_of (d := D.str (sM (lineL [t.1, t.2]))) ?_ ⟨rfl, rfl⟩
    exact (hj [t.1, t.2] (List.mem_cons_of_mem _ (List.mem_map.mpr ⟨t, ht, rfl⟩))).2
  · unfold sizeLn; omega
  · refine ⟨_, .inr rfl, ?_⟩
    walk_at "ev"
    refine ⟨by simp; unfold sizeLn; omega, ?_⟩
    refine w_of (d := D.str (pageS ns ts)) ?_ (fin_same ⟨rfl, rfl⟩)
    have := page_join okn okt hl
    simpa [rd, rowsOf, Function.comp_def] using this
theorem i_strW {n : Nat} {ρ : Env} {e : E} {w : Wb} (H : SayW P) (he : evE P (Cn P r (n + 1)) r e ρ μ = .ok (wD w) μ) (ok : OkW w) : evE P (Cn P r (n + 1)) r (.bi .str (.c e .n)) ρ μ = .ok (.str (pageW w)) μ := by
  refine i_bi he (eq_w ?_)
  refine w_strI H.s28 (w_calF H.f28 rfl (w_eq (str_W (n := n) H ok) ⟨_, rfl, rfl, rfl⟩))
theorem read_W {n : Nat} {c : D} {w : Wb} (H : SayW P) (ok : OkW w) : calD P r (n + 5) 20 [c, .str (pageW w)] μ = .ok (wD w) μ := by
  obtain ⟨ns, ts⟩ := w
  have okn : OkNs ns := ok.ns
  have okt : OkTs ns ts := ok.ts
  have hl : ts.length ≤ 200 := Nat.le_trans (okt_len ok.ns.few ok.ts) (by omega)
  have h19 : calD P r (n + 4) 19 [.str (pageS ns ts)] μ = .ok (webD ns ts) μ := by
    refine eq_w ?_
    have e32 : sL " " = [32] := by decide +kernel
    have e10 : sL "\n" = [10] := by decide +kernel
    have hlow := rows_low okn okt
    have hr : (rowsOf ns ts).length = ts.length + 1 := by simp [rowsOf]
    refine d_w (ρ0 := [some (.str (pageS ns ts)), none, none]) H.f19 rfl rfl ?_
    walk_at "ev"
    refine w_lcM (rowsOf ns ts) (fun w => .str (sM (lineL w))) (fun w => .tup (w.map .str)) ?_
    walk_at "ev"
    refine ⟨rfl, ?_⟩
    walk_at "ev"
    refine w_of (d := D.lst ((rowsOf ns ts).map fun w => .str (sM (lineL w)))) ?_ ?_
    · simp only [splitV, e10]
      have := page_len okn okt
      rw [if_pos (by unfold sizeLn; omega), page_split okn okt, List.map_map]
      rfl
    refine w_of (d := (none, (rowsOf ns ts).map fun w => .str (sM (lineL w)))) rfl ⟨rfl, rfl, fun w hw => ?_, by unfold sizeLn; omega, ?_⟩
    · walk_at "ev"
      refine ⟨rfl, ?_⟩
      walk_at "ev"
      have h1 := hlow w hw
      refine w_of (d := D.lst (w.map .str)) ?_ ?_
      · have := line_len h1.2.2
        simp only [splitV, e32, sL_sM]
        rw [if_pos (by unfold sizeLn; omega), line_split h1.2.2 h1.1, List.map_map]
        congr 2
      exact w_of (d := D.tup (w.map .str)) rfl ⟨rfl, rfl⟩
    walk_at "ev"
    refine s_iteF ?_
    walk_at "ev"
    refine w_of (d := D.tup ((PLACES :: ns).map .str)) (by simp [rowsOf, atPl]) ?_
    walk_at "ev"
    refine w_of (d := D.str PLACES) (by simp [atPl]) ?_
    walk_at "ev"
    refine w_eq (d := false) (μ := μ) (by simp [cmpV, eqV, rd, SMD, notR]) ⟨rfl, ?_⟩
    walk_at "ev"
    refine w_of (d := D.tup ((PLACES :: ns).map .str)) (by simp [rowsOf, atPl]) ?_
    walk_at "ev"
    refine ⟨1, rfl, ?_⟩
    walk_at "ev"
    refine w_of (d := nsD ns) ?_ ?_
    · simp [sliD, rd, cut, clip, nsD, List.take_of_length_le]
    walk_at "ev"
    refine ⟨1, rfl, ?_⟩
    walk_at "ev"
    refine w_of (d := D.lst (ts.map tieD)) ?_ ?_
    · have : ∀ l : List (Str × Str), l.map ((fun w => D.tup (w.map D.str)) ∘ fun t => [t.1, t.2]) = l.map tieD := fun l => List.map_congr_left fun t _ => rfl
      simp [sliD, rd, cut, clip, rowsOf, List.take_of_length_le, this]
    refine w_of (d := tsD ts) rfl ?_
    exact web_newF (n := n) H.web okn okt (by omega) rfl (fin_same ⟨rfl, rfl⟩)
  refine eq_w ?_
  refine d_w (ρ0 := [some c, some (.str (pageS ns ts)), none]) H.f20 rfl rfl ?_
  walk_at "ev"
  refine w_iteT ?_
  walk_at "ev"
  refine ⟨true, rfl, rfl, ?_⟩
  walk_at "ev"
  refine w_calF H.f19 rfl (w_eq h19 ?_)
  walk_at "ev"
  refine s_iteF ?_
  walk_at "ev"
  refine w_of (d := false) rfl ⟨rfl, ?_⟩
  walk_at "ev"
  exact fin_same ⟨rfl, rfl⟩
def RdW (t : Str) : Prop := ∃ w, OkW w ∧ t = pageW w
theorem sp20R {n : Nat} {c : D} {t : Str} (H : SayW P) (h : RdW t) : calD P r (n + 5) 20 [c, .str t] μ = .ok (wD (readW t)) μ := by
  obtain ⟨w, ok, rfl⟩ := h
  rw [read_page ok]
  exact read_W H ok
end
end DI
end

section
set_option Elab.async false
set_option linter.all false
set_option maxRecDepth 100000
namespace DI
open PySem
/-- a thing that is no notes: a built-in value or a web -/
def Qv : Type := { d : D // ((tyNo d).isSome = true ∨ ∃ w : Wb, d = wD w) ∧ lim d = 0 }
instance : Inhabited Qv := ⟨⟨.non, .inl rfl, rfl⟩⟩
theorem Qv.lim (q : Qv) : lim q.1 = 0 := q.2.2
theorem q_frz (q : Qv) (n : Nat) (M : Mem) : frz n M q.1 = q.1 := by
  obtain ⟨d, h | ⟨w, rfl⟩, _⟩ := q
  · show frz n M d = d
    cases d <;> first | rfl | (simp [tyNo] at h)
  · rfl
theorem Qv.sp (q : Qv) : isSp q.1 = false := by
  obtain ⟨d, h | ⟨w, rfl⟩, _⟩ := q
  · show isSp d = false
    cases d <;> first | rfl | (simp [tyNo] at h)
  · rfl
theorem rd_ty {μ : Mem} {d : D} (h : (tyNo d).isSome = true) : rd μ d = d := by cases d <;> first | rfl | (simp [tyNo] at h)
theorem Qv.rd (q : Qv) {μ : Mem} : rd μ q.1 = q.1 := by
  obtain ⟨d, h | ⟨w, rfl⟩, _⟩ := q
  · exact rd_ty h
  · rfl
section
variable {P : Prog} {C : Cal} {r : D → Option Str} {μ : Mem}
theorem sm_ins (n : Nat) (c : Nat) (ns : List Nat) (vs : List D) : sm n (.ins c ns vs) = false := by cases n <;> rfl
theorem nil_ins {d : D} {c : Nat} {ns : List Nat} {vs : List D} : nilT d (.ins c ns vs) = false := by cases d <;> rfl
theorem eqV_l {c f : Nat} {ns : List Nat} {vs : List D} {d : D} {b : Bool} (hs : specOf P c 0 = some f) (he : eqTo P (.ins c ns vs) (rd μ d) = true) (hc : calF P C f [.ins c ns vs, d] [] [] μ = .ok (.bl b) μ) : eqV P C μ (.ins c ns vs) d = .ok b μ := by
  unfold eqV
  have e1 : rd μ (.ins c ns vs) = .ins c ns vs := rfl
  have e2 : nilT (D.ins c ns vs) (rd μ d) = false := rfl
  have e3 : special P μ (.ins c ns vs) 0 = some f := by simp [special, clsAt, e1, clsOf, hs]
  rw [e1, sm_ins, Bool.false_and, if_neg Bool.false_ne_true, e2, if_neg Bool.false_ne_true, e3]
  simp only [he, if_true, hc, R.bind_ok, tru, R.of]
theorem eqV_r {c f : Nat} {ns : List Nat} {vs : List D} {d : D} {b : Bool} (hs : specOf P c 0 = some f) (hd : (tyNo d).isSome = true) (hc : calF P C f [.ins c ns vs, d] [] [] μ = .ok (.bl b) μ) : eqV P C μ d (.ins c ns vs) = .ok b μ := by
  unfold eqV
  have e1 : rd μ (.ins c ns vs) = .ins c ns vs := rfl
  have e3 : special P μ (.ins c ns vs) 0 = some f := by simp [special, clsAt, e1, clsOf, hs]
  have e4 : special P μ d 0 = none := by
    unfold special clsAt
    rw [rd_ty hd]
    cases d <;> first | rfl | (simp [tyNo] at hd)
  rw [e1, sm_ins, Bool.and_false, if_neg Bool.false_ne_true, nil_ins, if_neg Bool.false_ne_true, e4, e3, rd_ty hd]
  simp only [hd, if_true, hc, R.bind_ok, tru, R.of]
theorem i_isiQ {e : E} {d : D} {c : Nat} {ρ : Env} (he : evE P C r e ρ μ = .ok d μ) (hd : (tyNo d).isSome = true) : evE P C r (.isi e [.own c]) ρ μ = .ok (.bl false) μ := by
  have e1 : isTys P μ d [.own c] = some false := by
    cases d <;> first | rfl | (simp [tyNo] at hd)
  simp only [evE, he, R.bind_ok, e1, Option.map, R.of]
theorem i_andF {a : E} {es : Es} {ρ : Env} (ha : evE P C r a ρ μ = .ok (.bl false) μ) : evE P C r (.and (.c a es)) ρ μ = .ok (.bl false) μ := by
  cases es with
  | n => exact i_and1 ha
  | c b es => exact i_and (x := false) (y := false) ha (fun z => nomatch z)
theorem i_dct0 {ρ : Env} : evE P C r (.dct false .n) ρ μ = .ok (.dct false [] []) μ := by simp [evE, evKV]
end
structure EqW (P : Prog) : Prop where
  f26 : P.fns 26 = some f26
  f29 : P.fns 29 = some f29
  s26 : specOf P 29 0 = some 26
  s29 : specOf P 29 3 = some 29
  c5 : CFld P 29 5
  c6 : CFld P 29 6
  o : COwn P 29
section
variable {P : Prog} {r : D → Option Str} {μ : Mem} {n : Nat}
theorem eq_call (H : EqW P) (w v : Wb) : calF P (Cn P r (n + 1)) 26 [wD w, wD v] [] [] μ = .ok (.bl (decide (w = v))) μ := by
  have h : calD P r (n + 1) 26 [wD w, wD v] μ = .ok (.bl (true && (decide (w.1 = v.1) && decide (w.2 = v.2)))) μ :=
    d_ok (n := n) (ρ0 := [some (wD w), some (wD v)]) H.f26 rfl rfl (r_ret (i_and (i_isiW (i_v rfl) H.o) fun _ => i_and (i_cmp (i_attF (i_v rfl) H.c5 rfl) (i_attF (i_v rfl) H.c5 rfl) (c_eq (n_tup n_str) (by decide) w.1 v.1)) fun _ => i_and1 (i_cmp (i_attF (i_v rfl) H.c6 rfl) (i_attF (i_v rfl) H.c6 rfl) (c_eq (n_tup (n_pair n_str n_str)) (by decide) w.2 v.2))))
  have e : (true && (decide (w.1 = v.1) && decide (w.2 = v.2))) = decide (w = v) := by
    rw [Bool.eq_iff_iff]; simp [Prod.ext_iff]
  rw [e] at h
  exact calF_ok H.f26 rfl h
theorem eq_callQ (H : EqW P) (w : Wb) {d : D} (hd : (tyNo d).isSome = true) : calF P (Cn P r (n + 1)) 26 [wD w, d] [] [] μ = .ok (.bl false) μ := by
  have hs : isSp d = false := by cases d <;> first | rfl | (simp [tyNo] at hd)
  exact calF_ok H.f26 rfl (d_ok (n := n) (ρ0 := [some (wD w), some d]) H.f26 rfl rfl (r_ret (i_andF (i_isiQ (i_vs rfl hs) hd))))
theorem eqTo_W {w v : Wb} : eqTo P (wD w) (rd μ (wD v)) = true := by
  simp [eqTo, wD, webD, rd]
theorem c_eqW (H : EqW P) (w v : Wb) : cmpV P (Cn P r (n + 1)) μ .eq (wD w) (wD v) = .ok (decide (w = v)) μ := eqV_l H.s26 eqTo_W (eq_call H w v)
theorem c_neW (H : EqW P) (w v : Wb) : cmpV P (Cn P r (n + 1)) μ .ne (wD w) (wD v) = .ok (!decide (w = v)) μ := by
  have h := c_eqW (r := r) (μ := μ) (n := n) H w v
  simp only [cmpV] at h ⊢
  rw [h]; rfl
theorem eqTo_Q {c : Nat} {ns : List Nat} {vs : List D} {d : D} (hd : (tyNo d).isSome = true) : eqTo P (.ins c ns vs) (rd μ d) = true := by
  rw [rd_ty hd]
  cases d <;> first | exact hd | (simp [tyNo] at hd)
theorem c_eqWQ (H : EqW P) (w : Wb) (q : Qv) (hd : (tyNo q.1).isSome = true) : cmpV P (Cn P r (n + 1)) μ .eq (wD w) q.1 = .ok false μ := eqV_l H.s26 (eqTo_Q hd) (eq_callQ H w hd)
theorem c_neWQ (H : EqW P) (w : Wb) (q : Qv) (hd : (tyNo q.1).isSome = true) : cmpV P (Cn P r (n + 1)) μ .ne (wD w) q.1 = .ok true μ := by
  have h := c_eqWQ (r := r) (μ := μ) (n := n) H w q hd
  simp only [cmpV] at h ⊢
  rw [h]; rfl
theorem c_eqQW (H : EqW P) (q : Qv) (w : Wb) (hd : (tyNo q.1).isSome = true) : cmpV P (Cn P r (n + 1)) μ .eq q.1 (wD w) = .ok false μ := eqV_r H.s26 hd (eq_callQ H w hd)
set_option maxHeartbeats 1000000 in
theorem repr_W (H : EqW P) {w : Wb} (ok : OkW w) : calD P r (n + 1) 29 [wD w] μ = .ok (.str (reprS w.1 w.2)) μ := by
  obtain ⟨ns, ts⟩ := w
  have hn : ns.length < 300 := by have := ok.ns.few; simp only at this; omega
  have ht : ts.length < 300 := by have := okt_len ok.ns.few ok.ts; simp only at this; omega
  refine eq_w ?_
  refine d_w (ρ0 := [some (webD ns ts)]) H.f29 rfl rfl ?_
  walk_at "ev"
  refine w_attC H.c5 rfl ?_
  refine w_eq (d := D.int (ns.length : Nat)) (μ := μ) (by simp [bi1V, lenV, rd, nsD]) ?_
  refine w_of (fmt_int hn) ?_
  walk_at "ev"
  refine w_attC H.c6 rfl ?_
  refine w_eq (d := D.int (ts.length : Nat)) (μ := μ) (by simp [bi1V, lenV, rd, tsD]) ?_
  refine w_of (fmt_int ht) ?_
  walk_at "ev"
  have h1 := (shw_int hn).2
  have h2 := (shw_int ht).2
  refine ⟨["Web of ", intS ns.length, " places and ", intS ts.length, " ties"], rfl, ?_, ?_⟩
  · have e1 : (sL "Web of ").length = 7 := by decide +kernel
    have e2 : (sL " places and ").length = 12 := by decide +kernel
    have e3 : (sL " ties").length = 5 := by decide +kernel
    simp only [List.map_cons, List.map_nil, List.flatten_cons, List.flatten_nil, List.length_append, List.length_nil, e1, e2, e3]
    unfold sizeLn; omega
  · have e : (List.map sL ["Web of ", intS ns.length, " places and ", intS ts.length, " ties"]).flatten = sL "Web of " ++ sL (intS ns.length) ++ sL " places and " ++ sL (intS ts.length) ++ sL " ties" := by
      simp
    rw [e]
    exact fin_same ⟨rfl, rfl⟩
theorem i_reprW {ρ : Env} {e : E} {w : Wb} (H : EqW P) (he : evE P (Cn P r (n + 1)) r e ρ μ = .ok (wD w) μ) (ok : OkW w) : evE P (Cn P r (n + 1)) r (.bi .repr (.c e .n)) ρ μ = .ok (.str (reprS w.1 w.2)) μ := by
  refine i_bi he (eq_w ?_)
  refine w_reprI H.s29 (w_calF H.f29 rfl (w_eq (repr_W (n := n) H ok) ⟨_, rfl, rfl, rfl⟩))
end
end DI
end

section
set_option Elab.async false
set_option linter.all false
set_option maxRecDepth 100000
set_option maxHeartbeats 1000000
namespace DI
open PySem
structure RW32q (P : Prog) : Prop where
  fn : P.fns 32 = some f32
  s8 : P.fns 8 = some f8

/-- _law_pick -/
def w32q (a1 : (List Qv)) (K : Qv → Prop) : Prop :=
  (DrawW a1.length fun y1 : Nat => (y1 < a1.length) ∧ (K (a1.getD y1 (default : Qv))))
theorem sw32q {P : Prog} {r : D → Option Str} {n : Nat} {M0 : Mem} {k : D → Mem → Prop} {kx : D → Mem → Prop} {μ : Mem} {i B : Nat} {ob : List (Nat × Ob)} (H : RW32q P) (a1 : (List Qv))  (K : Qv → Prop) (v0 : Vw Tub μ i M0 B ob) (hi : i < μ.length) (hB : B + 1 ≤ BB) (h : w32q a1 K) (q : ∀ (a : Qv) (M' : Mem), K a → Vw Tub μ i M' (B + 1) ob → M'.length = M0.length → k (a).1 M') : WpR (calD P r (n + 2) 32 [.obj i, (D.lst (List.map (fun z : Qv => (z).1) a1))] M0) k kx := by
  have hi1 := hi
  obtain ⟨t0, ht0, hc0⟩ := v0.get hi
  have hi0 := hi
  have hi : i < M0.length := lt_of_get ht0
  have v : Vw Tub M0 i M0 (B + 0) [] := (Vw.start ht0 hc0)
  unfold w32q at h
  refine d_w (ρ0 := [some (D.obj i), some (D.lst (List.map (fun z : Qv => (z).1) a1))]) H.fn rfl rfl ?_
  refine no_implicit_lambda% (q_ret ?_)
  refine no_implicit_lambda% (w_idx ?_)
  refine no_implicit_lambda% (w_eq (d := (D.lst (List.map (fun z : Qv => (z).1) a1))) (i_v rfl) ?_)
  refine no_implicit_lambda% (w_cal ?_)
  refine no_implicit_lambda% (w_es (w_eq (i_v rfl) ?_))
  refine no_implicit_lambda% (w_es ?_)
  refine no_implicit_lambda% (w_eq (d := (D.int ((a1.length : Nat) : Int))) (i_bi (i_v rfl) (b_lenLm (f := (fun z : Qv => (z).1)))) ?_)
  refine no_implicit_lambda% (w_es0 ?_)
  refine no_implicit_lambda% (w_calF H.s8 rfl (ladle_wB H.s8 (n := n + 0) a1.length _ v hi (bb hB (by decide)) h ?_))
  intro y1 M h v _
  replace v : Vw Tub M0 i M (B + 1) [] := v.mono tubC (bm (by decide))
  obtain ⟨g2, h⟩ := h
  refine no_implicit_lambda% (w_eq (idx_L (f := (fun z : Qv => (z).1)) (default : Qv) g2) ?_)
  exact v.fin tubC (fun n M => q_frz _ n M) (Qv.lim (a1.getD y1 (default : Qv))) fun t hq => q _ _ h (v0.draw hi0 (tubC.mono hq (ba (by decide)))) (by simp)

structure RW57 (P : Prog) : Prop where
  fn : P.fns 57 = some f57
  eqw : EqW P
  s11 : RW11 P
  s32q : RW32q P
  say : SayW P
  web : HasWeb P

/-- _law_right -/
def w57  (K : Bool → Prop) : Prop :=
  (4 < 1000000) ∧ (∀ z2 : List (Nat), z2 = (List.range 4) → (ForW z2 () (fun (x4 : Nat) (s7 : Unit) (Kl : Unit → Prop) => (w11 6 fun y17 : ((List Str) × (List (Str × Str))) => (OkW (y17.1, y17.2)) ∧ (∀ v_mine_19 : Wb, v_mine_19 = (y17.1, y17.2) → (OkW (y17.1, y17.2)) ∧ (OkW v_mine_19) ∧ (RdW (pageW v_mine_19)) ∧ (OkW (y17.1, y17.2.reverse)) ∧ (OkW (y17.1.reverse, y17.2)) ∧ (∀ v_mates_26 : (List Wb), v_mates_26 = ((y17.1, y17.2) :: ((readW (pageW v_mine_19)) :: ((y17.1, y17.2.reverse) :: ((y17.1.reverse, y17.2) :: ([] : List Wb))))) → (OkW (y17.1, (y17.2.drop 1))) ∧ ((y17.2).length ≤ sizeLn) ∧ (OkW (y17.1, (y17.2.map fun z57_7 : (Str × Str) => ((z57_7).2, (z57_7).1)))) ∧ ((v_mates_26).length + (((y17.1, (y17.2.drop 1)) :: ((y17.1, (y17.2.map fun z57_7 : (Str × Str) => ((z57_7).2, (z57_7).1))) :: ([] : List Wb)))).length ≤ sizeLn) ∧ (∀ v_mates_32 : (List Wb), v_mates_32 = (v_mates_26 ++ ((y17.1, (y17.2.drop 1)) :: ((y17.1, (y17.2.map fun z57_7 : (Str × Str) => ((z57_7).2, (z57_7).1))) :: ([] : List Wb)))) → (OkW (y17.1, (y17.2.take 1))) ∧ ((v_mates_32).length + (((y17.1, (y17.2.take 1)) :: (v_mine_19 :: ([] : List Wb)))).length ≤ sizeLn) ∧ (∀ z36 : List (Wb), z36 = (v_mates_32 ++ ((y17.1, (y17.2.take 1)) :: (v_mine_19 :: ([] : List Wb)))) → (ForW z36 () (fun (x38 : Wb) (s41 : Unit) (Kl : Unit → Prop) => (OkW x38) ∧ (OkW v_mine_19) ∧ (∀ v_due_46 : Bool, v_due_46 = (decide ((pageW x38) = (pageW v_mine_19))) → (((!decide (((decide (v_mine_19 = x38)) :: ((decide (x38 = v_mine_19)) :: ((!decide (v_mine_19 = x38)) :: ((!decide (x38 = v_mine_19)) :: ([] : List Bool))))) = (v_due_46 :: (v_due_46 :: ((!v_due_46) :: ((!v_due_46) :: ([] : List Bool))))))) = true → (K false)) ∧ ((!decide (((decide (v_mine_19 = x38)) :: ((decide (x38 = v_mine_19)) :: ((!decide (v_mine_19 = x38)) :: ((!decide (x38 = v_mine_19)) :: ([] : List Bool))))) = (v_due_46 :: (v_due_46 :: ((!v_due_46) :: ((!v_due_46) :: ([] : List Bool))))))) = false → (Kl ()))))) fun s41 : Unit => (OkW v_mine_19) ∧ (∀ v_others_50 : (List Qv), v_others_50 = [(⟨(D.str (pageW v_mine_19)), .inl rfl, (fun _ => rfl) (pageW v_mine_19)⟩ : Qv), (⟨(D.tup (List.map D.str y17.1)), .inl rfl, (fun z : (List Str) => show lim (D.tup (List.map D.str z)) = 0 from lims_map0 (f := D.str) (fun _ => rfl) z) y17.1⟩ : Qv), (⟨(D.tup (List.map (fun z : (Str × Str) => (D.tup [(D.str z.1), (D.str z.2)])) y17.2)), .inl rfl, (fun z : (List (Str × Str)) => show lim (D.tup (List.map (fun z : (Str × Str) => (D.tup [(D.str z.1), (D.str z.2)])) z)) = 0 from lims_map0 (f := (fun z : (Str × Str) => (D.tup [(D.str z.1), (D.str z.2)]))) (fun z : (Str × Str) => show lim (D.tup [(D.str z.1), (D.str z.2)]) = 0 from lim_of_2T ((fun _ => rfl) z.1) ((fun _ => rfl) z.2)) z) y17.2⟩ : Qv), (⟨(D.tup [(D.tup (List.map D.str (y17.1, y17.2).1)), (D.tup (List.map (fun z : (Str × Str) => (D.tup [(D.str z.1), (D.str z.2)])) (y17.1, y17.2).2))]), .inl rfl, (fun z : ((List Str) × (List (Str × Str))) => show lim (D.tup [(D.tup (List.map D.str z.1)), (D.tup (List.map (fun z : (Str × Str) => (D.tup [(D.str z.1), (D.str z.2)])) z.2))]) = 0 from lim_of_2T ((fun z : (List Str) => show lim (D.tup (List.map D.str z)) = 0 from lims_map0 (f := D.str) (fun _ => rfl) z) z.1) ((fun z : (List (Str × Str)) => show lim (D.tup (List.map (fun z : (Str × Str) => (D.tup [(D.str z.1), (D.str z.2)])) z)) = 0 from lims_map0 (f := (fun z : (Str × Str) => (D.tup [(D.str z.1), (D.str z.2)]))) (fun z : (Str × Str) => show lim (D.tup [(D.str z.1), (D.str z.2)]) = 0 from lim_of_2T ((fun _ => rfl) z.1) ((fun _ => rfl) z.2)) z) z.2)) (y17.1, y17.2)⟩ : Qv), (⟨D.non, .inl rfl, rfl⟩ : Qv), (⟨(D.bl true), .inl rfl, (fun _ => rfl) true⟩ : Qv), (⟨(D.int ((y17.1.length : Nat) : Int)), .inl rfl, (fun _ => rfl) y17.1.length⟩ : Qv), (⟨D.dct false [] [], .inl rfl, rfl⟩ : Qv), (⟨(D.lst (List.map wD (v_mine_19 :: ([] : List Wb)))), .inl rfl, (fun z : (List Wb) => show lim (D.lst (List.map wD z)) = 0 from lims_map0 (f := wD) lim_wD z) (v_mine_19 :: ([] : List Wb))⟩ : Qv), (⟨(D.tup (List.map wD (v_mine_19 :: ([] : List Wb)))), .inl rfl, (fun z : (List Wb) => show lim (D.tup (List.map wD z)) = 0 from lims_map0 (f := wD) lim_wD z) (v_mine_19 :: ([] : List Wb))⟩ : Qv), (⟨(D.str (reprS v_mine_19.1 v_mine_19.2)), .inl rfl, (fun _ => rfl) (reprS v_mine_19.1 v_mine_19.2)⟩ : Qv)] → (w32q v_others_50 fun y52 : Qv => ((tyNo (y52).1).isSome = true) ∧ (false = false → (tyNo (y52).1).isSome = true) ∧ (false = false → false = false → (tyNo (y52).1).isSome = true) ∧ (false = false → false = false → (!true) = false → 0 < v_mates_32.length) ∧ (false = false → false = false → (!true) = false → (!(decide (v_mine_19 = (v_mates_32.getD 0 (default : Wb))))) = false → 1 < v_mates_32.length) ∧ (((false || (false || ((!true) || ((!(decide (v_mine_19 = (v_mates_32.getD 0 (default : Wb))))) || (!(decide (v_mine_19 = (v_mates_32.getD 1 (default : Wb))))))))) = true → (K false)) ∧ ((false || (false || ((!true) || ((!(decide (v_mine_19 = (v_mates_32.getD 0 (default : Wb))))) || (!(decide (v_mine_19 = (v_mates_32.getD 1 (default : Wb))))))))) = false → (Kl ())))))))))))) fun s7 : Unit => (K true)))
theorem sw57 {P : Prog} {r : D → Option Str} {n : Nat} {M0 : Mem} {k : D → Mem → Prop} {kx : D → Mem → Prop} {μ : Mem} {i B : Nat} {ob : List (Nat × Ob)} (H : RW57 P)   (v0 : Vw Tub μ i M0 B ob) (hi : i < μ.length) (hB : B + 268435468 ≤ BB) (h : w57 (fun b : Bool => b = true)) (q : ∀ (a : Bool) (M' : Mem), a = true → Vw Tub μ i M' (B + 268435468) ob → M'.length = M0.length → k (D.bl a) M') : WpR (calD P r (n + 6) 57 [.obj i] M0) k kx := by
  have hi1 := hi
  obtain ⟨t0, ht0, hc0⟩ := v0.get hi
  have hi0 := hi
  have hi : i < M0.length := lt_of_get ht0
  have v : Vw Tub M0 i M0 (B + 0) [] := (Vw.start ht0 hc0)
  unfold w57 at h
  refine d_w (ρ0 := [some (D.obj i), none, none, none, none, none, none, none, none, none, none]) H.fn rfl rfl ?_
  obtain ⟨g1, h⟩ := h
  obtain ⟨z2, hz3⟩ : ∃ z : List (Nat), z = (List.range 4) := ⟨_, rfl⟩
  replace h := h z2 hz3
  have g69 : z2.length ≤ 4 := (by rw [hz3]; exact (by simp))
  obtain ⟨I65, ha66, hb67, hc68⟩ := h
  refine no_implicit_lambda% (q_forW (w_eq (d := (none, List.map (fun z : Nat => (D.int ((z : Nat) : Int))) z2)) (by rw [hz3]; exact (t_r1 i_k g1)) ?_))
  refine no_implicit_lambda% (q_forL (en := (fun z : Nat => (D.int ((z : Nat) : Int)))) (fun rem ρ M => rem.length ≤ 4 ∧ ∃ (s7 : Unit) (o8 : Option D) (o9 : Option D) (o10 : Option D) (o11 : Option D) (o12 : Option D) (o13 : Option D) (o14 : Option D) (o15 : Option D) (o16 : Option D), I65 rem s7 ∧ Vw Tub M0 i M ((B + 0) + 67108867 * (4 - rem.length)) [] ∧ ρ = [some (D.obj i), o8, o16, o10, o13, o12, none, o11, o9, o15, o14]) ⟨g69, (), _, _, _, _, _, _, _, _, _, ha66, v.mono tubC (by omega), rfl⟩ ?_ ?_)
  · rintro x4 rem5 ρ M ⟨hl, s7, o8, o9, o10, o11, o12, o13, o14, o15, o16, hI, v, rfl⟩
    have hlb6 : rem5.length ≤ 4 := Nat.le_of_succ_le hl
    have hkb6 : rem5.length + 1 ≤ 4 := hl
    obtain ⟨b6, hbb6⟩ : ∃ b, b = (B + 0) + 67108867 * (4 - (rem5.length + 1)) := ⟨_, rfl⟩
    replace v : Vw Tub M0 i M (b6 + 0) [] := v.mono tubC (by simp only [List.length_cons]; omega)
    have hBb6 : b6 + 67108867 ≤ BB := by omega
    replace h := hb67 x4 rem5 s7 hI
    refine ⟨_, (fun _ => a_v) _, ?_⟩
    refine no_implicit_lambda% (q_asgT ?_)
    refine no_implicit_lambda% (w_cal ?_)
    refine no_implicit_lambda% (w_es (w_eq (i_v rfl) ?_))
    refine no_implicit_lambda% (w_es ?_)
    refine no_implicit_lambda% (w_eq (d := (D.int ((6 : Nat) : Int))) i_k ?_)
    refine no_implicit_lambda% (w_es0 ?_)
    refine no_implicit_lambda% (w_calF H.s11.fn rfl (sw11 H.s11 (n := n + 2) 6 _ v hi (bb hBb6 (by decide)) h ?_))
    intro y17 M h v _
    replace v : Vw Tub M0 i M (b6 + 67108866) [] := v.mono tubC (bm (by decide))
    refine ⟨_, a_u2, ?_⟩
    refine no_implicit_lambda% (q_asgW ?_)
    obtain ⟨g18, h⟩ := h
    obtain ⟨v_mine_19, hz20⟩ : ∃ z : Wb, z = (y17.1, y17.2) := ⟨_, rfl⟩
    replace h := h v_mine_19 hz20
    refine no_implicit_lambda% (w_eq (d := (wD v_mine_19)) (eq_c (f := wD) hz20 (i_newW H.web (n := n + 2) (w := (y17.1, y17.2)) (j_c (i_v rfl) (j_c (i_v rfl) j_n)) g18)) ?_)
    refine no_implicit_lambda% (q_asgW ?_)
    obtain ⟨g21, g22, g23, g24, g25, h⟩ := h
    obtain ⟨v_mates_26, hz27⟩ : ∃ z : (List Wb), z = ((y17.1, y17.2) :: ((readW (pageW v_mine_19)) :: ((y17.1, y17.2.reverse) :: ((y17.1.reverse, y17.2) :: ([] : List Wb))))) := ⟨_, rfl⟩
    replace h := h v_mates_26 hz27
    refine no_implicit_lambda% (w_eq (d := (D.lst (List.map wD v_mates_26))) (eq_c (f := (fun z : (List Wb) => (D.lst (List.map wD z)))) hz27 (i_lst (x_c rfl (i_newW H.web (n := n + 2) (w := (y17.1, y17.2)) (j_c (i_v rfl) (j_c (i_v rfl) j_n)) g21) (x_c rfl (i_cal (j_c i_k (j_c (i_strW H.say (n := n + 4) (i_v rfl) g22) j_n)) H.say.f20 rfl (sp20R H.say (n := n + 0) g23)) (x_c rfl (i_newW H.web (n := n + 2) (w := (y17.1, y17.2.reverse)) (j_c (i_v rfl) (j_c (i_revT (f := (fun z : (Str × Str) => (D.tup [(D.str z.1), (D.str z.2)]))) (l := y17.2) (i_v rfl)) j_n)) g24) (x_c rfl (i_newW H.web (n := n + 2) (w := (y17.1.reverse, y17.2)) (j_c (i_revT (f := D.str) (l := y17.1) (i_v rfl)) (j_c (i_v rfl) j_n)) g25) x_n)))) (sz_ 4 rfl (by decide)))) ?_)
    refine no_implicit_lambda% (q_asgW ?_)
    obtain ⟨g28, g29, g30, g31, h⟩ := h
    obtain ⟨v_mates_32, hz33⟩ : ∃ z : (List Wb), z = (v_mates_26 ++ ((y17.1, (y17.2.drop 1)) :: ((y17.1, (y17.2.map fun z57_7 : (Str × Str) => ((z57_7).2, (z57_7).1))) :: ([] : List Wb)))) := ⟨_, rfl⟩
    replace h := h v_mates_32 hz33
    refine no_implicit_lambda% (w_eq (d := (D.lst (List.map wD v_mates_32))) (eq_c (f := (fun z : (List Wb) => (D.lst (List.map wD z)))) hz33 (i_bin (i_v rfl) (i_lst (x_c rfl (i_newW H.web (n := n + 2) (w := (y17.1, (y17.2.drop 1))) (j_c (i_v rfl) (j_c (i_dropT (f := (fun z : (Str × Str) => (D.tup [(D.str z.1), (D.str z.2)]))) (l := y17.2) (i_v rfl) i_k) j_n)) g28) (x_c rfl (i_newW H.web (n := n + 2) (w := (y17.1, (y17.2.map fun z57_7 : (Str × Str) => ((z57_7).2, (z57_7).1)))) (j_c (i_v rfl) (j_c (i_bi (i_lcM (fun z : (Str × Str) => (D.tup [(D.str z.1), (D.str z.2)])) (fun z : (Str × Str) => (D.tup [(D.str z.1), (D.str z.2)])) (fun z57_7 : (Str × Str) => ((z57_7).2, (z57_7).1)) _ (t_T (i_v rfl)) (fun _ => a_v) (fun z57_7 h8 => (i_rev2 (i_v rfl))) g29) b_tupL) j_n)) g30) x_n)) (sz_ 2 rfl (by decide))) (o_addLm (f := wD) g31))) ?_)
    obtain ⟨g34, g35, h⟩ := h
    obtain ⟨z36, hz37⟩ : ∃ z : List (Wb), z = (v_mates_32 ++ ((y17.1, (y17.2.take 1)) :: (v_mine_19 :: ([] : List Wb)))) := ⟨_, rfl⟩
    replace h := h z36 hz37
    obtain ⟨I59, ha60, hb61, hc62⟩ := h
    refine no_implicit_lambda% (q_forW (w_eq (d := (none, List.map wD z36)) (by rw [hz37]; exact (t_L (i_bin (i_v rfl) (i_lst (x_c rfl (i_newW H.web (n := n + 2) (w := (y17.1, (y17.2.take 1))) (j_c (i_v rfl) (j_c (i_takeT (f := (fun z : (Str × Str) => (D.tup [(D.str z.1), (D.str z.2)]))) (l := y17.2) (i_v rfl) i_k) j_n)) g34) (x_c rfl (i_v rfl) x_n)) (sz_ 2 rfl (by decide))) (o_addLm (f := wD) g35)))) ?_))
    refine no_implicit_lambda% (q_forL (en := wD) (fun rem ρ M => True ∧ ∃ (s41 : Unit) (o42 : Option D) (o43 : Option D), I59 rem s41 ∧ Vw Tub M0 i M (b6 + 67108866) [] ∧ ρ = [some (D.obj i), some (D.int ((x4 : Nat) : Int)), some (D.tup (List.map D.str y17.1)), some (D.tup (List.map (fun z : (Str × Str) => (D.tup [(D.str z.1), (D.str z.2)])) y17.2)), some (wD v_mine_19), some (D.lst (List.map wD v_mates_32)), none, o43, o42, o15, o14]) ⟨trivial, (), _, _, ha60, v.mono tubC (by omega), rfl⟩ ?_ ?_)
    · rintro x38 rem39 ρ M ⟨hl, s41, o42, o43, hI, v, rfl⟩
      have hlb40 := trivial
      obtain ⟨b40, hbb40⟩ : ∃ b, b = (b6 + 67108866) := ⟨_, rfl⟩
      replace v : Vw Tub M0 i M (b40 + 0) [] := v.mono tubC (by omega)
      have hBb40 : b40 + 0 ≤ BB := by omega
      replace h := hb61 x38 rem39 s41 hI
      refine ⟨_, (fun _ => a_v) _, ?_⟩
      refine no_implicit_lambda% (q_asgW ?_)
      obtain ⟨g44, g45, h⟩ := h
      obtain ⟨v_due_46, hz47⟩ : ∃ z : Bool, z = (decide ((pageW x38) = (pageW v_mine_19))) := ⟨_, rfl⟩
      replace h := h v_due_46 hz47
      refine no_implicit_lambda% (w_eq (d := (D.bl v_due_46)) (eq_c (f := D.bl) hz47 (i_cmp (i_strW H.say (n := n + 4) (i_v rfl) g44) (i_strW H.say (n := n + 4) (i_v rfl) g45) (c_eq n_str (by decide) (pageW x38) (pageW v_mine_19)))) ?_)
      refine no_implicit_lambda% (q_ifW ?_)
      refine no_implicit_lambda% (w_eq (d := (D.bl (!decide (((decide (v_mine_19 = x38)) :: ((decide (x38 = v_mine_19)) :: ((!decide (v_mine_19 = x38)) :: ((!decide (x38 = v_mine_19)) :: ([] : List Bool))))) = (v_due_46 :: (v_due_46 :: ((!v_due_46) :: ((!v_due_46) :: ([] : List Bool))))))))) (i_cmp (i_lst (x_c rfl (i_cmp (i_v rfl) (i_v rfl) (c_eqW H.eqw (n := n + 4) v_mine_19 x38)) (x_c rfl (i_cmp (i_v rfl) (i_v rfl) (c_eqW H.eqw (n := n + 4) x38 v_mine_19)) (x_c rfl (i_cmp (i_v rfl) (i_v rfl) (c_neW H.eqw (n := n + 4) v_mine_19 x38)) (x_c rfl (i_cmp (i_v rfl) (i_v rfl) (c_neW H.eqw (n := n + 4) x38 v_mine_19)) x_n)))) (sz_ 4 rfl (by decide))) (i_lst (x_c rfl (i_v rfl) (x_c rfl (i_v rfl) (x_c rfl (i_not (i_v rfl)) (x_c rfl (i_not (i_v rfl)) x_n)))) (sz_ 4 rfl (by decide))) (c_ne (n_lst n_bl) (by decide) ((decide (v_mine_19 = x38)) :: ((decide (x38 = v_mine_19)) :: ((!decide (v_mine_19 = x38)) :: ((!decide (x38 = v_mine_19)) :: ([] : List Bool))))) (v_due_46 :: (v_due_46 :: ((!v_due_46) :: ((!v_due_46) :: ([] : List Bool))))))) ?_)
      refine ⟨_, rfl, fun c48 => ?_, fun c48 => ?_⟩
      · replace h := h.1 c48
        refine no_implicit_lambda% (q_ret ?_)
        refine no_implicit_lambda% (w_eq (d := (D.bl false)) i_k ?_)
        exact absurd h Bool.false_ne_true
      replace h := h.2 c48
      refine no_implicit_lambda% (q_nil ?_)
      refine no_implicit_lambda% (q_nil ?_)
      exact ⟨hlb40, (), _, _, h, v.mono tubC (by omega), rfl⟩
    rintro ρ M ⟨hl, s41, o42, o43, hI, v, rfl⟩
    replace h := hc62 s41 hI
    replace v : Vw Tub M0 i M (b6 + 67108866) [] := v.mono tubC (by exact ba (by decide))
    refine no_implicit_lambda% (q_asgW ?_)
    obtain ⟨g49, h⟩ := h
    obtain ⟨v_others_50, hz51⟩ : ∃ z : (List Qv), z = [(⟨(D.str (pageW v_mine_19)), .inl rfl, (fun _ => rfl) (pageW v_mine_19)⟩ : Qv), (⟨(D.tup (List.map D.str y17.1)), .inl rfl, (fun z : (List Str) => show lim (D.tup (List.map D.str z)) = 0 from lims_map0 (f := D.str) (fun _ => rfl) z) y17.1⟩ : Qv), (⟨(D.tup (List.map (fun z : (Str × Str) => (D.tup [(D.str z.1), (D.str z.2)])) y17.2)), .inl rfl, (fun z : (List (Str × Str)) => show lim (D.tup (List.map (fun z : (Str × Str) => (D.tup [(D.str z.1), (D.str z.2)])) z)) = 0 from lims_map0 (f := (fun z : (Str × Str) => (D.tup [(D.str z.1), (D.str z.2)]))) (fun z : (Str × Str) => show lim (D.tup [(D.str z.1), (D.str z.2)]) = 0 from lim_of_2T ((fun _ => rfl) z.1) ((fun _ => rfl) z.2)) z) y17.2⟩ : Qv), (⟨(D.tup [(D.tup (List.map D.str (y17.1, y17.2).1)), (D.tup (List.map (fun z : (Str × Str) => (D.tup [(D.str z.1), (D.str z.2)])) (y17.1, y17.2).2))]), .inl rfl, (fun z : ((List Str) × (List (Str × Str))) => show lim (D.tup [(D.tup (List.map D.str z.1)), (D.tup (List.map (fun z : (Str × Str) => (D.tup [(D.str z.1), (D.str z.2)])) z.2))]) = 0 from lim_of_2T ((fun z : (List Str) => show lim (D.tup (List.map D.str z)) = 0 from lims_map0 (f := D.str) (fun _ => rfl) z) z.1) ((fun z : (List (Str × Str)) => show lim (D.tup (List.map (fun z : (Str × Str) => (D.tup [(D.str z.1), (D.str z.2)])) z)) = 0 from lims_map0 (f := (fun z : (Str × Str) => (D.tup [(D.str z.1), (D.str z.2)]))) (fun z : (Str × Str) => show lim (D.tup [(D.str z.1), (D.str z.2)]) = 0 from lim_of_2T ((fun _ => rfl) z.1) ((fun _ => rfl) z.2)) z) z.2)) (y17.1, y17.2)⟩ : Qv), (⟨D.non, .inl rfl, rfl⟩ : Qv), (⟨(D.bl true), .inl rfl, (fun _ => rfl) true⟩ : Qv), (⟨(D.int ((y17.1.length : Nat) : Int)), .inl rfl, (fun _ => rfl) y17.1.length⟩ : Qv), (⟨D.dct false [] [], .inl rfl, rfl⟩ : Qv), (⟨(D.lst (List.map wD (v_mine_19 :: ([] : List Wb)))), .inl rfl, (fun z : (List Wb) => show lim (D.lst (List.map wD z)) = 0 from lims_map0 (f := wD) lim_wD z) (v_mine_19 :: ([] : List Wb))⟩ : Qv), (⟨(D.tup (List.map wD (v_mine_19 :: ([] : List Wb)))), .inl rfl, (fun z : (List Wb) => show lim (D.tup (List.map wD z)) = 0 from lims_map0 (f := wD) lim_wD z) (v_mine_19 :: ([] : List Wb))⟩ : Qv), (⟨(D.str (reprS v_mine_19.1 v_mine_19.2)), .inl rfl, (fun _ => rfl) (reprS v_mine_19.1 v_mine_19.2)⟩ : Qv)] := ⟨_, rfl⟩
    replace h := h v_others_50 hz51
    refine no_implicit_lambda% (w_eq (d := (D.lst (List.map (fun z : Qv => (z).1) v_others_50))) (eq_c (f := (fun z : (List Qv) => (D.lst (List.map (fun z : Qv => (z).1) z)))) hz51 (i_lst (l := List.map (fun z : Qv => (z).1) [(⟨(D.str (pageW v_mine_19)), .inl rfl, (fun _ => rfl) (pageW v_mine_19)⟩ : Qv), (⟨(D.tup (List.map D.str y17.1)), .inl rfl, (fun z : (List Str) => show lim (D.tup (List.map D.str z)) = 0 from lims_map0 (f := D.str) (fun _ => rfl) z) y17.1⟩ : Qv), (⟨(D.tup (List.map (fun z : (Str × Str) => (D.tup [(D.str z.1), (D.str z.2)])) y17.2)), .inl rfl, (fun z : (List (Str × Str)) => show lim (D.tup (List.map (fun z : (Str × Str) => (D.tup [(D.str z.1), (D.str z.2)])) z)) = 0 from lims_map0 (f := (fun z : (Str × Str) => (D.tup [(D.str z.1), (D.str z.2)]))) (fun z : (Str × Str) => show lim (D.tup [(D.str z.1), (D.str z.2)]) = 0 from lim_of_2T ((fun _ => rfl) z.1) ((fun _ => rfl) z.2)) z) y17.2⟩ : Qv), (⟨(D.tup [(D.tup (List.map D.str (y17.1, y17.2).1)), (D.tup (List.map (fun z : (Str × Str) => (D.tup [(D.str z.1), (D.str z.2)])) (y17.1, y17.2).2))]), .inl rfl, (fun z : ((List Str) × (List (Str × Str))) => show lim (D.tup [(D.tup (List.map D.str z.1)), (D.tup (List.map (fun z : (Str × Str) => (D.tup [(D.str z.1), (D.str z.2)])) z.2))]) = 0 from lim_of_2T ((fun z : (List Str) => show lim (D.tup (List.map D.str z)) = 0 from lims_map0 (f := D.str) (fun _ => rfl) z) z.1) ((fun z : (List (Str × Str)) => show lim (D.tup (List.map (fun z : (Str × Str) => (D.tup [(D.str z.1), (D.str z.2)])) z)) = 0 from lims_map0 (f := (fun z : (Str × Str) => (D.tup [(D.str z.1), (D.str z.2)]))) (fun z : (Str × Str) => show lim (D.tup [(D.str z.1), (D.str z.2)]) = 0 from lim_of_2T ((fun _ => rfl) z.1) ((fun _ => rfl) z.2)) z) z.2)) (y17.1, y17.2)⟩ : Qv), (⟨D.non, .inl rfl, rfl⟩ : Qv), (⟨(D.bl true), .inl rfl, (fun _ => rfl) true⟩ : Qv), (⟨(D.int ((y17.1.length : Nat) : Int)), .inl rfl, (fun _ => rfl) y17.1.length⟩ : Qv), (⟨D.dct false [] [], .inl rfl, rfl⟩ : Qv), (⟨(D.lst (List.map wD (v_mine_19 :: ([] : List Wb)))), .inl rfl, (fun z : (List Wb) => show lim (D.lst (List.map wD z)) = 0 from lims_map0 (f := wD) lim_wD z) (v_mine_19 :: ([] : List Wb))⟩ : Qv), (⟨(D.tup (List.map wD (v_mine_19 :: ([] : List Wb)))), .inl rfl, (fun z : (List Wb) => show lim (D.tup (List.map wD z)) = 0 from lims_map0 (f := wD) lim_wD z) (v_mine_19 :: ([] : List Wb))⟩ : Qv), (⟨(D.str (reprS v_mine_19.1 v_mine_19.2)), .inl rfl, (fun _ => rfl) (reprS v_mine_19.1 v_mine_19.2)⟩ : Qv)]) (x_c rfl (i_strW H.say (n := n + 4) (i_v rfl) g49) (x_c rfl (i_v rfl) (x_c rfl (i_v rfl) (x_c rfl (i_tup (x_c rfl (i_v rfl) (x_c rfl (i_v rfl) x_n)) (sz_ 2 rfl (by decide))) (x_c rfl i_k (x_c rfl i_k (x_c rfl (i_bi (i_v rfl) (b_lenTm (f := D.str))) (x_c rfl i_dct0 (x_c rfl (i_lst (x_c rfl (i_v rfl) x_n) (sz_ 1 rfl (by decide))) (x_c rfl (i_tup (x_c rfl (i_v rfl) x_n) (sz_ 1 rfl (by decide))) (x_c rfl (i_reprW H.eqw (n := n + 4) (i_v rfl) g49) x_n))))))))))) (sz_ 11 rfl (by decide)))) ?_)
    refine no_implicit_lambda% (q_asgW ?_)
    refine no_implicit_lambda% (w_cal ?_)
    refine no_implicit_lambda% (w_es (w_eq (i_v rfl) ?_))
    refine no_implicit_lambda% (w_es ?_)
    refine no_implicit_lambda% (w_eq (d := (D.lst (List.map (fun z : Qv => (z).1) v_others_50))) (i_v rfl) ?_)
    refine no_implicit_lambda% (w_es0 ?_)
    refine no_implicit_lambda% (w_calF H.s32q.fn rfl (sw32q H.s32q (n := n + 3) v_others_50 _ v hi (bb hBb6 (by decide)) h ?_))
    intro y52 M h v _
    replace v : Vw Tub M0 i M (b6 + 67108867) [] := v.mono tubC (bm (by decide))
    refine no_implicit_lambda% (q_ifW ?_)
    obtain ⟨g53, g54, g55, g56, g57, h⟩ := h
    refine no_implicit_lambda% (w_eq (d := (D.bl (false || (false || ((!true) || ((!(decide (v_mine_19 = (v_mates_32.getD 0 (default : Wb))))) || (!(decide (v_mine_19 = (v_mates_32.getD 1 (default : Wb))))))))))) (i_or (i_cmp (i_v rfl) (i_vs rfl y52.sp) (c_eqWQ H.eqw (n := n + 4) v_mine_19 y52 g53)) fun h9 => (i_or (i_cmp (i_vs rfl y52.sp) (i_v rfl) (c_eqQW H.eqw (n := n + 4) y52 v_mine_19 (g54 h9))) fun h10 => (i_or (i_not (i_cmp (i_v rfl) (i_vs rfl y52.sp) (c_neWQ H.eqw (n := n + 4) v_mine_19 y52 (g55 h9 h10)))) fun h11 => (i_or (i_not (i_cmp (i_v rfl) (i_kL (f := wD) (l := v_mates_32) (default : Wb) (i_v rfl) i_k (g56 h9 h10 h11)) (c_eqW H.eqw (n := n + 4) v_mine_19 (v_mates_32.getD 0 (default : Wb))))) fun h12 => (i_or1 (i_not (i_cmp (i_v rfl) (i_kL (f := wD) (l := v_mates_32) (default : Wb) (i_v rfl) i_k (g57 h9 h10 h11 h12)) (c_eqW H.eqw (n := n + 4) v_mine_19 (v_mates_32.getD 1 (default : Wb)))))))))) ?_)
    refine ⟨_, rfl, fun c58 => ?_, fun c58 => ?_⟩
    · replace h := h.1 c58
      refine no_implicit_lambda% (q_ret ?_)
      refine no_implicit_lambda% (w_eq (d := (D.bl false)) i_k ?_)
      exact absurd h Bool.false_ne_true
    replace h := h.2 c58
    refine no_implicit_lambda% (q_nil ?_)
    refine no_implicit_lambda% (q_nil ?_)
    exact ⟨hlb6, (), _, _, _, _, _, _, _, _, _, h, v.mono tubC (by omega), rfl⟩
  rintro ρ M ⟨hl, s7, o8, o9, o10, o11, o12, o13, o14, o15, o16, hI, v, rfl⟩
  replace h := hc68 s7 hI
  replace v : Vw Tub M0 i M (B + 268435468) [] := v.mono tubC (by simp only [List.length_nil, Nat.sub_zero]; exact bm (by decide))
  refine no_implicit_lambda% (q_ret ?_)
  refine no_implicit_lambda% (w_eq (d := (D.bl true)) i_k ?_)
  exact v.fin tubC (fun n M => rfl) ((fun _ => rfl) true) fun t hq => q _ _ h (v0.draw hi0 (tubC.mono hq (ba (by decide)))) (by simp)
end DI
end

section
set_option Elab.async false
set_option linter.all false
namespace DI
open PySem
theorem okW_of {ns us : List Str} {ts vs : List (Str × Str)} (ok : OkW (ns, ts)) (h1 : us.Perm ns) (h2 : OkTs ns vs) (h3 : vs.length ≤ 900) : OkW (us, vs) :=
  ⟨⟨fun e => ok.ns.ne (by have := h1.length_eq; simp only at e; subst e; exact List.eq_nil_of_length_eq_zero this.symm), by have := ok.ns.few; have := h1.length_eq; simp only at *; omega, fun s hs => ok.ns.nm s (h1.mem_iff.mp hs), h1.nodup_iff.mpr ok.ns.nd⟩, ⟨fun t ht => let ⟨a, b, c⟩ := h2.mem t ht; ⟨h1.mem_iff.mpr a, h1.mem_iff.mpr b, c⟩, h2.pw⟩, h3⟩
theorem page_inj {x y : Wb} (ox : OkW x) (oy : OkW y) : decide (pageW x = pageW y) = decide (x = y) := by
  rw [Bool.eq_iff_iff, decide_eq_true_iff, decide_eq_true_iff]
  exact ⟨fun h => by rw [← read_page ox, h, read_page oy], fun h => by rw [h]⟩
theorem ty_mem {l : List Qv} (h : ∀ q ∈ l, (tyNo q.1).isSome = true) {k : Nat} (hk : k < l.length) : (tyNo (l.getD k default).1).isSome = true := by
  rw [List.getD_eq_getElem?_getD, List.getElem?_eq_getElem hk]
  exact h _ (List.getElem_mem hk)
theorem w57_ok : w57 (fun b : Bool => b = true) := by
  have hs : 900000 < sizeLn := by unfold sizeLn; omega
  refine ⟨by omega, fun z2 e2 => ⟨fun _ _ => True, trivial, ?_, fun _ _ => rfl⟩⟩
  rintro x rem s _
  refine w11_ok (by omega) (by omega) fun ns ts ok l6 l64 => ?_
  have okn := ok.ns
  have okt : OkTs ns ts := ok.ts
  have p := List.Perm.refl ns
  have o1 : OkW (ns, ts.reverse) := okW_of ok p (okTs_perm okt (List.reverse_perm ts)) (by rw [List.length_reverse]; omega)
  have o2 : OkW (ns.reverse, ts) := okW_of ok (List.reverse_perm ns) okt (by omega)
  have o3 : OkW (ns, ts.drop 1) := okW_of ok p (okTs_sub okt (List.drop_sublist _ _)) (by rw [List.length_drop]; omega)
  have o4 : OkW (ns, ts.map fun z : Str × Str => (z.2, z.1)) := okW_of ok p (okTs_perm (okTs_turn okt) (List.reverse_perm _).symm) (by rw [List.length_map]; omega)
  have o5 : OkW (ns, ts.take 1) := okW_of ok p (okTs_sub okt (List.take_sublist _ _)) (by rw [List.length_take]; omega)
  refine ⟨ok, fun mine em => ?_⟩
  have em : mine = (ns, ts) := em
  subst em
  refine ⟨ok, ok, ⟨_, ok, rfl⟩, o1, o2, fun mates et => ⟨o3, by simp only; omega, o4, by rw [et]; simp; omega, fun mates2 et2 => ⟨o5, by rw [et2, et]; simp; omega, fun all ea => ?_⟩⟩⟩
  rw [read_page ok] at et
  subst et
  have hall : ∀ w ∈ all, OkW w := by
    intro w hw
    rw [ea, et2] at hw
    simp only [List.mem_append, List.mem_cons, List.not_mem_nil, or_false] at hw
    rcases hw with ((h | h | h | h) | h | h) | h | h <;> rw [h] <;> assumption
  refine ⟨fun rem _ => ∀ w ∈ rem, OkW w, hall, ?_, fun _ _ => ⟨ok, fun others eo => ?_⟩⟩
  · rintro w rem _ hI
    have ow : OkW w := hI w (by simp)
    refine ⟨ow, ok, fun due ed => ?_⟩
    rw [page_inj ow ok] at ed
    have e2 : decide ((ns, ts) = w) = decide (w = (ns, ts)) := by rw [Bool.eq_iff_iff, decide_eq_true_iff, decide_eq_true_iff]; exact eq_comm
    refine ⟨fun h => ?_, fun _ v hv => hI v (List.mem_cons_of_mem _ hv)⟩
    rw [e2, ← ed] at h
    simp at h
  · have ht : ∀ q ∈ others, (tyNo q.1).isSome = true := by
      rw [eo]
      repeat (refine List.forall_mem_cons.mpr ⟨rfl, ?_⟩)
      exact fun _ h => nomatch h
    have hl : others.length = 11 := by rw [eo]; rfl
    refine draw_w (by omega) (by omega) fun y hy => ⟨hy, ?_⟩
    have hq := ty_mem ht hy
    have l0 : 1 < mates2.length := by rw [et2]; simp
    have g0 : mates2.getD 0 (default : Wb) = (ns, ts) := by rw [et2]; rfl
    have g1 : mates2.getD 1 (default : Wb) = (ns, ts) := by rw [et2]; rfl
    refine ⟨hq, fun _ => hq, fun _ _ => hq, fun _ _ _ => by omega, fun _ _ _ _ => l0, fun h => ?_, fun _ => trivial⟩
    rw [g0, g1] at h
    simp at h
end DI
namespace DI
open PySem
theorem law08 {P : Prog} {n : Nat} (H : RW57 P) (h58 : P.fns 58 = some f58) (h24 : P.fns 24 = some f24) {zs : List Int} (hz : zs.length ≤ 63) (hb : ∀ z ∈ zs, z.natAbs.log2 ≤ 1048576) : ∃ μ, calD P shownD (n + 10) 58 [.rol (zs.map .int)] [] = .ok (.bl true) μ :=
  law_wC tubC (mx := 5) (n := n + 8) (a := 57) (b := 24) (G := f57) (H2 := f24) (by omega) (by omega) h58 H.fn h24 rfl rfl (fun μ j k hj q => tub_w (n := n + 8) h24 hz hb hj q) fun μ i t hF ht tub => by
    have hb : 1 + 268435468 ≤ BB := Nat.le_trans (by decide) BB_big
    exact sw57 (n := n + 3) H (Vw.start ht tub) ((List.getElem?_eq_some_iff.mp ht).1) hb w57_ok fun a M' ha v hl => ⟨by rw [ha], right_end tubC v hl⟩
end DI
end

namespace DI
open PySem
theorem bits_log {z : Int} (h : Builtin.Int.intBits z ≤ 1048576) : z.natAbs.log2 ≤ 1048576 := by
  unfold Builtin.Int.intBits at h
  by_cases h0 : z = 0
  · subst h0; decide
  · have e : (z == 0) = false := by simpa using h0
    rw [e] at h
    simp at h
    omega
theorem has08 : RW57 Wk08.T.prog := by
  repeat' (first | rfl | exact ⟨_, rfl, rfl⟩ | exact ⟨_, rfl, rfl, rfl⟩ | exact ⟨_, rfl, rfl, rfl, rfl, rfl, rfl, rfl⟩ | exact ⟨_, rfl⟩ | exact ⟨_, _, rfl⟩ | constructor)
end DI
theorem PySem.Challenge.cw_markedrings_k08_webs_compared_holds : PySem.Challenge.rw_markedrings_k08_webs_compared.Holds := by
  exact DI.Wk08.holds_of fun zs hz hb => DI.law08 (n := 50) DI.has08 rfl rfl hz fun z h => DI.bits_log (hb z h)

