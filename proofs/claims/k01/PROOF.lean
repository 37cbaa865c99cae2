import PyProof.Rows.All
import Wide.All
import OpenK.AllK
import Wide.FinOn
import PyProof.ReprReads
import PyProof.P3Eq
import PyProof.EqLayable
import KE.IntText
import PyProof.RangeIter
import PyProof.StrBlockL
import KE.KeyNested
import KE.SortData
import KE.DataMinMax
import HandS.ForExc
import HandS.Comp
import HandS.Dict
import HandS.Iter
import HandS.Text
import HandS.Zip
import HandS.FStr
import HandS.Property
import HandS.TupMul
import HandS.TupAny
import HandS.RevTup
import HandS.OwnEq
import HandS.IsInst
import HandS.ExcInit
import HandS.ExcField
import HandS.ExcIs
import HandS.CallSlots
import HandS.TryMany
import KE.KDictKeyed
import PyProof.EqAt
import PyProof.EqKinds
import PyProof.NeKinds
import PyProof.FactsAll.dict_1
import PyProof.FactsAll.tuple_1
import PyProof.FactsAll.subtypes_4
import HandS.Deep
import KE.DataCmp
import KE.KDictWalk
import HandS.DictEq
import HandS.TupLe
import HandS.RaiseMore
import HandS.Conv
import HandS.More
import KE.KExcInit
import KE.GoesEnum
import KE.GoesZip
import HandS.Style
import HandS.ExcValue
import KE.KExcIs
import KE.KCallOwn
import HandS.HeadWalk
import KE.KDictDisplayH
import HandS.TryOnly
import HandS.EndBits
import HandS.Head2
import HandS.HeadHook2
import HandS.Words
import PyProof.Rows.Walk
import PyProof.StrLawsRepr
import PyProof.Rows.RegStrFacts
import PySem.Challenge.RW_lentminutes_k01_books_made
set_option linter.all false
namespace Lm
open PySem (Str PyData)

inductive D where
  | non | bl (b : Bool) | int (i : Int) | str (s : Str)
  | tup (xs : List D) | lst (xs : List D) | dct (kvs : List (D × D)) | dcn (kvs : List (D × D)) | frz (xs : List D)
  | obj (c : Nat) (fs : List (Nat × D)) | exc (c : Nat) (fs : List (Nat × D))
  | loc (l : Nat) | clo (f : Nat) (cap : List D)
  deriving Inhabited

inductive O where
  | lst (xs : List D) | dct (kvs : List (D × D)) | dcn (kvs : List (D × D)) | ins (c : Nat) (fs : List (Nat × D))
abbrev Sto := List O
inductive Sl where
  | un | val (d : D) | own (o : O) | hx (c : Nat) (fs : List (Nat × D))
abbrev Env := List Sl

inductive Exn where
  | own (c : Nat) (fs : List (Nat × D))
  | blt (n : String)

inductive Res (α : Type) where
  | ok (a : α) (μ : Sto) | exn (x : Exn) (μ : Sto) | bad

def Res.bind {α β : Type} (r : Res α) (f : α → Sto → Res β) : Res β :=
  match r with | .ok a μ => f a μ | .exn x μ => .exn x μ | .bad => .bad
def ofO {α : Type} (o : Option α) (μ : Sto) : Res α := match o with | some a => .ok a μ | none => .bad

inductive Bop | add | sub | mul | fdiv | mod | pow
inductive Cop | eq | ne | lt | le | gt | ge | isn | notn | inn | nin
inductive Ty | int | bool | tuple | str | list | dict | own (c : Nat) | exc (n : String)
inductive F1 | len | abs | int | str | repr | list | tuple | all | sum | min | max | sorted | upper | values
inductive F2 | min | max | join | split | get | index
inductive Tgt where
  | nm (i : Nat) | tp (ts : List Tgt)

mutual
inductive E where
  | var (i : Nat) | lit (d : D) | glob (j : Nat)
  | tup (es : List E) | lst (es : List E) | dic (ks vs : List E) | dc1 (k v : E)
  | bin (o : Bop) (a b : E) | neg (a : E) | not (a : E)
  | cmp (o : Cop) (a b : E) | chain (o o' : Cop) (a b c : E)
  | and (es : List E) | or (es : List E) | ite (c a b : E)
  | call (f : Nat) (args : List E) | new (c : Nat) (args : List E) | callv (f : E) (args : List E)
  | meth (m : Nat) (o : E) (args : List E) | attr (f : Nat) (o : E)
  | isi (a : E) (t : List Ty)
  | f1 (b : F1) (a : E) | f2 (b : F2) (a c : E) | get1 (d k : E) | get3 (d k x : E)
  | idx (a k : E) | sli (a : E) (lo hi : Option E) | rev (a : E)
  | comp (elt : E) (t : Tgt) (it : It) (conds : List E) | dcomp (k v : E) (t : Tgt) (it : It)
  | lam (f : Nat) (cap : List Nat) | fstr (parts : List E)
  | alloc (e : E) | tx (b : F2) (a c : E) | ocmp (n : Bool) (a c : E)
inductive It where
  | seq (e : E) | range (es : List E) | enum (e : E) | zip (a b : E)
end

inductive S where
  | set (t : Tgt) (e : E) | own (i : Nat) (e : E) | par (ts : List (Nat × Bool)) (es : List E) | frz (i : Nat)
  | pop (t : Tgt) (i : Nat) (k : Option E) | app (i : Nat) (e : E) | ext (i : Nat) (e : E) | put (i : Nat) (k v : E)
  | putL (o k v : E) | appL (o e : E) | setF (f : Nat) (o v : E) | selfF (f : Nat) (v : E)
  | expr (e : E) | ite (c : E) (a b : List S) | whil (c : E) (b : List S) | forr (t : Tgt) (it : It) (b : List S)
  | ret (e : Option E) | raise (c : Nat) (args : List E)
  | tryy (b : List S) (hs : List (Nat × Option Nat × List S)) | brk | pass | no

/-! ### values -/
mutual
def toP : D → Option PyData
  | .non => some .none | .bl b => some (.bool b) | .int i => some (.int i) | .str s => some (.str s)
  | .tup xs => (toPs xs).map .tuple | .lst xs => (toPs xs).map .list | .dct kvs => (toPk kvs).map .dict
  | .dcn _ => none | .frz _ => none | .obj _ _ => none | .exc _ _ => none | .loc _ => none | .clo _ _ => none
def toPs : List D → Option (List PyData)
  | [] => some []
  | x :: xs => match toP x, toPs xs with | some p, some ps => some (p :: ps) | _, _ => none
def toPk : List (D × D) → Option (List (PyData × PyData))
  | [] => some []
  | (k, v) :: r => match toP k, toP v, toPk r with | some p, some q, some ps => some ((p, q) :: ps) | _, _, _ => none
end
/-! ### classes and defs -/
inductive ClK | frozen | mutb | exc
def ClK.isExc : ClK → Bool | .exc => true | _ => false
structure Cl where
  kind : ClK
  init : Option Nat
  meths : List (Nat × Nat)
  props : List (Nat × Nat)
  sups : List (Sum Nat String)
  /-- an own exception whose __init__ sets each of these to its argument -/
  xfs : Option (List Nat)
  /-- own __eq__ .. 1, __ne__ 2, __len__ 3, __str__ 4, __getitem__ 5 -/
  sps : List (Nat × Nat)
structure Fn where
  np : Nat
  nl : Nat
  body : List S
structure Pg where
  fns : List Fn
  cls : List Cl
  globs : List D
structure Orc where
  call : Nat → List D → Sto → Res D
  init : Nat → Nat → List D → Sto → Res (List (Nat × D))

abbrev line : Nat := 16777216
def lookN {β : Type} (l : List (Nat × β)) (k : Nat) : Option β := match l with | [] => none | (a, b) :: r => if a = k then some b else lookN r k
def putN {β : Type} (l : List (Nat × β)) (k : Nat) (v : β) : List (Nat × β) := match l with | [] => [(k, v)] | (a, b) :: r => if a = k then (a, v) :: r else (a, b) :: putN r k v

/-! ### keys -/
def keyD : D → Option (Sum Int Str)
  | .int i => some (.inl i) | .str s => some (.inr s) | _ => none
def dget (kvs : List (D × D)) (k : Sum Int Str) : Option D := match kvs with | [] => none | (a, v) :: r => if keyD a = some k then some v else dget r k
def dput (kvs : List (D × D)) (k : Sum Int Str) (kd v : D) : List (D × D) := if kvs.any (fun kv => decide (keyD kv.1 = some k)) then kvs.map (fun kv => if keyD kv.1 = some k then (kv.1, v) else kv) else kvs ++ [(kd, v)]

/-! .. nested tuples -/
mutual
def keyN : D → Option PySem.NestedKey
  | .non => some .none | .bl b => some (.num (if b then 1 else 0)) | .int i => some (.num i) | .str s => some (.text s)
  | .tup xs => (keyNs xs).map .tup
  | _ => none
def keyNs : List D → Option (List PySem.NestedKey)
  | [] => some []
  | x :: xs => match keyN x, keyNs xs with | some k, some ks => some (k :: ks) | _, _ => none
end
def keyT : D → Option PySem.NestedKey
  | .tup xs => (keyNs xs).bind fun ks => if (PySem.NestedKey.tup ks).depth ≤ 8 then some (.tup ks) else none
  | _ => none
def dgetN (kvs : List (D × D)) (k : PySem.NestedKey) : Option D := match kvs with | [] => none | (a, v) :: r => if keyT a = some k then some v else dgetN r k
def dputN (kvs : List (D × D)) (k : PySem.NestedKey) (kd v : D) : List (D × D) := if kvs.any (fun kv => decide (keyT kv.1 = some k)) then kvs.map (fun kv => if keyT kv.1 = some k then (kv.1, v) else kv) else kvs ++ [(kd, v)]
/-- what a dict bears at a key -/
def dlook (kvs : List (D × D)) (x : D) : Option (Option D) := match keyD x with
  | some k => some (dget kvs k)
  | none => if kvs.isEmpty then (keyT x).map fun _ => none else none
def dlookN (kvs : List (D × D)) (x : D) : Option (Option D) := (keyT x).map fun k => dgetN kvs k

/-! ### order of data -/
def encD (d : D) : PyData := (toP d).getD .none
/-- data that may be ordered -/
def ordD (d : D) : Bool := match toP d with | some p => decide (p.depth ≤ 50) && (match p with | .none => false | .dict _ => false | _ => true) | none => false
def ltD (a b : D) : Option Bool := if ordD a && ordD b && PySem.W.alike (encD a) (encD b) then some (PySem.W.dataLt (encD a) (encD b)) else none
def ordAll (xs : List D) : Bool := xs.all ordD && xs.all fun a => xs.all fun b => PySem.W.alike (encD a) (encD b)
def tupH : D → Bool | .tup (_ :: _) => true | _ => false
def notTup : D → Bool | .tup _ => false | _ => true
def sortD (xs : List D) : Option (List D) := if ordAll xs && (xs.all tupH || xs.all notTup) && decide (xs.length ≤ line) then some (xs.mergeSort (PySem.W.dataLe false encD)) else none
def minL : List D → Option D
  | [] => none
  | x :: xs => if ordAll (x :: xs) then some (xs.foldl (fun a y => if PySem.W.dataLt (encD y) (encD a) then y else a) x) else none
def maxL : List D → Option D
  | [] => none
  | x :: xs => if ordAll (x :: xs) then some (xs.foldl (fun a y => if PySem.W.dataLt (encD a) (encD y) then y else a) x) else none

/-! ### operators on values -/
def small (i : Int) : Bool := decide (-(2 ^ 64) < i) && decide (i < 2 ^ 64)
def opB : Bop → D → D → Option D
  | .add, .int a, .int b => some (.int (a + b))
  | .add, .str a, .str b => if a.length + b.length ≤ line then some (.str (a ++ b)) else none
  | .add, .tup a, .tup b => if a.length + b.length ≤ line then some (.tup (a ++ b)) else none
  | .add, .lst a, .lst b => if a.length + b.length ≤ line then some (.lst (a ++ b)) else none
  | .sub, .int a, .int b => some (.int (a - b))
  | .mul, .int a, .int b => if small a || small b then some (.int (a * b)) else none
  | .mul, .tup a, .int b => if 0 ≤ b ∧ b ≤ 1000 ∧ a.length ≤ 1000 then some (.tup (List.replicate b.toNat a).flatten) else none
  | .mul, .lst a, .int b => if 0 ≤ b ∧ b ≤ 4096 ∧ a.length * b.toNat ≤ line then some (.lst (List.replicate b.toNat a).flatten) else none
  | .fdiv, .int a, .int b => if b ≠ 0 ∧ b.natAbs < 1073741824 then some (.int (a.fdiv b)) else none
  | .mod, .int a, .int b => if b ≠ 0 then some (.int (a.fmod b)) else none
  | .pow, .int a, .int b => if 0 ≤ b ∧ b ≤ 1000 ∧ a.natAbs < 2 ^ 64 then some (.int (a ^ b.toNat)) else none
  | _, _, _ => none
def eqD (a b : D) : Option Bool := match toP a, toP b with | some p, some q => if PySem.SeqAt.shaped p && PySem.SeqAt.shaped q then some (PySem.PyData.eqv p q) else none | _, _ => none
/-- lists of unlike length -/
def eqL : D → D → Option Bool
  | .lst xs, .lst ys => if xs.length = ys.length then none else some false
  | _, _ => none
/-- dicts, of which the second one is empty -/
def eqN : D → D → Option Bool
  | .dct kvs, .dct [] => some kvs.isEmpty
  | .dcn kvs, .dct [] => some kvs.isEmpty
  | _, _ => none
/-- a tuple that is surely no x, though x holds a dict -/
def neqW : D → D → Bool
  | .tup _, .dct _ => true
  | .tup (.tup _ :: ys), .tup (.dct _ :: xs) => (ys.zip xs).all fun p => (eqD p.1 p.2).isSome
  | _, _ => false
/-- x in xs -/
def inL (x : D) (ys : List D) : Option Bool := match toP x, toPs ys with
  | some d, some ds => if PySem.SeqAt.shaped d && PySem.SeqAt.shaped (.list ds) then some (ds.any fun z => PySem.PyData.eqv z d) else none
  | _, _ => none
/-- texts in a row -/
def strsOf : List D → Option (List Str)
  | [] => some []
  | .str s :: r => (strsOf r).map (s :: ·)
  | _ :: _ => none
def isNonD : D → Bool | .non => true | _ => false
def opC (μ : Sto) : Cop → D → D → Option D
  | .eq, a, b => (match a, b with | .str s, .str t => some (decide (s = t)) | a, b => (eqD a b).or ((eqL a b).or (eqN a b))).map .bl
  | .ne, a, b => (match a, b with | .str s, .str t => some (decide (s = t)) | a, b => (eqD a b).or ((eqL a b).or (eqN a b))).map fun x => .bl (!x)
  | .lt, .int a, .int b => some (.bl (decide (a < b)))
  | .gt, .int a, .int b => some (.bl (decide (b < a)))
  | .le, .int a, .int b => some (.bl (decide (a ≤ b)))
  | .ge, .int a, .int b => some (.bl (decide (b ≤ a)))
  | .lt, .tup a, .tup b => (ltD (.tup a) (.tup b)).map .bl
  | .gt, .tup a, .tup b => (ltD (.tup b) (.tup a)).map .bl
  | .isn, a, .non => some (.bl (isNonD a))
  | .notn, a, .non => some (.bl (!isNonD a))
  | .notn, .bl a, .bl b => some (.bl (!decide (a = b)))
  | .inn, x, .lst ys => ((inL x ys).or (if ys.all (fun y => neqW y x) then some false else none)).map .bl
  | .inn, x, .dct kvs => (dlook kvs x).map fun o => .bl o.isSome
  | .inn, x, .dcn kvs => (dlookN kvs x).map fun o => .bl o.isSome
  | .inn, .str x, .tup ys => (strsOf ys).map fun zs => .bl (decide (x ∈ zs))
  | .nin, x, .tup ys => (inL x ys).map fun b => .bl (!b)
  | .inn, .str x, .str y => match x.cps.toList with | [c] => some (.bl (decide (c ∈ y.cps.toList))) | _ => none
  | .nin, .str x, .str y => match x.cps.toList with | [c] => some (.bl (!decide (c ∈ y.cps.toList))) | _ => none
  | .nin, x, .lst ys => (inL x ys).map fun b => .bl (!b)
  | .nin, x, .dct kvs => (dlook kvs x).map fun o => .bl (!o.isSome)
  | .nin, x, .dcn kvs => (dlookN kvs x).map fun o => .bl (!o.isSome)
  | _, _, _ => none

/-- a Python index -/
def ixN (n : Nat) (i : Int) : Option Nat := if 0 ≤ i then (if i < n then some i.toNat else none) else if -(n : Int) ≤ i then some (i + n).toNat else none
def cutN (n d : Nat) : Option Int → Nat
  | none => d
  | some v => if v < 0 then (v + (n : Int)).toNat else min v.toNat n
def cutL {α : Type} (xs : List α) (lo hi : Option Int) : List α := (xs.drop (cutN xs.length 0 lo)).take (cutN xs.length xs.length hi - cutN xs.length 0 lo)
def allB : List D → Option Bool
  | [] => some true
  | .bl b :: r => (allB r).map (b && ·)
  | _ :: _ => none
def sumI : List D → Option Int
  | [] => some 0
  | .int i :: r => (sumI r).map (i + ·)
  | _ :: _ => none
def foldI (f : Int → Int → Int) : List D → Option Int
  | [] => none
  | [.int i] => some i
  | .int i :: r => (foldI f r).map (f i)
  | _ :: _ => none
def itemsOf : D → Option (List D)
  | .tup xs => some xs | .lst xs => some xs
  | _ => none
def reprD (d : D) : Option Str := match toP d with
  | some p => if p.showable && decide (p.depth ≤ 64) && decide (p.shown.length ≤ line) then some p.shown else none
  | none => none
def digitsI (i : Int) : Option Str := if i.natAbs.log2 < 1920 then some (Str.ofString (toString i)) else none
def intText (s : Str) : Option Int := if s.length ≤ 640 then PySem.intText? s else none
def opF1 : F1 → D → Option D
  | .len, .tup xs => some (.int xs.length) | .len, .frz xs => some (.int xs.length) | .len, .lst xs => some (.int xs.length) | .len, .dct kvs => some (.int kvs.length) | .len, .dcn kvs => some (.int kvs.length) | .len, .str s => if s.length ≤ line then some (.int s.length) else none
  | .abs, .int i => some (.int (if i < 0 then -i else i))
  | .int, .int i => some (.int i) | .int, .bl b => some (.int (if b then 1 else 0)) | .int, .str s => (intText s).map .int
  | .str, .int i => (digitsI i).map .str | .str, .str s => some (.str s)
  | .repr, d => (reprD d).map .str
  | .list, .tup xs => some (.lst xs) | .list, .lst xs => some (.lst xs)
  | .tuple, .lst xs => some (.tup xs) | .tuple, .tup xs => some (.tup xs)
  | .all, .lst xs => (allB xs).map .bl
  | .sum, .lst xs => (sumI xs).map .int
  | .min, .lst xs => ((foldI min xs).map .int).or (minL xs) | .max, .lst xs => ((foldI max xs).map .int).or (maxL xs)
  | .sorted, .lst xs => (sortD xs).map .lst | .sorted, .dcn kvs => (sortD (kvs.map (·.1))).map .lst
  | .list, .dcn kvs => if kvs.length ≤ line then some (.lst (kvs.map (·.1))) else none
  | _, _ => none
def joinD (a : Str) (ys : List D) : Option D := (strsOf ys).bind fun zs => if (zs.map (·.length)).sum + zs.length * a.length ≤ 16777216 then some (.str (PySem.Txt.join a zs)) else none
def opTx : F2 → Str → D → Option D
  | .split, a, .str b => if (b.length == 0) = false ∧ a.length + 2 ≤ line then some (.lst ((PySem.Txt.split a b).map D.str)) else none
  | .join, a, .lst ys => joinD a ys
  | .join, a, .tup ys => joinD a ys
  | _, _, _ => none
def opF2 : F2 → D → D → Option D
  | .min, .int a, .int b => some (.int (if b < a then b else a))
  | .max, .int a, .int b => some (.int (if b > a then b else a))
  | .get, .dct kvs, k => (dlook kvs k).map fun o => o.getD .non
  | .get, .dcn kvs, k => (dlookN kvs k).map fun o => o.getD .non
  | _, _, _ => none
def isDic : D → Bool | .dct _ => true | .dcn _ => true | _ => false
def get3D : D → D → D → Option D
  | .dct kvs, k, y => (dlook kvs k).map fun o => o.getD y
  | .dcn kvs, k, y => (dlookN kvs k).map fun o => o.getD y
  | _, _, _ => none
def idxD : D → D → Option D
  | .tup xs, .int i => (ixN xs.length i).bind fun j => xs[j]?
  | .lst xs, .int i => (ixN xs.length i).bind fun j => xs[j]?
  | .str s, .int i => if s.length ≤ line then (ixN s.length i).bind fun j => (s.cps[j]?).map fun c => .str ⟨#[c]⟩ else none
  | .dct kvs, k => (keyD k).bind fun q => dget kvs q
  | .dcn kvs, k => (keyT k).bind fun q => dgetN kvs q
  | _, _ => none
def sliD (d : D) (lo hi : Option Int) : Option D := match d with
  | .tup xs => some (.tup (cutL xs lo hi))
  | .lst xs => some (.lst (cutL xs lo hi))
  | .str z => if z.length ≤ line then some (.str ⟨(cutL z.cps.toList lo hi).toArray⟩) else none
  | .frz xs => some (.lst (cutL xs lo hi))
  | _ => none
def revD : D → Option D
  | .lst xs => some (.lst xs.reverse) | .frz xs => some (.lst xs.reverse) | .tup xs => some (.tup xs.reverse) | _ => none
def O.toD : O → D
  | .lst xs => .lst xs | .dct kvs => .dct kvs | .dcn kvs => .dcn kvs | .ins c fs => .obj c fs
def D.toO : D → Option O
  | .lst xs => some (.lst xs) | .dct kvs => some (.dct kvs) | .dcn kvs => some (.dcn kvs) | _ => none
/-- a loc's content, where the operation only reads -/
def derefD (μ : Sto) : D → Option D
  | .loc l => (μ[l]?).map O.toD
  | d => some d

/-- where no error may leave -/
def noX {α : Type} (r : Res α) : Res α := match r with | .ok a μ => .ok a μ | _ => .bad
mutual
def slotsT : Tgt → List Nat
  | .nm i => [i]
  | .tp ts => slotsTs ts
def slotsTs : List Tgt → List Nat
  | [] => []
  | t :: ts => slotsT t ++ slotsTs ts
end
def unAll : List Nat → Env → Env
  | [], env => env
  | v :: vs, env => (unAll vs env).set v .un
mutual
def setT : Tgt → D → Env → Option Env
  | .nm i, d, env => some (env.set i (.val d))
  | .tp ts, d, env => match d with | .tup xs => setTs ts xs env | _ => none
def setTs : List Tgt → List D → Env → Option Env
  | [], [], env => some env
  | t :: ts, x :: xs, env => (setT t x env).bind fun env' => setTs ts xs env'
  | [], _ :: _, _ => none
  | _ :: _, [], _ => none
end

section
variable (P : Pg) (C : Orc)
def supOf (c : Nat) (t : Sum Nat String) : Bool := match P.cls[c]? with | some k => k.sups.any fun x => decide (x = t) | none => false
/-- the class of an instance -/
def clsOf (μ : Sto) : D → Option Nat
  | .obj c _ => some c
  | .loc l => match μ[l]? with | some (.ins c _) => some c | _ => none
  | _ => none
def tyOf : D → Option String
  | .non => some "NoneType" | .bl _ => some "bool" | .int _ => some "int" | .str _ => some "str" | .tup _ => some "tuple" | .lst _ => some "list" | .dct _ => some "dict"
  | _ => none
def tyNm : Ty → Option String
  | .int => some "int" | .bool => some "bool" | .tuple => some "tuple" | .str => some "str" | .list => some "list" | .dict => some "dict"
  | _ => none
def isX (c : Nat) : Bool := match P.cls[c]? with | some k => k.kind.isExc | none => false
/-- an exception held as a value -/
def exC : D → Option Nat | .exc c _ => some c | _ => none
/-- an exception's class without an __init__ -/
def bareX (P : Pg) (c : Nat) : Bool := match P.cls[c]? with | some k => k.kind.isExc && (lookN k.sps 6).isSome | none => false
/-- a class of instances -/
def isN (P : Pg) (c : Nat) : Bool := match P.cls[c]? with | some k => !k.kind.isExc | none => false
def isT (P : Pg) (μ : Sto) (d : D) (t : Ty) : Option Bool := match clsOf μ d, t with
  | some c, .own c' => if isN P c && isN P c' then some (decide (c = c')) else none
  | some c, t => if isN P c then (tyNm t).map fun _ => false else none
  | none, .own c' => if isN P c' then (tyOf d).map fun _ => false else (exC d).bind fun c => if isX P c && isX P c' then some (supOf P c (.inl c')) else none
  | none, .exc n => (exC d).bind fun c => if isX P c then some (supOf P c (.inr n)) else none
  | none, t => (match tyOf d, tyNm t with
    | some a, some b => some (a == b || (a == "bool" && b == "int"))
    | _, _ => none)
def isTs (μ : Sto) (d : D) : List Ty → Option Bool
  | [] => some false
  | t :: ts => match isT P μ d t with | some true => some true | some false => isTs μ d ts | none => none
/-- a value whose type is known -/
def knownD (μ : Sto) (d : D) : Bool := (tyOf d).isSome || (match clsOf μ d with | some c => isN P c | none => false)
/-- == or != by the own method of x's class -/
def ownC (n : Bool) (x y : D) (μ : Sto) : Res D := match clsOf μ x with
  | none => .bad
  | some cn => match P.cls[cn]? with
    | none => .bad
    | some cl => if cl.kind.isExc then .bad else match lookN cl.sps (if n then 2 else 1) with
      | none => .bad
      | some f => if knownD P μ y then (match C.call f [x, y] μ with | .ok (.bl r) μ' => .ok (.bl r) μ' | _ => .bad) else .bad
def fldsOf (μ : Sto) : D → Option (List (Nat × D))
  | .obj _ fs => some fs | .exc _ fs => some fs
  | .loc l => match μ[l]? with | some (.ins _ fs) => some fs | _ => none
  | _ => none
def methOf (μ : Sto) (d : D) (m : Nat) : Option Nat := (clsOf μ d).bind fun c => (P.cls[c]?).bind fun k => lookN k.meths m
def propOf (μ : Sto) (d : D) (m : Nat) : Option Nat := (clsOf μ d).bind fun c => (P.cls[c]?).bind fun k => lookN k.props m
def callM (m : Nat) (d : D) (args : List D) (μ : Sto) : Res D := match methOf P μ d m with
  | some f => C.call f (d :: args) μ
  | none => .bad
/-- the class and the def of a method's name -/
def methC (m : Nat) : Option (Nat × Nat) := P.cls.zipIdx.findSome? fun z => if z.1.kind.isExc then none else (lookN z.1.meths m).map fun g => (z.2, g)
def noFld (μ : Sto) (x : D) (m : Nat) : Bool := match fldsOf μ x with | some fs => (lookN fs m).isNone | none => false
/-- len, str, [] by the class' own method: 3, 4, 5 -/
def spD (c : Nat) (x : D) (args : List D) (μ : Sto) : Res D := match clsOf μ x with
  | none => .bad
  | some cn => match P.cls[cn]? with
    | none => .bad
    | some cl => if cl.kind.isExc then .bad else match lookN cl.sps c with
      | none => .bad
      | some f => if c = 5 then C.call f (x :: args) μ
        else if c = 3 then (match C.call f (x :: args) μ with | .ok (.int n) μ' => if 0 ≤ n ∧ n < 2 ^ 63 then .ok (.int n) μ' else .bad | _ => .bad)
        else if c = 4 then (match C.call f (x :: args) μ with | .ok (.str n) μ' => .ok (.str n) μ' | _ => .bad) else .bad
/-- what an f-string shows of a value -/
def fmtD : D → Option Str
  | .str s => if s.length ≤ line then some s else none
  | .int i => digitsI i
  | _ => none
/-- the fields of an exception that is made -/
def excFs (c : Nat) (args : List D) : Option (List (Nat × D)) := match P.cls[c]? with
  | some cl => match cl.xfs with
    | some ns => if ns.length = args.length ∧ args.length ≤ 1000 then some (ns.zip args).reverse else none
    | none => none
  | none => none
def newObj (c : Nat) (args : List D) (μ : Sto) : Res D := match P.cls[c]? with
  | some k => match k.kind, k.init with
    | .frozen, some f => (C.init c f args μ).bind fun fs μ' => .ok (.obj c fs) μ'
    | .mutb, some f => (C.init c f args μ).bind fun fs μ' => .ok (.loc μ'.length) (μ' ++ [.ins c fs])
    | .exc, _ => if bareX P c then (if args.isEmpty then .ok (.exc c []) μ else .bad) else (match excFs P c args with | some fs => .ok (.exc c fs) μ | none => .bad)
    | _, _ => .bad
  | none => .bad
def excA (f : Nat) (d : D) (μ : Sto) : Res D := match d with
  | .exc c fs => if isX P c then ofO (lookN fs f) μ else .bad
  | _ => .bad
def attrD (f : Nat) (d : D) (μ : Sto) : Res D := match clsOf μ d with
  | none => excA P f d μ
  | some c => match P.cls[c]? with
    | none => .bad
    | some cl => if cl.kind.isExc then .bad else match lookN cl.props f with
      | some g => match C.call g [d] μ with | .ok r μ' => .ok r μ' | _ => .bad
      | none => if (lookN cl.meths f).isSome then .bad else match fldsOf μ d with | some fs => ofO (lookN fs f) μ | none => .bad
/-- __eq__ .. 1, __ne__ 2, __len__ 3, __str__ 4, __getitem__ 5 -/
def cmpD (_ : Pg) (_ : Orc) (o : Cop) (a b : D) (μ : Sto) : Res D := ofO (opC μ o a b) μ
def f1D (_ : Pg) (_ : Orc) (b : F1) (d : D) (μ : Sto) : Res D := ofO ((derefD μ d).bind (opF1 b)) μ
def idxE (_ : Pg) (_ : Orc) (a k : D) (μ : Sto) : Res D := ofO ((derefD μ a).bind fun a' => idxD a' k) μ
end
def rangeL : List D → Option (List D)
  | [.int b] => if -(2 ^ 62) ≤ b ∧ b < 2 ^ 62 then some ((List.range b.toNat).map fun (k : Nat) => D.int (k : Int)) else none
  | [.int a, .int b] => if -(2 ^ 62) ≤ a ∧ a < 2 ^ 62 ∧ -(2 ^ 62) ≤ b ∧ b < 2 ^ 62 then some ((List.range (b - a).toNat).map fun (k : Nat) => D.int (a + (k : Int))) else none
  | [.int a, .int b, .int c] => if c ≠ 0 ∧ c.natAbs < 1073741824 ∧ PySem.Builtin.Range.small a b c = true then some ((List.range (PySem.Builtin.Range.rangeSize a b c).toNat).map fun (k : Nat) => D.int (a + (k : Int) * c)) else none
  | _ => none
def enumL (xs : List D) : List D := (List.range xs.length).zipWith (fun (k : Nat) x => D.tup [.int (k : Int), x]) xs
def zipL (xs ys : List D) : List D := xs.zipWith (fun x y => D.tup [x, y]) ys

def mapR (f : D → Env → Sto → Res (Option D)) : List D → Env → Sto → Res (List D)
  | [], _, μ => .ok [] μ
  | x :: xs, env, μ => (f x env μ).bind fun y μ' => (mapR f xs env μ').bind fun ys μ'' => .ok (match y with | some y => y :: ys | none => ys) μ''

mutual
def evE (P : Pg) (C : Orc) : E → Env → Sto → Res D
  | .var i, env, μ => match env[i]? with | some (.val d) => .ok d μ | _ => .bad
  | .lit d, _, μ => .ok d μ
  | .glob j, _, μ => ofO P.globs[j]? μ
  | .tup es, env, μ => (evEs P C es env μ).bind fun xs μ' => if xs.length ≤ line then .ok (.tup xs) μ' else .bad
  | .lst es, env, μ => (evEs P C es env μ).bind fun xs μ' => if xs.length ≤ line then .ok (.lst xs) μ' else .bad
  | .dc1 k v, env, μ => (evE P C k env μ).bind fun kd μ1 => (evE P C v env μ1).bind fun vd μ2 => ofO ((keyT kd).map fun _ => .dcn [(kd, vd)]) μ2
  | .dic ks vs, env, μ => (evEs P C ks env μ).bind fun kl μ' => (evEs P C vs env μ').bind fun vl μ'' =>
      ofO ((kl.zip vl).foldlM (fun acc kv => (keyD kv.1).map fun q => dput acc q kv.1 kv.2) []) μ'' |>.bind fun kvs μ3 => .ok (.dct kvs) μ3
  | .bin o a b, env, μ => (evB P C a env μ).bind fun x μ' => (evB P C b env μ').bind fun y μ'' => ofO (opB o x y) μ''
  | .neg a, env, μ => (evE P C a env μ).bind fun x μ' => match x with | .int i => .ok (.int (-i)) μ' | _ => .bad
  | .not a, env, μ => (evE P C a env μ).bind fun x μ' => match x with | .bl b => .ok (.bl (!b)) μ' | _ => .bad
  | .cmp o a b, env, μ => (evB P C a env μ).bind fun x μ' => (evB P C b env μ').bind fun y μ'' => cmpD P C o x y μ''
  | .chain o o' a b c, env, μ => (evE P C a env μ).bind fun x μ' => (evE P C b env μ').bind fun y μ'' => (ofO (opC μ'' o x y) μ'').bind fun r μ3 =>
      match r with
      | .bl true => (evE P C c env μ3).bind fun z μ4 => ofO (opC μ4 o' y z) μ4
      | .bl false => .ok (.bl false) μ3
      | _ => .bad
  | .and es, env, μ => evAnd P C es env μ
  | .or es, env, μ => evOr P C es env μ
  | .ite c a b, env, μ => (evE P C c env μ).bind fun r μ' => match r with | .bl true => evE P C a env μ' | .bl false => evE P C b env μ' | _ => .bad
  | .call f args, env, μ => (evEs P C args env μ).bind fun xs μ' => C.call f xs μ'
  | .new c args, env, μ => (evEs P C args env μ).bind fun xs μ' => newObj P C c xs μ'
  | .callv _ _, _, _ => .bad
  | .meth m o args, env, μ => (evE P C o env μ).bind fun x μ1 => if m < 1000000 then (match methC P m with
      | some (c, g) => if decide (clsOf μ1 x = some c) && noFld μ1 x m then (evEs P C args env μ1).bind fun xs μ2 => C.call g (x :: xs) μ2 else .bad
      | none => .bad)
      else (evEs P C args env μ1).bind fun xs μ2 => spD P C (m - 1000000) x xs μ2
  | .attr f o, env, μ => (evE P C o env μ).bind fun x μ' => attrD P C f x μ'
  | .isi a ts, env, μ => (evE P C a env μ).bind fun x μ' => ofO ((isTs P μ' x ts).map .bl) μ'
  | .f1 b a, env, μ => (evB P C a env μ).bind fun x μ' => f1D P C b x μ'
  | .f2 b a c, env, μ => (evB P C a env μ).bind fun x μ' => (evB P C c env μ').bind fun y μ'' => ofO ((derefD μ'' x).bind fun x' => opF2 b x' y) μ''
  | .get1 d k, env, μ => (evB P C d env μ).bind fun a μ1 => match derefD μ1 a with
    | some d' => if isDic d' then (evE P C k env μ1).bind fun q μ2 => ofO ((derefD μ2 a).bind fun d' => opF2 .get d' q) μ2 else .bad
    | none => .bad
  | .get3 d k x, env, μ => (evB P C d env μ).bind fun a μ1 => match derefD μ1 a with
    | some d' => if isDic d' then (evE P C k env μ1).bind fun q μ2 => (evE P C x env μ2).bind fun y μ3 => ofO ((derefD μ3 a).bind fun d' => get3D d' q y) μ3 else .bad
    | none => .bad
  | .idx a k, env, μ => (evB P C a env μ).bind fun x μ' => (evE P C k env μ').bind fun y μ'' => idxE P C x y μ''
  | .sli a lo hi, env, μ => (evB P C a env μ).bind fun x μ' => (evO P C lo env μ').bind fun l μ'' => (evO P C hi env μ'').bind fun h μ3 => ofO ((derefD μ3 x).bind fun x' => sliD x' l h) μ3
  | .rev a, env, μ => (evB P C a env μ).bind fun x μ' => ofO ((derefD μ' x).bind revD) μ'
  | .comp elt t it conds, env, μ => (evIt P C it env μ).bind fun xs μ' =>
      if (slotsT t).any (fun i => match env[i]? with | some (Sl.own _) => true | _ => false) then .bad else
      (mapR (fun x env μ => match setT t x (unAll (slotsT t) env) with
        | none => .bad
        | some env' => (noX (evAnd P C conds env' μ)).bind fun c μ' => match c with
          | .bl true => (noX (evE P C elt env' μ')).bind fun y μ'' => .ok (some y) μ''
          | .bl false => .ok none μ'
          | _ => .bad) xs env μ').bind fun ys μ'' => if ys.length ≤ line then .ok (.lst ys) μ'' else .bad
  | .dcomp k v t it, env, μ => .bad
  | .lam _ _, _, _ => .bad
  | .fstr ps, env, μ => evFs P C ps Str.empty env μ
  | .alloc e, env, μ => (evE P C e env μ).bind fun d μ' => match d.toO with | some o => .ok (.loc μ'.length) (μ' ++ [o]) | none => .bad
  | .tx b a c, env, μ => (evB P C a env μ).bind fun x μ' => match derefD μ' x with | some (.str z) => (evB P C c env μ').bind fun y μ'' => ofO (opTx b z y) μ'' | _ => .bad
  | .ocmp n a c, env, μ => (evE P C a env μ).bind fun x μ' => (evE P C c env μ').bind fun y μ'' => ownC P C n x y μ''
/-- an operand that is only read: an own slot may stand there -/
def evB (P : Pg) (C : Orc) : E → Env → Sto → Res D
  | e, env, μ => match e with
    | .var i => match env[i]? with | some (.val d) => .ok d μ | some (.own o) => .ok o.toD μ | _ => .bad
    | e => evE P C e env μ
def evEs (P : Pg) (C : Orc) : List E → Env → Sto → Res (List D)
  | [], _, μ => .ok [] μ
  | e :: es, env, μ => (evE P C e env μ).bind fun x μ' => (evEs P C es env μ').bind fun xs μ'' => .ok (x :: xs) μ''
def evFs (P : Pg) (C : Orc) : List E → Str → Env → Sto → Res D
  | [], acc, _, μ => .ok (.str acc) μ
  | e :: es, acc, env, μ => (evE P C e env μ).bind fun x μ' => match fmtD x with
    | some y => if (acc ++ y).length ≤ line then evFs P C es (acc ++ y) env μ' else .bad
    | none => .bad
def evO (P : Pg) (C : Orc) : Option E → Env → Sto → Res (Option Int)
  | none, _, μ => .ok none μ
  | some e, env, μ => (evE P C e env μ).bind fun x μ' => match x with | .int i => .ok (some i) μ' | _ => .bad
def evAnd (P : Pg) (C : Orc) : List E → Env → Sto → Res D
  | [], _, μ => .ok (.bl true) μ
  | e :: es, env, μ => (evE P C e env μ).bind fun r μ' => match r with | .bl true => evAnd P C es env μ' | .bl false => .ok (.bl false) μ' | _ => .bad
def evOr (P : Pg) (C : Orc) : List E → Env → Sto → Res D
  | [], _, μ => .ok (.bl false) μ
  | e :: es, env, μ => (evE P C e env μ).bind fun r μ' => match r with | .bl false => evOr P C es env μ' | .bl true => .ok (.bl true) μ' | _ => .bad
def evIt (P : Pg) (C : Orc) : It → Env → Sto → Res (List D)
  | .seq e, env, μ => (evE P C e env μ).bind fun x μ' => match x with | .str s => .ok (s.cps.toList.map fun c => D.str ⟨#[c]⟩) μ' | .dcn kvs => .ok (kvs.map (·.1)) μ' | x => ofO (itemsOf x) μ'
  | .range es, env, μ => (evEs P C es env μ).bind fun xs μ' => ofO (rangeL xs) μ'
  | .enum e, env, μ => (evE P C e env μ).bind fun x μ' => ofO ((itemsOf x).map enumL) μ'
  | .zip a b, env, μ => (evE P C a env μ).bind fun x μ' => (evE P C b env μ').bind fun y μ'' => ofO ((itemsOf x).bind fun xs => (itemsOf y).map fun ys => zipL xs ys) μ''
end

inductive Fl where
  | nxt (env : Env) | brk (env : Env) | ret (d : D)
/-- a statement's end; an error bears the slots as they stand -/
inductive RS where
  | ok (f : Fl) (μ : Sto) | exn (x : Exn) (env : Env) (μ : Sto) | bad
def RS.bind (r : RS) (f : Fl → Sto → RS) : RS := match r with | .ok a μ => f a μ | .exn x env μ => .exn x env μ | .bad => .bad
def Res.then {α : Type} (r : Res α) (env : Env) (f : α → Sto → RS) : RS := match r with | .ok a μ => f a μ | .exn x μ => .exn x env μ | .bad => .bad
def nxtO (o : Option Env) (μ : Sto) : RS := match o with | some env => .ok (.nxt env) μ | none => .bad
def stoO (o : Option Sto) (env : Env) : RS := match o with | some μ => .ok (.nxt env) μ | none => .bad
def loopF (f : D → Env → Sto → RS) : List D → Env → Sto → RS
  | [], env, μ => .ok (.nxt env) μ
  | x :: xs, env, μ => (f x env μ).bind fun r μ' => match r with
    | .nxt env' => loopF f xs env' μ'
    | .brk env' => .ok (.nxt env') μ'
    | .ret d => .ok (.ret d) μ'
def loopW (c : Env → Sto → Res D) (f : Env → Sto → RS) : Nat → Env → Sto → RS
  | 0, _, _ => .bad
  | n + 1, env, μ => (c env μ).then env fun r μ' => match r with
    | .bl true => (f env μ').bind fun r μ'' => match r with
      | .nxt env' => loopW c f n env' μ''
      | .brk env' => .ok (.nxt env') μ''
      | .ret d => .ok (.ret d) μ''
    | .bl false => .ok (.nxt env) μ'
    | _ => .bad
def fuel : Nat := 1000000
def putO (o : O) (k v : D) : Option O := match o with
  | .lst xs => match k with | .int i => (ixN xs.length i).map fun j => .lst (xs.set j v) | _ => none
  | .dct kvs => match keyD k with
    | some q => let r := dput kvs q k v; if r.length ≤ 1000000 then some (.dct r) else none
    | none => if kvs.isEmpty then (keyT k).map fun _ => .dcn [(k, v)] else none
  | .dcn kvs => (keyT k).bind fun q => let r := dputN kvs q k v; if r.length ≤ 1000000 then some (.dcn r) else none
  | .ins _ _ => none
def appO (o : O) (v : D) : Option O := match o with
  | .lst xs => if xs.length < line then some (.lst (xs ++ [v])) else none
  | _ => none
def extO (o : O) (v : D) : Option O := match o, v with
  | .lst xs, .lst ys => if xs.length + ys.length ≤ line then some (.lst (xs ++ ys)) else none
  | _, _ => none
def insO (P : Pg) (f : Nat) (vd : D) (o : O) : Option O := match o with
  | .ins c fs => match P.cls[c]? with
    | some cl => if cl.kind.isExc || (lookN cl.props f).isSome || (lookN cl.meths f).isSome || decide (500 ≤ fs.length) then none else some (.ins c (putN fs f vd))
    | none => none
  | _ => none
/-- xs.pop(), xs.pop(j) -/
def popL (xs : List D) : Option Int → Option (D × List D)
  | none => if xs.isEmpty then none else xs.getLast?.map fun x => (x, xs.dropLast)
  | some j => (ixN xs.length j).bind fun i => (xs[i]?).map fun x => (x, xs.eraseIdx i)
def isOwnL (env : Env) (i : Nat) : Bool := match env[i]? with | some (.own (.lst _)) => true | _ => false
def isOwn (env : Env) (i : Nat) : Bool := match env[i]? with | some (.own _) => true | _ => false
def ownAt (env : Env) (i : Nat) (f : O → Option O) : Option Env := match env[i]? with | some (.own o) => (f o).map fun o' => env.set i (.own o') | _ => none
def locAt (μ : Sto) (d : D) (f : O → Option O) : Option Sto := match d with | .loc l => (μ[l]?).bind fun o => (f o).map fun o' => μ.set l o' | _ => none
def setPar : List (Nat × Bool) → List D → Env → Option Env
  | [], [], env => some env
  | (i, b) :: ts, x :: xs, env => (if b then (D.toO x).map Sl.own else some (Sl.val x)).bind fun v => setPar ts xs (env.set i v)
  | [], _ :: _, _ => none
  | _ :: _, [], _ => none
/-- forget an except clause's name -/
def unAt (i : Nat) (r : RS) : RS := r.bind fun f μ => match f with | .nxt env => .ok (.nxt (env.set i .un)) μ | .brk env => .ok (.brk (env.set i .un)) μ | .ret d => .ok (.ret d) μ

/-! ### an except suite: no calls -/
mutual
def evH (P : Pg) : E → Env → Option D
  | .var i, env => match env[i]? with | some (.val d) => some d | _ => none
  | .lit d, _ => some d
  | .tup es, env => (evHs' P es env).bind fun xs => if xs.length ≤ line then some (.tup xs) else none
  | .lst es, env => (evHs' P es env).bind fun xs => if xs.length ≤ line then some (.lst xs) else none
  | .attr f (.var i), env => match env[i]? with | some (.hx _ fs) => lookN fs f | _ => none
  | .isi (.var i) [.own c], env => match env[i]? with | some (.hx c' _) => some (.bl (supOf P c' (.inl c))) | _ => none
  | .isi (.var i) [.exc n], env => match env[i]? with | some (.hx c' _) => some (.bl (supOf P c' (.inr n))) | _ => none
  | .and es, env => evHand P es env
  | .not a, env => match evH P a env with | some (.bl b) => some (.bl (!b)) | _ => none
  | .ite c a b, env => match evH P c env with | some (.bl true) => evH P a env | some (.bl false) => evH P b env | _ => none
  | _, _ => none
def evHs' (P : Pg) : List E → Env → Option (List D)
  | [], _ => some []
  | e :: es, env => (evH P e env).bind fun x => (evHs' P es env).map fun xs => x :: xs
def evHand (P : Pg) : List E → Env → Option D
  | [], _ => some (.bl true)
  | e :: es, env => match evH P e env with | some (.bl true) => evHand P es env | some (.bl false) => some (.bl false) | _ => none
end
mutual
def evHS (P : Pg) : S → Env → Sto → RS
  | .set (.nm i) e, env, μ => match evH P e env with | some d => .ok (.nxt (env.set i (.val d))) μ | none => .bad
  | .ret (some e), env, μ => match evH P e env with | some d => .ok (.ret d) μ | none => .bad
  | .ite c a b, env, μ => match evH P c env with | some (.bl true) => evHSs P a env μ | some (.bl false) => evHSs P b env μ | _ => .bad
  | .pass, env, μ => .ok (.nxt env) μ
  | _, _, _ => .bad
def evHSs (P : Pg) : List S → Env → Sto → RS
  | [], env, μ => .ok (.nxt env) μ
  | s :: ss, env, μ => (evHS P s env μ).bind fun r μ' => match r with | .nxt env' => evHSs P ss env' μ' | .brk e => .ok (.brk e) μ' | .ret d => .ok (.ret d) μ'
end

/-- the clauses, one after the other -/
def catchL (P : Pg) : List (Nat × Option Nat × List S) → Nat → List (Nat × D) → Env → Sto → RS
  | [], c, fs, env, μ => .exn (.own c fs) env μ
  | (t, i, b) :: hs, c, fs, env, μ => if supOf P c (.inl t) = true then (match i with
      | some i => unAt i (evHSs P b (env.set i (.hx c fs)) μ)
      | none => evHSs P b env μ) else catchL P hs c fs env μ
def catchS (P : Pg) (hs : List (Nat × Option Nat × List S)) (r : RS) : RS := match r with
  | .exn (.own c fs) env μ => if isX P c = true then catchL P hs c fs env μ else .bad
  | .exn (.blt _) _ _ => .bad
  | .ok f μ => .ok f μ
  | .bad => .bad
mutual
def evS (P : Pg) (C : Orc) : S → Env → Sto → RS
  | .set t e, env, μ => (evE P C e env μ).then env fun d μ' => nxtO (setT t d env) μ'
  | .own i e, env, μ => (evE P C e env μ).then env fun d μ' => nxtO ((D.toO d).map fun o => env.set i (.own o)) μ'
  | .par ts es, env, μ => (evEs P C es env μ).then env fun xs μ' => nxtO (setPar ts xs env) μ'
  | .frz i, env, μ => match env[i]? with | some (.own o) => .ok (.nxt (env.set i (.val o.toD))) μ | some (.val _) => .ok (.nxt env) μ | _ => .bad
  | .app i e, env, μ => if isOwnL env i then (evE P C e env μ).then env fun d μ' => nxtO (ownAt env i fun o => appO o d) μ' else .bad
  | .pop t i k, env, μ => (evO P C k env μ).then env fun j μ' => match env[i]? with
    | some (.own (.lst xs)) => (match popL xs j with | some (x, r) => nxtO (setT t x (env.set i (.own (.lst r)))) μ' | none => .bad)
    | _ => .bad
  | .ext i e, env, μ => if isOwnL env i then (evB P C e env μ).then env fun d μ' => nxtO (ownAt env i fun o => extO o d) μ' else .bad
  | .put i k v, env, μ => if isOwn env i then (evE P C v env μ).then env fun vd μ' => (evE P C k env μ').then env fun kd μ'' => nxtO (ownAt env i fun o => putO o kd vd) μ'' else .bad
  | .putL o k v, env, μ => (evE P C v env μ).then env fun vd μ' => (evE P C o env μ').then env fun od μ'' => (evE P C k env μ'').then env fun kd μ3 => stoO (locAt μ3 od fun o => putO o kd vd) env
  | .appL _ _, _, _ => .bad
  | .setF f o v, env, μ => (evE P C v env μ).then env fun vd μ' => (evE P C o env μ').then env fun od μ'' => stoO (locAt μ'' od (insO P f vd)) env
  | .selfF f v, env, μ => if isOwn env 0 then (evE P C v env μ).then env fun vd μ' => nxtO (ownAt env 0 (insO P f vd)) μ' else .bad
  | .expr e, env, μ => (evE P C e env μ).then env fun _ μ' => .ok (.nxt env) μ'
  | .ite c a b, env, μ => (evE P C c env μ).then env fun r μ' => match r with | .bl true => evSs P C a env μ' | .bl false => evSs P C b env μ' | _ => .bad
  | .whil c b, env, μ => loopW (fun env μ => evE P C c env μ) (fun env μ => evSs P C b env μ) fuel env μ
  | .forr t it b, env, μ => (evIt P C it env μ).then env fun xs μ' => loopF (fun x env μ => match setT t x env with | some env' => evSs P C b env' μ | none => .bad) xs env μ'
  | .ret e, env, μ => match e with | some e => (evE P C e env μ).then env fun d μ' => .ok (.ret d) μ' | none => .ok (.ret .non) μ
  | .raise c args, env, μ => (evEs P C args env μ).then env fun xs μ' => match excFs P c xs with | some fs => .exn (.own c fs) env μ' | none => .bad
  | .no, _, _ => .bad
  | .tryy b hs, env, μ => catchS P hs (evSs P C b env μ)
  | .brk, env, μ => .ok (.brk env) μ
  | .pass, env, μ => .ok (.nxt env) μ
def evSs (P : Pg) (C : Orc) : List S → Env → Sto → RS
  | [], env, μ => .ok (.nxt env) μ
  | s :: ss, env, μ => (evS P C s env μ).bind fun r μ' => match r with | .nxt env' => evSs P C ss env' μ' | .brk e => .ok (.brk e) μ' | .ret d => .ok (.ret d) μ'
end

def frame (n : Nat) (xs : List Sl) : Env := xs ++ List.replicate (n - xs.length) Sl.un
def endFn (r : RS) : Res D := match r with | .ok (.nxt _) μ => .ok .non μ | .ok (.ret d) μ => .ok d μ | .ok (.brk _) _ => .bad | .exn x _ μ => .exn x μ | .bad => .bad
def endIn (r : RS) : Res (List (Nat × D)) := match r with
  | .ok (.nxt env) μ => match (env[0]? : Option Sl) with | some (Sl.own (O.ins _ fs)) => .ok fs μ | _ => .bad
  | .ok _ _ => .bad | .exn x _ μ => .exn x μ | .bad => .bad
def runFn (P : Pg) (C : Orc) (f : Nat) (args : List D) (μ : Sto) : Res D := match P.fns[f]? with
  | some fn => if args.length = fn.np then endFn (evSs P C fn.body (frame fn.nl (args.map Sl.val)) μ) else .bad
  | none => .bad
def runInit (P : Pg) (C : Orc) (c f : Nat) (args : List D) (μ : Sto) : Res (List (Nat × D)) := match P.fns[f]? with
  | some fn => if args.length + 1 = fn.np then endIn (evSs P C fn.body (frame fn.nl (Sl.own (.ins c []) :: args.map Sl.val)) μ) else .bad
  | none => .bad
def orc (P : Pg) : Nat → Orc
  | 0 => ⟨fun _ _ _ => .bad, fun _ _ _ _ => .bad⟩
  | n + 1 => ⟨fun f args μ => runFn P (orc P n) f args μ, fun c f args μ => runInit P (orc P n) c f args μ⟩
end Lm
set_option linter.all false
namespace Lm
/-- __init__, straight on: calls, and fields set -/
def evI (P : Pg) (C : Orc) (c : Nat) : List S → Env → List (Nat × D) → Sto → Res (List (Nat × D))
  | [], _, fs, μ => .ok fs μ
  | .expr e :: r, env, fs, μ => (evE P C e env μ).bind fun _ μ' => evI P C c r env fs μ'
  | .selfF f v :: r, env, fs, μ => (evE P C v env μ).bind fun d μ' => match insO P f d (.ins c fs) with
    | some (.ins _ fs') => evI P C c r env fs' μ'
    | _ => .bad
  | _ :: _, _, _, _ => .bad
def runI (P : Pg) (C : Orc) (c f : Nat) (args : List D) (μ : Sto) : Res (List (Nat × D)) := match P.fns[f]? with
  | some fn => if args.length + 1 = fn.np then evI P C c fn.body ((frame fn.nl ((D.non :: args).map Sl.val)).set 0 .un) [] μ else .bad
  | none => .bad
/-- whether def f is a class' __init__ -/
def isIni (P : Pg) (f : Nat) : Bool := P.cls.any fun cl => decide (cl.init = some f)
def orc3 (P : Pg) : Nat → Orc
  | 0 => ⟨fun _ _ _ => .bad, fun _ _ _ _ => .bad⟩
  | n + 1 => ⟨fun f args μ => if isIni P f then .bad else runFn P (orc3 P n) f args μ, fun c f args μ => if isIni P f then runI P (orc3 P n) c f args μ else .bad⟩
end Lm
set_option Elab.async false
set_option linter.all false
set_option maxRecDepth 100000
set_option maxHeartbeats 1000000
namespace Lm
open PySem PySem.Spec PyProof.Rows L2
/-- what links the text with the IR: names by number, where defs and classes stand -/
structure Lk where
  attr : List Str
  clN : List Str
  clA : List Addr
  glN : List Str
  fnN : List Str
  fnA : List Addr
  fnD : List FuncData
  fnP : List (List Str)
  w : World
/-! a key's value: nested tuples -/
mutual
inductive NK (K : PySem.W.Frag) (F : Hp) : NestedKey → V → Prop
  | non : NK K F .none .non
  | bl (b : Bool) : NK K F (.num (if b then 1 else 0)) (.bl b)
  | int (i : Int) : NK K F (.num i) (.int i)
  | str (s : Str) : NK K F (.text s) (.str s)
  | tup {a : Addr} {ks : List NestedKey} {vs : List V} : SqT K F a vs → NKs K F ks vs → NK K F (.tup ks) (.ref a)
inductive NKs (K : PySem.W.Frag) (F : Hp) : List NestedKey → List V → Prop
  | nil : NKs K F [] []
  | cons {k : NestedKey} {v : V} {ks : List NestedKey} {vs : List V} : NK K F k v → NKs K F ks vs → NKs K F (k :: ks) (v :: vs)
end
/-- a dict keyed by such, its entries as they stand -/
def DN (ob : Obj) (w : World) (a : Addr) (xs : List (NestedKey × Addr × V)) : HO := .ext fun h => h.get? a = some ob ∧ xs.length ≤ sizeLine ∧ (a == sysModules) = false ∧ ∃ ys : List (NestedKey × Addr × Value),
  Paired (fun (p : NestedKey × Addr × V) (q : NestedKey × Addr × Value) => p.1 = q.1 ∧ p.2.1 = q.2.1 ∧ RelV p.2.2 q.2.2) xs ys ∧
  ∃ es ep, ob.ExactDict ∧ ob.data = .dict es ep ∧ es.toList = ys.map (fun x => ({ hash := x.1.hash w, key := .ref x.2.1, val := x.2.2 } : DictEntry)) ∧ (ys.map (·.1)).Nodup
section
variable (K : PySem.W.Frag) (L : Lk)
mutual
inductive Rep (F : Hp) (ι : List Addr) : D → V → Prop
  | non : Rep F ι .non .non
  | bl (b : Bool) : Rep F ι (.bl b) (.bl b)
  | int (i : Int) : Rep F ι (.int i) (.int i)
  | str (s : Str) : Rep F ι (.str s) (.str s)
  | tup {a : Addr} {xs : List D} {vs : List V} : SqT K F a vs → Reps F ι xs vs → Rep F ι (.tup xs) (.ref a)
  | lst {a : Addr} {xs : List D} {vs : List V} : F a = some (.lst vs) → Reps F ι xs vs → Rep F ι (.lst xs) (.ref a)
  | frz {a : Addr} {xs : List D} {vs : List V} : SqL K F a vs → Reps F ι xs vs → Rep F ι (.frz xs) (.ref a)
  | dct {a : Addr} {kvs : List (D × D)} {ks : List (Key × V)} : F a = some (.dK ks) → RepK F ι kvs ks → Rep F ι (.dct kvs) (.ref a)
  | dcn {a : Addr} {ob : Obj} {kvs : List (D × D)} {xs : List (NestedKey × Addr × V)} : F a = some (DN ob L.w a xs) → RepN F ι kvs xs → Rep F ι (.dcn kvs) (.ref a)
  | obj {a C dx : Addr} {c : Nat} {fs : List (Nat × D)} {gs : List (Str × V)} : L.clA[c]? = some C → F a = some (.ins C dx gs) → RepF F ι fs gs → Rep F ι (.obj c fs) (.ref a)
  | exc {a C dx : Addr} {c : Nat} {fs : List (Nat × D)} {gs : List (Str × V)} : L.clA[c]? = some C → F a = some (exo a C (some dx)) → F dx = some (exd dx gs) → RepF F ι fs gs → Rep F ι (.exc c fs) (.ref a)
  | ex0 {a C : Addr} {c : Nat} : L.clA[c]? = some C → F a = some (exo a C none) → Rep F ι (.exc c []) (.ref a)
  | loc {a : Addr} {l : Nat} : ι[l]? = some a → Rep F ι (.loc l) (.ref a)
inductive Reps (F : Hp) (ι : List Addr) : List D → List V → Prop
  | nil : Reps F ι [] []
  | cons {x : D} {v : V} {xs : List D} {vs : List V} : Rep F ι x v → Reps F ι xs vs → Reps F ι (x :: xs) (v :: vs)
inductive RepK (F : Hp) (ι : List Addr) : List (D × D) → List (Key × V) → Prop
  | nil : RepK F ι [] []
  | cons {k d : D} {q : Key} {v : V} {r : List (D × D)} {t : List (Key × V)} : keyD k = some q → Rep F ι d v → RepK F ι r t → RepK F ι ((k, d) :: r) ((q, v) :: t)
inductive RepN (F : Hp) (ι : List Addr) : List (D × D) → List (NestedKey × Addr × V) → Prop
  | nil : RepN F ι [] []
  | cons {k d : D} {q : NestedKey} {b : Addr} {v : V} {r : List (D × D)} {t : List (NestedKey × Addr × V)} : keyT k = some q → Rep F ι k (.ref b) → Rep F ι d v → RepN F ι r t → RepN F ι ((k, d) :: r) ((q, b, v) :: t)
inductive RepF (F : Hp) (ι : List Addr) : List (Nat × D) → List (Str × V) → Prop
  | nil : RepF F ι [] []
  | cons {n : Nat} {d : D} {x : Str} {v : V} {r : List (Nat × D)} {t : List (Str × V)} : L.attr[n]? = some x → Rep F ι d v → RepF F ι r t → RepF F ι ((n, d) :: r) ((x, v) :: t)
end
/-- a store's object -/
inductive RepO (F : Hp) (ι : List Addr) (a : Addr) : O → HO → Prop
  | lst {xs : List D} {vs : List V} : Reps K L F ι xs vs → RepO F ι a (.lst xs) (.lst vs)
  | dct {kvs : List (D × D)} {ks : List (Key × V)} : RepK K L F ι kvs ks → RepO F ι a (.dct kvs) (.dK ks)
  | dcn {ob : Obj} {kvs : List (D × D)} {xs : List (NestedKey × Addr × V)} : RepN K L F ι kvs xs → RepO F ι a (.dcn kvs) (DN ob L.w a xs)
  | ins {c : Nat} {C dx : Addr} {fs : List (Nat × D)} {gs : List (Str × V)} : L.clA[c]? = some C → RepF K L F ι fs gs → RepO F ι a (.ins c fs) (.ins C dx gs)
end
def Le (F F' : Hp) : Prop := ∀ a o, F a = some o → F' a = some o
theorem Le.refl (F : Hp) : Le F F := fun _ _ h => h
theorem Le.trans {F F' F'' : Hp} (a : Le F F') (b : Le F' F'') : Le F F'' := fun x o h => b x o (a x o h)
section
variable {K : PySem.W.Frag} {L : Lk} {F F' H H' : Hp} {ι ι' : List Addr}
theorem Le.sqL {a : Addr} {xs : List V} (e : Le F F') (h : SqL K F a xs) : SqL K F' a xs := by
  rcases h with (h | ⟨o, h⟩) | h
  · exact .inl (.inl (e _ _ h))
  · exact .inl (.inr ⟨o, e _ _ h⟩)
  · exact .inr h
theorem Le.sqT {a : Addr} {xs : List V} (e : Le F F') (h : SqT K F a xs) : SqT K F' a xs := by
  rcases h with (h | ⟨o, h⟩) | h
  · exact .inl (.inl (e _ _ h))
  · exact .inl (.inr ⟨o, e _ _ h⟩)
  · exact .inr h
theorem pre_get {α : Type} {l l' : List α} (p : l <+: l') {i : Nat} {a : α} (h : l[i]? = some a) : l'[i]? = some a := by
  obtain ⟨t, rfl⟩ := p
  have := (List.getElem?_eq_some_iff.mp h).1
  rw [List.getElem?_append_left this]; exact h
mutual
theorem Rep.mono (e : Le F F') (p : ι <+: ι') : ∀ {d : D} {v : V}, Rep K L F ι d v → Rep K L F' ι' d v
  | _, _, .non => .non
  | _, _, .bl b => .bl b
  | _, _, .int i => .int i
  | _, _, .str s => .str s
  | _, _, .tup h r => .tup (e.sqT h) (Reps.mono e p r)
  | _, _, .lst h r => .lst (e _ _ h) (Reps.mono e p r)
  | _, _, .frz h r => .frz (e.sqL h) (Reps.mono e p r)
  | _, _, .dct h r => .dct (e _ _ h) (RepK.mono e p r)
  | _, _, .dcn h r => .dcn (e _ _ h) (RepN.mono e p r)
  | _, _, .obj c h r => .obj c (e _ _ h) (RepF.mono e p r)
  | _, _, .exc c h d r => .exc c (e _ _ h) (e _ _ d) (RepF.mono e p r)
  | _, _, .ex0 c h => .ex0 c (e _ _ h)
  | _, _, .loc h => .loc (pre_get p h)
theorem Reps.mono (e : Le F F') (p : ι <+: ι') : ∀ {d : List D} {v : List V}, Reps K L F ι d v → Reps K L F' ι' d v
  | _, _, .nil => .nil
  | _, _, .cons a b => .cons (Rep.mono e p a) (Reps.mono e p b)
theorem RepK.mono (e : Le F F') (p : ι <+: ι') : ∀ {d : List (D × D)} {v : List (Key × V)}, RepK K L F ι d v → RepK K L F' ι' d v
  | _, _, .nil => .nil
  | _, _, .cons a b c => .cons a (Rep.mono e p b) (RepK.mono e p c)
theorem RepN.mono (e : Le F F') (p : ι <+: ι') : ∀ {d : List (D × D)} {v : List (NestedKey × Addr × V)}, RepN K L F ι d v → RepN K L F' ι' d v
  | _, _, .nil => .nil
  | _, _, .cons a b c d => .cons a (Rep.mono e p b) (Rep.mono e p c) (RepN.mono e p d)
theorem RepF.mono (e : Le F F') (p : ι <+: ι') : ∀ {d : List (Nat × D)} {v : List (Str × V)}, RepF K L F ι d v → RepF K L F' ι' d v
  | _, _, .nil => .nil
  | _, _, .cons a b c => .cons a (Rep.mono e p b) (RepF.mono e p c)
end
theorem RepO.mono (e : Le F F') (p : ι <+: ι') {a : Addr} {o : O} {h : HO} (r : RepO K L F ι a o h) : RepO K L F' ι' a o h := by
  cases r with
  | dcn r => exact .dcn (r.mono e p)
  | lst r => exact .lst (r.mono e p)
  | dct r => exact .dct (r.mono e p)
  | ins c r => exact .ins c (r.mono e p)
theorem Reps.len : ∀ {d : List D} {v : List V}, Reps K L F ι d v → d.length = v.length
  | _, _, .nil => rfl
  | _, _, .cons _ b => congrArg (· + 1) b.len
end

/-- the state: G what must stand as it is, F what never changes and may be spoken of, ι where the store's objects stand -/
structure SR (K : PySem.W.Frag) (L : Lk) (G F : Hp) (ι : List Addr) (env : Env) (μ : Sto) (σ : L2.St) (H : Hp) : Prop where
  f : Le F H
  g : Le G H
  gf : ∀ a, G a ≠ none → F a = none
  len : env.length = σ.length
  val : ∀ (i : Nat) (d : D), env[i]? = some (Sl.val d) → ∃ v, σ[i]? = some (some v) ∧ Rep K L F ι d v
  il : ι.length = μ.length
  nd : ι.Nodup
  sto : ∀ (l : Nat) (a : Addr), ι[l]? = some a → F a = none ∧ G a = none ∧ ∃ o ho, μ[l]? = some o ∧ H a = some ho ∧ RepO K L F ι a o ho
  own : ∀ (i : Nat) (o : O), env[i]? = some (Sl.own o) → ∃ a ho, σ[i]? = some (some (.ref a)) ∧ F a = none ∧ G a = none ∧ a ∉ ι ∧ H a = some ho ∧ RepO K L F ι a o ho
  owd : ∀ (i j : Nat) (o o' : O) (a : Addr), i ≠ j → env[i]? = some (Sl.own o) → env[j]? = some (Sl.own o') → σ[i]? = some (some (.ref a)) → σ[j]? ≠ some (some (.ref a))
  sm : ∃ φ, G sysModules = some (.ext φ)
  hx : ∀ (i c : Nat) (fs : List (Nat × D)), env[i]? = some (Sl.hx c fs) → ∃ a, σ[i]? = some (some (.ref a))

/-- where one goes on from (F, ι): F', ι' -/
structure To (F : Hp) (ι : List Addr) (F' : Hp) (ι' : List Addr) : Prop where
  f : Le F F'
  i : ι <+: ι'
theorem To.refl (F : Hp) (ι : List Addr) : To F ι F ι := ⟨Le.refl F, List.prefix_refl ι⟩
theorem To.trans {F F' F'' : Hp} {ι ι' ι'' : List Addr} (a : To F ι F' ι') (b : To F' ι' F'' ι'') : To F ι F'' ι'' := ⟨a.f.trans b.f, a.i.trans b.i⟩
/-- an error behind (F', ι') -/
def ExR (K : PySem.W.Frag) (L : Lk) (F : Hp) (ι : List Addr) (H : Hp) (x : Exn) (cls : Value) (d : Option Addr) : Prop :=
  ∃ c fs C, x = .own c fs ∧ L.clA[c]? = some C ∧ cls = .ref C ∧ ((fs = [] ∧ d = none) ∨ ∃ dx gs, d = some dx ∧ H dx = some (.xd gs) ∧ RepF K L F ι fs gs)

def WpR {α : Type} (r : Res α) (okP : α → Sto → Prop) (exP : Exn → Sto → Prop) : Prop := match r with | .ok a μ => okP a μ | .exn x μ => exP x μ | .bad => False
theorem WpR.bind {α β : Type} {r : Res α} {f : α → Sto → Res β} {p : β → Sto → Prop} {q : Exn → Sto → Prop} : WpR (r.bind f) p q ↔ WpR r (fun a μ => WpR (f a μ) p q) q := by
  cases r <;> exact Iff.rfl
theorem WpR.mono {α : Type} {r : Res α} {p p' : α → Sto → Prop} {q q' : Exn → Sto → Prop} (h : WpR r p q) (hp : ∀ a μ, p a μ → p' a μ) (hq : ∀ x μ, q x μ → q' x μ) : WpR r p' q' := by
  cases r with
  | ok a μ => exact hp a μ h
  | exn x μ => exact hq x μ h
  | bad => exact h
theorem WpR.ofO {α : Type} {o : Option α} {μ : Sto} {p : α → Sto → Prop} {q : Exn → Sto → Prop} : WpR (ofO o μ) p q ↔ ∃ a, o = some a ∧ p a μ := by
  cases o with
  | none => exact ⟨fun h => h.elim, fun ⟨_, e, _⟩ => by cases e⟩
  | some a => exact ⟨fun h => ⟨a, rfl, h⟩, fun ⟨_, e, h⟩ => by cases e; exact h⟩
end Lm
set_option Elab.async false
set_option linter.all false
set_option maxRecDepth 100000
set_option maxHeartbeats 4000000
namespace Lm
open PySem PySem.Spec PyProof.Rows L2
theorem tuple_mul_self (l : Addr) (items : Array Value) (n : Nat) (dd : Option Addr) (sl : Array (Option Value)) (x : Int) (u : Tok) (c0 : (decide (x < -(2 ^ 63)) || decide (x ≥ 2 ^ 63)) = false) (c1 : (items.isEmpty || x == 1) = true) :
    Meets (Builtin.«tuple.__mul__» ⟨[.ref l, .int x u], []⟩) (fun _ R s => s.heap.get? l = some { cls := .type "tuple", dict := dd, data := .seq items n, slots := sl } ∧ R (.ok (.ret (Value.ref l))) s) :=
  .of_wp fun prog w A R s h => by
    obtain ⟨hp, g, d, tk, os⟩ := s
    obtain ⟨hl, h⟩ := h
    have f1 := AutoSeq1.idx_int
    wp_walk using wpAny_loadPart' hl
    repeat (first
      | (refine wpAny_ite_false (decide_eq_false (by rw [c0]; exact Bool.false_ne_true)) ?_; wp_walk using wpAny_loadPart' hl)
      | (refine wpAny_ite_true (decide_eq_true c1) ?_; wp_walk using wpAny_loadPart' hl))
    exact ⟨_, rfl, h⟩
theorem tuple_mul_nil (l : Addr) (items : Array Value) (n : Nat) (dd : Option Addr) (sl : Array (Option Value)) (x : Int) (u : Tok) (c0 : (decide (x < -(2 ^ 63)) || decide (x ≥ 2 ^ 63)) = false) (c1 : (items.isEmpty || x == 1) = false) (c2 : (decide (x ≤ 0) || items.isEmpty) = true) :
    Meets (Builtin.«tuple.__mul__» ⟨[.ref l, .int x u], []⟩) (fun _ R s => s.heap.get? l = some { cls := .type "tuple", dict := dd, data := .seq items n, slots := sl } ∧
      R (.ok (.ret (Value.ref s.heap.objs.size))) { s with heap := s.heap.push { cls := Value.type "tuple", data := Data.seq #[] }, toks := s.toks }) :=
  .of_wp fun prog w A R s h => by
    obtain ⟨hp, g, d, tk, os⟩ := s
    obtain ⟨hl, h⟩ := h
    have f1 := AutoSeq1.idx_int
    wp_walk using wpAny_loadPart' hl
    repeat (first
      | (refine wpAny_ite_false (decide_eq_false (by rw [c0]; exact Bool.false_ne_true)) ?_; wp_walk using wpAny_loadPart' hl)
      | (refine wpAny_ite_false (decide_eq_false (by rw [c1]; exact Bool.false_ne_true)) ?_; wp_walk using wpAny_loadPart' hl)
      | (refine wpAny_ite_true (decide_eq_true c2) ?_; wp_walk using wpAny_loadPart' hl))
    exact ⟨_, rfl, h⟩
/-- tuple * int -/
def rMulT (K : PySem.W.Frag) : R2 := fun x y H Q => ∃ l k xs, x = .ref l ∧ y = .int k ∧ SqT K H l xs ∧ 0 ≤ k ∧ k ≤ 1000 ∧ xs.length ≤ 1000 ∧
  (xs = [] ∨ k = 1 → Q (.ref l) H) ∧ (xs ≠ [] → k ≠ 1 → ∀ p, H p = none → Q (.ref p) (upd H p (.tup (List.replicate k.toNat xs).flatten)))
theorem op_mulT {X : Cx} : OpR X (binaryOp .Mult) (rMulT X.K) := by
  intro pins s σ H x y v u Q I rx ry h
  obtain ⟨l, k, xs, rfl, rfl, hT, h0, h1, hz, q1, q2⟩ := h
  by_cases hb : xs ≠ [] ∧ 2 ≤ k
  · exact op_repT pins s σ H _ _ v u Q I rx ry ⟨l, k, xs, rfl, rfl, hT, hb.1, hb.2, h1, hz, q2 hb.1 (by omega)⟩
  cases rx
  obtain ⟨t, rfl⟩ := ry
  obtain ⟨its, r, ⟨⟨cls, dd, data, sl⟩, ho, hc, n, hd⟩, hs⟩ := I.tuple hT
  simp only at hc hd
  subst hc hd
  have hle : its.length = xs.length := r.length.symm
  have c0 : (decide (k < -(2 ^ 63)) || decide (k ≥ 2 ^ 63)) = false := by
    rw [decide_eq_false (by omega), decide_eq_false (by omega)] <;> rfl
  by_cases hA : xs = [] ∨ k = 1
  · have c1 : (its.toArray.isEmpty || k == 1) = true := by
      rcases hA with e | e
      · subst e
        have : its = [] := List.eq_nil_of_length_eq_zero (by simpa using hle)
        subst this; simp
      · subst e; simp
    refine wpAny_binaryOp_repeat_ref (T := "tuple") (U := "int") (by decide) ⟨_, ho, rfl⟩ (fun s' => typeIs_int s' k t) noFill_tuple_mul F.fills_int_mul F.slot_int_rmul repeat_tuple F.slot_int_index.lookup
      (call_meets F.slot_int_rmul (typeIs_int s k t) F.entry_int_rmul (F.args_int_rmul_2 _ _) (int_rmul_tuple k t l its.toArray n dd sl)
        ⟨ho, rfl, ⟨_, ho, rfl⟩, call_meets F.slot_tuple_mul ⟨_, ho, rfl⟩ F.entry_tuple_mul (F.args_tuple_mul_2 _ _) (tuple_mul_self l its.toArray n dd sl k t c0 c1) ⟨ho, ?_⟩⟩)
    exact ⟨.ref l, H, I, rfl, q1 hA⟩
  · have hne : xs ≠ [] := fun e => hA (.inl e)
    have hk : k = 0 := by
      have : ¬ 2 ≤ k := fun z => hb ⟨hne, z⟩
      have : k ≠ 1 := fun z => hA (.inr z)
      omega
    subst hk
    have hn : its ≠ [] := fun e => hne (by rw [e] at hle; exact List.eq_nil_of_length_eq_zero hle.symm)
    have hi : its.toArray.isEmpty = false := by
      cases its with
      | nil => exact absurd rfl hn
      | cons a b => rfl
    have c1 : (its.toArray.isEmpty || (0 : Int) == 1) = false := by rw [hi]; rfl
    have c2 : (decide ((0 : Int) ≤ 0) || its.toArray.isEmpty) = true := by simp
    refine wpAny_binaryOp_repeat_ref (T := "tuple") (U := "int") (by decide) ⟨_, ho, rfl⟩ (fun s' => typeIs_int s' 0 t) noFill_tuple_mul F.fills_int_mul F.slot_int_rmul repeat_tuple F.slot_int_index.lookup
      (call_meets F.slot_int_rmul (typeIs_int s 0 t) F.entry_int_rmul (F.args_int_rmul_2 _ _) (int_rmul_tuple 0 t l its.toArray n dd sl)
        ⟨ho, rfl, ⟨_, ho, rfl⟩, call_meets F.slot_tuple_mul ⟨_, ho, rfl⟩ F.entry_tuple_mul (F.args_tuple_mul_2 _ _) (tuple_mul_nil l its.toArray n dd sl 0 t c0 c1 c2) ⟨ho, ?_⟩⟩)
    refine ⟨.ref s.heap.objs.size, _, I.laid (t' := s.toks) (o := .tup []) (fun b ob q => Heap.get?_push_of_some _ q) (Nat.le_refl _) ?_, rfl, q2 hne (by omega) _ (I.hok.fresh (Nat.le_refl _))⟩
    exact ⟨Nat.zero_le _, [], .nil, IsTup.new _ _⟩
end Lm
set_option Elab.async false
set_option linter.all false
set_option maxRecDepth 100000
set_option maxHeartbeats 1000000
namespace Lm
open PySem PySem.Spec PyProof.Rows L2
section
variable {K : PySem.W.Frag} {L : Lk} {G F F' H H' : Hp} {ι ι' : List Addr} {env : Env} {μ : Sto} {σ : L2.St} {p : Addr} {o : HO}
theorem le_upd (h : F p = none) : Le F (upd F p o) := fun a u e => by rw [upd_ne (ne_of_none e h)]; exact e
theorem SR.fnone (sr : SR K L G F ι env μ σ H) (hp : H p = none) : F p = none := by
  cases e : F p with
  | none => rfl
  | some u => rw [sr.f p u e] at hp; cases hp
theorem SR.gnone (sr : SR K L G F ι env μ σ H) (hp : H p = none) : G p = none := by
  cases e : G p with
  | none => rfl
  | some u => rw [sr.g p u e] at hp; cases hp
/-- a new object that is of no concern -/
theorem SR.junk (sr : SR K L G F ι env μ σ H) (hp : H p = none) : SR K L G F ι env μ σ (upd H p o) := by
  have ne : ∀ {a u}, H a = some u → a ≠ p := fun e => ne_of_none e hp
  refine ⟨sr.f.trans (le_upd hp), sr.g.trans (le_upd hp), sr.gf, sr.len, sr.val, sr.il, sr.nd, fun l a e => ?_, fun i w e => ?_, sr.owd, sr.sm, sr.hx⟩
  · obtain ⟨h1, h2, o', ho, h3, h4, h5⟩ := sr.sto l a e
    exact ⟨h1, h2, o', ho, h3, by rw [upd_ne (ne h4)]; exact h4, h5⟩
  · obtain ⟨a, ho, h1, h2, h3, h4, h5, h6⟩ := sr.own i w e
    exact ⟨a, ho, h1, h2, h3, h4, by rw [upd_ne (ne h5)]; exact h5, h6⟩
/-- a new object that may be spoken of -/
theorem SR.new (sr : SR K L G F ι env μ σ H) (hp : H p = none) : SR K L G (upd F p o) ι env μ σ (upd H p o) := by
  have ne : ∀ {a u}, H a = some u → a ≠ p := fun e => ne_of_none e hp
  have fe := le_upd (o := o) (sr.fnone hp)
  have pr := List.prefix_refl ι
  refine ⟨fun a u e => ?_, sr.g.trans (le_upd hp), fun a e => ?_, sr.len, fun i d e => ?_, sr.il, sr.nd, fun l a e => ?_, fun i w e => ?_, sr.owd, sr.sm, sr.hx⟩
  · by_cases h : a = p
    · subst h; rw [upd_same] at e ⊢; exact e
    · rw [upd_ne h] at e ⊢; exact sr.f _ _ e
  · have : a ≠ p := fun z => e (by rw [z]; exact sr.gnone hp)
    rw [upd_ne this]; exact sr.gf a e
  · obtain ⟨v, h1, h2⟩ := sr.val i d e
    exact ⟨v, h1, h2.mono fe pr⟩
  · obtain ⟨h1, h2, o', ho, h3, h4, h5⟩ := sr.sto l a e
    exact ⟨by rw [upd_ne (ne h4)]; exact h1, h2, o', ho, h3, by rw [upd_ne (ne h4)]; exact h4, h5.mono fe pr⟩
  · obtain ⟨a, ho, h1, h2, h3, h4, h5, h6⟩ := sr.own i w e
    exact ⟨a, ho, h1, by rw [upd_ne (ne h5)]; exact h2, h3, h4, by rw [upd_ne (ne h5)]; exact h5, h6.mono fe pr⟩
theorem SR.to_new (sr : SR K L G F ι env μ σ H) (hp : H p = none) : To F ι (upd F p o) ι := ⟨le_upd (sr.fnone hp), List.prefix_refl ι⟩

/-- sys.modules' own place holds no list and no dict of ours -/
def SmOk (F : Hp) : Prop := (∀ vs, F sysModules ≠ some (.lst vs)) ∧ ∀ ks, F sysModules ≠ some (.dK ks)
theorem SR.smH (sr : SR K L G F ι env μ σ H) : SmOk H := by
  obtain ⟨φ, h⟩ := sr.sm
  have e := sr.g _ _ h
  exact ⟨fun vs z => (by rw [e] at z; cases z), fun ks z => (by rw [e] at z; cases z)⟩
theorem SR.smF (sr : SR K L G F ι env μ σ H) : SmOk F := by
  obtain ⟨φ, h⟩ := sr.sm
  have e := sr.gf sysModules (by rw [h]; exact fun z => by cases z)
  exact ⟨fun vs z => (by rw [e] at z; cases z), fun ks z => (by rw [e] at z; cases z)⟩
/-- a value that is only read: it may stand in an own slot -/
def RepB (K : PySem.W.Frag) (L : Lk) (F : Hp) (ι : List Addr) (H : Hp) (d : D) (v : V) : Prop :=
  Rep K L F ι d v ∨ ∃ o ho a, d = O.toD o ∧ v = .ref a ∧ H a = some ho ∧ RepO K L F ι a o ho
theorem RepB.of {d : D} {v : V} (r : Rep K L F ι d v) : RepB K L F ι H d v := .inl r
theorem RepB.lst {xs : List D} {v : V} (sr : SR K L G F ι env μ σ H) (r : RepB K L F ι H (.lst xs) v) : ∃ a vs, v = .ref a ∧ H a = some (.lst vs) ∧ Reps K L F ι xs vs := by
  rcases r with r | ⟨o, ho, a, e, rfl, h, ro⟩
  · cases r with | lst h r => exact ⟨_, _, rfl, sr.f _ _ h, r⟩
  · cases ro with
    | lst r => simp only [O.toD, D.lst.injEq] at e; subst e; exact ⟨a, _, rfl, h, r⟩
    | dct r => cases e
    | dcn r => cases e
    | ins c r => cases e
theorem RepB.dcn {kvs : List (D × D)} {v : V} (sr : SR K L G F ι env μ σ H) (r : RepB K L F ι H (.dcn kvs) v) : ∃ a ob xs, v = .ref a ∧ H a = some (DN ob L.w a xs) ∧ RepN K L F ι kvs xs := by
  rcases r with r | ⟨o, ho, a, e, rfl, h, ro⟩
  · cases r with | dcn h r => exact ⟨_, _, _, rfl, sr.f _ _ h, r⟩
  · cases ro with
    | dcn r => simp only [O.toD, D.dcn.injEq] at e; subst e; exact ⟨a, _, _, rfl, h, r⟩
    | lst r => cases e
    | dct r => cases e
    | ins c r => cases e
theorem RepB.dct {kvs : List (D × D)} {v : V} (sr : SR K L G F ι env μ σ H) (r : RepB K L F ι H (.dct kvs) v) : ∃ a ks, v = .ref a ∧ H a = some (.dK ks) ∧ RepK K L F ι kvs ks := by
  rcases r with r | ⟨o, ho, a, e, rfl, h, ro⟩
  · cases r with | dct h r => exact ⟨_, _, rfl, sr.f _ _ h, r⟩
  · cases ro with
    | dct r => simp only [O.toD, D.dct.injEq] at e; subst e; exact ⟨a, _, rfl, h, r⟩
    | lst r => cases e
    | dcn r => cases e
    | ins c r => cases e
theorem RepB.tup {xs : List D} {v : V} (sr : SR K L G F ι env μ σ H) (r : RepB K L F ι H (.tup xs) v) : ∃ a vs, v = .ref a ∧ SqT K H a vs ∧ Reps K L F ι xs vs := by
  rcases r with r | ⟨o, ho, a, e, rfl, h, ro⟩
  · cases r with | tup h r => exact ⟨_, _, rfl, sr.f.sqT h, r⟩
  · cases ro <;> cases e
theorem RepB.frz {xs : List D} {v : V} (sr : SR K L G F ι env μ σ H) (r : RepB K L F ι H (.frz xs) v) : ∃ a vs, v = .ref a ∧ SqL K H a vs ∧ Reps K L F ι xs vs := by
  rcases r with r | ⟨o, ho, a, e, rfl, h, ro⟩
  · cases r with | frz h r => exact ⟨_, _, rfl, sr.f.sqL h, r⟩
  · cases ro <;> cases e
theorem RepB.int {i : Int} {v : V} (r : RepB K L F ι H (.int i) v) : v = .int i := by
  rcases r with r | ⟨o, ho, a, e, rfl, h, ro⟩
  · cases r; rfl
  · cases ro <;> cases e
theorem RepB.str {i : Str} {v : V} (r : RepB K L F ι H (.str i) v) : v = .str i := by
  rcases r with r | ⟨o, ho, a, e, rfl, h, ro⟩
  · cases r; rfl
  · cases ro <;> cases e
theorem RepB.bl {i : Bool} {v : V} (r : RepB K L F ι H (.bl i) v) : v = .bl i := by
  rcases r with r | ⟨o, ho, a, e, rfl, h, ro⟩
  · cases r; rfl
  · cases ro <;> cases e
theorem RepB.non {v : V} (r : RepB K L F ι H .non v) : v = .non := by
  rcases r with r | ⟨o, ho, a, e, rfl, h, ro⟩
  · cases r; rfl
  · cases ro <;> cases e
theorem RepB.loc {l : Nat} {v : V} (r : RepB K L F ι H (.loc l) v) : ∃ a, v = .ref a ∧ ι[l]? = some a := by
  rcases r with r | ⟨o, ho, a, e, rfl, h, ro⟩
  · cases r with | loc h => exact ⟨_, rfl, h⟩
  · cases ro <;> cases e
/-- a loc read -/
theorem RepB.deref {d d' : D} {v : V} (sr : SR K L G F ι env μ σ H) (r : RepB K L F ι H d v) (e : derefD μ d = some d') : RepB K L F ι H d' v := by
  cases d with
  | loc l =>
    obtain ⟨a, rfl, ha⟩ := r.loc
    obtain ⟨h1, h2, o, ho, h3, h4, h5⟩ := sr.sto l a ha
    have e' : (μ[l]?).map O.toD = some d' := e
    rw [h3] at e'
    cases e'
    exact .inr ⟨o, ho, a, rfl, rfl, h4, h5⟩
  | _ => cases e; exact r
/-- .. it reads in the state's own heap -/
theorem RepB.inH {d : D} {v : V} (sr : SR K L G F ι env μ σ H) (r : RepB K L F ι H d v) (hno : ∀ c fs, d ≠ .obj c fs) : Rep K L H ι d v := by
  rcases r with r | ⟨o, ho, a, e, rfl, h, ro⟩
  · exact r.mono sr.f (List.prefix_refl ι)
  · subst e
    cases ro with
    | lst r => exact .lst h (r.mono sr.f (List.prefix_refl ι))
    | dct r => exact .dct h (r.mono sr.f (List.prefix_refl ι))
    | dcn r => exact .dcn h (r.mono sr.f (List.prefix_refl ι))
    | ins c r => exact absurd rfl (hno _ _)
theorem Reps.get {xs : List D} {vs : List V} (r : Reps K L F ι xs vs) : ∀ {i : Nat} {x : D}, xs[i]? = some x → ∃ v, vs[i]? = some v ∧ Rep K L F ι x v := by
  intro i
  induction i generalizing xs vs with
  | zero => intro x e; cases r with | nil => cases e | cons a b => cases e; exact ⟨_, rfl, a⟩
  | succ i ih => intro x e; cases r with | nil => cases e | cons a b => exact ih b e
theorem Reps.append : ∀ {xs ys : List D} {vs ws : List V}, Reps K L F ι xs vs → Reps K L F ι ys ws → Reps K L F ι (xs ++ ys) (vs ++ ws)
  | _, _, _, _, .nil, s => s
  | _, _, _, _, .cons a b, s => .cons a (Reps.append b s)
theorem Reps.take : ∀ {xs : List D} {vs : List V} (n : Nat), Reps K L F ι xs vs → Reps K L F ι (xs.take n) (vs.take n)
  | _, _, 0, _ => .nil
  | _, _, _ + 1, .nil => .nil
  | _, _, n + 1, .cons a b => .cons a (Reps.take n b)
theorem Reps.drop : ∀ {xs : List D} {vs : List V} (n : Nat), Reps K L F ι xs vs → Reps K L F ι (xs.drop n) (vs.drop n)
  | _, _, 0, r => r
  | _, _, _ + 1, .nil => .nil
  | _, _, n + 1, .cons _ b => Reps.drop n b
theorem Reps.reverse {xs : List D} {vs : List V} (r : Reps K L F ι xs vs) : Reps K L F ι xs.reverse vs.reverse := by
  induction xs generalizing vs with
  | nil => cases r; exact .nil
  | cons x xs ih =>
    cases r with
    | cons a b => rw [List.reverse_cons, List.reverse_cons]; exact (ih b).append (.cons a .nil)
theorem Reps.rep {xs : List D} {vs : List V} (r : Reps K L F ι xs vs) : ∀ n : Nat, Reps K L F ι (List.replicate n xs).flatten (List.replicate n vs).flatten
  | 0 => .nil
  | n + 1 => by rw [List.replicate_succ, List.replicate_succ, List.flatten_cons, List.flatten_cons]; exact r.append (Reps.rep r n)
theorem Reps.set {xs : List D} {vs : List V} {x : D} {v : V} (r : Reps K L F ι xs vs) (q : Rep K L F ι x v) : ∀ (i : Nat), Reps K L F ι (xs.set i x) (vs.set i v) := by
  intro i
  induction i generalizing xs vs with
  | zero => cases r with | nil => exact .nil | cons a b => exact .cons q b
  | succ i ih => cases r with | nil => exact .nil | cons a b => exact .cons a (ih b)
end

/-! ### the calls' contracts -/
section
variable (K : PySem.W.Frag) (L : Lk)
/-- a call's result, seen by a state without slots -/
def okP (G F : Hp) (ι : List Addr) (env : Env) (σ : L2.St) (Q : VK) (d : D) (μ' : Sto) : Prop :=
  ∀ F' ι' H' v, To F ι F' ι' → SR K L G F' ι' env μ' σ H' → Rep K L F' ι' d v → Q v H'
def exP (G F : Hp) (ι : List Addr) (env : Env) (σ : L2.St) (E : XK) (x : Exn) (μ' : Sto) : Prop :=
  ∀ F' ι' H' cls dx, To F ι F' ι' → SR K L G F' ι' env μ' σ H' → ExR K L F' ι' H' x cls dx → E cls dx H'
def spC (C : Orc) (f : Nat) : Sp := fun vs H Q E => ∃ G F ι μ ds, SR K L G F ι [] μ [] H ∧ Reps K L F ι ds vs ∧ ds.length = (L.fnP.getD f []).length ∧
  WpR (C.call f ds μ) (okP K L G F ι [] [] Q) (exP K L G F ι [] [] E)
/-- __init__ of class c on a fresh instance -/
def spI (C : Orc) (c f : Nat) : Sp := fun vs H Q E => ∃ G F ι μ ds x Ca dx ws, vs = .ref x :: ws ∧ SR K L G F ι [] μ [] H ∧ Reps K L F ι ds ws ∧ ds.length + 1 = (L.fnP.getD f []).length ∧
  L.clA[c]? = some Ca ∧ H x = some (.ins Ca dx []) ∧ F x = none ∧ G x = none ∧ x ∉ ι ∧
  WpR (C.init c f ds μ) (fun fs μ' => ∀ F' ι' H' gs dx', To F ι F' ι' → SR K L G F' ι' [] μ' [] H' → H' x = some (.ins Ca dx' gs) → F' x = none → x ∉ ι' → RepF K L F' ι' fs gs → Q .non H')
    (exP K L G F ι [] [] E)
end
end Lm
set_option Elab.async false
set_option linter.all false
set_option maxRecDepth 100000
set_option maxHeartbeats 1000000
namespace Lm
open PySem PySem.Spec PyProof.Rows L2
section
variable {K : PySem.W.Frag} {L : Lk} {G F F' H H' : Hp} {ι ι' : List Addr} {env : Env} {μ : Sto} {σ : L2.St} {p : Addr} {Q : VK}
theorem okP.here {d : D} {v : V} (h : okP K L G F ι env σ Q d μ) (sr : SR K L G F ι env μ σ H) (r : Rep K L F ι d v) : Q v H := h F ι H v (To.refl _ _) sr r
theorem okP.newT {xs : List D} {vs : List V} (h : okP K L G F ι env σ Q (.tup xs) μ) (sr : SR K L G F ι env μ σ H) (r : Reps K L F ι xs vs) : ∀ p, H p = none → Q (.ref p) (upd H p (.tup vs)) := fun p hp =>
  h _ _ _ _ (sr.to_new hp) (sr.new hp) (.tup (SqT.of upd_same) (r.mono (le_upd (sr.fnone hp)) (List.prefix_refl ι)))
theorem okP.newL {xs : List D} {vs : List V} (h : okP K L G F ι env σ Q (.lst xs) μ) (sr : SR K L G F ι env μ σ H) (r : Reps K L F ι xs vs) : ∀ p, H p = none → Q (.ref p) (upd H p (.lst vs)) := fun p hp =>
  h _ _ _ _ (sr.to_new hp) (sr.new hp) (.lst upd_same (r.mono (le_upd (sr.fnone hp)) (List.prefix_refl ι)))
theorem RepB.rep_tup {xs : List D} {v : V} (r : RepB K L F ι H (.tup xs) v) : Rep K L F ι (.tup xs) v := by
  rcases r with r | ⟨o, ho, a, e, rfl, h, ro⟩
  · exact r
  · cases ro <;> cases e

/-! ### two-place operators -/
def opOf : Bop → Operator | .add => .Add | .sub => .Sub | .mul => .Mult | .fdiv => .FloorDiv | .mod => .Mod | .pow => .Pow
def rAddS : R2 := fun x y H Q => ∃ i j, x = .str i ∧ y = .str j ∧ i.length + j.length ≤ sizeLine ∧ Q (.str (i ++ j)) H
def rBin (K : PySem.W.Frag) : Bop → R2
  | .add => fun x y H Q => ((rI0 fun i j => .int (i + j)) x y H Q ∨ rAddS x y H Q) ∨ (rCatA K x y H Q ∨ rCat x y H Q)
  | .sub => rI0 fun i j => .int (i - j)
  | .mul => fun x y H Q => (rI CMul fun i j => .int (i * j)) x y H Q ∨ (rMulT K x y H Q ∨ rRep x y H Q)
  | .fdiv => rI CDivN fun i j => .int (i.fdiv j)
  | .mod => rI (fun _ j => j ≠ 0) fun i j => .int (i.fmod j)
  | .pow => rI CPow fun i j => .int (i ^ j.toNat)
theorem opr_bin {X : Cx} : ∀ o : Bop, OpR X (binaryOp (opOf o)) (rBin X.K o)
  | .add => (op_add.or op_add_str).or (op_catA.or op_cat)
  | .sub => op_sub
  | .mul => op_mul.or (op_mulT.or op_rep)
  | .fdiv => op_fdivN
  | .mod => op_modN
  | .pow => op_pow
theorem line_eq : line = sizeLine := rfl
theorem small_ok {i : Int} (h : small i = true) : -(2 ^ 64) < i ∧ i < 2 ^ 64 := by
  unfold small at h
  simpa using h
theorem opB_ok {o : Bop} {dx dy dz : D} {x y : V} (e : opB o dx dy = some dz) (sr : SR K L G F ι env μ σ H) (rx : RepB K L F ι H dx x) (ry : RepB K L F ι H dy y) (h : okP K L G F ι env σ Q dz μ) : rBin K o x y H Q := by
  cases o with
  | add =>
    cases dx <;> cases dy <;> simp only [opB, reduceCtorEq] at e
    · cases rx.int; cases ry.int; cases e; exact .inl (.inl ⟨_, _, rfl, rfl, h.here sr (.int _)⟩)
    · cases rx.str; cases ry.str
      split at e
      · rename_i hz; cases e; exact .inl (.inr ⟨_, _, rfl, rfl, hz, h.here sr (.str _)⟩)
      · cases e
    · split at e
      · rename_i hz
        cases e
        obtain ⟨a, vs, rfl, ha, r⟩ := rx.tup sr
        obtain ⟨b, ws, rfl, hb, t⟩ := ry.tup sr
        refine .inr (.inl ⟨a, b, vs, ws, rfl, rfl, ha, hb, by rw [← r.len, ← t.len]; exact hz, fun z => ?_, fun z1 z2 => ?_, fun z1 z2 => h.newT sr (r.append t)⟩)
        · subst z; cases r; exact h.here sr ry.rep_tup
        · subst z2; cases t; rw [List.append_nil] at h; exact h.here sr rx.rep_tup
      · cases e
    · split at e
      · rename_i hz
        cases e
        obtain ⟨a, vs, rfl, ha, r⟩ := rx.lst sr
        obtain ⟨b, ws, rfl, hb, t⟩ := ry.lst sr
        exact .inr (.inr ⟨a, b, vs, ws, rfl, rfl, ha, hb, by rw [← r.len, ← t.len]; exact hz, h.newL sr (r.append t)⟩)
      · cases e
  | sub =>
    cases dx <;> cases dy <;> simp only [opB, reduceCtorEq] at e
    cases rx.int; cases ry.int; cases e; exact ⟨_, _, rfl, rfl, h.here sr (.int _)⟩
  | mul =>
    cases dx <;> cases dy <;> simp only [opB, reduceCtorEq] at e
    · cases rx.int; cases ry.int
      split at e
      · rename_i hz
        cases e
        refine .inl ⟨_, _, rfl, rfl, ?_, h.here sr (.int _)⟩
        rw [Bool.or_eq_true] at hz
        rcases hz with z | z
        · exact .inl (small_ok z)
        · exact .inr (small_ok z)
      · cases e
    · cases ry.int
      split at e
      · rename_i hz
        cases e
        obtain ⟨a, vs, rfl, ha, r⟩ := rx.tup sr
        refine .inr (.inl ⟨a, _, vs, rfl, rfl, ha, hz.1, hz.2.1, by rw [← r.len]; exact hz.2.2, fun z => ?_, fun z1 z2 => h.newT sr (r.rep _)⟩)
        have rt := rx.rep_tup
        rcases z with z | z
        · subst z; cases r
          refine h.here sr ?_
          have : (List.replicate (Int.toNat ‹Int›) ([] : List D)).flatten = [] := by simp
          rw [this]; exact rt
        · subst z
          refine h.here sr ?_
          have e1 : ∀ xs : List D, (List.replicate (Int.toNat 1) xs).flatten = xs := fun xs => by simp
          rw [e1]; exact rt
      · cases e
    · cases ry.int
      split at e
      · rename_i hz
        cases e
        obtain ⟨a, vs, rfl, ha, r⟩ := rx.lst sr
        exact .inr (.inr ⟨a, _, vs, rfl, rfl, ha, by omega, by omega, by rw [← r.len]; exact hz.2.2, h.newL sr (r.rep _)⟩)
      · cases e
  | fdiv =>
    cases dx <;> cases dy <;> simp only [opB, reduceCtorEq] at e
    cases rx.int; cases ry.int
    split at e
    · rename_i hz; cases e; exact ⟨_, _, rfl, rfl, hz, h.here sr (.int _)⟩
    · cases e
  | mod =>
    cases dx <;> cases dy <;> simp only [opB, reduceCtorEq] at e
    cases rx.int; cases ry.int
    split at e
    · rename_i hz; cases e; exact ⟨_, _, rfl, rfl, hz, h.here sr (.int _)⟩
    · cases e
  | pow =>
    cases dx <;> cases dy <;> simp only [opB, reduceCtorEq] at e
    cases rx.int; cases ry.int
    split at e
    · rename_i hz; cases e; exact ⟨_, _, rfl, rfl, ⟨hz.1, by omega, hz.2.2⟩, h.here sr (.int _)⟩
    · cases e
end
end Lm
set_option Elab.async false
set_option linter.all false
set_option maxRecDepth 100000
set_option maxHeartbeats 1000000
namespace Lm
open PySem PySem.Spec PyProof.Rows L2
/-! ### dicts keyed by nested tuples -/
section
variable {K : PySem.W.Frag} {L : Lk} {F F' : Hp} {ι : List Addr}
mutual
theorem NK.mono (e : Le F F') : ∀ {k : NestedKey} {v : V}, NK K F k v → NK K F' k v
  | _, _, .non => .non
  | _, _, .bl b => .bl b
  | _, _, .int i => .int i
  | _, _, .str s => .str s
  | _, _, .tup h r => .tup (e.sqT h) (NKs.mono e r)
theorem NKs.mono (e : Le F F') : ∀ {k : List NestedKey} {v : List V}, NKs K F k v → NKs K F' k v
  | _, _, .nil => .nil
  | _, _, .cons a b => .cons (NK.mono e a) (NKs.mono e b)
end
mutual
theorem NK.of_rep : ∀ {d : D} {v : V} {k : NestedKey}, keyN d = some k → Rep K L F ι d v → NK K F k v
  | .non, _, _, e, r => by cases r; cases e; exact .non
  | .bl b, _, _, e, r => by cases r; cases e; exact .bl b
  | .int i, _, _, e, r => by cases r; cases e; exact .int i
  | .str s, _, _, e, r => by cases r; cases e; exact .str s
  | .tup xs, _, _, e, r => by
    cases r with
    | tup h rs =>
      have e : (keyNs xs).map NestedKey.tup = some _ := e
      obtain ⟨ks, e1, rfl⟩ := Option.map_eq_some_iff.mp e
      exact .tup h (NKs.of_rep e1 rs)
  | .lst _, _, _, e, _ => by cases e
  | .dct _, _, _, e, _ => by cases e
  | .dcn _, _, _, e, _ => by cases e
  | .frz _, _, _, e, _ => by cases e
  | .obj _ _, _, _, e, _ => by cases e
  | .exc _ _, _, _, e, _ => by cases e
  | .loc _, _, _, e, _ => by cases e
  | .clo _ _, _, _, e, _ => by cases e
theorem NKs.of_rep : ∀ {ds : List D} {vs : List V} {ks : List NestedKey}, keyNs ds = some ks → Reps K L F ι ds vs → NKs K F ks vs
  | [], _, _, e, r => by cases r; cases e; exact .nil
  | x :: xs, _, _, e, r => by
    cases r with
    | cons a b =>
      unfold keyNs at e
      split at e
      · rename_i k ks e1 e2
        cases e
        exact .cons (NK.of_rep e1 a) (NKs.of_rep e2 b)
      · cases e
end
/-- a key that may stand in a dict -/
def NKey (K : PySem.W.Frag) (F : Hp) (k : NestedKey) (v : V) : Prop := NK K F k v ∧ k.depth ≤ 8 ∧ ∃ b, v = .ref b
theorem keyT_some {d : D} {k : NestedKey} (e : keyT d = some k) : keyN d = some k ∧ k.depth ≤ 8 ∧ ∃ xs, d = .tup xs := by
  unfold keyT at e
  split at e
  · rename_i xs
    obtain ⟨ks, e1, e2⟩ := Option.bind_eq_some_iff.mp e
    split at e2
    · rename_i hd
      cases e2
      exact ⟨by show (keyNs xs).map NestedKey.tup = _; rw [e1]; rfl, hd, xs, rfl⟩
    · cases e2
  · cases e
theorem NKey.of_rep {d : D} {v : V} {k : NestedKey} (e : keyT d = some k) (r : Rep K L F ι d v) : NKey K F k v := by
  obtain ⟨h1, h2, xs, rfl⟩ := keyT_some e
  refine ⟨NK.of_rep h1 r, h2, ?_⟩
  cases r with
  | tup _ _ => exact ⟨_, rfl⟩
end
section
variable {X : Cx} {pins : List (Addr × Obj)} {σ : L2.St} {H : Hp} {s : Shared}
mutual
theorem NK.is (I : Inv X pins σ H s) : ∀ {k : NestedKey} {v : V} {u : Value}, NK X.K H k v → RelV v u → NestedIs s.heap k u
  | _, _, _, .non, r => by cases r; exact .none
  | _, _, _, .bl b, r => by cases r; exact .bool rfl
  | _, _, _, .int i, r => by obtain ⟨t, rfl⟩ := r; exact .int i t
  | _, _, _, .str x, r => by obtain ⟨t, rfl⟩ := r; exact .text x t
  | _, _, _, .tup h rs, r => by
    obtain ⟨its, vals, ⟨o, h1, h2, n, h3⟩, _⟩ := I.tuple h
    cases r
    exact .tup h1 h2 h3 (by simpa using NKs.is I rs vals)
theorem NKs.is (I : Inv X pins σ H s) : ∀ {k : List NestedKey} {v : List V} {u : List Value}, NKs X.K H k v → Vals v u → NestedAll s.heap k u
  | _, _, _, .nil, r => by cases r; exact .nil
  | _, _, _, .cons a b, r => by cases r with | cons r1 r2 => exact .cons (NK.is I a r1) (NKs.is I b r2)
end
theorem NKey.is (I : Inv X pins σ H s) {k : NestedKey} {v : V} {u : Value} (h : NKey X.K H k v) (r : RelV v u) : ∃ b, u = .ref b ∧ v = .ref b ∧ (nestedKind X.prog X.w).is s.heap k b := by
  obtain ⟨h1, h2, b, rfl⟩ := h
  cases r
  exact ⟨b, rfl, rfl, NK.is I h1 rfl, h2⟩
end
/-- the entries, values for values -/
abbrev PN : List (NestedKey × Addr × V) → List (NestedKey × Addr × Value) → Prop := Paired fun p q => p.1 = q.1 ∧ p.2.1 = q.2.1 ∧ RelV p.2.2 q.2.2
def valN (xs : List (NestedKey × Addr × V)) (k : NestedKey) : Option V := (xs.find? fun x => decide (x.1 = k)).map (·.2.2)
def putN' (xs : List (NestedKey × Addr × V)) (k : NestedKey) (b : Addr) (v : V) : List (NestedKey × Addr × V) :=
  if (valN xs k).isSome then xs.map (fun x => if x.1 = k then (x.1, x.2.1, v) else x) else xs ++ [(k, b, v)]
theorem PN.val {xs : List (NestedKey × Addr × V)} {ys : List (NestedKey × Addr × Value)} (r : PN xs ys) (k : NestedKey) : RelO (valN xs k) ((atKey ys k).map (·.2)) := by
  induction r with
  | nil => exact True.intro
  | @cons p q ps qs h t ih =>
    obtain ⟨h1, _, h2⟩ := h
    by_cases e : p.1 = k
    · have e' : q.1 = k := h1.symm.trans e
      have a : valN (p :: ps) k = some p.2.2 := by simp [valN, List.find?_cons, e]
      have b : atKey (q :: qs) k = some q.2 := by simp [atKey, List.find?_cons, e']
      rw [a, b]; exact h2
    · have e' : ¬ q.1 = k := fun z => e (h1.trans z)
      have a : valN (p :: ps) k = valN ps k := by simp [valN, List.find?_cons, e]
      have b : atKey (q :: qs) k = atKey qs k := by simp [atKey, List.find?_cons, e']
      rw [a, b]; exact ih
theorem PN.repl {xs : List (NestedKey × Addr × V)} {ys : List (NestedKey × Addr × Value)} (r : PN xs ys) (k : NestedKey) {v : V} {u : Value} (rv : RelV v u) :
    PN (xs.map fun x => if x.1 = k then (x.1, x.2.1, v) else x) (ys.map (putAt k u)) := by
  induction r with
  | nil => exact .nil
  | @cons p q ps qs h t ih =>
    rw [List.map_cons, List.map_cons]
    refine .cons ?_ ih
    obtain ⟨h1, h2, h3⟩ := h
    unfold putAt
    by_cases e : p.1 = k
    · rw [if_pos e, if_pos (h1.symm.trans e)]; exact ⟨h1, h2, rv⟩
    · rw [if_neg e, if_neg (fun z => e (h1.trans z))]; exact ⟨h1, h2, h3⟩
theorem PN.put {xs : List (NestedKey × Addr × V)} {ys : List (NestedKey × Addr × Value)} (r : PN xs ys) (k : NestedKey) (b : Addr) {v : V} {u : Value} (rv : RelV v u) : PN (putN' xs k b v) (storedH ys k b u) := by
  unfold putN' storedH
  have e : (valN xs k).isSome = (atKey ys k).isSome := by rw [(r.val k).isSome_eq, Option.isSome_map]
  rw [e]
  split
  · exact r.repl k rv
  · exact Paired.snoc r ⟨rfl, rfl, rv⟩
theorem length_putN (xs : List (NestedKey × Addr × V)) (k : NestedKey) (b : Addr) (v : V) : (putN' xs k b v).length ≤ xs.length + 1 := by
  unfold putN'
  split <;> simp
/-- at a stands such a dict -/
def NAt (K : PySem.W.Frag) (w : World) (H : Hp) (a : Addr) (xs : List (NestedKey × Addr × V)) : Prop :=
  ((∃ ob, H a = some (DN ob w a xs)) ∨ (xs = [] ∧ H a = some (.dK []))) ∧ ∀ x ∈ xs, NKey K H x.1 (.ref x.2.1)
section
variable {X : Cx} {pins : List (Addr × Obj)} {σ : L2.St} {H : Hp} {s : Shared} {a : Addr} {xs : List (NestedKey × Addr × V)}
theorem PN.is (I : Inv X pins σ H s) {xs : List (NestedKey × Addr × V)} {ys : List (NestedKey × Addr × Value)} (pr : PN xs ys) : (∀ x ∈ xs, NKey X.K H x.1 (.ref x.2.1)) → ∀ x ∈ ys, (nestedKind X.prog X.w).is s.heap x.1 x.2.1 := by
  induction pr with
  | nil => intro _ x hx; cases hx
  | @cons p q ps qs hq t ih =>
    intro hk x hx
    rcases List.mem_cons.mp hx with rfl | hx
    · obtain ⟨b, e1, e2, e3⟩ := NKey.is I (hk p List.mem_cons_self) rfl
      cases e1
      rw [← hq.1, ← hq.2.1]
      exact e3
    · exact ih (fun y hy => hk y (List.mem_cons_of_mem _ hy)) x hx
theorem NAt.of (I : Inv X pins σ H s) (h : NAt X.K X.w H a xs) : xs.length ≤ sizeLine ∧ (a == sysModules) = false ∧ ∃ ys, PN xs ys ∧ s.heap.DictOfH (nestedKind X.prog X.w) a ys := by
  obtain ⟨⟨o, h⟩ | ⟨rfl, h⟩, hk⟩ := h
  · obtain ⟨⟨h1, hz, hm, ys, pr, es, ep, h2, h3, h4, h5⟩, _, _⟩ := (show ObjOk X.prog X.w H s.heap a (DN o X.w a xs) from I.hok a _ h)
    exact ⟨hz, hm, ys, pr, o, es, ep, h1, h2, h3, h4, PN.is I pr hk, h5⟩
  · obtain ⟨_, hm, vs, rel, o, es, ep, h1, h2, h3, h4, h5, h6⟩ := dk_of I.hok h
    cases rel
    refine ⟨Nat.zero_le _, hm, [], .nil, o, es, ep, h1, h2, h3, ?_, (fun x hx => nomatch hx), List.nodup_nil⟩
    generalize hl : es.toList = l at h5 ⊢
    cases h5
    rfl
theorem NAt.new {h' : Heap} {ys : List (NestedKey × Addr × Value)} (hz : xs.length ≤ sizeLine) (hm : (a == sysModules) = false) (pr : PN xs ys) (dd : h'.DictOfH (nestedKind X.prog X.w) a ys) : ∃ o, h'.get? a = some o ∧ ∀ H', ObjOk X.prog X.w H' h' a (DN o X.w a xs) := by
  obtain ⟨o, es, ep, h1, h2, h3, h4, _, h5⟩ := dd
  exact ⟨o, h1, fun H' => ⟨⟨h1, hz, hm, ys, pr, es, ep, h2, h3, h4, h5⟩, ⟨o, h1⟩, fun g1 g2 b st => ⟨st _ b.1, b.2⟩⟩⟩
end
section
variable {X : Cx} {pins : List (Addr × Obj)} {σ : L2.St} {H : Hp} {s : Shared} {a : Addr} {xs : List (NestedKey × Addr × V)} {k : NestedKey} {y v : V} {u r : Value} {A : Around} {E : Value → Shared → Prop}
theorem relO_some {v : V} {o : Option Value} (r : RelO (some v) o) : ∃ u, o = some u ∧ RelV v u := by
  cases o with
  | none => exact r.elim
  | some u => exact ⟨u, rfl, r⟩
theorem n_getItem {Q : Value → Shared → Prop} (hu : A.units + 1 + 8 < cLine) (I : Inv X pins σ H s) (h : NAt X.K X.w H a xs) (hk : NKey X.K H k y) (ry : RelV y u) (hv : valN xs k = some v)
    (q : ∀ w' s', Inv X pins σ H s' → RelV v w' → Q w' s') : wpAny (model X.prog X.w) A (getItem (.ref a) u) Q E s := by
  obtain ⟨hz, hm, ys, pr, dd⟩ := h.of I
  obtain ⟨b, rfl, _, hb⟩ := hk.is I ry
  have rv := pr.val k
  rw [hv] at rv
  obtain ⟨w', e1, e2⟩ := relO_some rv
  obtain ⟨p, hp, rfl⟩ := Option.map_eq_some_iff.mp e1
  exact wpAny_getItem_heap (knd := nestedKind X.prog X.w) (show A.in1.units + 8 < cLine from hu) hb dd hp (q _ _ (I.tok _) e2)
theorem n_in {Q : Value → Shared → Prop} (hu : A.units + 1 + 8 < cLine) (I : Inv X pins σ H s) (h : NAt X.K X.w H a xs) (hk : NKey X.K H k y) (ry : RelV y u)
    (q : ∀ s', Inv X pins σ H s' → Q (.bool (valN xs k).isSome) s') : wpAny (model X.prog X.w) A (compareOp .In u (.ref a)) Q E s := by
  obtain ⟨hz, hm, ys, pr, dd⟩ := h.of I
  obtain ⟨b, rfl, _, hb⟩ := hk.is I ry
  refine wpAny_in_heap (knd := nestedKind X.prog X.w) (show A.in1.units + 8 < cLine from hu) hb hm dd ?_
  have e := (pr.val k).isSome_eq
  rw [Option.isSome_map] at e
  rw [← e]
  exact q _ (I.tok _)
theorem n_notIn {Q : Value → Shared → Prop} (hu : A.units + 1 + 8 < cLine) (I : Inv X pins σ H s) (h : NAt X.K X.w H a xs) (hk : NKey X.K H k y) (ry : RelV y u)
    (q : ∀ s', Inv X pins σ H s' → Q (.bool (!(valN xs k).isSome)) s') : wpAny (model X.prog X.w) A (compareOp .NotIn u (.ref a)) Q E s := by
  obtain ⟨hz, hm, ys, pr, dd⟩ := h.of I
  obtain ⟨b, rfl, _, hb⟩ := hk.is I ry
  refine wpAny_notIn_heap (knd := nestedKind X.prog X.w) (show A.in1.units + 8 < cLine from hu) hb hm dd ?_
  have e := (pr.val k).isSome_eq
  rw [Option.isSome_map] at e
  rw [← e]
  exact q _ (I.tok _)
theorem n_get {Q : Value → Shared → Prop} (hu : A.in1.units + 8 < cLine) (I : Inv X pins σ H s) (h : NAt X.K X.w H a xs) (hk : NKey X.K H k y) (ry : RelV y u)
    (q : ∀ w' s', Inv X pins σ H s' → RelV ((valN xs k).getD .non) w' → Q w' s') : wpAny (model X.prog X.w) A (call (.builtin "dict.get") [.ref a, u]) Q E s := by
  obtain ⟨hz, hm, ys, pr, dd⟩ := h.of I
  obtain ⟨b, rfl, _, hb⟩ := hk.is I ry
  exact call_meetsIn PySem.F.slot_dict_get dd.typeIs PySem.F.entry_dict_get (PySem.F.args_dict_get_2 _ _) (meetsH_dict_get (nestedKind X.prog X.w) a b hm) ⟨hu, k, ys, hb, dd, q _ _ (I.tok _) ((pr.val k).getD rfl)⟩
theorem n_getOr {x : V} {xu : Value} {Q : Value → Shared → Prop} (hu : A.in1.units + 8 < cLine) (I : Inv X pins σ H s) (h : NAt X.K X.w H a xs) (hk : NKey X.K H k y) (ry : RelV y u) (rx : RelV x xu)
    (q : ∀ w' s', Inv X pins σ H s' → RelV ((valN xs k).getD x) w' → Q w' s') : wpAny (model X.prog X.w) A (call (.builtin "dict.get") [.ref a, u, xu]) Q E s := by
  obtain ⟨hz, hm, ys, pr, dd⟩ := h.of I
  obtain ⟨b, rfl, _, hb⟩ := hk.is I ry
  exact call_meetsIn PySem.F.slot_dict_get dd.typeIs PySem.F.entry_dict_get (PySem.F.args_dict_get_3 _ _ _) (meetsH_dict_get_default (nestedKind X.prog X.w) a b hm xu) ⟨hu, k, ys, hb, dd, q _ _ (I.tok _) ((pr.val k).getD rx)⟩
theorem NAt.mut (h : NAt X.K X.w H a xs) : Mut (H a) := by
  rcases h.1 with ⟨_, h⟩ | ⟨_, h⟩ <;> rw [h] <;> exact True.intro
theorem n_setItem {b : Addr} {Q : Unit → Shared → Prop} (hu : A.units + 1 + 8 < cLine) (I : Inv X pins σ H s) (h : NAt X.K X.w H a xs) (hk : NKey X.K H k (.ref b)) (rv : RelV v r) (hl : xs.length < sizeLine)
    (q : ∀ o s', Inv X pins σ (upd H a (DN o X.w a (putN' xs k b v))) s' → Q () s') : wpAny (model X.prog X.w) A (setItem (.ref a) (.ref b) r) Q E s := by
  obtain ⟨hz, hm, ys, pr, dd⟩ := h.of I
  obtain ⟨b', e, _, hb⟩ := hk.is I rfl
  cases e
  have hz2 : ys.length ≤ sizeLine := by rw [← Paired.length pr]; exact hz
  refine wpAny_setItem_heap (knd := nestedKind X.prog X.w) (hsz := hz2) (show A.in1.units + 8 < cLine from hu) hb dd fun h' dd' hs => ?_
  have hl2 : (putN' xs k b v).length ≤ sizeLine := by have := length_putN xs k b v; omega
  obtain ⟨o, e1, e2⟩ := NAt.new hl2 hm (pr.put k b rv) dd'
  exact q o _ (d_write I h.mut hs ⟨o, e1⟩ (e2 _))
theorem n_len {Q : Value → Shared → Prop} (I : Inv X pins σ H s) (h : NAt X.K X.w H a xs) (q : ∀ t s', Inv X pins σ H s' → Q (.int xs.length t) s') : wpAny (model X.prog X.w) A (call (.builtin "len") [.ref a]) Q E s := by
  obtain ⟨hz, hm, ys, pr, dd⟩ := h.of I
  have hn : ys.length = xs.length := (Paired.length pr).symm
  refine PyProof.Rows.call_len_slot (n := ys.length) dd.typeIs PySem.F.slot_dict_len (fun Q' hq => ?_) (by omega) (by rw [hn]; rw [sizeLine_eq] at hz; omega) ?_
  · exact len_keyed (knd := nestedKind X.prog X.w) (kvs := pairsH ys) hm ⟨ys, dd, rfl⟩ (by rw [pairsH_length]; exact hq)
  · rw [hn]
    exact q _ _ (I.tok _)
end
/-! ### a walk over the keys -/
def ItN (w : World) (d : Addr) (ob : Obj) (xs : List (NestedKey × Addr × V)) : L2.It :=
  ⟨fun i H => H d = some (DN ob w d xs) ∧ i < xs.length, fun i H x H' => H' = H ∧ ∃ e, xs[i]? = some e ∧ x = .ref e.2.1, fun i H => H d = some (DN ob w d xs) ∧ xs.length ≤ i⟩
theorem dn_at {X : Cx} {pins : List (Addr × Obj)} {σ : L2.St} {H : Hp} {s : Shared} {d : Addr} {ob : Obj} {xs : List (NestedKey × Addr × V)} (I : Inv X pins σ H s) (h : H d = some (DN ob X.w d xs)) :
    (d == sysModules) = false ∧ s.heap.get? d = some ob ∧ ob.ExactDict ∧ ∃ es ep, ob.data = .dict es ep ∧ es.size = xs.length ∧ ∀ (i : Nat) (e : NestedKey × Addr × V), xs[i]? = some e → ∃ en, es[i]? = some en ∧ en.key = .ref e.2.1 := by
  obtain ⟨⟨h1, hz, hm, ys, pr, es, ep, h2, h3, h4, h5⟩, _, _⟩ := (show ObjOk X.prog X.w H s.heap d (DN ob X.w d xs) from I.hok d _ h)
  have l1 : es.size = ys.length := by rw [← Array.length_toList, h4, List.length_map]
  have l2 : xs.length = ys.length := Paired.length pr
  refine ⟨hm, h1, h2, es, ep, h3, by omega, fun i e he => ?_⟩
  have hi : i < ys.length := by rw [← l2]; exact (List.getElem?_eq_some_iff.mp he).1
  have key : ∀ {l : List (NestedKey × Addr × V)} {m : List (NestedKey × Addr × Value)}, PN l m → ∀ (i : Nat) (e : NestedKey × Addr × V) (q : NestedKey × Addr × Value), l[i]? = some e → m[i]? = some q → e.2.1 = q.2.1 := by
    intro l m r
    induction r with
    | nil => intro i e q h; simp at h
    | cons h t ih =>
      intro i e q h1 h2
      cases i with
      | zero => simp at h1 h2; subst h1 h2; exact h.2.1
      | succ i => exact ih i e q (by simpa using h1) (by simpa using h2)
  have e3 : es.toList[i]? = some ({ hash := (ys[i]).1.hash X.w, key := .ref (ys[i]).2.1, val := (ys[i]).2.2 } : DictEntry) := by rw [h4, List.getElem?_map, List.getElem?_eq_getElem hi]; rfl
  rw [Array.getElem?_toList] at e3
  exact ⟨_, e3, by show Value.ref _ = _; rw [key pr i e _ he (List.getElem?_eq_getElem hi)]⟩
section
variable {P : Program} {w : World} {K : PySem.W.Frag} {tg : Expr} {d : Addr} {o : Obj} {es : Array DictEntry} {ep : Nat}
theorem turn_keysN {xs : List (NestedKey × Addr × V)} (it : Addr) (hod : o.data = .dict es ep) : Turn P w K tg (ItN w d o xs) [it] it (fun i h => h.IsKeyIter it d i xs.length ep) where
  mem := by simp
  obj := fun i h st b hb => by
    have e : b = it := by simpa using hb
    subst e
    obtain ⟨oi, e, c, dd⟩ := st
    exact ⟨oi, e, fun v z => by rw [dd] at z; cases z⟩
  keep := fun i h h' st k => st.at fun oi e => k it (by simp) oi e
  item := by
    intro X hP hw hK hc i pins s σ H E I hf st hg
    subst hP hw hK
    obtain ⟨hd, hi⟩ := hg
    obtain ⟨f0, f1, f2, f3, f4, f5⟩ := hf it (by simp)
    obtain ⟨hs, hgd, hx, es', ep', hdt, hsz, ent⟩ := dn_at I hd
    obtain ⟨rfl, rfl⟩ := dict_ep hod hdt
    obtain ⟨e, he⟩ : ∃ p, xs[i]? = some p := ⟨xs[i], List.getElem?_eq_getElem hi⟩
    obtain ⟨en, hen, hkey⟩ := ent i e he
    refine next_key_item st hgd hdt hsz hen fun h' st' sb => ?_
    have I1 : Inv X pins σ H { s with heap := h' } := I.turned (t' := s.toks) (fun b ob hb e => (sb.2 b hb).trans e) f0 f1 f3 f4 f5
    obtain ⟨oi, e1, c, dd⟩ := id st'
    exact ⟨en.key, rfl, go_of (s := { s with heap := h' }) e1 c dd (by decide) ⟨.ref e.2.1, H, I1, hkey, ⟨rfl, e, he, rfl⟩, st', fun b hb => (hf b hb).1⟩⟩
  done := by
    intro X hP hw hK hc i pins s σ H E I hf st hg
    subst hP hw hK
    obtain ⟨hd, hi⟩ := hg
    obtain ⟨f0, f1, f2, f3, f4, f5⟩ := hf it (by simp)
    obtain ⟨hs, hgd, hx, es', ep', hdt, hsz, ent⟩ := dn_at I hd
    obtain ⟨rfl, rfl⟩ := dict_ep hod hdt
    exact next_key_end (I.ok.hd hc) st hgd hdt hsz hi fun h' eb => ⟨rfl, I.turned (t' := s.toks) (fun b ob hb e => eb b ob hb e) f0 f1 f3 f4 f5⟩
  self := fun A i s Q E st h => by
    refine wpAny_pyIter_slot st.typeIs PySem.F.slot_dict_keyiterator_iter (wpAny_call_entry PySem.F.slot_dict_keyiterator_iter st.typeIs PySem.F.entry_dict_keyiterator_iter ?_ (PySem.F.args_dict_keyiterator_iter_1 _))
    show wpAny _ _ (ret (.ref it)) _ _ s
    exact wpAny_pure ⟨_, rfl, "dict_keyiterator", _, st.typeIs, PySem.F.slot_dict_keyiterator_next.lookup, h⟩
end
/-! ### the entries' dicts, in both readings -/
section
variable {K : PySem.W.Frag} {L : Lk} {F F' : Hp} {ι : List Addr}
theorem RepN.keys {kvs : List (D × D)} {xs : List (NestedKey × Addr × V)} (r : RepN K L F ι kvs xs) : ∀ x ∈ xs, NKey K F x.1 (.ref x.2.1) := by
  induction kvs generalizing xs with
  | nil => cases r; intro x hx; cases hx
  | cons kv rest ih =>
    cases r with
    | cons h1 h2 h3 h4 =>
      intro x hx
      rcases List.mem_cons.mp hx with rfl | hx
      · exact .of_rep h1 h2
      · exact ih h4 x hx
theorem RepN.len {kvs : List (D × D)} {xs : List (NestedKey × Addr × V)} (r : RepN K L F ι kvs xs) : kvs.length = xs.length := by
  induction kvs generalizing xs with
  | nil => cases r; rfl
  | cons kv rest ih => cases r with | cons h1 h2 h3 h4 => exact congrArg (· + 1) (ih h4)
theorem RepN.get {kvs : List (D × D)} {xs : List (NestedKey × Addr × V)} (r : RepN K L F ι kvs xs) (q : NestedKey) : (∀ d, dgetN kvs q = some d → ∃ v, valN xs q = some v ∧ Rep K L F ι d v) ∧ (dgetN kvs q = none → valN xs q = none) := by
  induction kvs generalizing xs with
  | nil => cases r; exact ⟨fun d e => (by cases e), fun _ => rfl⟩
  | cons p rest ih =>
    cases r with
    | @cons k d qk b v _ t hk hr hv ht =>
      unfold dgetN
      by_cases h : qk = q
      · subst h
        have a : valN ((qk, b, v) :: t) qk = some v := by simp [valN]
        rw [if_pos hk, a]
        exact ⟨fun d e => (by cases e; exact ⟨v, rfl, hv⟩), fun e => (by cases e)⟩
      · have : ¬ keyT k = some q := fun z => h (by rw [hk] at z; exact Option.some.inj z)
        have a : valN ((qk, b, v) :: t) q = valN t q := by simp [valN, h]
        rw [if_neg this, a]
        exact ih ht
theorem RepN.any {kvs : List (D × D)} {xs : List (NestedKey × Addr × V)} (r : RepN K L F ι kvs xs) (q : NestedKey) : (kvs.any fun kv => decide (keyT kv.1 = some q)) = (valN xs q).isSome := by
  induction kvs generalizing xs with
  | nil => cases r; rfl
  | cons p rest ih =>
    cases r with
    | @cons k d qk b v _ t hk hr hv ht =>
      rw [List.any_cons, ih ht]
      by_cases h : qk = q
      · subst h; simp [valN, hk]
      · have : ¬ keyT k = some q := fun z => h (by rw [hk] at z; exact Option.some.inj z)
        simp [valN, h, this]
theorem RepN.put {kvs : List (D × D)} {xs : List (NestedKey × Addr × V)} (r : RepN K L F ι kvs xs) {kd vd : D} {q : NestedKey} {b : Addr} {v : V} (hk : keyT kd = some q) (rk : Rep K L F ι kd (.ref b)) (rv : Rep K L F ι vd v) :
    RepN K L F ι (dputN kvs q kd vd) (putN' xs q b v) := by
  unfold dputN putN'
  rw [r.any]
  split
  · rename_i hs
    clear hs
    induction kvs generalizing xs with
    | nil => cases r; exact .nil
    | cons p rest ih =>
      cases r with
      | @cons k d qk b2 v2 _ t hk2 hr hv ht =>
        rw [List.map_cons, List.map_cons]
        by_cases h : qk = q
        · subst h
          rw [if_pos hk2, if_pos rfl]
          exact .cons hk2 hr rv (ih ht)
        · have : ¬ keyT k = some q := fun z => h (by rw [hk2] at z; exact Option.some.inj z)
          rw [if_neg this, if_neg h]
          exact .cons hk2 hr hv (ih ht)
  · rename_i hs
    clear hs
    induction kvs generalizing xs with
    | nil => cases r; exact .cons hk rk rv .nil
    | cons p rest ih =>
      cases r with
      | cons h1 h2 h3 h4 => exact .cons h1 h2 h3 (ih h4)
end
end Lm
set_option Elab.async false
set_option linter.all false
set_option maxRecDepth 100000
set_option maxHeartbeats 1000000
namespace Lm
open PySem PySem.Spec PyProof.Rows L2
section
variable {X : Cx} {pins : List (Addr × Obj)} {s : Shared} {L : Lk} {G F F' H H' : Hp} {ι ι' : List Addr} {env : Env} {μ : Sto} {σ : L2.St} {p : Addr} {Q : VK}
/-! ### data, dicts too, as the heap bears them -/
theorem hr_key {q : Key} {d : D} {pd : PyData} {u : Value} {h : Heap} (e : keyD d = some q) (e2 : toP d = some pd) (r : keyIs q u = true) : Reads h u pd [] := by
  cases d <;> simp only [keyD, reduceCtorEq, Option.some.injEq] at e
  · subst e; cases e2; obtain ⟨t, rfl⟩ := Value.isInt_shape (k := _) (v := u) r; exact .int _ _
  · subst e; cases e2; obtain ⟨t, rfl⟩ := Value.isStrOf_shape (x := _) (v := u) r; exact .str _ _
mutual
theorem Rep.reads (I : Inv X pins σ H s) (fh : Le F H) (sm : SmOk F) : ∀ {d : D} {v : V} {q : PyData} {u : Value}, Rep X.K L F ι d v → toP d = some q → RelV v u → ∃ as, Reads s.heap u q as ∧ sysModules ∉ as
  | .non, _, _, _, r, e, ru => by cases r; cases e; cases ru; exact ⟨_, .none, by simp⟩
  | .bl b, _, _, _, r, e, ru => by cases r; cases e; cases ru; exact ⟨_, .bool b, by simp⟩
  | .int i, _, _, _, r, e, ru => by cases r; cases e; obtain ⟨t, rfl⟩ := ru; exact ⟨_, .int i t, by simp⟩
  | .str i, _, _, _, r, e, ru => by cases r; cases e; obtain ⟨t, rfl⟩ := ru; exact ⟨_, .str i t, by simp⟩
  | .tup xs, _, _, _, r, e, ru => by
    cases r with
    | tup hs rs =>
      have e' : (toPs xs).map PyData.tuple = some _ := e
      obtain ⟨qs, e1, rfl⟩ := Option.map_eq_some_iff.mp e'
      obtain ⟨its, vals, ⟨o, h1, h2, n, h3⟩, _⟩ := I.tuple (fh.sqT hs)
      obtain ⟨as, ra, na⟩ := Reps.readsAll I fh sm rs e1 vals
      cases ru
      exact ⟨as, .tuple h1 h2 h3 (by simpa using ra), na⟩
  | .lst xs, _, _, _, r, e, ru => by
    cases r with
    | @lst a _ vs hs rs =>
      have e' : (toPs xs).map PyData.list = some _ := e
      obtain ⟨qs, e1, rfl⟩ := Option.map_eq_some_iff.mp e'
      obtain ⟨_, its, n, vals, h1⟩ : vs.length ≤ sizeLine ∧ ∃ (its : List Value) (n : Nat), Vals vs its ∧ s.heap.get? a = some { cls := .type "list", data := .seq its.toArray n } := I.hok a _ (fh _ _ hs)
      obtain ⟨as, ra, na⟩ := Reps.readsAll I fh sm rs e1 vals
      cases ru
      refine ⟨a :: as, .list h1 rfl rfl (by simpa using ra), ?_⟩
      intro hm
      rcases List.mem_cons.mp hm with z | z
      · exact sm.1 _ (by rw [z]; exact hs)
      · exact na z
  | .dct kvs, _, _, _, r, e, ru => by
    cases r with
    | @dct a _ ks hs rs =>
      have e' : (toPk kvs).map PyData.dict = some _ := e
      obtain ⟨qs, e1, rfl⟩ := Option.map_eq_some_iff.mp e'
      obtain ⟨_, _, ws, hkv, o, es, ep, h1, ex, h3, _, prs, _⟩ := dk_of I.hok (fh _ _ hs)
      obtain ⟨as, ra, rb, na⟩ := RepK.readsAll I fh sm rs e1 hkv prs
      cases ru
      refine ⟨a :: [] ++ as, .dict h1 ex.1 h3 ra rb, ?_⟩
      intro hm
      rcases List.mem_cons.mp hm with z | z
      · exact sm.2 _ (by rw [z]; exact hs)
      · exact na z
  | .dcn _, _, _, _, _, e, _ => by cases e
  | .obj _ _, _, _, _, _, e, _ => by cases e
  | .exc _ _, _, _, _, _, e, _ => by cases e
  | .loc _, _, _, _, _, e, _ => by cases e
  | .clo _ _, _, _, _, _, e, _ => by cases e
  | .frz _, _, _, _, _, e, _ => by cases e
theorem Reps.readsAll (I : Inv X pins σ H s) (fh : Le F H) (sm : SmOk F) : ∀ {d : List D} {v : List V} {q : List PyData} {us : List Value}, Reps X.K L F ι d v → toPs d = some q → Vals v us → ∃ as, ReadsAll s.heap us q as ∧ sysModules ∉ as
  | [], _, _, _, r, e, ru => by cases r; cases e; cases ru; exact ⟨_, .nil, by simp⟩
  | x :: xs, _, _, _, r, e, ru => by
    cases r with
    | cons a b =>
      cases ru with
      | cons r1 r2 =>
        unfold toPs at e
        split at e
        · rename_i q qs e1 e2
          cases e
          obtain ⟨as, h1, n1⟩ := Rep.reads I fh sm a e1 r1
          obtain ⟨bs, h2, n2⟩ := Reps.readsAll I fh sm b e2 r2
          exact ⟨as ++ bs, .cons h1 h2, by simp [n1, n2]⟩
        · cases e
theorem RepK.readsAll (I : Inv X pins σ H s) (fh : Le F H) (sm : SmOk F) : ∀ {kvs : List (D × D)} {ks : List (Key × V)} {q : List (PyData × PyData)} {ws : List (Key × Value)} {es : List DictEntry}, RepK X.K L F ι kvs ks → toPk kvs = some q → KV ks ws →
    PySem.Pairs (mixKind X.prog X.w) es ws → ∃ bs, ReadsAll s.heap (es.map (·.key)) (q.map (·.1)) [] ∧ ReadsAll s.heap (es.map (·.val)) (q.map (·.2)) bs ∧ sysModules ∉ bs
  | [], _, _, _, _, r, e, kv, pr => by cases r; cases e; cases kv; cases pr; exact ⟨_, .nil, .nil, by simp⟩
  | (k, d) :: rest, _, _, _, _, r, e, kv, pr => by
    cases r with
    | cons a b c =>
      cases kv with
      | cons k1 k2 =>
        cases pr with
        | cons p1 p2 p3 =>
          unfold toPk at e
          split at e
          · rename_i q1 q2 qs e1 e2 e3
            cases e
            obtain ⟨bs, h1, h2, n2⟩ := RepK.readsAll I fh sm c e3 k2 p3
            have z := k1.1
            simp only at z
            subst z
            have hk : Reads s.heap _ q1 [] := hr_key a e1 p1
            obtain ⟨as, h3, n3⟩ := Rep.reads I fh sm b e2 k1.2
            refine ⟨as ++ bs, ?_, ?_, by simp [n3, n2]⟩
            · exact ReadsAll.cons (as := []) (bs := []) hk h1
            · refine ReadsAll.cons ?_ h2
              simp only [p2]
              exact h3
          · cases e
end
end
end Lm
set_option Elab.async false
set_option linter.all false
set_option maxRecDepth 100000
set_option maxHeartbeats 1000000
namespace Lm
open PySem PySem.Spec PyProof.Rows L2
section
/-- a tuple beside a dict: both decline -/
theorem tup_no_dict (p q : Addr) (its : Array Value) (m : Nat) (es : Array DictEntry) (ep : Nat) (d1 d2 : Option Addr) (s1 s2 : Array (Option Value)) :
    Meets (Builtin.«tuple.__eq__» ⟨[.ref p, .ref q], []⟩) (fun _ R s => s.heap.get? p = some { cls := .type "tuple", dict := d1, data := .seq its m, slots := s1 } ∧ s.heap.get? q = some { cls := .type "dict", dict := d2, data := .dict es ep, slots := s2 } ∧ R (.ok (.ret .notImplemented)) s) :=
  .of_wp fun prog w A R s h => by
    obtain ⟨hp, g, d, tk, os⟩ := s
    obtain ⟨h1, h2, h⟩ := h
    have f1 := F.sub_dict_tuple
    wp_walk using wpAny_loadPart' h1, wpAny_loadPart' h2
    exact ⟨_, rfl, h⟩
theorem dict_no_tup (q p : Addr) (its : Array Value) (m : Nat) (es : Array DictEntry) (ep : Nat) (d1 d2 : Option Addr) (s1 s2 : Array (Option Value)) :
    Meets (Builtin.«dict.__eq__» ⟨[.ref q, .ref p], []⟩) (fun _ R s => s.heap.get? p = some { cls := .type "tuple", dict := d1, data := .seq its m, slots := s1 } ∧ s.heap.get? q = some { cls := .type "dict", dict := d2, data := .dict es ep, slots := s2 } ∧ R (.ok (.ret .notImplemented)) s) :=
  .of_wp fun prog w A R s h => by
    obtain ⟨hp, g, d, tk, os⟩ := s
    obtain ⟨h1, h2, h⟩ := h
    have f1 := F.sub_tuple_dict
    wp_walk using wpAny_loadPart' h1, wpAny_loadPart' h2
    exact ⟨_, rfl, h⟩

variable {A : Around} {s : Shared} {p q : Addr} {its jts : Array Value}
def DictAt (s : Shared) (q : Addr) : Prop := ∃ o es ep, s.heap.get? q = some o ∧ o.cls = .type "dict" ∧ o.data = .dict es ep
theorem td_ne (hp : s.heap.IsTuple p its) (hq : DictAt s q) : p ≠ q := fun e => by
  subst e
  obtain ⟨o, h1, h2, _⟩ := hp
  obtain ⟨o', es, ep, h3, h4, _⟩ := hq
  rw [h1] at h3
  cases h3
  rw [h2] at h4
  exact absurd h4 (by simp)
theorem eq_td (hp : s.heap.IsTuple p its) (hq : DictAt s q) (hu : A.units < cLine) : SeqAt.EqAt A s (.ref p) (.ref q) false := by
  have hne := td_ne hp hq
  refine .of_refs hne fun prog w E Q h => ?_
  obtain ⟨⟨c1, d1, t1, s1⟩, h1, e1, m, e2⟩ := id hp
  obtain ⟨⟨c2, d2, t2, s2⟩, es, ep, h2, e3, e4⟩ := id hq
  dsimp only at e1 e2 e3 e4
  subst e1 e2 e3 e4
  exact SeqAt.rc_eq_decline_or (k := false) ⟨_, h1, rfl⟩ ⟨_, h2, rfl⟩ (by decide) F.sub_dict_tuple F.slot_tuple_eq F.slot_dict_eq_refl
    (fun _ z => call_meets F.slot_tuple_eq ⟨_, h1, rfl⟩ F.entry_tuple_eq (F.args_tuple_eq_2 _ _) (tup_no_dict p q its m es ep d1 d2 s1 s2) ⟨h1, h2, z⟩)
    (fun _ z => call_meets F.slot_dict_eq_refl ⟨_, h2, rfl⟩ F.entry_dict_eq (F.args_dict_eq_2 _ _) (dict_no_tup q p its m es ep d1 d2 s1 s2) ⟨h1, h2, z⟩)
    (fun _ z => SeqAt.wpAny_isSame_ref_other' hne h1 h2 (by simp) z) (.inr hu) h
/-- two tuples whose first items are a tuple and a dict -/
theorem eq_tt {c d : Addr} {kts : Array Value} (hp : s.heap.IsTuple p its) (hq : s.heap.IsTuple q jts) (hu : A.units + 1 < cLine) (h0 : its[0]? = some (.ref c)) (h1 : jts[0]? = some (.ref d)) (hc : s.heap.IsTuple c kts) (hd : DictAt s d)
    (hr : ∀ j (h1 : j < its.size) (h2 : j < jts.size), 0 < j → ∃ b, SeqAt.EqAt A.in1 s its[j] jts[j] b) : SeqAt.EqAt A s (.ref p) (.ref q) false := by
  obtain ⟨l0, e0⟩ := Array.getElem?_eq_some_iff.mp h0
  obtain ⟨l1, e1⟩ := Array.getElem?_eq_some_iff.mp h1
  have hne : p ≠ q := fun e => by
    subst e
    obtain ⟨o, a1, a2, m, a3⟩ := hp
    obtain ⟨o', b1, b2, m', b3⟩ := hq
    rw [a1] at b1
    cases b1
    rw [a3] at b3
    cases b3
    rw [h0] at h1
    cases h1
    exact td_ne hc hd rfl
  let f : Nat → Bool := fun j => if z : j < its.size ∧ j < jts.size ∧ 0 < j then (hr j z.1 z.2.1 z.2.2).choose else false
  have key : ∀ j (h1 : j < its.size) (h2 : j < jts.size), SeqAt.EqAt A.in1 s its[j] jts[j] (f j) := fun j z1 z2 => by
    by_cases hj : 0 < j
    · have : f j = (hr j z1 z2 hj).choose := dif_pos ⟨z1, z2, hj⟩
      rw [this]
      exact (hr j z1 z2 hj).choose_spec
    · have e2 : j = 0 := by omega
      subst e2
      have : f 0 = false := dif_neg fun z => hj z.2.2
      rw [this, e0, e1]
      exact eq_td hc hd (by show A.units + 1 < cLine; exact hu)
  have big := SeqAt.RcAt.tuples hp hq (by omega) key
  have ef : ((List.range (min its.size jts.size)).all f && its.size == jts.size) = false := by
    have : (List.range (min its.size jts.size)).all f = false := by
      rw [List.all_eq_false]
      exact ⟨0, List.mem_range.mpr (by omega), by rw [show f 0 = false from dif_neg fun z => absurd z.2.2 (by omega)]; simp⟩
    rw [this]; rfl
  rw [ef] at big
  exact .of_refs hne big
end
/-- z is surely no x -/
inductive NeqW (K : PySem.W.Frag) (H : Hp) : V → V → Prop
  | td {a b : Addr} {xs : List V} {ks : List (Key × V)} : SqT K H a xs → H b = some (.dK ks) → NeqW K H (.ref a) (.ref b)
  | tt {a b c d : Addr} {xs ys zs : List V} {ks : List (Key × V)} : SqT K H a (.ref c :: xs) → SqT K H b (.ref d :: ys) → SqT K H c zs → H d = some (.dK ks) →
      (∀ (j : Nat) (x y : V), xs[j]? = some x → ys[j]? = some y → ∃ p q, Dp K H x p ∧ Dp K H y q ∧ SeqAt.shaped p = true ∧ SeqAt.shaped q = true) → NeqW K H (.ref a) (.ref b)
section
variable {X : Cx} {pins : List (Addr × Obj)} {σ : L2.St} {H : Hp} {s : Shared} {A : Around}
theorem dict_at {b : Addr} {ks : List (Key × V)} (I : Inv X pins σ H s) (h : H b = some (.dK ks)) : DictAt s b := by
  obtain ⟨_, _, ws, hkv, o, es, ep, h1, ex, h3, _⟩ := dk_of I.hok h
  exact ⟨o, es, ep, h1, ex.1, h3⟩
theorem vals_at {xs : List V} {us : List Value} (r : Vals xs us) : ∀ {j : Nat} {u : Value}, us[j]? = some u → ∃ x, xs[j]? = some x ∧ RelV x u := by
  induction r with
  | nil => intro j u h; cases h
  | cons a _ ih =>
    intro j u h
    cases j with
    | zero => cases h; exact ⟨_, rfl, a⟩
    | succ j => exact ih h
theorem NeqW.at {z x : V} {v u : Value} (I : Inv X pins σ H s) (hu : A.units + 65 < cLine) (h : NeqW X.K H z x) (rz : RelV z v) (rx : RelV x u) : SeqAt.EqAt A s v u false := by
  cases h with
  | td h1 h2 =>
    cases rz; cases rx
    obtain ⟨its, vals, it, _⟩ := I.tuple h1
    exact eq_td it (dict_at I h2) (by omega)
  | @tt a b c d xs ys zs ks h1 h2 h3 h4 h5 =>
    cases rz; cases rx
    obtain ⟨its, v1, i1, _⟩ := I.tuple h1
    obtain ⟨jts, v2, i2, _⟩ := I.tuple h2
    obtain ⟨kts, v3, i3, _⟩ := I.tuple h3
    cases v1 with
    | @cons _ uc _ uxs rc rxs =>
      cases v2 with
      | @cons _ ud _ uys rd rys =>
        cases rc; cases rd
        refine eq_tt i1 i2 (by omega) rfl rfl i3 (dict_at I h4) fun j l1 l2 hj => ?_
        obtain ⟨i, rfl⟩ : ∃ i, j = i + 1 := ⟨j - 1, by omega⟩
        have l1' : i < uxs.length := by simpa using l1
        have l2' : i < uys.length := by simpa using l2
        obtain ⟨x, e1, r1⟩ := vals_at rxs (List.getElem?_eq_getElem l1')
        obtain ⟨y, e2, r2⟩ := vals_at rys (List.getElem?_eq_getElem l2')
        obtain ⟨p, q, d1, d2, s1, s2⟩ := h5 i x y e1 e2
        obtain ⟨as, ra⟩ := Dp.reads I p x _ d1 r1
        obtain ⟨bs, rb⟩ := Dp.reads I q y _ d2 r2
        refine ⟨PyData.eqv p q, ?_⟩
        exact SeqAt.eqAt_reads p q A.in1 s _ _ as bs (by simpa using ra) (by simpa using rb) (SeqAt.canLay_of_shaped s1) (SeqAt.canLay_of_shaped s2) (SeqAt.room_of_shaped s1 (by show A.units + 1 + 64 < cLine; omega))
/-- x in a list of which nothing is x -/
def rInW (K : PySem.W.Frag) : R2 := fun x y H Q => ∃ (a : Addr) (zs : List V), y = .ref a ∧ SqL K H a zs ∧ (∀ z ∈ zs, NeqW K H z x) ∧ Q (.bl false) H
theorem op_inW {X : Cx} (hu : X.A.units + 66 < cLine) : OpR X (compareOp .In) (rInW X.K) := by
  intro pins s σ H x y v u Q I rx ry h
  obtain ⟨a, zs, rfl, hs, hn, q⟩ := h
  cases ry
  obtain ⟨its, vals, hl, _⟩ := I.list hs
  have he : ∀ w, w ∈ its.toArray → SeqAt.EqAt X.A.in1 s w v ((fun _ => false) w) := fun w hw => by
    have hw' : w ∈ its := by simpa using hw
    obtain ⟨j, hj, rfl⟩ := List.mem_iff_getElem.mp hw'
    obtain ⟨z, e1, r1⟩ := vals_at vals (List.getElem?_eq_getElem hj)
    exact (hn z (List.mem_of_getElem? e1)).at I (by show X.A.units + 1 + 65 < cLine; omega) r1 rx
  refine SeqAt.in_listAt (fun _ => false) hl.isList he ?_
  have : (its.toArray.any fun _ => false) = false := by simp
  rw [this]
  exact ⟨.bl false, H, I, rfl, q⟩
/-- lists of unlike length -/
def rEqL (K : PySem.W.Frag) (neg : Bool) : R2 := fun x y H Q => ∃ (a b : Addr) (xs ys : List V), x = .ref a ∧ y = .ref b ∧ SqL K H a xs ∧ SqL K H b ys ∧ xs.length ≠ ys.length ∧ Q (.bl neg) H
theorem op_eqL {X : Cx} (hu : X.A.units < cLine) : OpR X (compareOp .Eq) (rEqL X.K false) := by
  intro pins s σ H x y v u Q I rx ry h
  obtain ⟨a, b, xs, ys, rfl, rfl, h1, h2, hne, q⟩ := h
  cases rx; cases ry
  obtain ⟨its, v1, l1, _⟩ := I.list h1
  obtain ⟨jts, v2, l2, _⟩ := I.list h2
  refine SeqAt.eq_list_lengthsAt l1.isList l2.isList ?_ hu ⟨.bl false, H, I, rfl, q⟩
  have e1 := v1.length
  have e2 := v2.length
  simp only [List.size_toArray, bne_iff_ne, ne_eq]
  omega
theorem op_neL {X : Cx} (hu : X.A.units < cLine) : OpR X (compareOp .NotEq) (rEqL X.K true) := by
  intro pins s σ H x y v u Q I rx ry h
  obtain ⟨a, b, xs, ys, rfl, rfl, h1, h2, hne, q⟩ := h
  cases rx; cases ry
  obtain ⟨its, v1, l1, _⟩ := I.list h1
  obtain ⟨jts, v2, l2, _⟩ := I.list h2
  have hz : (its.toArray.size != jts.toArray.size) = true := by
    have e1 := v1.length
    have e2 := v2.length
    simp only [List.size_toArray, bne_iff_ne, ne_eq]
    omega
  exact SeqAt.RcNeAt.lists_lengths l1.isList l2.isList hz hu X.prog X.w _ _ ⟨.bl true, H, I, rfl, q⟩
end
end Lm
set_option Elab.async false
set_option linter.all false
set_option maxRecDepth 100000
set_option maxHeartbeats 1000000
namespace Lm
open PySem PySem.Spec PyProof.Rows L2
/-! ### a dict beside an empty one -/
section
variable {prog : Program} {w : World} {A : Around} {E : Value → Shared → Prop} {s : Shared}
theorem samePairs0 {nm : String} {a b : Addr} {es es' : Array DictEntry} {ep ep' : Nat} {Q : Bool → Shared → Prop} (ha : (a == sysModules) = false) (hb : (b == sysModules) = false)
    (da : s.heap.DictRaw a es ep) (db : s.heap.DictRaw b es' ep') (h0 : es'.size = 0) (h : Q (decide (es.size = 0)) s) : wpAny (model prog w) A (Builtin.Dict.samePairs nm a b) Q E s := by
  obtain ⟨oa, hoa, _, hda⟩ := da
  obtain ⟨ob, hob, _, hdb⟩ := db
  unfold Builtin.Dict.samePairs Builtin.Dict.showsAll
  rw [if_neg (show ¬ (a == sysModules) = true by rw [ha]; exact Bool.false_ne_true), if_neg (show ¬ (b == sysModules) = true by rw [hb]; exact Bool.false_ne_true)]
  refine wpAny_bind (wpAny_pure (wpAny_bind (wpAny_pure ?_)))
  refine wpAny_bind (wpAny_dictEntries hoa hda ?_)
  dsimp only
  refine wpAny_bind (wpAny_dictEntries hob hdb ?_)
  by_cases hsz : es.size = es'.size
  case neg =>
    rw [if_pos (by simpa using hsz)]
    have : decide (es.size = 0) = false := decide_eq_false (by omega)
    rw [this] at h
    exact wpAny_bind (wpAny_rule (wpAny_pure h))
  case pos =>
    have e0 : es.size = 0 := hsz.trans h0
    rw [if_neg (by rw [hsz]; simp)]
    refine wpAny_bind (wpAny_dictEpoch hoa hda ?_)
    refine wpAny_bind ?_
    rw [Std.Legacy.Range.forIn_eq_forIn_range']
    simp only [Std.Legacy.Range.size, Nat.sub_zero, Nat.add_sub_cancel, Nat.div_one, e0, List.range'_zero, List.forIn_nil]
    refine wpAny_pure (wpAny_pure ?_)
    simpa [e0] using h
theorem rcEq0 {a b : Addr} {es es' : Array DictEntry} {ep ep' : Nat} {Q : Value → Shared → Prop} (ha : (a == sysModules) = false) (hb : (b == sysModules) = false)
    (da : s.heap.DictRaw a es ep) (db : s.heap.DictRaw b es' ep') (h0 : es'.size = 0) (hu : A.units < cLine) (h : Q (.bool (decide (es.size = 0))) s) : wpAny (model prog w) A (compareOp .Eq (.ref a) (.ref b)) Q E s := by
  refine wpAny_richCompare_same_room (op := .Eq) da.typeIs db.typeIs PySem.F.slot_dict_eq (wpAny_call_entry PySem.F.slot_dict_eq da.typeIs PySem.F.entry_dict_eq ?_ (PySem.F.args_dict_eq_2 _ _)) hu
  show wpAny _ _ (Builtin.Dict.dictSlotArgs "__eq__" ⟨[.ref a, .ref b], []⟩ >>= _) _ _ s
  refine wpAny_bind ?_
  unfold Builtin.Dict.dictSlotArgs
  refine wpAny_bind (wpAny_notOrdered_dict da.typeIs ?_)
  show wpAny _ _ (pure (Value.ref a, Value.ref b)) _ _ s
  refine wpAny_pure ?_
  refine wpAny_bind (wpAny_isInstance (T := "dict") db.typeIs PySem.F.sub_dict_dict ?_)
  simp only [Bool.not_true, Bool.false_eq_true, if_false]
  refine wpAny_bind (wpAny_pure (wpAny_bind (wpAny_pure ?_)))
  refine wpAny_bind (samePairs0 ha hb da db h0 ?_)
  refine wpAny_pure ⟨_, rfl, ?_, ?_⟩
  · exact fun x => nomatch x
  · simpa using h
theorem rcNe0 {a b : Addr} {es es' : Array DictEntry} {ep ep' : Nat} {Q : Value → Shared → Prop} (ha : (a == sysModules) = false) (hb : (b == sysModules) = false)
    (da : s.heap.DictRaw a es ep) (db : s.heap.DictRaw b es' ep') (h0 : es'.size = 0) (hu : A.units < cLine) (h : Q (.bool (!decide (es.size = 0))) s) : wpAny (model prog w) A (compareOp .NotEq (.ref a) (.ref b)) Q E s := by
  refine wpAny_richCompare_same_room (op := .NotEq) da.typeIs db.typeIs PySem.F.slot_dict_ne (wpAny_call_entry PySem.F.slot_dict_ne da.typeIs PySem.F.entry_dict_ne ?_ (PySem.F.args_dict_ne_2 _ _)) hu
  show wpAny _ _ (Builtin.Dict.dictSlotArgs "__ne__" ⟨[.ref a, .ref b], []⟩ >>= _) _ _ s
  refine wpAny_bind ?_
  unfold Builtin.Dict.dictSlotArgs
  refine wpAny_bind (wpAny_notOrdered_dict da.typeIs ?_)
  show wpAny _ _ (pure (Value.ref a, Value.ref b)) _ _ s
  refine wpAny_pure ?_
  refine wpAny_bind (wpAny_isInstance (T := "dict") db.typeIs PySem.F.sub_dict_dict ?_)
  simp only [Bool.not_true, Bool.false_eq_true, if_false]
  refine wpAny_bind (wpAny_pure (wpAny_bind (wpAny_pure ?_)))
  refine wpAny_bind (samePairs0 ha hb da db h0 ?_)
  refine wpAny_pure ⟨_, rfl, ?_, ?_⟩
  · exact fun x => nomatch x
  · simpa using h
end
/-- any dict, with as many entries -/
def DAny (K : PySem.W.Frag) (w : World) (H : Hp) (a : Addr) (n : Nat) : Prop := (∃ ks, H a = some (.dK ks) ∧ ks.length = n) ∨ ∃ xs, NAt K w H a xs ∧ xs.length = n
section
variable {X : Cx} {pins : List (Addr × Obj)} {σ : L2.St} {H : Hp} {s : Shared} {a : Addr} {n : Nat}
theorem DAny.raw (I : Inv X pins σ H s) (h : DAny X.K X.w H a n) : (a == sysModules) = false ∧ ∃ es ep, s.heap.DictRaw a es ep ∧ es.size = n := by
  rcases h with ⟨ks, h, rfl⟩ | ⟨xs, h, rfl⟩
  · obtain ⟨_, hm, vs, rel, dd⟩ := dk_of I.hok h
    obtain ⟨es, ep, r, hs, _⟩ := dd.raw
    exact ⟨hm, es, ep, r, by rw [hs, rel.length]⟩
  · obtain ⟨_, hm, ys, pr, dd⟩ := h.of I
    obtain ⟨es, ep, r, hs, _⟩ := dd.raw
    exact ⟨hm, es, ep, r, by rw [hs, Paired.length pr]⟩
def rEq0 (K : PySem.W.Frag) (w : World) (neg : Bool) : R2 := fun x y H Q => ∃ a b n, x = .ref a ∧ y = .ref b ∧ DAny K w H a n ∧ DAny K w H b 0 ∧ Q (.bl (if neg then !decide (n = 0) else decide (n = 0))) H
theorem op_eq0 (hu : X.A.units < cLine) : OpR X (compareOp .Eq) (rEq0 X.K X.w false) := by
  intro pins s σ H x y v u Q I rx ry h
  obtain ⟨a, b, n, rfl, rfl, ha, hb, q⟩ := h
  cases rx; cases ry
  obtain ⟨h1, es, ep, r, rfl⟩ := ha.raw I
  obtain ⟨h2, es', ep', r', h0⟩ := hb.raw I
  exact rcEq0 h1 h2 r r' h0 hu ⟨.bl _, H, I, rfl, q⟩
theorem op_ne0 (hu : X.A.units < cLine) : OpR X (compareOp .NotEq) (rEq0 X.K X.w true) := by
  intro pins s σ H x y v u Q I rx ry h
  obtain ⟨a, b, n, rfl, rfl, ha, hb, q⟩ := h
  cases rx; cases ry
  obtain ⟨h1, es, ep, r, rfl⟩ := ha.raw I
  obtain ⟨h2, es', ep', r', h0⟩ := hb.raw I
  exact rcNe0 h1 h2 r r' h0 hu ⟨.bl _, H, I, rfl, q⟩
/-! ### in, not in -/
def rNIn (K : PySem.W.Frag) (w : World) (neg : Bool) : R2 := fun x y H Q => ∃ a xs k, y = .ref a ∧ NAt K w H a xs ∧ NKey K H k x ∧ Q (.bl (if neg then !(valN xs k).isSome else (valN xs k).isSome)) H
theorem op_nIn (hu : X.A.units + 1 + 8 < cLine) : OpR X (compareOp .In) (rNIn X.K X.w false) := by
  intro pins s σ H x y v u Q I rx ry h
  obtain ⟨a, xs, k, rfl, h, hk, q⟩ := h
  cases ry
  exact n_in hu I h hk rx fun s' I' => ⟨.bl _, H, I', rfl, q⟩
theorem op_nNotIn (hu : X.A.units + 1 + 8 < cLine) : OpR X (compareOp .NotIn) (rNIn X.K X.w true) := by
  intro pins s σ H x y v u Q I rx ry h
  obtain ⟨a, xs, k, rfl, h, hk, q⟩ := h
  cases ry
  exact n_notIn hu I h hk rx fun s' I' => ⟨.bl _, H, I', rfl, q⟩
/-! ### order of data -/
/-- the value reads as the data, in every state that is so -/
def RdX (X : Cx) (H : Hp) (v : V) (p : PyData) : Prop := ∀ (pins : List (Addr × Obj)) (σ : L2.St) (s : Shared) (u : Value), Inv X pins σ H s → RelV v u → ∃ as, Reads s.heap u p as
theorem RdX.of {L : Lk} {G F : Hp} {ι : List Addr} {env : Env} {μ : Sto} {σ0 : L2.St} {d : D} {v : V} {p : PyData} (sr : SR X.K L G F ι env μ σ0 H) (r : RepB X.K L F ι H d v) (e : toP d = some p) : RdX X H v p := fun pins σ s u I ru => by
  have rH := r.inH sr (fun c fs z => by rw [z] at e; cases e)
  obtain ⟨as, h, _⟩ := rH.reads I (Le.refl H) sr.smH e ru
  exact ⟨as, h⟩
def rLt (X : Cx) (gt : Bool) : R2 := fun x y H Q => ∃ p q, RdX X H x p ∧ RdX X H y q ∧ PySem.W.alike p q = true ∧ p ≠ .none ∧ p.depth ≤ 50 ∧ Q (.bl (if gt then PySem.W.dataLt q p else PySem.W.dataLt p q)) H
theorem op_ltD (hu : X.A.units + 66 < cLine) : OpR X (compareOp .Lt) (rLt X false) := by
  intro pins s σ H x y v u Q I rx ry h
  obtain ⟨p, q, h1, h2, h3, h4, h5, k⟩ := h
  obtain ⟨as, r1⟩ := h1 _ _ _ _ I rx
  obtain ⟨bs, r2⟩ := h2 _ _ _ _ I ry
  exact PySem.W.lt_data r1 r2 h3 h4 (by have := Nat.min_le_left p.depth q.depth; omega) ⟨.bl _, H, I, rfl, k⟩
theorem op_gtD (hu : X.A.units + 66 < cLine) : OpR X (compareOp .Gt) (rLt X true) := by
  intro pins s σ H x y v u Q I rx ry h
  obtain ⟨p, q, h1, h2, h3, h4, h5, k⟩ := h
  obtain ⟨as, r1⟩ := h1 _ _ _ _ I rx
  obtain ⟨bs, r2⟩ := h2 _ _ _ _ I ry
  exact PySem.W.gt_data r1 r2 h3 h4 (by have := Nat.min_le_left p.depth q.depth; omega) ⟨.bl _, H, I, rfl, k⟩
end
end Lm
set_option Elab.async false
set_option linter.all false
set_option maxRecDepth 100000
set_option maxHeartbeats 1000000
namespace Lm
open PySem PySem.Spec PyProof.Rows L2
section
variable {K : PySem.W.Frag} {X : Cx} {L : Lk} {G F F' H H' : Hp} {ι ι' : List Addr} {env : Env} {μ : Sto} {σ : L2.St} {p : Addr} {Q : VK}
/-! ### data -/
theorem canLayAll_cons {p : PyData} {ps : List PyData} (h : PyData.canLayAll0 (p :: ps) = true) : p.canLay0 = true ∧ PyData.canLayAll0 ps = true := by simpa [PyData.canLayAll0] using h
mutual
theorem Rep.dp : ∀ {d : D} {v : V} {q : PyData}, Rep K L F ι d v → toP d = some q → q.canLay0 = true → Dp K F v q
  | .non, _, _, r, e, _ => by cases r; cases e; exact .non
  | .bl b, _, _, r, e, _ => by cases r; cases e; exact .bl b
  | .int i, _, _, r, e, _ => by cases r; cases e; exact .int i
  | .str s, _, _, r, e, _ => by cases r; cases e; exact .str s
  | .tup xs, _, _, r, e, h => by
    cases r with
    | tup hs rs =>
      have e' : (toPs xs).map PyData.tuple = some _ := e
      obtain ⟨qs, e1, rfl⟩ := Option.map_eq_some_iff.mp e'
      exact .tup hs (Reps.dps rs e1 (by simpa [PyData.canLay0] using h))
  | .lst xs, _, _, r, e, h => by
    cases r with
    | lst hs rs =>
      have e' : (toPs xs).map PyData.list = some _ := e
      obtain ⟨qs, e1, rfl⟩ := Option.map_eq_some_iff.mp e'
      exact .lst (SqL.of hs) (Reps.dps rs e1 (by simpa [PyData.canLay0] using h))
  | .dct kvs, _, _, r, e, h => by
    have e' : (toPk kvs).map PyData.dict = some _ := e
    obtain ⟨qs, e1, rfl⟩ := Option.map_eq_some_iff.mp e'
    exact absurd h (by simp [PyData.canLay0])
  | .dcn _, _, _, _, e, _ => by cases e
  | .obj _ _, _, _, _, e, _ => by cases e
  | .exc _ _, _, _, _, e, _ => by cases e
  | .loc _, _, _, _, e, _ => by cases e
  | .clo _ _, _, _, _, e, _ => by cases e
  | .frz _, _, _, _, e, _ => by cases e
theorem Reps.dps : ∀ {d : List D} {v : List V} {q : List PyData}, Reps K L F ι d v → toPs d = some q → PyData.canLayAll0 q = true → DpAll K F v q
  | [], _, _, r, e, _ => by cases r; cases e; exact .nil
  | x :: xs, _, _, r, e, h => by
    cases r with
    | cons a b =>
      unfold toPs at e
      split at e
      · rename_i p ps e1 e2
        cases e
        obtain ⟨h1, h2⟩ := canLayAll_cons h
        exact .cons (Rep.dp a e1 h1) (Reps.dps b e2 h2)
      · cases e
end
mutual
theorem Dp.mono (e : Le F F') : ∀ {v : V} {q : PyData}, Dp K F v q → Dp K F' v q
  | _, _, .non => .non
  | _, _, .bl b => .bl b
  | _, _, .int i => .int i
  | _, _, .str s => .str s
  | _, _, .lst h r => .lst (e.sqL h) (DpAll.mono e r)
  | _, _, .tup h r => .tup (e.sqT h) (DpAll.mono e r)
theorem DpAll.mono (e : Le F F') : ∀ {v : List V} {q : List PyData}, DpAll K F v q → DpAll K F' v q
  | _, _, .nil => .nil
  | _, _, .cons a b => .cons (Dp.mono e a) (DpAll.mono e b)
end
theorem canLay_of {q : PyData} (h : SeqAt.shaped q = true) : q.canLay0 = true := (Bool.and_eq_true_iff.mp h).1
theorem RepB.dp {d : D} {v : V} {q : PyData} (sr : SR K L G F ι env μ σ H) (r : RepB K L F ι H d v) (e : toP d = some q) (h : q.canLay0 = true) : Dp K H v q := by
  rcases r with r | ⟨o, ho, a, e1, rfl, h1, ro⟩
  · exact Lm.Dp.mono sr.f (r.dp e h)
  · subst e1
    cases ro with
    | lst rs =>
      rename_i xs vs
      have e' : (toPs xs).map PyData.list = some _ := e
      obtain ⟨qs, e1, rfl⟩ := Option.map_eq_some_iff.mp e'
      exact .lst (SqL.of h1) (Lm.DpAll.mono sr.f (rs.dps e1 (by simpa [PyData.canLay0] using h)))
    | dct rs =>
      rename_i kvs ks
      have e' : (toPk kvs).map PyData.dict = some _ := e
      obtain ⟨qs, e1, rfl⟩ := Option.map_eq_some_iff.mp e'
      exact absurd h (by simp [PyData.canLay0])
    | dcn rs => cases e
    | ins c r => cases e
theorem eqD_some {a b : D} {r : Bool} (e : eqD a b = some r) : ∃ p q, toP a = some p ∧ toP b = some q ∧ SeqAt.shaped p = true ∧ SeqAt.shaped q = true ∧ r = PyData.eqv p q := by
  unfold eqD at e
  split at e
  · rename_i p q h1 h2
    split at e
    · rename_i h3
      rw [Bool.and_eq_true] at h3
      cases e
      exact ⟨p, q, h1, h2, h3.1, h3.2, rfl⟩
    · cases e
  · cases e
/-! ### comparisons -/
def copOf : Cop → CmpOp | .eq => .Eq | .ne => .NotEq | .lt => .Lt | .le => .LtE | .gt => .Gt | .ge => .GtE | .isn => .Is | .notn => .IsNot | .inn => .In | .nin => .NotIn
def rInS (neg : Bool) : R2 := fun x y H Q => ∃ (c : Nat) (z : Str), x = .str ⟨#[c]⟩ ∧ y = .str z ∧ Q (.bl (if neg then !decide (c ∈ z.cps.toList) else decide (c ∈ z.cps.toList))) H
def rDIn (neg : Bool) : R2 := fun x y H Q => ∃ a o, y = .ref a ∧ DGet H a x o ∧ Q (.bl (if neg then !o.isSome else o.isSome)) H
/-- x not in a tuple -/
def rNotInT (K : PySem.W.Frag) : R2 := fun x y H Q => ∃ d ds, Dp K H x d ∧ Dp K H y (.tuple ds) ∧ SeqAt.shaped d = true ∧ PyData.canLayAll0 ds = true ∧ Q (.bl (!ds.any fun z => PyData.eqv z d)) H
theorem op_notInT {X : Cx} (hu : X.A.units + 65 < cLine) : OpR X (compareOp .NotIn) (rNotInT X.K) := by
  intro pins s σ H x y v u Q I rx ry h
  obtain ⟨d, ds, hd, he, sd, se, q⟩ := h
  obtain ⟨as, r1⟩ := Dp.reads I d x v hd rx
  obtain ⟨bs, r2⟩ := Dp.reads I (.tuple ds) y u he ry
  exact SeqAt.notIn_tuple_reads r2 r1 se (SeqAt.canLay_of_shaped sd) (room_in_shaped sd hu) ⟨.bl _, H, I, rfl, q⟩
def rCmp (X : Cx) : Cop → R2
  | .eq => fun x y H Q => rEq x y H Q ∨ (rEqD X.K x y H Q ∨ (rEqL X.K false x y H Q ∨ rEq0 X.K X.w false x y H Q)) | .ne => fun x y H Q => rNe x y H Q ∨ (rNeD X.K x y H Q ∨ (rEqL X.K true x y H Q ∨ rEq0 X.K X.w true x y H Q))
  | .lt => fun x y H Q => rI0 (fun i j => .bl (decide (i < j))) x y H Q ∨ rLt X false x y H Q | .le => rI0 fun i j => .bl (decide (i ≤ j))
  | .gt => fun x y H Q => rI0 (fun i j => .bl (decide (j < i))) x y H Q ∨ rLt X true x y H Q | .ge => rI0 fun i j => .bl (decide (j ≤ i))
  | .isn => fun x y H Q => y = .non ∧ Q (.bl (decide (x = .non))) H
  | .notn => fun x y H Q => (y = .non ∧ Q (.bl (!decide (x = .non))) H) ∨ ∃ a b, x = .bl a ∧ y = .bl b ∧ Q (.bl (!decide (a = b))) H
  | .inn => fun x y H Q => rInS false x y H Q ∨ (rInD X.K x y H Q ∨ (rDIn false x y H Q ∨ (rInW X.K x y H Q ∨ (rIn X.K false x y H Q ∨ rNIn X.K X.w false x y H Q))))
  | .nin => fun x y H Q => rInS true x y H Q ∨ ((rNotInD X.K x y H Q ∨ rNotInT X.K x y H Q) ∨ (rDIn true x y H Q ∨ rNIn X.K X.w true x y H Q))
theorem op_dIn {X : Cx} (hu : X.A.units + 1 < cLine) : OpR X (compareOp .In) (rDIn false) := by
  intro pins s σ H x y v u Q I rx ry h
  obtain ⟨a, o, rfl, g, q⟩ := h
  cases ry
  exact d_in hu I g rx fun s' I' => ⟨.bl o.isSome, H, I', rfl, q⟩
theorem op_dNotIn {X : Cx} (hu : X.A.units + 1 < cLine) : OpR X (compareOp .NotIn) (rDIn true) := by
  intro pins s σ H x y v u Q I rx ry h
  obtain ⟨a, o, rfl, g, q⟩ := h
  cases ry
  exact d_notIn hu I g rx fun s' I' => ⟨.bl (!o.isSome), H, I', rfl, q⟩
theorem opr_cmp {X : Cx} (hu : X.A.units + 66 < cLine) : ∀ o : Cop, OpR X (compareOp (copOf o)) (rCmp X o)
  | .eq => op_eq.or ((op_eqD (by omega)).or ((op_eqL (by omega)).or (op_eq0 (by omega)))) | .ne => op_ne.or ((op_neD (by omega)).or ((op_neL (by omega)).or (op_ne0 (by omega))))
  | .lt => op_lt.or (op_ltD hu) | .le => op_le | .gt => op_gt.or (op_gtD hu) | .ge => op_ge
  | .isn => op_isN | .notn => op_notN.or op_isnot_bl
  | .inn => op_in_sign.or ((op_inD (by omega)).or ((op_dIn (by omega)).or ((op_inW hu).or (op_in_seq.or (op_nIn (by omega))))))
  | .nin => op_notIn_sign.or (((op_notInD (by omega)).or (op_notInT (by omega))).or ((op_dNotIn (by omega)).or (op_nNotIn (by omega))))
theorem RepK.get {kvs : List (D × D)} {ks : List (Key × V)} (r : RepK K L F ι kvs ks) (q : Key) : (∀ d, dget kvs q = some d → ∃ v, valV ks q = some v ∧ Rep K L F ι d v) ∧ (dget kvs q = none → valV ks q = none) := by
  induction kvs generalizing ks with
  | nil => cases r; exact ⟨fun d e => (by cases e), fun _ => rfl⟩
  | cons p rest ih =>
    cases r with
    | @cons k d qk v _ t hk hv hr =>
      unfold dget
      by_cases h : qk = q
      · subst h
        rw [if_pos hk, valV_pos (p := (qk, v)) rfl]
        exact ⟨fun d e => (by cases e; exact ⟨v, rfl, hv⟩), fun e => (by cases e)⟩
      · have : ¬ keyD k = some q := fun z => h (by rw [hk] at z; exact Option.some.inj z)
        rw [if_neg this, valV_neg (p := (qk, v)) h]
        exact ih hr
theorem keyD_rep {d : D} {v : V} {q : Key} (e : keyD d = some q) (r : Rep K L F ι d v) : v = kV q := by
  cases d <;> simp only [keyD, reduceCtorEq, Option.some.injEq] at e
  · subst e; cases r; rfl
  · subst e; cases r; rfl
theorem RepB.key {d : D} {v : V} {q : Key} (e : keyD d = some q) (r : RepB K L F ι H d v) : v = kV q := by
  cases d <;> simp only [keyD, reduceCtorEq, Option.some.injEq] at e
  · subst e; exact r.int
  · subst e; exact r.str
theorem isNon (d : D) {v : V} (r : RepB K L F ι H d v) : isNonD d = decide (v = .non) := by
  cases d with
  | non => cases r.non; rfl
  | _ =>
    rcases r with r | ⟨o, ho, a, e, rfl, h, ro⟩
    · cases r <;> rfl
    · rfl
theorem inL_some {x : D} {ys : List D} {b : Bool} (e : inL x ys = some b) : ∃ d ds, toP x = some d ∧ toPs ys = some ds ∧ SeqAt.shaped d = true ∧ SeqAt.shaped (.list ds) = true ∧ b = ds.any fun z => PyData.eqv z d := by
  unfold inL at e
  split at e
  · rename_i d ds h1 h2
    split at e
    · rename_i h3
      rw [Bool.and_eq_true] at h3
      cases e
      exact ⟨d, ds, h1, h2, h3.1, h3.2, rfl⟩
    · cases e
  · cases e
theorem str1 {x : Str} {c : Nat} (h : x.cps.toList = [c]) : x = ⟨#[c]⟩ := by
  obtain ⟨a⟩ := x
  simp only at h
  congr 1
  exact Array.toList_inj.mp (by rw [h])
theorem dget_at {kvs : List (D × D)} {ks : List (Key × V)} {a : Addr} {q : Key} (r : RepK K L F ι kvs ks) (ha : H a = some (.dK ks)) : ∃ o, DGet H a (kV q) o ∧ o.isSome = (dget kvs q).isSome := by
  refine ⟨valV ks q, DGet.k ha, ?_⟩
  obtain ⟨h1, h2⟩ := r.get q
  cases e : dget kvs q with
  | none => rw [h2 e]; rfl
  | some d => obtain ⟨v, e2, _⟩ := h1 d e; rw [e2]; rfl
theorem decV_str {i j : Str} : decide (V.str i = V.str j) = decide (i = j) := by
  by_cases h : i = j <;> simp [h]
theorem orE {α : Type} {a b : Option α} {r : α} (h : a.or b = some r) : a = some r ∨ b = some r := by
  cases a with
  | none => exact .inr h
  | some x => exact .inl h
theorem eqL_some {dx dy : D} {x y : V} {r : Bool} (sr : SR K L G F ι env μ σ H) (rx : RepB K L F ι H dx x) (ry : RepB K L F ι H dy y) (e : eqL dx dy = some r) :
    ∃ a b xs ys, x = .ref a ∧ y = .ref b ∧ SqL K H a xs ∧ SqL K H b ys ∧ xs.length ≠ ys.length ∧ r = false := by
  unfold eqL at e
  split at e
  · rename_i xs ys
    split at e
    · cases e
    · rename_i hne
      cases e
      obtain ⟨a, vs, rfl, h1, r1⟩ := rx.lst sr
      obtain ⟨b, ws, rfl, h2, r2⟩ := ry.lst sr
      exact ⟨a, b, vs, ws, rfl, rfl, SqL.of h1, SqL.of h2, by rw [← r1.len, ← r2.len]; exact hne, rfl⟩
  · cases e
theorem Rep.dpS {d : D} {v : V} {q : PyData} (sr : SR K L G F ι env μ σ H) (r : Rep K L F ι d v) (e : toP d = some q) (h : SeqAt.shaped q = true) : Dp K H v q := (RepB.of (H := H) r).dp sr e (canLay_of h)
theorem neqW_some {dx dy : D} {x y : V} (sr : SR K L G F ι env μ σ H) (rx : RepB K L F ι H dx x) (ry : Rep K L F ι dy y) (e : neqW dy dx = true) : NeqW K H y x := by
  unfold neqW at e
  split at e
  · rename_i ys kvs
    obtain ⟨b, ks, rfl, h2, _⟩ := rx.dct sr
    cases ry with
    | tup h1 _ => exact .td (sr.f.sqT h1) h2
  · rename_i ws ys kvs xs
    obtain ⟨b, vs, rfl, h2, r2⟩ := rx.tup sr
    cases r2 with
    | cons rd rxs =>
      cases rd with
      | dct h4 _ =>
        cases ry with
        | tup h1 r1 =>
          cases r1 with
          | cons rc rys =>
            cases rc with
            | tup h3 _ =>
              refine .tt (sr.f.sqT h1) h2 (sr.f.sqT h3) (sr.f _ _ h4) fun j u w e1 e2 => ?_
              rw [List.all_eq_true] at e
              have l1 : j < ys.length := by rw [rys.len]; exact (List.getElem?_eq_some_iff.mp e1).1
              have l2 : j < xs.length := by rw [rxs.len]; exact (List.getElem?_eq_some_iff.mp e2).1
              have e3 := e (ys[j], xs[j]) (by
                rw [List.mem_iff_getElem]
                exact ⟨j, by rw [List.length_zip]; omega, by rw [List.getElem_zip]⟩)
              obtain ⟨b', e4⟩ := Option.isSome_iff_exists.mp e3
              obtain ⟨p, q, g1, g2, g3, g4, _⟩ := eqD_some e4
              obtain ⟨u', f1, f2⟩ := rys.get (List.getElem?_eq_getElem l1)
              obtain ⟨w', f3, f4⟩ := rxs.get (List.getElem?_eq_getElem l2)
              rw [e1] at f1
              rw [e2] at f3
              cases f1; cases f3
              exact ⟨p, q, f2.dpS sr g1 g3, f4.dpS sr g2 g4, g3, g4⟩
  · cases e
theorem reps_mem {xs : List D} {vs : List V} (r : Reps K L F ι xs vs) : ∀ v ∈ vs, ∃ x ∈ xs, Rep K L F ι x v := by
  induction xs generalizing vs with
  | nil => cases r; intro v hv; cases hv
  | cons x xs ih =>
    cases r with
    | cons a b =>
      intro v hv
      rcases List.mem_cons.mp hv with rfl | hv
      · exact ⟨x, List.mem_cons_self, a⟩
      · obtain ⟨x', h1, h2⟩ := ih b v hv
        exact ⟨x', List.mem_cons_of_mem _ h1, h2⟩
theorem strsOf_rep {K : PySem.W.Frag} : ∀ {ys : List D} {zs : List Str} {vs : List V}, strsOf ys = some zs → Reps K L F ι ys vs → vs = zs.map V.str
  | [], _, _, e, r => by cases e; cases r; rfl
  | y :: ys, zs, _, e, r => by
    cases y <;> simp only [strsOf, reduceCtorEq] at e
    obtain ⟨z, e1, rfl⟩ := Option.map_eq_some_iff.mp e
    cases r with
    | cons a b =>
      cases a
      rw [strsOf_rep e1 b]
      rfl
theorem inV_strs {x : Str} {zs : List Str} : inV (.str x) (zs.map V.str) = decide (x ∈ zs) := by
  unfold inV
  rw [Bool.eq_iff_iff, List.any_eq_true, decide_eq_true_eq]
  constructor
  · rintro ⟨y, hy, e⟩
    obtain ⟨z, hz, rfl⟩ := List.mem_map.mp hy
    have : z = x := by simpa [eqV] using e
    exact this ▸ hz
  · intro h
    exact ⟨.str x, List.mem_map_of_mem h, by simp [eqV]⟩
/-! nested dicts -/
theorem NAt.empty {w : World} {a : Addr} (ha : H a = some (.dK [])) : NAt K w H a [] := ⟨.inr ⟨rfl, ha⟩, fun x hx => nomatch hx⟩
theorem RepB.nkey {d : D} {v : V} {q : NestedKey} (sr : SR K L G F ι env μ σ H) (r : RepB K L F ι H d v) (e : keyT d = some q) : NKey K H q v := by
  obtain ⟨_, _, xs, rfl⟩ := keyT_some e
  obtain ⟨h1, h2⟩ := NKey.of_rep e r.rep_tup
  exact ⟨h1.mono sr.f, h2⟩
/-- what the entries bear, in both readings -/
structure NRel (K : PySem.W.Frag) (L : Lk) (F : Hp) (ι : List Addr) (kvs : List (D × D)) (xs : List (NestedKey × Addr × V)) : Prop where
  r : RepN K L F ι kvs xs
theorem NRel.isSome {kvs : List (D × D)} {xs : List (NestedKey × Addr × V)} (h : NRel K L F ι kvs xs) {q : NestedKey} : (dgetN kvs q).isSome = (valN xs q).isSome := by
  obtain ⟨h1, h2⟩ := h.r.get q
  cases e : dgetN kvs q with
  | none => rw [h2 e]; rfl
  | some d => obtain ⟨v, e2, _⟩ := h1 d e; rw [e2]; rfl
theorem RepN.nat {a : Addr} {ob : Obj} {kvs : List (D × D)} {xs : List (NestedKey × Addr × V)} {w : World} (sr : SR K L G F ι env μ σ H) (hw : L.w = w) (h : H a = some (DN ob L.w a xs)) (r : RepN K L F ι kvs xs) : NAt K w H a xs := by
  subst hw
  exact ⟨.inl ⟨ob, h⟩, fun x hx => let ⟨h1, h2⟩ := r.keys x hx; ⟨h1.mono sr.f, h2⟩⟩
theorem RepB.nat {kvs : List (D × D)} {v : V} {w : World} (hw : L.w = w) (sr : SR K L G F ι env μ σ H) (r : RepB K L F ι H (.dcn kvs) v) : ∃ a xs, v = .ref a ∧ NAt K w H a xs ∧ NRel K L F ι kvs xs := by
  obtain ⟨a, ob, xs, rfl, h, rn⟩ := r.dcn sr
  exact ⟨a, xs, rfl, rn.nat sr hw h, ⟨rn⟩⟩
theorem dlook_some {kvs : List (D × D)} {x : D} {o : Option D} (e : dlook kvs x = some o) : (∃ q, keyD x = some q ∧ o = dget kvs q) ∨ ∃ q, kvs = [] ∧ keyT x = some q ∧ o = none := by
  unfold dlook at e
  split at e
  · rename_i k hk; cases e; exact .inl ⟨k, hk, rfl⟩
  · split at e
    · rename_i hn
      obtain ⟨q, e1, rfl⟩ := Option.map_eq_some_iff.mp e
      exact .inr ⟨q, List.isEmpty_iff.mp hn, e1, rfl⟩
    · cases e
theorem eqN_some {dx dy : D} {x y : V} {r : Bool} {w : World} (hw : L.w = w) (sr : SR K L G F ι env μ σ H) (rx : RepB K L F ι H dx x) (ry : RepB K L F ι H dy y) (e : eqN dx dy = some r) :
    ∃ a b n, x = .ref a ∧ y = .ref b ∧ DAny K w H a n ∧ DAny K w H b 0 ∧ r = decide (n = 0) := by
  have emp : ∀ {α : Type} (l : List α), l.isEmpty = decide (l.length = 0) := fun l => by cases l <;> rfl
  unfold eqN at e
  split at e
  · cases e
    obtain ⟨a, ks, rfl, h1, r1⟩ := rx.dct sr
    obtain ⟨b, ks', rfl, h2, r2⟩ := ry.dct sr
    cases r2
    refine ⟨a, b, ks.length, rfl, rfl, .inl ⟨ks, h1, rfl⟩, .inl ⟨[], h2, rfl⟩, ?_⟩
    rw [emp]
    have : ∀ {kvs : List (D × D)} {ks : List (Key × V)}, RepK K L F ι kvs ks → kvs.length = ks.length := fun {kvs} => by
      induction kvs with
      | nil => intro ks r; cases r; rfl
      | cons _ _ ih => intro ks r; cases r with | cons _ _ h => exact congrArg (· + 1) (ih h)
    rw [this r1]
  · cases e
    obtain ⟨a, xs, rfl, h1, r1⟩ := rx.nat hw sr
    obtain ⟨b, ks', rfl, h2, r2⟩ := ry.dct sr
    cases r2
    exact ⟨a, b, xs.length, rfl, rfl, .inr ⟨xs, h1, rfl⟩, .inl ⟨[], h2, rfl⟩, by rw [emp, r1.r.len]⟩
  · cases e
theorem ordD_some {d : D} (h : ordD d = true) : ∃ p, toP d = some p ∧ encD d = p ∧ p ≠ .none ∧ p.depth ≤ 50 := by
  unfold ordD at h
  split at h
  · rename_i p hp
    rw [Bool.and_eq_true, decide_eq_true_eq] at h
    exact ⟨p, hp, by unfold encD; rw [hp]; rfl, fun z => by rw [z] at h; exact absurd h.2 (by simp), h.1⟩
  · cases h
theorem ltD_some {a b : D} {r : Bool} (e : ltD a b = some r) : ∃ p q, toP a = some p ∧ toP b = some q ∧ PySem.W.alike p q = true ∧ (p ≠ .none ∧ p.depth ≤ 50) ∧ (q ≠ .none ∧ q.depth ≤ 50) ∧ r = PySem.W.dataLt p q := by
  unfold ltD at e
  split at e
  · rename_i h
    simp only [Bool.and_eq_true] at h
    cases e
    obtain ⟨p, h1, h2, h3⟩ := ordD_some h.1.1
    obtain ⟨q, g1, g2, g3⟩ := ordD_some h.1.2
    have h4 := h.2
    rw [h2, g2] at h4
    exact ⟨p, q, h1, g1, h4, h3, g3, by rw [h2, g2]⟩
  · cases e
theorem opC_ok {o : Cop} {dx dy dz : D} {x y : V} (hw : L.w = X.w) (e : opC μ o dx dy = some dz) (sr : SR X.K L G F ι env μ σ H) (rx : RepB X.K L F ι H dx x) (ry : RepB X.K L F ι H dy y) (h : okP X.K L G F ι env σ Q dz μ) : rCmp X o x y H Q := by
  cases o with
  | eq =>
    simp only [opC] at e
    obtain ⟨b, e1, rfl⟩ := Option.map_eq_some_iff.mp e
    split at e1
    · cases e1
      cases rx.str; cases ry.str
      exact .inl ⟨rfl, by rw [decV_str]; exact h.here sr (.bl _)⟩
    · rcases orE e1 with e1 | e1
      · obtain ⟨p, q, h1, h2, h3, h4, rfl⟩ := eqD_some e1
        exact .inr (.inl ⟨p, q, rx.dp sr h1 (canLay_of h3), ry.dp sr h2 (canLay_of h4), h3, h4, h.here sr (.bl _)⟩)
      · rcases orE e1 with e1 | e1
        · obtain ⟨a, c, xs, ys, g1, g2, g3, g4, g5, rfl⟩ := eqL_some sr rx ry e1
          exact .inr (.inr (.inl ⟨a, c, xs, ys, g1, g2, g3, g4, g5, h.here sr (.bl _)⟩))
        · obtain ⟨a, b, n, g1, g2, g3, g4, rfl⟩ := eqN_some hw sr rx ry e1
          exact .inr (.inr (.inr ⟨a, b, n, g1, g2, g3, g4, h.here sr (.bl _)⟩))
  | ne =>
    simp only [opC] at e
    obtain ⟨b, e1, rfl⟩ := Option.map_eq_some_iff.mp e
    split at e1
    · cases e1
      cases rx.str; cases ry.str
      exact .inl ⟨rfl, by rw [decV_str]; exact h.here sr (.bl _)⟩
    · rcases orE e1 with e1 | e1
      · obtain ⟨p, q, h1, h2, h3, h4, rfl⟩ := eqD_some e1
        exact .inr (.inl ⟨p, q, rx.dp sr h1 (canLay_of h3), ry.dp sr h2 (canLay_of h4), h3, h4, h.here sr (.bl _)⟩)
      · rcases orE e1 with e1 | e1
        · obtain ⟨a, c, xs, ys, g1, g2, g3, g4, g5, rfl⟩ := eqL_some sr rx ry e1
          exact .inr (.inr (.inl ⟨a, c, xs, ys, g1, g2, g3, g4, g5, h.here sr (.bl _)⟩))
        · obtain ⟨a, b, n, g1, g2, g3, g4, rfl⟩ := eqN_some hw sr rx ry e1
          exact .inr (.inr (.inr ⟨a, b, n, g1, g2, g3, g4, h.here sr (.bl _)⟩))
  | lt =>
    cases dx <;> cases dy <;> simp only [opC, reduceCtorEq] at e
    · cases rx.int; cases ry.int; cases e; exact .inl ⟨_, _, rfl, rfl, h.here sr (.bl _)⟩
    · obtain ⟨b, e1, rfl⟩ := Option.map_eq_some_iff.mp e
      obtain ⟨p, q, g1, g2, g3, g4, g5, rfl⟩ := ltD_some e1
      exact .inr ⟨p, q, RdX.of sr rx g1, RdX.of sr ry g2, g3, g4.1, g4.2, h.here sr (.bl _)⟩
  | gt =>
    cases dx <;> cases dy <;> simp only [opC, reduceCtorEq] at e
    · cases rx.int; cases ry.int; cases e; exact .inl ⟨_, _, rfl, rfl, h.here sr (.bl _)⟩
    · obtain ⟨b, e1, rfl⟩ := Option.map_eq_some_iff.mp e
      obtain ⟨p, q, g1, g2, g3, g4, g5, rfl⟩ := ltD_some e1
      exact .inr ⟨q, p, RdX.of sr rx g2, RdX.of sr ry g1, by rw [PySem.W.alike_comm]; exact g3, g5.1, g5.2, h.here sr (.bl _)⟩
  | le =>
    cases dx <;> cases dy <;> simp only [opC, reduceCtorEq] at e
    cases rx.int; cases ry.int; cases e; exact ⟨_, _, rfl, rfl, h.here sr (.bl _)⟩
  | ge =>
    cases dx <;> cases dy <;> simp only [opC, reduceCtorEq] at e
    cases rx.int; cases ry.int; cases e; exact ⟨_, _, rfl, rfl, h.here sr (.bl _)⟩
  | isn =>
    cases dy <;> simp only [opC, reduceCtorEq] at e
    cases ry.non
    rw [isNon dx rx] at e
    cases e
    exact ⟨rfl, h.here sr (.bl _)⟩
  | notn =>
    cases dy with
    | non =>
      simp only [opC] at e
      cases ry.non
      rw [isNon dx rx] at e
      cases e
      exact .inl ⟨rfl, h.here sr (.bl _)⟩
    | bl b =>
      cases dx <;> simp only [opC, reduceCtorEq] at e
      rename_i a
      cases rx.bl; cases ry.bl
      cases e
      exact .inr ⟨a, b, rfl, rfl, h.here sr (.bl _)⟩
    | _ => cases dx <;> simp only [opC, reduceCtorEq] at e
  | inn =>
    have lst : ∀ ys, dy = .lst ys → ((inL dx ys).or (if ys.all (fun y => neqW y dx) then some false else none)).map D.bl = some dz → rCmp X .inn x y H Q := fun ys hd e9 => by
      subst hd
      obtain ⟨b, e0, rfl⟩ := Option.map_eq_some_iff.mp e9
      rcases orE e0 with e1 | e1
      · obtain ⟨d, ds, h1, h2, h3, h4, rfl⟩ := inL_some e1
        have e2 : toP (.lst ys) = some (.list ds) := by show (toPs ys).map PyData.list = _; rw [h2]; rfl
        exact .inr (.inl ⟨d, ds, rx.dp sr h1 (canLay_of h3), ry.dp sr e2 (canLay_of h4), h3, h4, h.here sr (.bl _)⟩)
      · split at e1
        · rename_i hall
          cases e1
          rw [List.all_eq_true] at hall
          obtain ⟨a, vs, rfl, ha, rs⟩ := ry.lst sr
          exact .inr (.inr (.inr (.inl ⟨a, vs, rfl, SqL.of ha, fun z hz => by
            obtain ⟨d, hd, rd⟩ := reps_mem rs z hz
            exact neqW_some sr rx rd (hall d hd), h.here sr (.bl _)⟩)))
        · cases e1
    have dct : ∀ kvs, dy = .dct kvs → ((dlook kvs dx).map fun o => D.bl o.isSome) = some dz → rCmp X .inn x y H Q := fun kvs hd e9 => by
      subst hd
      obtain ⟨oo, e1, rfl⟩ := Option.map_eq_some_iff.mp e9
      obtain ⟨a, ks, rfl, ha, r⟩ := ry.dct sr
      rcases dlook_some e1 with ⟨q, e2, rfl⟩ | ⟨q, e0, e2, rfl⟩
      · cases rx.key e2
        obtain ⟨o, g, eo⟩ := dget_at (q := q) r ha
        exact .inr (.inr (.inl ⟨a, o, rfl, g, by rw [eo]; exact h.here sr (.bl _)⟩))
      · subst e0
        cases r
        exact .inr (.inr (.inr (.inr (.inr ⟨a, [], q, rfl, NAt.empty ha, rx.nkey sr e2, h.here sr (.bl _)⟩))))
    have dcn : ∀ kvs, dy = .dcn kvs → ((dlookN kvs dx).map fun o => D.bl o.isSome) = some dz → rCmp X .inn x y H Q := fun kvs hd e9 => by
      subst hd
      obtain ⟨oo, e1, rfl⟩ := Option.map_eq_some_iff.mp e9
      obtain ⟨q, e2, rfl⟩ := Option.map_eq_some_iff.mp e1
      obtain ⟨a, xs, rfl, ha, hr⟩ := ry.nat hw sr
      exact .inr (.inr (.inr (.inr (.inr ⟨a, xs, q, rfl, ha, rx.nkey sr e2, by rw [← hr.isSome]; exact h.here sr (.bl _)⟩))))
    cases dy with
    | lst ys => exact lst ys rfl (by cases dx <;> exact e)
    | dct kvs => exact dct kvs rfl (by cases dx <;> exact e)
    | dcn kvs => exact dcn kvs rfl (by cases dx <;> exact e)
    | tup ys =>
      cases dx <;> simp only [opC, reduceCtorEq] at e
      rename_i x0
      obtain ⟨zs, e1, rfl⟩ := Option.map_eq_some_iff.mp e
      cases rx.str
      obtain ⟨a, vs, rfl, ha, rs⟩ := ry.tup sr
      obtain rfl := strsOf_rep e1 rs
      refine .inr (.inr (.inr (.inr (.inl ⟨a, _, rfl, .inr ha, rfl, by simp [flatV], ?_⟩))))
      rw [if_neg (by decide), inV_strs]
      exact h.here sr (.bl _)
    | str z =>
      cases dx <;> simp only [opC, reduceCtorEq] at e
      rename_i x0
      split at e
      · rename_i c hc
        cases e
        cases rx.str; cases ry.str
        exact .inl ⟨c, z, by rw [str1 hc], rfl, h.here sr (.bl _)⟩
      · cases e
    | _ => cases dx <;> simp only [opC, reduceCtorEq] at e
  | nin =>
    have lst : ∀ ys, dy = .lst ys → ((inL dx ys).map fun b => D.bl (!b)) = some dz → rCmp X .nin x y H Q := fun ys hd e9 => by
      subst hd
      obtain ⟨b, e1, rfl⟩ := Option.map_eq_some_iff.mp e9
      obtain ⟨d, ds, h1, h2, h3, h4, rfl⟩ := inL_some e1
      have e2 : toP (.lst ys) = some (.list ds) := by show (toPs ys).map PyData.list = _; rw [h2]; rfl
      exact .inr (.inl (.inl ⟨d, ds, rx.dp sr h1 (canLay_of h3), ry.dp sr e2 (canLay_of h4), h3, h4, h.here sr (.bl _)⟩))
    have dct : ∀ kvs, dy = .dct kvs → ((dlook kvs dx).map fun o => D.bl (!o.isSome)) = some dz → rCmp X .nin x y H Q := fun kvs hd e9 => by
      subst hd
      obtain ⟨oo, e1, rfl⟩ := Option.map_eq_some_iff.mp e9
      obtain ⟨a, ks, rfl, ha, r⟩ := ry.dct sr
      rcases dlook_some e1 with ⟨q, e2, rfl⟩ | ⟨q, e0, e2, rfl⟩
      · cases rx.key e2
        obtain ⟨o, g, eo⟩ := dget_at (q := q) r ha
        exact .inr (.inr (.inl ⟨a, o, rfl, g, by rw [eo]; exact h.here sr (.bl _)⟩))
      · subst e0
        cases r
        exact .inr (.inr (.inr ⟨a, [], q, rfl, NAt.empty ha, rx.nkey sr e2, h.here sr (.bl _)⟩))
    have dcn : ∀ kvs, dy = .dcn kvs → ((dlookN kvs dx).map fun o => D.bl (!o.isSome)) = some dz → rCmp X .nin x y H Q := fun kvs hd e9 => by
      subst hd
      obtain ⟨oo, e1, rfl⟩ := Option.map_eq_some_iff.mp e9
      obtain ⟨q, e2, rfl⟩ := Option.map_eq_some_iff.mp e1
      obtain ⟨a, xs, rfl, ha, hr⟩ := ry.nat hw sr
      exact .inr (.inr (.inr ⟨a, xs, q, rfl, ha, rx.nkey sr e2, by rw [← hr.isSome]; exact h.here sr (.bl _)⟩))
    have tup : ∀ ys, dy = .tup ys → ((inL dx ys).map fun b => D.bl (!b)) = some dz → rCmp X .nin x y H Q := fun ys hd e9 => by
      subst hd
      obtain ⟨b, e1, rfl⟩ := Option.map_eq_some_iff.mp e9
      obtain ⟨d, ds, h1, h2, h3, h4, rfl⟩ := inL_some e1
      have e2 : toP (.tup ys) = some (.tuple ds) := by show (toPs ys).map PyData.tuple = _; rw [h2]; rfl
      exact .inr (.inl (.inr ⟨d, ds, rx.dp sr h1 (canLay_of h3), ry.dp sr e2 (canLay_of h4), h3, canLay_of h4, h.here sr (.bl _)⟩))
    cases dy with
    | tup ys => exact tup ys rfl (by cases dx <;> exact e)
    | lst ys => exact lst ys rfl (by cases dx <;> exact e)
    | dct kvs => exact dct kvs rfl (by cases dx <;> exact e)
    | dcn kvs => exact dcn kvs rfl (by cases dx <;> exact e)
    | str z =>
      cases dx <;> simp only [opC, reduceCtorEq] at e
      rename_i x0
      split at e
      · rename_i c hc
        cases e
        cases rx.str; cases ry.str
        exact .inl ⟨c, z, by rw [str1 hc], rfl, h.here sr (.bl _)⟩
      · cases e
    | _ => cases dx <;> simp only [opC, reduceCtorEq] at e
end
end Lm
set_option Elab.async false
set_option linter.all false
set_option maxRecDepth 100000
set_option maxHeartbeats 1000000
namespace Lm
open PySem PySem.Spec PyProof.Rows L2
/-! ## defs called where no container is being shown: their promise, as the layer's own, with that one fact more about what runs around -/
abbrev Quiet (A : Around) : Prop := A.guards = some []
structure FnG (P : Program) (w : World) (K : PySem.W.Frag) (mg : Str → Option Value) (base : Heap) (k : Nat) (f : Addr) (fd : FuncData) (ps : List Str) (sp : Sp) : Prop where
  len : ∀ vs H Q E, sp vs H Q E → vs.length = ps.length
  run : ∀ (A : Around) (outer : List PySem.Env) (s : Shared) (H : Hp) (args : Args) (us : List Value) (vs : List V) (Q : VK) (E : XK), Room k A → Quiet A → Env0 P w K mg base A outer s H →
    BindsTo s fd args (ps.zip us) → Vals vs us → sp vs H Q E → codeAny (model P w) A (.call (.ref f) args) (CR (L2.CX P w) outer P w H s Q E) s
theorem FnG.mono {P : Program} {w : World} {K : PySem.W.Frag} {mg : Str → Option Value} {base : Heap} {j k : Nat} {f : Addr} {fd : FuncData} {ps : List Str} {sp : Sp} (F : FnG P w K mg base j f fd ps sp) (h : j ≤ k) : FnG P w K mg base k f fd ps sp :=
  ⟨F.len, fun A outer s H args us vs Q E hr => F.run A outer s H args us vs Q E (hr.mono h)⟩
theorem quiet_deeper {A : Around} (q : Quiet A) (env : PySem.Env) : Quiet (A.deeper env) := q
theorem quiet_in1 {A : Around} (q : Quiet A) : Quiet A.in1 := q
theorem quiet_make {A : Around} (q : Quiet A) (C : Addr) (us : List Value) (kw : List (Str × Value)) : Quiet (A.under (.builtin "type.__call__" ⟨.ref C :: us, kw⟩)) := by
  unfold Quiet at q ⊢
  first
    | exact q
    | (simp [Around.under, Code.guards, Code.isGuard, guardIds, pushGuards, q])
section
variable {P : Program} {w : World} {K : PySem.W.Frag} {mg : Str → Option Value} {base : Heap} {k : Nat} {f : Addr} {ps : List Str} {sp : Sp}
/-- a def of the text, by its body -/
theorem fnG_of {nm qual : Str} {prm : Arguments} {body : List Stmt} {scope : Scope} {dV kV doc pm cdv ct oc : Value} {an od : Option Addr} {osl : Array (Option Value)} {N : List Str}
    (lk : K.lookup f = some ⟨oc, od, .func (PySem.W.fnOf nm qual prm body scope dV kV doc pm an cdv ct), osl⟩) (hcd : PySem.W.codeIn K cdv qual = true) (S : FnScope N ps scope) (len : ∀ vs H Q E, sp vs H Q E → vs.length = ps.length)
    (hb : ∀ (A : Around) (outer : List PySem.Env) (s : Shared) (H : Hp) (vs : List V) (Q : VK) (E : XK), Room k (A.deeper (envOfC qual scope s.heap.objs.size f cdv)) → Quiet A → sp vs H Q E →
      ∃ t, PSs (cxOf (L2.CX P w) P w K mg base N qual scope f cdv A outer s H E) body t ∧ t { nx := fun _ H' => Q .non H', rt := Q } (start N vs) H) :
    FnG P w K mg base (k + 1) f (PySem.W.fnOf nm qual prm body scope dV kV doc pm an cdv ct) ps sp := by
  constructor
  · exact len
  intro A outer s H args us vs Q E room quiet env0 binds rel want
  have hlen : vs.length = ps.length := len vs H Q E want
  have grow : ∀ b o, base.get? b = some o → s.heap.get? b = some o := fun b o z => (env0.bs b o z).1
  have written : K.In s.heap := env0.mod.kin.keeps grow
  have limits : s.heap.NoLimit := env0.mod.nolimit.keeps grow
  have kinds : ∀ y ∈ ps.zip us, scope.names.lookup y.1 = some .local ∨ (scope.names.lookup y.1 = some .cell ∧ ((cellsFrom (s.heap.objs.size + 1) scope.names []).lookup y.1).isSome = true) := by
    rintro ⟨n, v⟩ hy
    have hn := S.par n (List.of_mem_zip hy).1
    cases hn with
    | inl z => exact .inl z
    | inr z => exact .inr ⟨z, PySem.W.cellsFrom_some _ _ _ (.inl z)⟩
  refine codeAny_call_function room.depth (written _ _ lk) rfl S.co S.gen rfl
    (PySem.W.codeRec_of written hcd) (binds _ _ _ _ (wpAny_newFunctionEnv_cells S.kind kinds fun env he s1 inc => ?_))
  subst he
  refine ⟨limits.keeps inc.toInCall.keep, codeAny_func ?_⟩
  obtain ⟨t, pt, go⟩ := hb A outer s H vs Q E (room.deeper _) quiet want
  have inv := inv_start (CX := L2.CX P w) (mg := mg) (base := base) (N := N) (E := E) S room.hd env0 hlen rel inc
  have ends : ∀ {σ' : L2.St} {H' : Hp} {v : V} {u : Value} {s' : Shared}, Inv (cxOf (L2.CX P w) P w K mg base N qual scope f cdv A outer s H E) [] σ' H' s' → RelV v u → Q v H' → CE outer P w H s Q u s' :=
    fun J r q => ⟨_, _, J.os, J.bare, J.base, J.hok, r, q⟩
  refine wpAny_mono (pt.run [] s1 (start N vs) H _ inv go) (fun fl s' done => ?_) (fun _ _ z => z)
  match fl, done with
  | .ret u, ⟨v, σ', H', J, r, q⟩ => exact ends J r q
  | .next, ⟨σ', H', J, q⟩ => exact ends (v := V.non) (u := Value.none) J rfl q
  | .brk, ⟨_, _, _, q⟩ => exact q.elim
  | .cont, ⟨_, _, _, q⟩ => exact q.elim
end
section
variable {X : Cx} {k : Nat} {f C : Addr} {fd : FuncData} {ps : List Str} {sp : Sp} {W : WX} {x m : Str} {p pos apos : Pos} {e o : Expr} {es : List Expr} {ta : TE} {t : TA}
/-- such a def called by value; what it raises is wished for at the slots as they stand -/
theorem runG {pins : List (Addr × Obj)} {σ : L2.St} {H : Hp} {s : Shared} {Q : VK} {us : List Value} {vs : List V} (F : FnG X.prog X.w X.K X.mg X.base k f fd ps sp) (hr : Room k X.A) (hq : Quiet X.A) (hb : Binds X.K fd ps []) (tk : Takes X W)
    (I : Inv X pins σ H s) (r : Vals vs us) (h : sp vs H Q fun c d H' => W c d σ H') : wpAny (model X.prog X.w) X.A (call (.ref f) us) (EP X pins σ Q) X.xe s := by
  have many : us.length = ps.length := r.length.symm.trans (F.len _ _ _ _ h)
  have bound := hb s us I.kIn (by simpa using many)
  rw [List.append_nil] at bound
  refine wpAny_call (codeAny_mono (F.run X.A X.stack s H ⟨us, []⟩ us vs Q (fun c d H' => W c d σ H') hr hq I.env0 bound r h) ?_)
  intro res s' done
  match res, done with
  | .error z, d => exact passAt tk σ pins H s z s' I d
  | .ok (.ret u), d => exact I.after d
  | .ok .next, d => exact False.elim d
  | .ok .brk, d => exact False.elim d
  | .ok .cont, d => exact False.elim d
/-- .. where it raises nothing -/
theorem runG0 {pins : List (Addr × Obj)} {σ : L2.St} {H : Hp} {s : Shared} {Q : VK} {us : List Value} {vs : List V} {E' : Value → Shared → Prop} (F : FnG X.prog X.w X.K X.mg X.base k f fd ps sp) (hr : Room k X.A) (hq : Quiet X.A) (hb : Binds X.K fd ps [])
    (I : Inv X pins σ H s) (r : Vals vs us) (h : sp vs H Q E0) : wpAny (model X.prog X.w) X.A (call (.ref f) us) (EP X pins σ Q) E' s := by
  have many : us.length = ps.length := r.length.symm.trans (F.len _ _ _ _ h)
  have bound := hb s us I.kIn (by simpa using many)
  rw [List.append_nil] at bound
  refine wpAny_call (codeAny_mono (F.run X.A X.stack s H ⟨us, []⟩ us vs Q E0 hr hq I.env0 bound r h) ?_)
  intro res s' done
  match res, done with
  | .error z, d =>
    obtain ⟨_, _, _, _, _, _, _, _, _, _, _, _, no⟩ := d
    exact no.elim
  | .ok (.ret u), d => exact I.after d
  | .ok .next, d => exact False.elim d
  | .ok .brk, d => exact False.elim d
  | .ok .cont, d => exact False.elim d
/-- what tells that an expression is no star argument -/
def noStar : Expr → Bool | .Starred _ _ => false | _ => true
theorem starEach_cons {env : PySem.Env} (h : noStar e = true) : starEach (e :: es) env = (false, eval e env) :: starEach es env := by
  cases e <;> first | rfl | cases h
theorem starEach_none {env : PySem.Env} (ps : Pos) : ∀ {es : List Expr}, es.all noStar = true → (backTo ps (starEach es env)).any (·.1) = false := by
  intro es
  induction es with
  | nil => intro _; rfl
  | cons e es ih =>
    intro h
    rw [List.all_cons, Bool.and_eq_true] at h
    rw [starEach_cons h.1]
    have := ih h.2
    simpa [backTo] using this
theorem paC {te : TE} {tr : TA} (hn : noStar e = true) (ha : PE X e te) (hr : PA X es tr) : PA X (e :: es) (tCons te tr) := pa_cons ha hr (starEach_cons hn)
/-- f(e, ..) -/
theorem pe_callG (F : FnG X.prog X.w X.K X.mg X.base k f fd ps sp) (hr : Room k X.A) (hq : Quiet X.A) (hg : Gl X x) (hm : X.mg x = some (.ref f)) (hk : PySem.W.keepIn X.K (.ref f) = true) (hb : Binds X.K fd ps []) (tk : Takes X W)
    (ha : PA X (e :: es) t) (hn : (e :: es).all noStar = true) (hdb : (x == ("__debug__" : Str)) = false) : PE X (.Call (.Name x p) (e :: es) [] pos) (fun σ H Q => t σ H fun vs H1 => sp vs H1 Q fun c d H' => W c d σ H') := by
  constructor
  intro pins s σ H Q I h
  rw [List.all_cons, Bool.and_eq_true] at hn
  refine wpAny_Call_Name_kw (ld_glob I hg hm ?_ hdb)
  refine PySem.W.callWith_K (h₀ := X.base) I.ok.mod.kin hk ?_ (starEach_cons hn.1) (starEach_none _ hn.2)
  refine thn (ha.run pos pins s σ H _ I h) ?_
  rintro us s1 ⟨vs, H1, I1, r, q⟩
  exact ⟨I1.kIn, runG F hr hq hb tk I1 r q⟩
/-- f() -/
theorem pe_callG0 (F : FnG X.prog X.w X.K X.mg X.base k f fd ps sp) (hr : Room k X.A) (hq : Quiet X.A) (hg : Gl X x) (hm : X.mg x = some (.ref f)) (hk : PySem.W.keepIn X.K (.ref f) = true) (hb : Binds X.K fd ps []) (tk : Takes X W)
    (hdb : (x == ("__debug__" : Str)) = false) : PE X (.Call (.Name x p) [] [] pos) (fun σ H Q => sp [] H Q fun c d H' => W c d σ H') := by
  constructor
  intro pins s σ H Q I h
  refine wpAny_Call_Name_kw (ld_glob I hg hm ?_ hdb)
  exact PySem.W.callWith_K0 I.kIn hk (runG (us := []) F hr hq hb tk I .nil h)
/-- the tree of a method's call -/
def MethTree (X : Cx) (o : Expr) (m : Str) (es : List Expr) (apos pos : Pos) : Prop := ∃ pl : Sem Bool, eval (.Call (.Attribute o m apos) es [] pos) X.env = (do
      let ov ← eval o X.env
      standAt apos.atName
      let (f, first) ← holding [ov] (getMethod ov m pl)
      callWith pos f first (backTo pos (starEach es X.env)) (backToKw pos (keywordEach [] X.env)))
/-- o.m(e, ..), o an instance of the class at C -/
theorem pe_methG (he : PE X o ta) (c : Cls X.K C) (hm : Meth X.K C m f) (F : FnG X.prog X.w X.K X.mg X.base k f fd ps sp) (hr : Room k X.A) (hq : Quiet X.A) (hb : Binds X.K fd ps []) (tk : Takes X W)
    (ha : PA X (e :: es) t) (hn : (e :: es).all noStar = true) (ht : MethTree X o m (e :: es) apos pos) :
    PE X (.Call (.Attribute o m apos) (e :: es) [] pos) (fun σ H Q => ta σ H fun x H1 => ∃ a dx fs, x = .ref a ∧ H1 a = some (.ins C dx fs) ∧ fs.lookup m = none ∧ t σ H1 fun vs H2 => sp (x :: vs) H2 Q fun c d H' => W c d σ H') := by
  obtain ⟨pl, tree⟩ := ht
  constructor
  intro pins s σ H Q I h
  rw [List.all_cons, Bool.and_eq_true] at hn
  refine PySem.W.methodCall_KW (pl := pl) (thn (he.run pins s σ H _ I h) ?_) tree
  rintro u s1 ⟨x, H1, I1, rx, a, dx, fs, rfl, ea, no, q⟩
  obtain rfl : u = Value.ref a := rx
  refine getmeth_ok I1 ea c hm no ?_
  refine PySem.W.callWith_K (first := [.ref a]) (h₀ := X.base) I.ok.mod.kin hm.kp ?_ (starEach_cons hn.1) (starEach_none _ hn.2)
  refine thn (ha.run pos pins s1 σ H1 _ I1 q) ?_
  rintro us s2 ⟨vs, H2, I2, r, q2⟩
  exact ⟨I2.kIn, runG (us := .ref a :: us) (vs := .ref a :: vs) F hr hq hb tk I2 (.cons rfl r) q2⟩
theorem pe_methG0 (he : PE X o ta) (c : Cls X.K C) (hm : Meth X.K C m f) (F : FnG X.prog X.w X.K X.mg X.base k f fd ps sp) (hr : Room k X.A) (hq : Quiet X.A) (hb : Binds X.K fd ps []) (tk : Takes X W)
    (ht : MethTree X o m [] apos pos) :
    PE X (.Call (.Attribute o m apos) [] [] pos) (fun σ H Q => ta σ H fun x H1 => ∃ a dx fs, x = .ref a ∧ H1 a = some (.ins C dx fs) ∧ fs.lookup m = none ∧ sp [x] H1 Q fun c d H' => W c d σ H') := by
  obtain ⟨pl, tree⟩ := ht
  constructor
  intro pins s σ H Q I h
  refine PySem.W.methodCall_KW (pl := pl) (thn (he.run pins s σ H _ I h) ?_) tree
  rintro u s1 ⟨x, H1, I1, rx, a, dx, fs, rfl, ea, no, q⟩
  obtain rfl : u = Value.ref a := rx
  refine getmeth_ok I1 ea c hm no ?_
  exact PySem.W.callWith_K0 (first := [.ref a]) I1.kIn hm.kp (runG (us := [.ref a]) (vs := [.ref a]) F hr hq hb tk I1 (.cons rfl .nil) q)
/-- C(..), __init__ of C's own -/
theorem makeG {pins : List (Addr × Obj)} {σ : L2.St} {H : Hp} {s : Shared} {Q : VK} {us : List Value} {vs : List V} (M : Mk X.K C f) (F : FnG X.prog X.w X.K X.mg X.base k f fd ps sp) (hr : Room (k + 1) X.A) (hq : Quiet X.A) (hb : Binds X.K fd ps []) (tk : Takes X W)
    (I : Inv X pins σ H s) (r : Vals vs us)
    (h : ∀ y dy, H y = none → H dy = none → dy ≠ y → sp (.ref y :: vs) (upd (upd H dy (.own y)) y (.ins C dy [])) (fun v H2 => v = .non ∧ Q (.ref y) H2) fun c d H' => W c d σ H') :
    wpAny (model X.prog X.w) X.A (call (.ref C) us) (EP X pins σ Q) X.xe s := by
  have want := h (s.heap.objs.size + 1) s.heap.objs.size (I.hok.fresh (Nat.le_succ _)) (I.hok.fresh (Nat.le_refl _)) (Nat.ne_of_lt (Nat.lt_succ_self _))
  have J := Inv.made (C := C) I
  have rel : Vals (V.ref (s.heap.objs.size + 1) :: vs) (Value.ref (s.heap.objs.size + 1) :: us) := .cons rfl r
  have many : (Value.ref (s.heap.objs.size + 1) :: us).length = ps.length := rel.length.symm.trans (F.len _ _ _ _ want)
  have bound := fun s₀ (hk : X.K.In s₀.heap) => hb s₀ (Value.ref (s.heap.objs.size + 1) :: us) hk (by simpa using many)
  simp only [List.append_nil] at bound
  refine wpAny_call (make_map (f := f) I.kIn M.makes M.init (beq_iff_eq.mp M.fn) (codeAny_mono (F.run _ X.stack _ _ ⟨Value.ref (s.heap.objs.size + 1) :: us, []⟩ _ _ _ (fun c d H' => W c d σ H') (hr.make C us [])
    (quiet_make hq C us []) (J.env0.make C us []) (bound _ J.kIn) rel want) ?_))
  intro res s' done
  match res, done with
  | .error z, d => exact passAt tk σ pins _ _ z s' J d
  | .ok (.ret u), d =>
    obtain ⟨v, H', I3, rv, ev, q3⟩ := J.after d
    subst ev
    exact ⟨rv, ⟨V.ref (s.heap.objs.size + 1), H', I3, rfl, q3⟩⟩
  | .ok .next, d => exact False.elim d
  | .ok .brk, d => exact False.elim d
  | .ok .cont, d => exact False.elim d
theorem pe_makeG (M : Mk X.K C f) (F : FnG X.prog X.w X.K X.mg X.base k f fd ps sp) (hr : Room (k + 1) X.A) (hq : Quiet X.A) (hg : Gl X x) (hm : X.mg x = some (.ref C)) (hb : Binds X.K fd ps []) (tk : Takes X W)
    (ha : PA X (e :: es) t) (hn : (e :: es).all noStar = true) (hdb : (x == ("__debug__" : Str)) = false) :
    PE X (.Call (.Name x p) (e :: es) [] pos) (fun σ H Q => t σ H fun vs H1 => ∀ y dy, H1 y = none → H1 dy = none → dy ≠ y → sp (.ref y :: vs) (upd (upd H1 dy (.own y)) y (.ins C dy [])) (fun v H2 => v = .non ∧ Q (.ref y) H2) fun c d H' => W c d σ H') := by
  constructor
  intro pins s σ H Q I h
  rw [List.all_cons, Bool.and_eq_true] at hn
  refine wpAny_Call_Name_kw (ld_glob I hg hm ?_ hdb)
  refine PySem.W.callWith_K (h₀ := X.base) I.ok.mod.kin M.kp ?_ (starEach_cons hn.1) (starEach_none _ hn.2)
  refine thn (ha.run pos pins s σ H _ I h) ?_
  rintro us s1 ⟨vs, H1, I1, r, q⟩
  exact ⟨I1.kIn, makeG M F hr hq hb tk I1 r q⟩
/-- e.f, a property whose getter raises nothing -/
theorem propG {g a pr : Addr} {dx : Addr} {fs : List (Str × V)} {n : Str} {pins : List (Addr × Obj)} {σ : L2.St} {H : Hp} {s : Shared} {Q : VK} {b : Bool} {E' : Value → Shared → Prop} (I : Inv X pins σ H s) (ea : H a = some (.ins C dx fs)) (c : Cls X.K C)
    (hp : PropOf X.K C n pr g) (F : FnG X.prog X.w X.K X.mg X.base k g fd ps sp) (hr : Room (k + 1) X.A) (hq : Quiet X.A) (hb : Binds X.K fd ps []) (h : sp [.ref a] H Q E0) :
    wpAny (model X.prog X.w) X.A (getAttr (.ref a) n b) (EP X pins σ Q) E' s := by
  obtain ⟨mA, obj, _, _, _, _⟩ := ins_get I.hok ea
  obtain ⟨od, at_, _⟩ := obj.look
  obtain ⟨rest, hrec⟩ := hp.rec_
  have I1 := I.tok (s.toks + 1)
  have many : ([Value.ref a] : List Value).length = ps.length := F.len _ _ _ _ h
  have known : (PySem.W.clsIn X.K C).isSome = true := by
    obtain ⟨cd, hc, _⟩ := PySem.W.any_some c.hd
    rw [hc]; rfl
  have bound := hb { s with toks := s.toks + 1 } [.ref a] I1.kIn (by simpa using many)
  rw [List.append_nil] at bound
  refine PySem.W.get_bind I.kIn at_ (PySem.W.plainGet_of (c.get n)).1 (PySem.W.findObj_data known hp.at_ hp.get hp.tak) (PySem.W.plainGet_of (c.get n)).2
    (wpAny_call (PySem.W.prop_get (s := { s with toks := s.toks + 1 }) I.kIn hrec (codeAny_mono (F.run X.A.in1 X.stack { s with toks := s.toks + 1 } H ⟨[.ref a], []⟩ [.ref a] [.ref a] Q E0 hr.in1 (quiet_in1 hq) I1.env0.in1 bound (.cons rfl .nil) h) ?_)))
  intro res s' done
  match res, done with
  | .error z, d =>
    obtain ⟨_, _, _, _, _, _, _, _, _, _, _, _, no⟩ := d
    exact no.elim
  | .ok (.ret u), d =>
    obtain ⟨v, H', I3, rv, q3⟩ := I1.after d
    show wpAny _ _ (handedOut u) _ _ _
    rw [PySem.W.handedOut_of (handed_of rv)]
    exact wpAny_pure ⟨v, H', I3, rv, q3⟩
  | .ok .next, d => exact False.elim d
  | .ok .brk, d => exact False.elim d
  | .ok .cont, d => exact False.elim d
end
end Lm
set_option Elab.async false
set_option linter.all false
set_option maxRecDepth 100000
set_option maxHeartbeats 1000000
namespace Lm
open PySem PySem.Spec PyProof.Rows L2
section
variable {X : Cx} {pins : List (Addr × Obj)} {s : Shared} {L : Lk} {G F F' H H' : Hp} {ι ι' : List Addr} {env : Env} {μ : Sto} {σ : L2.St} {p : Addr} {Q : VK}
/-- repr of data -/
def rRepr (X : Cx) : List V → Hp → VK → Prop := fun xs H Q => ∃ v q, xs = [v] ∧ q.showable = true ∧ q.depth ≤ 64 ∧ q.shown.length ≤ sizeLine ∧
  (∀ pins s σ u, Inv X pins σ H s → RelV v u → ∃ as, Reads s.heap u q as ∧ sysModules ∉ as) ∧ Q (.str q.shown) H
theorem reprText_small {X : Cx} {A : Around} {E : Value → Shared → Prop} {Q : Value → Shared → Prop} {P : Program} {w : World} {s : Shared} {q : PyData} {u : Value} {as : List Addr} (r : Reads s.heap u q as) (hn : sysModules ∉ as) (hs : q.showable = true) (hz : q.shown.length ≤ sizeLine)
    (hg : Quiet A) (hu : A.units + (q.depth + 1) < cLine) (h : ∀ h' t k, (∀ b o, s.heap.get? b = some o → h'.get? b = some o) → Q (.str q.shown t) { s with heap := h', toks := k }) : wpAny (model P w) A (call (.builtin "repr") [u]) Q E s := by
  cases q with
  | list xs => cases r with | list a b c d => exact repr_of_reads' (.list a b c d) hs (fun _ => hn) hg hu (fun _ _ e => e) h hz
  | tuple xs => cases r with | tuple a b c d => exact repr_of_reads' (.tuple a b c d) hs (fun _ => hn) hg hu (fun _ _ e => e) h hz
  | dict xs => cases r with | dict a b c d e => exact repr_of_reads' (.dict a b c d e) hs (fun _ => hn) hg hu (fun _ _ e => e) h hz
  | none => cases r; exact PySem.P.repr_of_none (h s.heap _ _ fun _ _ e => e)
  | bool b => cases r; exact PySem.P.repr_of_bool (h s.heap _ _ fun _ _ e => e)
  | int i => cases r; exact PySem.P.repr_of_int (by simpa [PyData.showable] using hs) (h s.heap _ _ fun _ _ e => e)
  | str x => cases r; exact PySem.P.repr_of_str (h s.heap _ _ fun _ _ e => e) hz
theorem call_reprD {X : Cx} (hq : Quiet X.A) (hu : X.A.units + 65 < cLine) : CallR X (.builtin "repr") (rRepr X) := by
  intro pins s σ H xs us Q I r h
  obtain ⟨v, q, rfl, hs, hd, hz, hr, q9⟩ := h
  obtain ⟨u, rfl, ru⟩ := vals1 r
  obtain ⟨as, ra, na⟩ := hr pins s σ u I ru
  exact reprText_small (X := X) ra na hs hz hq (by omega) fun h' t k hk => ⟨.str q.shown, H, I.kept (h' := h') (t' := k) hk, ⟨t, rfl⟩, q9⟩
end
end Lm
set_option Elab.async false
set_option linter.all false
set_option maxRecDepth 100000
set_option maxHeartbeats 1000000
namespace Lm
open PySem PySem.Spec PyProof.Rows L2
open PySem.W (EachIs AllAlike Sortable dataLe dataLt)
/-! ### sorted -/
theorem each_split {β : Type} {R : V → β → Prop} : ∀ {us : List Value} {bs : List β}, EachIs (fun u b => ∃ v, RelV v u ∧ R v b) us bs → ∃ vs, Vals vs us ∧ EachIs R vs bs
  | _, _, .nil => ⟨[], .nil, .nil⟩
  | _, _, .cons ⟨v, h1, h2⟩ t => by
    obtain ⟨vs, h3, h4⟩ := each_split t
    exact ⟨v :: vs, .cons h1 h3, .cons h2 h4⟩
theorem each_join {β : Type} {R : V → β → Prop} : ∀ {us : List Value} {vs : List V} {bs : List β}, Vals vs us → EachIs R vs bs → EachIs (fun u b => ∃ v, RelV v u ∧ R v b) us bs
  | _, _, _, .nil, .nil => .nil
  | _, _, _, .cons h t, .cons h' t' => .cons ⟨_, h, h'⟩ (each_join t t')
theorem each_in {α β : Type} {R : α → β → Prop} : ∀ {as : List α} {bs : List β}, EachIs R as bs → EachIs (fun a b => R a b ∧ b ∈ bs) as bs
  | _, _, .nil => .nil
  | _, _, .cons h t => .cons ⟨h, List.mem_cons_self⟩ ((each_in t).mono fun _ _ x => ⟨x.1, List.mem_cons_of_mem _ x.2⟩)
/-- the items may be sorted -/
structure SortOk (X : Cx) (H : Hp) (vs : List V) (bs : List D) (R : V → D → Prop) : Prop where
  e : EachIs R vs bs
  rd : ∀ v d, R v d → d ∈ bs → RdX X H v (encD d)
  al : AllAlike (bs.map encD)
  so : Sortable (bs.map encD)
  l : bs.length ≤ sizeLine
  d : ∀ b ∈ bs, (encD b).depth ≤ 50
section
variable {X : Cx} {pins : List (Addr × Obj)} {σ : L2.St} {H : Hp} {s : Shared}
theorem SortOk.reads {vs : List V} {bs : List D} {R : V → D → Prop} (k : SortOk X H vs bs R) (I : Inv X pins σ H s) {us : List Value} (r : Vals vs us) :
    EachIs (fun u d => ∃ v, RelV v u ∧ R v d) us bs ∧ EachIs (fun u d => ∃ as, Reads s.heap u (encD d) as) us bs := by
  have e1 := each_join r k.e
  exact ⟨e1, (each_in e1).mono fun u d ⟨⟨v, h1, h2⟩, h3⟩ => k.rd v d h2 h3 _ _ _ _ I h1⟩
def rSortL (X : Cx) : List V → Hp → VK → Prop := fun xs H Q => ∃ (a : Addr) (vs : List V) (bs : List D) (R : V → D → Prop), xs = [.ref a] ∧ SqL X.K H a vs ∧ SortOk X H vs bs R ∧
  ∀ out p, EachIs R out (bs.mergeSort (dataLe false encD)) → H p = none → Q (.ref p) (upd H p (.lst out))
theorem cr_sortL (hu : X.A.units + 66 < cLine) : CallR X (.builtin "sorted") (rSortL X) := by
  intro pins s σ H xs us Q I r h
  obtain ⟨a, vs, bs, R, rfl, hs, k, q⟩ := h
  obtain ⟨its, rv, hl, _⟩ := I.list hs
  rw [Vals.ref1 r]
  obtain ⟨e1, e2⟩ := k.reads I rv
  refine PySem.W.sorted_data (enc := encD) hl.isList e1 e2 k.al k.so k.l (fun b hb => by have := k.d b hb; omega) fun out hlen eo => ?_
  obtain ⟨vo, hv, ho⟩ := each_split eo
  obtain ⟨ep, he'⟩ := PyProof.Rows.sortedAll_at s.heap its (List.toArray out)
  have hz : vo.length ≤ sizeLine := by rw [hv.length, hlen]; exact k.l
  exact ⟨.ref _, upd H (s.heap.objs.size + 1) (.lst vo), I.laid (t' := s.toks) (fun _ _ => PyProof.Rows.sortedAll_old) (Nat.le_succ _) ⟨hz, out, ep, hv, he'⟩, rfl, q vo _ ho (I.hok.fresh (Nat.le_succ _))⟩
/-- the keys of such a dict, as they stand -/
def keysN (xs : List (NestedKey × Addr × V)) : List V := xs.map fun x => .ref x.2.1
theorem keys_vals {xs : List (NestedKey × Addr × V)} {ys : List (NestedKey × Addr × Value)} (pr : PN xs ys) : Vals (keysN xs) (ys.map fun x => Value.ref x.2.1) := by
  unfold keysN
  induction pr with
  | nil => exact .nil
  | cons h t ih => exact .cons (by show Value.ref _ = Value.ref _; rw [h.2.1]) ih
theorem items_eq {a : Addr} {ys : List (NestedKey × Addr × Value)} {es : Array DictEntry} {acc : Array Value} (l1 : es.size = ys.length) (he : ∀ i (hi : i < es.size), ∃ y, ys[i]? = some y ∧ es[i].key = .ref y.2.1)
    (it : ItemsOf (fun i v => ∃ en : DictEntry, es[i]? = some en ∧ v = en.key) acc es.size) : acc.toList = ys.map fun x => Value.ref x.2.1 := by
  have hl : acc.toList.length = ys.length := by rw [Array.length_toList, it.1]; exact l1
  apply List.ext_getElem?
  intro j
  rw [List.getElem?_map]
  cases hj : acc.toList[j]? with
  | none =>
    have h1 := List.getElem?_eq_none_iff.mp hj
    rw [List.getElem?_eq_none (by omega)]
    rfl
  | some v =>
    obtain ⟨en, hen, hv⟩ := it.2 j v (by rw [← Array.getElem?_toList]; exact hj)
    obtain ⟨hi, e1⟩ := Array.getElem?_eq_some_iff.mp hen
    obtain ⟨y, h1, h2⟩ := he j hi
    rw [h1, hv, ← e1, h2]
    rfl
theorem NAt.src {a : Addr} {xs : List (NestedKey × Addr × V)} (I : Inv X pins σ H s) (h : NAt X.K X.w H a xs) : ∃ o es, ∃ (ep : Nat) (ys : List (NestedKey × Addr × Value)), (a == sysModules) = false ∧ s.heap.get? a = some o ∧ o.ExactDict ∧ o.data = .dict es ep ∧ es.size = xs.length ∧ PN xs ys ∧ es.size = ys.length ∧
    (∀ i (hi : i < es.size), ∃ y, ys[i]? = some y ∧ es[i].key = .ref y.2.1) ∧ xs.length ≤ sizeLine := by
  obtain ⟨hz, hm, ys, pr, dd⟩ := h.of I
  obtain ⟨es, ep, ⟨o, h1, h2, h3⟩, hs, he⟩ := dd.raw
  exact ⟨o, es, ep, ys, hm, h1, h2, h3, by rw [hs, Paired.length pr], pr, hs, fun i hi => let ⟨y, a1, a2, _⟩ := he i hi; ⟨y, a1, a2⟩, hz⟩
def rListN (X : Cx) : List V → Hp → VK → Prop := fun zs H Q => ∃ a xs, zs = [.ref a] ∧ NAt X.K X.w H a xs ∧ ∀ p, H p = none → Q (.ref p) (upd H p (.lst (keysN xs)))
theorem cr_listN (hc : X.calm = true) : CallR X (.type "list") (rListN X) := by
  intro pins s σ H zs us Q I r h
  obtain ⟨a, xs, rfl, h, q⟩ := h
  obtain ⟨u, rfl, rx⟩ := r.one
  cases rx
  obtain ⟨o, es, ep, ys, hm, h1, h2, h3, h4, pr, h5, he, hz⟩ := h.src I
  refine PySem.W.kdl_call (kdl_raw hm h2 h3) (I.ok.hd hc) h1 (by omega) fun h' tk acc' c' kp e it => ?_
  have ea := items_eq (a := a) h5 he it
  have rv : Vals (keysN xs) acc'.toList := by rw [ea]; exact keys_vals pr
  have hz2 : (keysN xs).length ≤ sizeLine := by unfold keysN; rw [List.length_map]; exact hz
  refine ⟨.ref s.heap.objs.size, _, I.laid (t' := tk) (o := .lst (keysN xs)) kp (Nat.le_refl _) ?_, rfl, q _ (I.hok.fresh (Nat.le_refl _))⟩
  exact ⟨hz2, acc'.toList, c', rv, by rw [Array.toArray_toList]; exact e⟩
def rSortN (X : Cx) : List V → Hp → VK → Prop := fun zs H Q => ∃ (a : Addr) (xs : List (NestedKey × Addr × V)) (bs : List D) (R : V → D → Prop), zs = [.ref a] ∧ NAt X.K X.w H a xs ∧ SortOk X H (keysN xs) bs R ∧
  ∀ out p, EachIs R out (bs.mergeSort (dataLe false encD)) → H p = none → Q (.ref p) (upd H p (.lst out))
theorem cr_sortN (hc : X.calm = true) (hu : X.A.units + 66 < cLine) : CallR X (.builtin "sorted") (rSortN X) := by
  intro pins s σ H zs us Q I r h
  obtain ⟨a, xs, bs, R, rfl, h, k, q⟩ := h
  obtain ⟨u, rfl, rx⟩ := r.one
  cases rx
  obtain ⟨o, es, ep, ys, hm, h1, h2, h3, h4, pr, h5, he, hz⟩ := h.src I
  refine Calls.call_function_entry PyProof.Rows.kind_sorted PyProof.Rows.plain_sorted PyProof.Rows.entry_sorted (PyProof.Rows.args_sorted1 _) ?_
  unfold Builtin.«sorted»
  refine wpAny_bind (m := checkCount "sorted" 1 1 _) (wpAny_pure ?_)
  refine wpAny_bind (PySem.W.kdu_collect (A := X.A.in1) (kdl_raw hm h2 h3) (I.ok.hd hc) h1 (by omega) fun h' tk acc kp it => ?_)
  have ea := items_eq (a := a) h5 he it
  have rv : Vals (keysN xs) acc.toList := by rw [ea]; exact keys_vals pr
  have I1 : Inv X pins σ H { s with heap := h', toks := tk } := I.kept kp
  obtain ⟨e1, e2⟩ := k.reads I1 rv
  have hl2 : acc.toList.length ≤ sizeLine := by rw [e1.length]; exact k.l
  refine wpAny_bind (wpAny_newList ?_ hl2)
  have hoL : (h'.push (seqObj "list" acc.toList.toArray 0)).get? h'.objs.size = some (seqObj "list" acc.toList.toArray 0) := Heap.get?_push_size _ rfl
  show wpAny _ _ _ _ _ { s with heap := h'.push (seqObj "list" acc.toList.toArray 0), toks := tk }
  have old : ∀ b o, h'.get? b = some o → (PySem.W.sortingHeap (h'.push (seqObj "list" acc.toList.toArray 0)) h'.objs.size acc.toList).get? b = some o := fun b o e =>
    PySem.W.sortingHeap_old (Nat.ne_of_lt (Heap.lt_size e)) (Heap.get?_push_of_some _ e)
  refine wpAny_bind (wpAny_holding (wpAny_call_entry PyProof.Rows.slot_list_sort ⟨_, hoL, rfl⟩ PyProof.Rows.entry_list_sort ?_ (PyProof.Rows.args_list_sort _)))
  have er : EachIs (fun u d => ∃ as, Reads (PySem.W.sortingHeap (h'.push (seqObj "list" acc.toList.toArray 0)) h'.objs.size acc.toList) u (encD d) as) acc.toList bs := e2.mono fun _ _ ⟨as, z⟩ => ⟨as, PyProof.Rows.Reads.keeps old z⟩
  refine PySem.W.list_sort_vals (s := { s with heap := h'.push (seqObj "list" acc.toList.toArray 0), toks := tk }) hoL
    (PySem.W.SortsAt.data (s := { s with heap := PySem.W.sortingHeap (h'.push (seqObj "list" acc.toList.toArray 0)) h'.objs.size acc.toList, toks := tk }) (PySem.W.each_map (R := fun v d => ∃ as, Reads (PySem.W.sortingHeap (h'.push (seqObj "list" acc.toList.toArray 0)) h'.objs.size acc.toList) v d as) encD er) k.al k.so
      (PySem.W.bound_map (bs := bs) fun b hb => by show X.A.units + 1 + 1 + _ < _; have := k.d b hb; omega)) hl2 ⟨_, rfl, ?_⟩
  have eo := PySem.W.sortVals_data false e1 er k.al
  obtain ⟨vo, hv, ho⟩ := each_split eo
  generalize hout : PySem.W.sortVals _ false acc.toList acc.toList = out at hv
  obtain ⟨e', he'⟩ := PyProof.Rows.sortedHeap_at (vs := acc.toList) (out := List.toArray out) hoL
  have hz2 : vo.length ≤ sizeLine := by rw [ho.length, List.length_mergeSort]; exact k.l
  refine wpAny_pure ⟨_, rfl, .ref h'.objs.size, upd H h'.objs.size (.lst vo), I1.laid (t' := tk) (fun b u e => ?_) (Nat.le_refl _)
    (show ObjOk X.prog X.w _ _ _ (.lst vo) from ⟨hz2, out, e', hv, by rw [← hout] at he' ⊢; exact he'⟩), rfl, q vo _ ho (I1.hok.fresh (Nat.le_refl _))⟩
  have hb : b < h'.objs.size := Heap.lt_size e
  rw [PyProof.Rows.sortedHeap_old (Nat.ne_of_lt hb) (by rw [size_push']; exact Nat.lt_succ_of_lt hb)]
  exact Heap.get?_push_of_some _ e
def rLenN (X : Cx) : List V → Hp → VK → Prop := fun zs H Q => ∃ a xs, zs = [.ref a] ∧ NAt X.K X.w H a xs ∧ Q (.int xs.length) H
theorem cr_lenN : CallR X (.builtin "len") (rLenN X) := by
  intro pins s σ H zs us Q I r h
  obtain ⟨a, xs, rfl, h, q⟩ := h
  obtain ⟨u, rfl, rx⟩ := r.one
  cases rx
  exact n_len I h fun t s' I' => ⟨.int xs.length, H, I', ⟨t, rfl⟩, q⟩
/-! ### min, max of data -/
def rBest (X : Cx) (mx : Bool) : List V → Hp → VK → Prop := fun zs H Q => ∃ (a : Addr) (vs : List V) (d : D) (ds : List D), zs = [.ref a] ∧ SqL X.K H a vs ∧ vs.length = (d :: ds).length ∧
  (∀ i v, vs[i]? = some v → RdX X H v (encD ((d :: ds).getD i .non))) ∧ PySem.W.AlikeAll ((d :: ds).map encD) ∧ PyData.depthAll ((d :: ds).map encD) ≤ 50 ∧
  ∀ i v, vs[i]? = some v → (d :: ds).getD i .non = ds.foldl (fun a y => if (if mx then dataLt (encD a) (encD y) else dataLt (encD y) (encD a)) then y else a) d → Q v H
theorem reads_list {h : Heap} : ∀ {us : List Value} {ps : List PyData}, us.length = ps.length → (∀ i u, us[i]? = some u → ∃ as, Reads h u (ps.getD i .none) as) → ∃ as, ReadsAll h us ps as
  | [], [], _, _ => ⟨[], .nil⟩
  | [], _ :: _, e, _ => by cases e
  | _ :: _, [], e, _ => by cases e
  | u :: us, p :: ps, e, h => by
    obtain ⟨as, h1⟩ := h 0 u rfl
    obtain ⟨bs, h2⟩ := reads_list (us := us) (ps := ps) (by simpa using e) fun i w hw => h (i + 1) w hw
    exact ⟨as ++ bs, .cons h1 h2⟩
theorem getD_enc (ds : List D) (i : Nat) : (ds.map encD).getD i .none = encD (ds.getD i .non) := by
  rw [List.getD_eq_getElem?_getD, List.getD_eq_getElem?_getD, List.getElem?_map]
  cases ds[i]? <;> rfl
theorem cr_best (hc : X.calm = true) (hu : X.A.units + 66 < cLine) (mx : Bool) : CallR X (.builtin (if mx then "max" else "min")) (rBest X mx) := by
  intro pins s σ H zs us Q I r h
  obtain ⟨a, vs, d, ds, rfl, hs, hlen, hr, hal, hd, q⟩ := h
  obtain ⟨its, rv, hl, _⟩ := I.list hs
  rw [Vals.ref1 r]
  have hil : its.length = (d :: ds).length := by rw [← rv.length]; exact hlen
  obtain ⟨as, ra⟩ := reads_list (h := s.heap) (us := its) (ps := (d :: ds).map encD) (by rw [List.length_map]; exact hil) fun i u hu' => by
    have hi : i < vs.length := by rw [rv.length]; exact (List.getElem?_eq_some_iff.mp hu').1
    obtain ⟨u2, e1, e2⟩ := rv.get (List.getElem?_eq_getElem hi)
    rw [hu'] at e1
    cases e1
    rw [getD_enc]
    exact hr i _ (List.getElem?_eq_getElem hi) _ _ _ _ I e2
  have fin : ∀ (i : Nat) (u : Value) (h' : Heap) (tk : Nat), its.toArray[i]? = some u → (∀ b o, s.heap.get? b = some o → h'.get? b = some o) → (d :: ds).getD i .non = ds.foldl (fun a y => if (if mx then dataLt (encD a) (encD y) else dataLt (encD y) (encD a)) then y else a) d → EP X pins σ Q u { s with heap := h', toks := tk } := fun i u h' tk hi kp he => by
    have hi : its[i]? = some u := by simpa using hi
    have hlt : i < vs.length := by rw [rv.length]; exact (List.getElem?_eq_some_iff.mp hi).1
    obtain ⟨u2, e1, e2⟩ := rv.get (List.getElem?_eq_getElem hlt)
    rw [hi] at e1
    cases e1
    exact ⟨_, H, I.kept kp, e2, q i _ (List.getElem?_eq_getElem hlt) he⟩
  have hrA : ReadsAll s.heap its.toArray.toList ((d :: ds).map encD) as := by simpa using ra
  have hn : its.toArray.size = ds.length + 1 := by simpa using hil
  cases mx with
  | false =>
    refine PySem.call_min_walkH (PySem.W.iter_listW (A := X.A.in1) (I.ok.hd hc) hl.isList fun s₂ e W st hfp hw hk => ?_)
    refine ⟨_, _, _, _, _, _, _, s.heap, _, rfl, W, st, hfp, by omega, hw, hk, PySem.W.cmpIn_lt (A := X.A.in1) hrA hal (by show X.A.units + 1 + _ < _; omega), fun v s' hP m => ?_⟩
    obtain ⟨h', tk, rfl, hk'⟩ := PySem.W.moved_old e rfl m
    refine fin _ v h' tk hP hk' ?_
    have e1 : its.toArray.size - 1 = ds.length := by omega
    have e2 := (PySem.W.argBest_fold (fun a b => dataLt (encD a) (encD b)) D.non d ds ds.length (Nat.le_refl _)).2
    rw [List.take_length] at e2
    rw [e1]
    have ef : (fun i j => dataLt (((d :: ds).map encD).getD i .none) (((d :: ds).map encD).getD j .none)) = fun i j => dataLt (encD ((d :: ds).getD i .non)) (encD ((d :: ds).getD j .non)) := by
      funext i j; rw [getD_enc, getD_enc]
    rw [ef]
    exact e2
  | true =>
    refine PySem.call_max_walkH (PySem.W.iter_listW (A := X.A.in1) (I.ok.hd hc) hl.isList fun s₂ e W st hfp hw hk => ?_)
    refine ⟨_, _, _, _, _, _, _, s.heap, _, rfl, W, st, hfp, by omega, hw, hk, PySem.W.cmpIn_gt (A := X.A.in1) hrA hal (by show X.A.units + 1 + _ < _; omega), fun v s' hP m => ?_⟩
    obtain ⟨h', tk, rfl, hk'⟩ := PySem.W.moved_old e rfl m
    refine fin _ v h' tk hP hk' ?_
    have e1 : its.toArray.size - 1 = ds.length := by omega
    have e2 := (PySem.W.argBest_fold (fun a b => dataLt (encD b) (encD a)) D.non d ds ds.length (Nat.le_refl _)).2
    rw [List.take_length] at e2
    rw [e1]
    have ef : (fun i j => dataLt (((d :: ds).map encD).getD j .none) (((d :: ds).map encD).getD i .none)) = fun i j => dataLt (encD ((d :: ds).getD j .non)) (encD ((d :: ds).getD i .non)) := by
      funext i j; rw [getD_enc, getD_enc]
    rw [ef]
    exact e2
end
end Lm
set_option Elab.async false
set_option linter.all false
set_option maxRecDepth 100000
set_option maxHeartbeats 1000000
namespace Lm
open PySem PySem.Spec PyProof.Rows L2
section
variable {X : Cx} {L : Lk} {G F F' H H' : Hp} {ι ι' : List Addr} {env : Env} {μ : Sto} {σ : L2.St} {p : Addr} {Q : VK}
/-! ### built-ins of one argument -/
def f1Name : F1 → Str | .len => "len" | .abs => "abs" | .int => "int" | .str => "str" | .repr => "repr" | .list => "list" | .tuple => "tuple" | .all => "all" | .sum => "sum" | .min => "min" | .max => "max" | .sorted => "sorted" | .upper => "" | .values => ""
def f1Val : F1 → Value
  | .len => .builtin "len"
  | .abs => .builtin "abs"
  | .int => .type "int"
  | .str => .type "str"
  | .repr => .builtin "repr"
  | .list => .type "list"
  | .tuple => .type "tuple"
  | .all => .builtin "all"
  | .sum => .builtin "sum"
  | .min => .builtin "min"
  | .max => .builtin "max"
  | .sorted => .builtin "sorted"
  | .upper => .none
  | .values => .none
def f1Ok : F1 → Bool | .upper => false | .values => false | _ => true
theorem pe_f1 {b : F1} {r : List V → Hp → VK → Prop} {a : Expr} {ta : TE} {q pos : Pos} (hok : f1Ok b = true) (hc : CallR X (f1Val b) r) (hg : Gl X (f1Name b)) (hm : X.mg (f1Name b) = none) (ha : PE X a ta) (hn : noStar a = true) :
    PE X (.Call (.Name (f1Name b) q) [a] [] pos) (tCB r (tCons ta tNil)) := by
  have pa := paC hn ha (pa_nil (X := X))
  have h2 : (backTo pos (starEach [] X.env)).any (·.1) = false := rfl
  cases b <;> first
    | (cases hok; done)
    | exact pe_callB hc hg hm (by decide +kernel) pa (by decide +kernel) (by decide +kernel) (starEach_cons hn) h2
    | exact pe_callTy hc hg hm (by decide +kernel) pa (by decide +kernel) (by decide +kernel) (starEach_cons hn) h2
def rLenAll (K : PySem.W.Frag) : List V → Hp → VK → Prop := fun xs H Q => (∃ p ys, xs = [.ref p] ∧ (SqL K H p ys ∨ SqT K H p ys) ∧ Q (.int ys.length) H) ∨ ((∃ z, xs = [.str z] ∧ z.length ≤ sizeLine ∧ Q (.int z.length) H) ∨ ∃ a ks, xs = [.ref a] ∧ H a = some (.dK ks) ∧ Q (.int ks.length) H)
theorem call_lenD : CallR X (.builtin "len") (fun xs H Q => ∃ a ks, xs = [.ref a] ∧ H a = some (.dK ks) ∧ Q (.int ks.length) H) := by
  intro pins s σ H xs us Q I r h
  obtain ⟨a, ks, rfl, ha, q⟩ := h
  obtain ⟨u, rfl, ru⟩ := vals1 r
  cases ru
  exact d_len I (.inl ha) fun t s' I' => ⟨.int ks.length, H, I', ⟨t, rfl⟩, q⟩
def rIntAll : List V → Hp → VK → Prop := fun xs H Q => ((∃ i, xs = [.int i] ∧ Q (.int i) H) ∨ ∃ k, xs = [.bl k] ∧ Q (.int (if k then 1 else 0)) H) ∨ ∃ a n, xs = [.str a] ∧ PySem.intText? a = some n ∧ a.length ≤ 640 ∧ Q (.int n) H
def rStrAll : List V → Hp → VK → Prop := fun xs H Q => (∃ i : Int, xs = [.int i] ∧ i.natAbs.log2 < 1920 ∧ Q (.str (toString i)) H) ∨ ∃ a, xs = [.str a] ∧ Q (.str a) H
def rF1 (X : Cx) : F1 → List V → Hp → VK → Prop
  | .len => fun xs H Q => rLenAll X.K xs H Q ∨ rLenN X xs H Q
  | .abs => fun xs H Q => ∃ i, xs = [.int i] ∧ Q (.int (if i < 0 then -i else i)) H
  | .int => rIntAll | .str => rStrAll | .repr => rRepr X
  | .list => fun xs H Q => (∃ p ys, xs = [.ref p] ∧ (SqL X.K H p ys ∨ SqT X.K H p ys) ∧ ∀ l, H l = none → Q (.ref l) (upd H l (.lst ys))) ∨ rListN X xs H Q
  | .tuple => fun xs H Q => ∃ p ys, xs = [.ref p] ∧ ((SqL X.K H p ys ∧ ∀ l, H l = none → Q (.ref l) (upd H l (.tup ys))) ∨ (SqT X.K H p ys ∧ Q (.ref p) H))
  | .all => rAll X.K | .sum => rSum X.K | .min => fun xs H Q => rMin X.K xs H Q ∨ rBest X false xs H Q | .max => fun xs H Q => rMax X.K xs H Q ∨ rBest X true xs H Q
  | .sorted => fun xs H Q => rSortL X xs H Q ∨ rSortN X xs H Q
  | _ => fun _ _ _ => False
theorem callr_f1 (hcalm : X.calm = true) (hq : Quiet X.A) (hu : X.A.units + 66 < cLine) : ∀ b : F1, CallR X (f1Val b) (rF1 X b)
  | .len => (call_len_seq.or (call_len_str.or call_lenD)).or cr_lenN
  | .abs => call_abs
  | .int => call_int1.or call_int_str
  | .str => call_str_int.or SkE.call_str_str
  | .repr => call_reprD hq (by omega)
  | .list => call_list_of.or (cr_listN hcalm)
  | .tuple => call_tuple_of
  | .all => cr_all hcalm
  | .sum => cr_sum hcalm
  | .min => (cr_min hcalm).or (cr_best hcalm hu false)
  | .max => (cr_max hcalm).or (cr_best hcalm hu true)
  | .sorted => (cr_sortL hu).or (cr_sortN hcalm hu)
  | .upper => fun _ _ _ _ _ _ _ _ _ h => h.elim | .values => fun _ _ _ _ _ _ _ _ _ h => h.elim
theorem allB_ok {K : PySem.W.Frag} : ∀ {xs : List D} {vs : List V} {b : Bool}, Reps K L F ι xs vs → allB xs = some b → ∃ bs : List Bool, vs = bs.map V.bl ∧ b = bs.all id
  | [], _, _, r, e => by cases r; cases e; exact ⟨[], rfl, rfl⟩
  | x :: xs, _, _, r, e => by
    cases x <;> simp only [allB, reduceCtorEq] at e
    cases r with
    | cons a b =>
      cases a
      obtain ⟨b', e1, rfl⟩ := Option.map_eq_some_iff.mp e
      obtain ⟨bs, rfl, rfl⟩ := allB_ok b e1
      exact ⟨_ :: bs, rfl, rfl⟩
theorem sumI_ok {K : PySem.W.Frag} : ∀ {xs : List D} {vs : List V} {i : Int}, Reps K L F ι xs vs → sumI xs = some i → ∃ ns : List Int, vs = ns.map V.int ∧ i = ns.sum
  | [], _, _, r, e => by cases r; cases e; exact ⟨[], rfl, rfl⟩
  | x :: xs, _, _, r, e => by
    cases x <;> simp only [sumI, reduceCtorEq] at e
    cases r with
    | cons a b =>
      cases a
      obtain ⟨b', e1, rfl⟩ := Option.map_eq_some_iff.mp e
      obtain ⟨bs, rfl, rfl⟩ := sumI_ok b e1
      exact ⟨_ :: bs, rfl, by rw [List.sum_cons]⟩
theorem minI_ok {K : PySem.W.Frag} : ∀ {xs : List D} {vs : List V} {i : Int}, Reps K L F ι xs vs → foldI min xs = some i → ∃ ns : List Int, vs = ns.map V.int ∧ 0 < ns.length ∧ i ∈ ns ∧ ∀ y ∈ ns, i ≤ y
  | [], _, _, r, e => by cases e
  | [x], _, _, r, e => by
    cases x <;> simp only [foldI, reduceCtorEq] at e
    cases e
    cases r with
    | cons a b => cases a; cases b; exact ⟨[_], rfl, by simp, by simp, by simp⟩
  | x :: y :: xs, _, _, r, e => by
    cases x <;> simp only [foldI, reduceCtorEq] at e
    cases r with
    | cons a b =>
      cases a
      obtain ⟨b', e1, rfl⟩ := Option.map_eq_some_iff.mp e
      obtain ⟨ns, h1, h2, h3, h4⟩ := minI_ok b e1
      refine ⟨_ :: ns, by rw [h1]; rfl, by simp, ?_, ?_⟩
      · rw [Int.min_def]; split
        · exact List.mem_cons_self
        · exact List.mem_cons_of_mem _ h3
      · intro z hz
        rcases List.mem_cons.mp hz with rfl | hz
        · exact Int.min_le_left _ _
        · exact Int.le_trans (Int.min_le_right _ _) (h4 z hz)
theorem maxI_ok {K : PySem.W.Frag} : ∀ {xs : List D} {vs : List V} {i : Int}, Reps K L F ι xs vs → foldI max xs = some i → ∃ ns : List Int, vs = ns.map V.int ∧ 0 < ns.length ∧ i ∈ ns ∧ ∀ y ∈ ns, y ≤ i
  | [], _, _, r, e => by cases e
  | [x], _, _, r, e => by
    cases x <;> simp only [foldI, reduceCtorEq] at e
    cases e
    cases r with
    | cons a b => cases a; cases b; exact ⟨[_], rfl, by simp, by simp, by simp⟩
  | x :: y :: xs, _, _, r, e => by
    cases x <;> simp only [foldI, reduceCtorEq] at e
    cases r with
    | cons a b =>
      cases a
      obtain ⟨b', e1, rfl⟩ := Option.map_eq_some_iff.mp e
      obtain ⟨ns, h1, h2, h3, h4⟩ := maxI_ok b e1
      refine ⟨_ :: ns, by rw [h1]; rfl, by simp, ?_, ?_⟩
      · rw [Int.max_def]; split
        · exact List.mem_cons_of_mem _ h3
        · exact List.mem_cons_self
      · intro z hz
        rcases List.mem_cons.mp hz with rfl | hz
        · exact Int.le_max_left _ _
        · exact Int.le_trans (h4 z hz) (Int.le_max_right _ _)
theorem RepK.len {K : PySem.W.Frag} : ∀ {kvs : List (D × D)} {ks : List (Key × V)}, RepK K L F ι kvs ks → kvs.length = ks.length
  | _, _, .nil => rfl
  | _, _, .cons _ _ b => congrArg (· + 1) b.len
theorem RepB.seq {K : PySem.W.Frag} {xs : List D} {d : D} {v : V} (hd : d = .lst xs ∨ d = .tup xs ∨ d = .frz xs) (sr : SR K L G F ι env μ σ H) (r : RepB K L F ι H d v) : ∃ a vs, v = .ref a ∧ (SqL K H a vs ∨ SqT K H a vs) ∧ Reps K L F ι xs vs := by
  rcases hd with rfl | rfl | rfl
  · obtain ⟨a, vs, rfl, h, r⟩ := r.lst sr; exact ⟨a, vs, rfl, .inl (SqL.of h), r⟩
  · obtain ⟨a, vs, rfl, h, r⟩ := r.tup sr; exact ⟨a, vs, rfl, .inr h, r⟩
  · obtain ⟨a, vs, rfl, h, r⟩ := r.frz sr; exact ⟨a, vs, rfl, .inl h, r⟩
theorem toP_noobj {d : D} {q : PyData} (e : toP d = some q) : ∀ c fs, d ≠ .obj c fs := fun c fs z => by subst z; cases e
open PySem.W (EachIs AllAlike Sortable dataLe dataLt)
theorem RepN.keyReps {K : PySem.W.Frag} {kvs : List (D × D)} {xs : List (NestedKey × Addr × V)} (r : RepN K L F ι kvs xs) : Reps K L F ι (kvs.map (·.1)) (keysN xs) := by
  induction kvs generalizing xs with
  | nil => cases r; exact .nil
  | cons kv rest ih => cases r with | cons h1 h2 h3 h4 => exact .cons h2 (ih h4)
theorem reps_each {K : PySem.W.Frag} : ∀ {ds : List D} {vs : List V}, EachIs (fun v d => Rep K L F ι d v) vs ds ↔ Reps K L F ι ds vs
  | [], [] => ⟨fun _ => .nil, fun _ => .nil⟩
  | [], _ :: _ => ⟨(fun h => nomatch h), (fun h => nomatch h)⟩
  | _ :: _, [] => ⟨(fun h => nomatch h), (fun h => nomatch h)⟩
  | d :: ds, v :: vs => ⟨(fun | .cons a b => .cons a (reps_each.mp b)), (fun | .cons a b => .cons a (reps_each.mpr b))⟩
theorem ordAll_some {xs : List D} (h : ordAll xs = true) : (∀ d ∈ xs, ∃ p, toP d = some p ∧ encD d = p ∧ p ≠ .none ∧ p.depth ≤ 50) ∧ ∀ a ∈ xs, ∀ b ∈ xs, PySem.W.alike (encD a) (encD b) = true := by
  unfold ordAll at h
  rw [Bool.and_eq_true, List.all_eq_true, List.all_eq_true] at h
  exact ⟨fun d hd => ordD_some (h.1 d hd), fun a ha b hb => List.all_eq_true.mp (h.2 a ha) b hb⟩
theorem sortD_ok {xs zs : List D} {vs : List V} (sr : SR X.K L G F ι env μ σ H) (r : Reps X.K L F ι xs vs) (e : sortD xs = some zs) : SortOk X H vs xs (fun v d => Rep X.K L F ι d v) ∧ zs = xs.mergeSort (dataLe false encD) := by
  unfold sortD at e
  split at e
  · rename_i h
    simp only [Bool.and_eq_true, decide_eq_true_eq] at h
    cases e
    obtain ⟨⟨h1, h2⟩, h3⟩ := h
    obtain ⟨g1, g2⟩ := ordAll_some h1
    refine ⟨⟨reps_each.mpr r, fun v d rd hd => ?_, fun p hp q hq => ?_, ?_, h3, fun b hb => ?_⟩, rfl⟩
    · obtain ⟨p, e1, e2, _⟩ := g1 d hd
      rw [e2]
      exact RdX.of sr (.of rd) e1
    · obtain ⟨a, ha, rfl⟩ := List.mem_map.mp hp
      obtain ⟨b, hb, rfl⟩ := List.mem_map.mp hq
      exact g2 a ha b hb
    · rw [Bool.or_eq_true] at h2
      rcases h2 with h2 | h2
      · refine .inl fun p hp => ?_
        obtain ⟨a, ha, rfl⟩ := List.mem_map.mp hp
        have h4 := List.all_eq_true.mp h2 a ha
        obtain ⟨p, e1, e2, _⟩ := g1 a ha
        unfold tupH at h4
        split at h4
        · rename_i x ys
          rw [e2]
          have e1 : (toPs (x :: ys)).map PyData.tuple = some p := e1
          obtain ⟨ps, e3, rfl⟩ := Option.map_eq_some_iff.mp e1
          unfold toPs at e3
          split at e3
          · cases e3; exact ⟨_, _, rfl⟩
          · cases e3
        · cases h4
      · refine .inr fun p hp => ?_
        obtain ⟨a, ha, rfl⟩ := List.mem_map.mp hp
        have h4 := List.all_eq_true.mp h2 a ha
        obtain ⟨p, e1, e2, e3, _⟩ := g1 a ha
        rw [e2]
        refine ⟨e3, fun ys z => ?_⟩
        subst z
        cases a <;> first | (cases h4; done) | skip
        all_goals first | (cases e1; done) | skip
        · obtain ⟨_, _, z⟩ := Option.map_eq_some_iff.mp (show (toPs _).map PyData.list = some (.tuple ys) from e1); cases z
        · obtain ⟨_, _, z⟩ := Option.map_eq_some_iff.mp (show (toPk _).map PyData.dict = some (.tuple ys) from e1); cases z
    · obtain ⟨p, e1, e2, _, e3⟩ := g1 b hb
      rw [e2]; exact e3
  · cases e
theorem reps_getD {K : PySem.W.Frag} {xs : List D} {vs : List V} (r : Reps K L F ι xs vs) {i : Nat} {v : V} (hv : vs[i]? = some v) : Rep K L F ι (xs.getD i .non) v := by
  have hi : i < xs.length := by rw [r.len]; exact (List.getElem?_eq_some_iff.mp hv).1
  obtain ⟨w, e1, e2⟩ := r.get (List.getElem?_eq_getElem hi)
  rw [hv] at e1
  cases e1
  rw [List.getD_eq_getElem?_getD, List.getElem?_eq_getElem hi]
  exact e2
theorem best_ok (mx : Bool) {xs : List D} {dz : D} {vs : List V} (sr : SR X.K L G F ι env μ σ H) (r : Reps X.K L F ι xs vs) (e : (if mx then maxL xs else minL xs) = some dz) : ∃ d ds, xs = d :: ds ∧
    (∀ i v, vs[i]? = some v → RdX X H v (encD ((d :: ds).getD i .non))) ∧ PySem.W.AlikeAll ((d :: ds).map encD) ∧ PyData.depthAll ((d :: ds).map encD) ≤ 50 ∧ dz = ds.foldl (fun a y => if (if mx then dataLt (encD a) (encD y) else dataLt (encD y) (encD a)) then y else a) d := by
  cases xs with
  | nil => cases mx <;> cases e
  | cons d ds =>
    have key : ordAll (d :: ds) = true ∧ dz = ds.foldl (fun a y => if (if mx then dataLt (encD a) (encD y) else dataLt (encD y) (encD a)) then y else a) d := by
      cases mx
      · simp only [Bool.false_eq_true, if_false, minL] at e ⊢
        split at e
        · rename_i h; cases e; exact ⟨h, rfl⟩
        · cases e
      · simp only [if_true, maxL] at e ⊢
        split at e
        · rename_i h; cases e; exact ⟨h, rfl⟩
        · cases e
    obtain ⟨h1, h2⟩ := key
    obtain ⟨g1, g2⟩ := ordAll_some h1
    refine ⟨d, ds, rfl, fun i v hv => ?_, ⟨fun p hp q hq => ?_, fun p hp => ?_⟩, ?_, h2⟩
    · have hi : i < (d :: ds).length := by rw [r.len]; exact (List.getElem?_eq_some_iff.mp hv).1
      have hm : (d :: ds).getD i .non ∈ d :: ds := by rw [List.getD_eq_getElem?_getD, List.getElem?_eq_getElem hi]; exact List.getElem_mem hi
      obtain ⟨p, e1, e2, _⟩ := g1 _ hm
      rw [e2]
      exact RdX.of sr (.of (reps_getD r hv)) e1
    · obtain ⟨a, ha, rfl⟩ := List.mem_map.mp hp
      obtain ⟨b, hb, rfl⟩ := List.mem_map.mp hq
      exact g2 a ha b hb
    · obtain ⟨a, ha, rfl⟩ := List.mem_map.mp hp
      obtain ⟨p, e1, e2, e3, _⟩ := g1 a ha
      rw [e2]; exact e3
    · have : ∀ l : List D, (∀ a ∈ l, (encD a).depth ≤ 50) → PyData.depthAll (l.map encD) ≤ 50 := fun l => by
        induction l with
        | nil => intro _; simp [PyData.depthAll]
        | cons a l ih =>
          intro h
          rw [List.map_cons, PyData.depthAll]
          exact Nat.max_le.mpr ⟨h a List.mem_cons_self, ih fun b hb => h b (List.mem_cons_of_mem _ hb)⟩
      refine this _ fun a ha => ?_
      obtain ⟨p, e1, e2, _, e3⟩ := g1 a ha
      rw [e2]; exact e3
theorem opF1_ok {b : F1} {dx dz : D} {x : V} (hw : L.w = X.w) (e : opF1 b dx = some dz) (sr : SR X.K L G F ι env μ σ H) (rx : RepB X.K L F ι H dx x) (h : okP X.K L G F ι env σ Q dz μ) : rF1 X b [x] H Q := by
  cases b with
  | len =>
    cases dx <;> simp only [opF1, reduceCtorEq] at e
    · cases rx.str
      split at e
      · rename_i hz; cases e; exact .inl (.inr (.inl ⟨_, rfl, hz, h.here sr (.int _)⟩))
      · cases e
    · cases e
      obtain ⟨a, vs, rfl, ha, r⟩ := rx.seq (.inr (.inl rfl)) sr
      rw [r.len] at h
      exact .inl (.inl ⟨a, vs, rfl, ha, h.here sr (.int _)⟩)
    · cases e
      obtain ⟨a, vs, rfl, ha, r⟩ := rx.seq (.inl rfl) sr
      rw [r.len] at h
      exact .inl (.inl ⟨a, vs, rfl, ha, h.here sr (.int _)⟩)
    · cases e
      obtain ⟨a, ks, rfl, ha, r⟩ := rx.dct sr
      rw [r.len] at h
      exact .inl (.inr (.inr ⟨a, ks, rfl, ha, h.here sr (.int _)⟩))
    · cases e
      obtain ⟨a, xs, rfl, ha, r⟩ := rx.nat hw sr
      rw [r.r.len] at h
      exact .inr ⟨a, xs, rfl, ha, h.here sr (.int _)⟩
    · cases e
      obtain ⟨a, vs, rfl, ha, r⟩ := rx.seq (.inr (.inr rfl)) sr
      rw [r.len] at h
      exact .inl (.inl ⟨a, vs, rfl, ha, h.here sr (.int _)⟩)
  | abs =>
    cases dx <;> simp only [opF1, reduceCtorEq] at e <;> cases e
    cases rx.int; exact ⟨_, rfl, h.here sr (.int _)⟩
  | int =>
    cases dx <;> simp only [opF1, reduceCtorEq] at e
    · cases e; cases rx.bl; exact .inl (.inr ⟨_, rfl, h.here sr (.int _)⟩)
    · cases e; cases rx.int; exact .inl (.inl ⟨_, rfl, h.here sr (.int _)⟩)
    · cases rx.str
      obtain ⟨n, e1, rfl⟩ := Option.map_eq_some_iff.mp e
      unfold intText at e1
      split at e1
      · rename_i hz; exact .inr ⟨_, n, rfl, e1, hz, h.here sr (.int _)⟩
      · cases e1
  | str =>
    cases dx <;> simp only [opF1, reduceCtorEq] at e
    · cases rx.int
      obtain ⟨z, e1, rfl⟩ := Option.map_eq_some_iff.mp e
      unfold digitsI at e1
      split at e1
      · rename_i hz; cases e1; exact .inl ⟨_, rfl, hz, h.here sr (.str _)⟩
      · cases e1
    · cases e; cases rx.str; exact .inr ⟨_, rfl, h.here sr (.str _)⟩
  | repr =>
    have e' : (reprD dx).map D.str = some dz := by cases dx <;> exact e
    obtain ⟨z, e1, rfl⟩ := Option.map_eq_some_iff.mp e'
    unfold reprD at e1
    split at e1
    · rename_i q hq
      split at e1
      · rename_i hc
        simp only [Bool.and_eq_true, decide_eq_true_eq] at hc
        cases e1
        have rH := rx.inH sr (toP_noobj hq)
        exact ⟨x, q, rfl, hc.1.1, hc.1.2, hc.2, fun pins s σ' u I ru => rH.reads I (Le.refl H) sr.smH hq ru, h.here sr (.str _)⟩
      · cases e1
    · cases e1
  | list =>
    cases dx <;> simp only [opF1, reduceCtorEq] at e
    · cases e
      obtain ⟨a, vs, rfl, ha, r⟩ := rx.seq (.inr (.inl rfl)) sr
      exact .inl ⟨a, vs, rfl, ha, h.newL sr r⟩
    · cases e
      obtain ⟨a, vs, rfl, ha, r⟩ := rx.seq (.inl rfl) sr
      exact .inl ⟨a, vs, rfl, ha, h.newL sr r⟩
    · split at e
      · cases e
        obtain ⟨a, xs, rfl, ha, r⟩ := rx.nat hw sr
        exact .inr ⟨a, xs, rfl, ha, h.newL sr r.r.keyReps⟩
      · cases e
  | sorted =>
    cases dx <;> simp only [opF1, reduceCtorEq] at e
    · obtain ⟨zs, e1, rfl⟩ := Option.map_eq_some_iff.mp e
      obtain ⟨a, vs, rfl, ha, r⟩ := rx.lst sr
      obtain ⟨k, rfl⟩ := sortD_ok sr r e1
      exact .inl ⟨a, vs, _, _, rfl, SqL.of ha, k, fun out p ho hp => h.newL sr (reps_each.mp ho) p hp⟩
    · obtain ⟨zs, e1, rfl⟩ := Option.map_eq_some_iff.mp e
      obtain ⟨a, xs, rfl, ha, r⟩ := rx.nat hw sr
      obtain ⟨k, rfl⟩ := sortD_ok sr r.r.keyReps e1
      exact .inr ⟨a, xs, _, _, rfl, ha, k, fun out p ho hp => h.newL sr (reps_each.mp ho) p hp⟩
  | tuple =>
    cases dx <;> simp only [opF1, reduceCtorEq] at e <;> cases e
    · obtain ⟨a, vs, rfl, ha, r⟩ := rx.tup sr
      exact ⟨a, vs, rfl, .inr ⟨ha, h.here sr rx.rep_tup⟩⟩
    · obtain ⟨a, vs, rfl, ha, r⟩ := rx.lst sr
      exact ⟨a, vs, rfl, .inl ⟨SqL.of ha, h.newT sr r⟩⟩
  | all =>
    cases dx <;> simp only [opF1, reduceCtorEq] at e
    obtain ⟨a, vs, rfl, ha, r⟩ := rx.lst sr
    obtain ⟨b, e1, rfl⟩ := Option.map_eq_some_iff.mp e
    obtain ⟨bs, rfl, rfl⟩ := allB_ok r e1
    exact ⟨a, bs, rfl, SqL.of ha, h.here sr (.bl _)⟩
  | sum =>
    cases dx <;> simp only [opF1, reduceCtorEq] at e
    obtain ⟨a, vs, rfl, ha, r⟩ := rx.lst sr
    obtain ⟨b, e1, rfl⟩ := Option.map_eq_some_iff.mp e
    obtain ⟨bs, rfl, rfl⟩ := sumI_ok r e1
    exact ⟨a, bs, rfl, SqL.of ha, h.here sr (.int _)⟩
  | min =>
    cases dx <;> simp only [opF1, reduceCtorEq] at e
    obtain ⟨a, vs, rfl, ha, r⟩ := rx.lst sr
    rcases orE e with e | e
    · obtain ⟨b, e1, rfl⟩ := Option.map_eq_some_iff.mp e
      obtain ⟨ns, rfl, hl, hm, hle⟩ := minI_ok r e1
      exact .inl ⟨a, ns, rfl, SqL.of ha, hl, fun m h1 h2 => (Int.le_antisymm (h2 _ hm) (hle _ h1)) ▸ h.here sr (.int _)⟩
    · obtain ⟨d, ds, rfl, hr, hal, hd, e2⟩ := best_ok false sr r e
      exact .inr ⟨a, vs, d, ds, rfl, SqL.of ha, r.len.symm, hr, hal, hd, fun i v hv he => h.here sr (by rw [e2, ← he]; exact reps_getD r hv)⟩
  | max =>
    cases dx <;> simp only [opF1, reduceCtorEq] at e
    obtain ⟨a, vs, rfl, ha, r⟩ := rx.lst sr
    rcases orE e with e | e
    · obtain ⟨b, e1, rfl⟩ := Option.map_eq_some_iff.mp e
      obtain ⟨ns, rfl, hl, hm, hle⟩ := maxI_ok r e1
      exact .inl ⟨a, ns, rfl, SqL.of ha, hl, fun m h1 h2 => (Int.le_antisymm (hle _ h1) (h2 _ hm)) ▸ h.here sr (.int _)⟩
    · obtain ⟨d, ds, rfl, hr, hal, hd, e2⟩ := best_ok true sr r e
      exact .inr ⟨a, vs, d, ds, rfl, SqL.of ha, r.len.symm, hr, hal, hd, fun i v hv he => h.here sr (by rw [e2, ← he]; exact reps_getD r hv)⟩
  | _ => cases dx <;> simp only [opF1, reduceCtorEq] at e
end
end Lm
set_option Elab.async false
set_option linter.all false
set_option maxRecDepth 100000
set_option maxHeartbeats 1000000
namespace Lm
open PySem PySem.Spec PyProof.Rows L2
/-! ## own exceptions below any base whose attributes are set by object.__setattr__ (ValueError, LookupError ..) -/
section
open Builtin Builtin.ObjectAttr PySem.W
variable {prog : Program} {w : World} {A : Around} {R : Result → Shared → Prop} {hp : Heap} {g : Array GenState} {d : Drawn} {t : Nat} {os : OsState} {K : PySem.W.Frag} {B : String} {bmB : List Value} {name : Str} {tk : Tok} {v : Value} {x C dx : Addr} {fv : Array Value}
/-- the first field: the dict is made -/
theorem saG_new (SF : StoreFacts B bmB "object.__setattr__" "object") (X : K.In hp) (hx : hp.get? x = some { cls := .ref C, data := .fields fv }) (ho : excOver K C bmB = true) (hh : hasDictIn K C = true) (ha : findIn K (.ref C) name = some none)
    (hq : ∀ h' tk', (∀ b o, b ≠ x → hp.get? b = some o → h'.get? b = some o) → hp.objs.size ≠ x → h'.get? x = some { cls := .ref C, dict := some hp.objs.size, data := .fields fv } → h'.Ns1 hp.objs.size (fun y => if y = name then some v else none) → R (.ok (.ret .none)) ⟨h', g, d, tk', os⟩) :
    codeAny (model prog w) A (.call (.builtin "object.__setattr__") ⟨[.ref x, .str name tk, v], []⟩) R ⟨hp, g, d, t, os⟩ := by
  have I : InstAt hp x { cls := .ref C, data := .fields fv } C none := ⟨hx, rfl, rfl, trivial⟩
  refine osa_openX SF X I ho (r := none) (by unfold takerIn; rw [ha]; rfl) fun b => ?_
  obtain ⟨cd, hc, hd⟩ := any_some hh
  have hcls : Looks (model prog w) hp (classData C) cd := looks_clsIn X hc
  have far : x ≠ hp.objs.size := Nat.ne_of_lt (Heap.lt_size hx)
  obtain ⟨nm, bs, mro, ns, qn, hdct, sn, sb, ab, col, del⟩ := cd
  dsimp only at hd
  subst hd
  show wpAny _ _ (storeInOwnDict (.ref x) (.ref C) (.str name tk) name v b) _ _ _
  unfold storeInOwnDict ownDictForStores
  repeat (first | with_reducible refine HandSPX.store_in_new ?_ ?_ | with_reducible refine wpAny_loadPart_at hx ?_ | with_reducible refine hcls.at ?_ | wp_step)
  · exact ⟨_, #[], _, (Heap.get?_update_ne _ _ _ _ (Ne.symm far)).trans (Heap.get?_push_at rfl rfl), rfl, fun e he => absurd he (by simp), fun _ => rfl⟩
  · intro h' tk' ns' same
    have there : (hp.push { cls := .type "dict", data := .dict #[] }).get? x = some { cls := .ref C, data := .fields fv } := Heap.get?_push_of_some _ hx
    exact hq h' tk' (fun c o hc ho => (same.2 c (Nat.ne_of_lt (Heap.lt_size ho))).trans ((Heap.get?_update_ne _ _ _ _ hc).trans (Heap.get?_push_of_some _ ho))) (Ne.symm far)
      ((same.2 x far).trans (Heap.get?_update_self _ there rfl)) ns'
/-- a further field -/
theorem saG_old {m0 : Str → Option Value} {nl : List Str} (SF : StoreFacts B bmB "object.__setattr__" "object") (X : K.In hp) (hx : hp.get? x = some { cls := .ref C, dict := some dx, data := .fields fv }) (hns : hp.Ns1 dx m0) (hw : Within m0 nl) (hz : nl.length ≤ 1000)
    (ho : excOver K C bmB = true) (hh : hasDictIn K C = true) (ha : findIn K (.ref C) name = some none)
    (hq : ∀ h' tk', (∀ b o, b ≠ dx → hp.get? b = some o → h'.get? b = some o) → h'.Ns1 dx (fun y => if y = name then some v else m0 y) → R (.ok (.ret .none)) ⟨h', g, d, tk', os⟩) :
    codeAny (model prog w) A (.call (.builtin "object.__setattr__") ⟨[.ref x, .str name tk, v], []⟩) R ⟨hp, g, d, t, os⟩ := by
  obtain ⟨oD, _, _, hoD, _, _⟩ := hns.count hw
  have I : InstAt hp x { cls := .ref C, dict := some dx, data := .fields fv } C (some oD) := ⟨hx, rfl, rfl, hoD⟩
  refine osa_openX SF X I ho (r := none) (by unfold takerIn; rw [ha]; rfl) fun b => ?_
  obtain ⟨cd, hc, hd⟩ := any_some hh
  have hcls : Looks (model prog w) hp (classData C) cd := looks_clsIn X hc
  obtain ⟨nm, bs, mro, ns, qn, hdct, sn, sb, ab, col, del⟩ := cd
  dsimp only at hd
  subst hd
  show wpAny _ _ (storeInOwnDict (.ref x) (.ref C) (.str name tk) name v b) _ _ _
  unfold storeInOwnDict ownDictForStores
  repeat (first | with_reducible refine OEX.store_in_old hns hw hz ?_ | with_reducible refine wpAny_loadPart_at hx ?_ | with_reducible refine hcls.at ?_ | wp_step)
  intro h' tk' ns' same
  exact hq h' tk' (fun c o hc ho => (same.2 c hc).trans ho) ns'
end
/-- such a class -/
structure OexG (K : PySem.W.Frag) (C : Addr) : Prop where
  base : ∃ (B newId initId : String) (bmB : List Value), ExcBaseFacts B newId initId bmB ∧ StoreFacts B bmB "object.__setattr__" "object" ∧ PySem.W.excInitIn K C bmB newId = true ∧ PySem.W.excOver K C bmB = true
  hd : PySem.W.hasDictIn K C = true
  sa : PySem.W.findIn K (.ref C) "__setattr__" = some (some (.builtin "object.__setattr__"))
  exC : PySem.W.subIn K (.ref C) (.type "BaseException") = some true
  tyC : PySem.W.typeIn K (.ref C) = some (.type "type")
  kC : PySem.W.keepIn K (.ref C) = true
section
variable {X : Cx} {pins : List (Addr × Obj)} {σ : L2.St} {H : Hp} {s : Shared} {a C dx : Addr} {f : Str} {y : V} {u : Value} {fs : List (Str × V)} {Q : Unit → Shared → Prop} {E : Value → Shared → Prop} {A : Around}
theorem field_new (T : OexG X.K C) (I : Inv X pins σ H s) (e : H a = some (exo a C none)) (hno : PySem.W.findIn X.K (.ref C) f = some none) (ry : RelV y u)
    (h : ∀ dx s', H dx = none → dx ≠ a → Inv X pins σ (upd (upd H dx (exd dx [(f, y)])) a (exo a C (some dx))) s' → Q () s') : wpAny (model X.prog X.w) A (setAttr (.ref a) f u) Q E s := by
  obtain ⟨B, newId, initId, bmB, _, SF, _, over⟩ := T.base
  obtain ⟨t1, here⟩ := exo_at I.hok e
  obtain ⟨hp, g, d, t, os⟩ := s
  refine PySem.W.set_plain I.kIn (od := none) ⟨here, rfl, rfl, trivial⟩ T.sa (saG_new SF I.kIn here over T.hd hno fun h' tk' keep far hx ns => ?_)
  have fresh : H hp.objs.size = none := I.hok.fresh (Nat.le_refl _)
  obtain ⟨o', es, ep, ho', hr⟩ := ns
  have mid : (hp.push o').get? hp.objs.size = some o' := Heap.get?_push_at rfl (Heap.get?_some_iff.mp ho').2
  have nsm : (hp.push o').Ns1 hp.objs.size (fun y => if y = f then some u else none) := ⟨o', es, ep, mid, hr⟩
  have I1 : Inv X pins σ (upd H hp.objs.size (exd hp.objs.size [(f, y)])) ⟨hp.push o', g, d, t, os⟩ :=
    Inv.laid (t' := t) (a := hp.objs.size) (o := exd hp.objs.size [(f, y)]) (h' := hp.push o') I (fun b o q => Heap.get?_push_of_some _ q) (Nat.le_refl _) (exd_ok nsm (relO_put (fs := []) ry fun g => True.intro))
  have ea : upd H hp.objs.size (exd hp.objs.size [(f, y)]) a = some (exo a C none) := by rw [upd_ne (Ne.symm far)]; exact e
  refine h hp.objs.size _ fresh far (I1.write (t' := tk') (x := a) (e := a) (o := exo a C (some hp.objs.size)) (h' := h') (by rw [ea]; exact True.intro) (.inl rfl) (fun b o hb q => ?_) ⟨_, hx⟩ (exo_ok hx))
  by_cases hbd : b = hp.objs.size
  · subst hbd
    rw [mid] at q
    cases q
    exact ho'
  · refine keep b o hb ?_
    rw [Heap.get?_push_ne _ _ _ hbd] at q
    exact q
theorem field_old (T : OexG X.K C) (I : Inv X pins σ H s) (e : H a = some (exo a C (some dx))) (ed : H dx = some (exd dx fs)) (hl : fs.length ≤ 900) (hno : PySem.W.findIn X.K (.ref C) f = some none) (ry : RelV y u)
    (h : ∀ s', Inv X pins σ (upd H dx (exd dx ((f, y) :: fs))) s' → Q () s') : wpAny (model X.prog X.w) A (setAttr (.ref a) f u) Q E s := by
  obtain ⟨B, newId, initId, bmB, _, SF, _, over⟩ := T.base
  obtain ⟨t1, here⟩ := exo_at I.hok e
  obtain ⟨mA, ns, rel⟩ := exd_at I.hok ed
  have within := within_of rel
  obtain ⟨hp, g, d, t, os⟩ := s
  obtain ⟨oD, _, _, hoD, _, _⟩ := ns.count within
  refine PySem.W.set_plain I.kIn (od := some oD) ⟨here, rfl, rfl, hoD⟩ T.sa (saG_old SF I.kIn here ns within (by rw [List.length_map]; omega) over T.hd hno fun h' tk' keep ns' => ?_)
  obtain ⟨o', es, ep, ho', hr⟩ := ns'
  exact h _ (I.write (t' := tk') (x := dx) (e := dx) (o := exd dx ((f, y) :: fs)) (h' := h') (by rw [ed]; exact True.intro) (.inl rfl) keep ⟨_, ho'⟩ (exd_ok ⟨o', es, ep, ho', hr⟩ (relO_put ry rel)))
end
/-- self.f = e -/
def tXfl (K : PySem.W.Frag) (f : Str) (to te : TE) : TS := fun D σ H => te σ H fun y H1 => to σ H1 fun x H2 => ∃ a C : Addr, x = .ref a ∧ OexG K C ∧ PySem.W.findIn K (.ref C) f = some none ∧
  ((H2 a = some (exo a C none) ∧ ∀ dx, H2 dx = none → dx ≠ a → D.nx σ (upd (upd H2 dx (exd dx [(f, y)])) a (exo a C (some dx)))) ∨
    ∃ (dx : Addr) (fs : List (Str × V)), H2 a = some (exo a C (some dx)) ∧ H2 dx = some (exd dx fs) ∧ fs.length ≤ 900 ∧ D.nx σ (upd H2 dx (exd dx ((f, y) :: fs))))
theorem ps_xfl {X : Cx} {o e : Expr} {to te : TE} {f : Str} {p' pos : Pos} (ho : PE X o to) (he : PE X e te) (hs : swapsWith e (some (.Attribute o f p')) pos.line X.env = pure false) : PS X (.Assign [.Attribute o f p'] e pos) (tXfl X.K f to te) := by
  refine ⟨fun pins s σ H D I h => ?_⟩
  refine plainObj_wpAny_Assign_Attribute (thn (he.run pins s σ H _ I h) fun v s1 ⟨y, H1, I1, r1, q1⟩ => thn (ho.run pins s1 σ H1 _ I1 q1) fun u s2 ⟨x, H2, I2, r2, a, C, ex, T, hno, q⟩ => ?_) hs
  subst ex
  obtain rfl : u = Value.ref a := r2
  rcases q with ⟨ea, go⟩ | ⟨dx, fs, ea, ed, hl, go⟩
  · exact field_new T I2 ea hno r1 fun dx s' n ne J => ⟨σ, _, J, go dx n ne⟩
  · exact field_old T I2 ea ed hl hno r1 fun s' J => ⟨σ, _, J, go⟩
end Lm
set_option Elab.async false
set_option linter.all false
set_option maxRecDepth 100000
set_option maxHeartbeats 1000000
namespace Lm
open PySem PySem.Spec PyProof.Rows L2
section
variable {X : Cx} {e : Expr}
theorem _root_.L2.PE.imp {t t' : TE} (h : PE X e t) (i : ∀ σ H Q, t' σ H Q → t σ H Q) : PE X e t' := ⟨fun pins s σ H Q I q => h.run pins s σ H Q I (i σ H Q q)⟩
theorem _root_.L2.PT.imp {t t' : TT} (h : PT X e t) (i : ∀ σ H Q, t' σ H Q → t σ H Q) : PT X e t' := ⟨fun pins s σ H Q I q => h.run pins s σ H Q I (i σ H Q q)⟩
theorem _root_.L2.PW.imp {t t' : TT} (h : PW X e t) (i : ∀ σ H Q, t' σ H Q → t σ H Q) : PW X e t' := ⟨fun wh pins s σ H Q I q => h.run wh pins s σ H Q I (i σ H Q q)⟩
theorem _root_.L2.PA.imp {es : List Expr} {t t' : TA} (h : PA X es t) (i : ∀ σ H Q, t' σ H Q → t σ H Q) : PA X es t' := ⟨fun p pins s σ H Q I q => h.run p pins s σ H Q I (i σ H Q q)⟩
theorem _root_.L2.PS.imp {st : Stmt} {t t' : TS} (h : PS X st t) (i : ∀ D σ H, t' D σ H → t D σ H) : PS X st t' := ⟨fun pins s σ H D I q => h.run pins s σ H D I (i D σ H q)⟩
theorem _root_.L2.PSs.imp {st : List Stmt} {t t' : TS} (h : PSs X st t) (i : ∀ D σ H, t' D σ H → t D σ H) : PSs X st t' := ⟨fun pins s σ H D I q => h.run pins s σ H D I (i D σ H q)⟩
theorem _root_.L2.PI.imp {tg it : Expr} {t t' : TI} (h : PI X tg it t) (i : ∀ σ H Q, t' σ H Q → t σ H Q) : PI X tg it t' := ⟨fun pins s σ H Q I q => h.run pins s σ H Q I (i σ H Q q)⟩
end
/-- an operand that is only read: a value, or an own slot's object -/
def RepS (K : PySem.W.Frag) (L : Lk) (F : Hp) (ι : List Addr) (env : Env) (σ : L2.St) (d : D) (v : V) : Prop :=
  Rep K L F ι d v ∨ ∃ (i : Nat) (o : O) (a : Addr), env[i]? = some (Sl.own o) ∧ σ[i]? = some (some (V.ref a)) ∧ d = O.toD o ∧ v = V.ref a
theorem RepS.to {K : PySem.W.Frag} {L : Lk} {F F' : Hp} {ι ι' : List Addr} {env : Env} {σ : L2.St} {d : D} {v : V} (h : RepS K L F ι env σ d v) (t : To F ι F' ι') : RepS K L F' ι' env σ d v := h.imp (fun r => r.mono t.f t.i) id
theorem RepS.b {K : PySem.W.Frag} {L : Lk} {G F H : Hp} {ι : List Addr} {env : Env} {μ : Sto} {σ : L2.St} {d : D} {v : V} (h : RepS K L F ι env σ d v) (sr : SR K L G F ι env μ σ H) : RepB K L F ι H d v := by
  rcases h with h | ⟨i, o, a, h1, h2, rfl, rfl⟩
  · exact .inl h
  · obtain ⟨a', ho, e1, _, _, _, e5, e6⟩ := sr.own i o h1
    rw [h2] at e1
    cases e1
    exact .inr ⟨o, ho, a, rfl, rfl, e5, e6⟩
section
variable (K : PySem.W.Frag) (L : Lk) (Pg : Pg) (C : Orc) (W : WX)
abbrev exW (G F : Hp) (ι : List Addr) (env : Env) (σ : L2.St) : Exn → Sto → Prop := exP K L G F ι env σ fun c d H' => W c d σ H'
def okB (G F : Hp) (ι : List Addr) (env : Env) (σ : L2.St) (Q : VK) (d : D) (μ' : Sto) : Prop :=
  ∀ F' ι' H' v, To F ι F' ι' → SR K L G F' ι' env μ' σ H' → RepS K L F' ι' env σ d v → Q v H'
def okT (G F : Hp) (ι : List Addr) (env : Env) (σ : L2.St) (Q : Bool → Hp → Prop) (d : D) (μ' : Sto) : Prop :=
  ∃ b, d = .bl b ∧ ∀ F' ι' H', To F ι F' ι' → SR K L G F' ι' env μ' σ H' → Q b H'
def okA (G F : Hp) (ι : List Addr) (env : Env) (σ : L2.St) (Q : List V → Hp → Prop) (ds : List D) (μ' : Sto) : Prop :=
  ∀ F' ι' H' vs, To F ι F' ι' → SR K L G F' ι' env μ' σ H' → Reps K L F' ι' ds vs → Q vs H'
def tE (e : E) : TE := fun σ H Q => ∃ G F ι env μ, SR K L G F ι env μ σ H ∧ WpR (evE Pg C e env μ) (okP K L G F ι env σ Q) (exW K L W G F ι env σ)
def tB (e : E) : TE := fun σ H Q => ∃ G F ι env μ, SR K L G F ι env μ σ H ∧ WpR (evB Pg C e env μ) (okB K L G F ι env σ Q) (exW K L W G F ι env σ)
def tT (e : E) : TT := fun σ H Q => ∃ G F ι env μ, SR K L G F ι env μ σ H ∧ WpR (evE Pg C e env μ) (okT K L G F ι env σ Q) (exW K L W G F ι env σ)
def tTand (es : List E) : TT := fun σ H Q => ∃ G F ι env μ, SR K L G F ι env μ σ H ∧ WpR (evAnd Pg C es env μ) (okT K L G F ι env σ Q) (exW K L W G F ι env σ)
def tTor (es : List E) : TT := fun σ H Q => ∃ G F ι env μ, SR K L G F ι env μ σ H ∧ WpR (evOr Pg C es env μ) (okT K L G F ι env σ Q) (exW K L W G F ι env σ)
def tEand (es : List E) : TE := fun σ H Q => ∃ G F ι env μ, SR K L G F ι env μ σ H ∧ WpR (evAnd Pg C es env μ) (okP K L G F ι env σ Q) (exW K L W G F ι env σ)
def tEor (es : List E) : TE := fun σ H Q => ∃ G F ι env μ, SR K L G F ι env μ σ H ∧ WpR (evOr Pg C es env μ) (okP K L G F ι env σ Q) (exW K L W G F ι env σ)
def tAs (es : List E) : TA := fun σ H Q => ∃ G F ι env μ, SR K L G F ι env μ σ H ∧ WpR (evEs Pg C es env μ) (okA K L G F ι env σ Q) (exW K L W G F ι env σ)
end
section
variable {K : PySem.W.Frag} {L : Lk} {Pg : Pg} {C : Orc} {W : WX} {G F F' H : Hp} {ι ι' : List Addr} {env : Env} {μ : Sto} {σ : L2.St}
theorem okP.le {Q : VK} {d : D} (t : To F ι F' ι') (h : okP K L G F ι env σ Q d μ) : okP K L G F' ι' env σ Q d μ := fun F2 ι2 H' v t2 sr r => h F2 ι2 H' v (t.trans t2) sr r
theorem exP.le {E : XK} {x : Exn} (t : To F ι F' ι') (h : exP K L G F ι env σ E x μ) : exP K L G F' ι' env σ E x μ := fun F2 ι2 H' c d t2 sr r => h F2 ι2 H' c d (t.trans t2) sr r
theorem okB.le {Q : VK} {d : D} (t : To F ι F' ι') (h : okB K L G F ι env σ Q d μ) : okB K L G F' ι' env σ Q d μ := fun F2 ι2 H' v t2 sr r => h F2 ι2 H' v (t.trans t2) sr r
theorem okA.le {Q : List V → Hp → Prop} {d : List D} (t : To F ι F' ι') (h : okA K L G F ι env σ Q d μ) : okA K L G F' ι' env σ Q d μ := fun F2 ι2 H' v t2 sr r => h F2 ι2 H' v (t.trans t2) sr r
theorem okT.le {Q : Bool → Hp → Prop} {d : D} (t : To F ι F' ι') (h : okT K L G F ι env σ Q d μ) : okT K L G F' ι' env σ Q d μ := by
  obtain ⟨b, e, k⟩ := h
  exact ⟨b, e, fun F2 ι2 H' t2 sr => k F2 ι2 H' (t.trans t2) sr⟩
/-- one part of an expression, then the rest -/
theorem tE_go {α : Type} {a : E} {f : D → Sto → Res α} {p : α → Sto → Prop} {Q : VK} (sr : SR K L G F ι env μ σ H) (h : WpR ((evE Pg C a env μ).bind f) p (exW K L W G F ι env σ))
    (k : ∀ d μ1 F1 ι1 H1 v, To F ι F1 ι1 → SR K L G F1 ι1 env μ1 σ H1 → Rep K L F1 ι1 d v → WpR (f d μ1) p (exW K L W G F ι env σ) → Q v H1) : tE K L Pg C W a σ H Q :=
  ⟨G, F, ι, env, μ, sr, (WpR.bind.mp h).mono (fun d μ1 h1 F1 ι1 H1 v t sr1 r => k d μ1 F1 ι1 H1 v t sr1 r h1) fun _ _ z => z⟩
theorem tB_go {α : Type} {a : E} {f : D → Sto → Res α} {p : α → Sto → Prop} {Q : VK} (sr : SR K L G F ι env μ σ H) (h : WpR ((evB Pg C a env μ).bind f) p (exW K L W G F ι env σ))
    (k : ∀ d μ1 F1 ι1 H1 v, To F ι F1 ι1 → SR K L G F1 ι1 env μ1 σ H1 → RepS K L F1 ι1 env σ d v → WpR (f d μ1) p (exW K L W G F ι env σ) → Q v H1) : tB K L Pg C W a σ H Q :=
  ⟨G, F, ι, env, μ, sr, (WpR.bind.mp h).mono (fun d μ1 h1 F1 ι1 H1 v t sr1 r => k d μ1 F1 ι1 H1 v t sr1 r h1) fun _ _ z => z⟩
theorem tAs_go {α : Type} {a : List E} {f : List D → Sto → Res α} {p : α → Sto → Prop} {Q : List V → Hp → Prop} (sr : SR K L G F ι env μ σ H) (h : WpR ((evEs Pg C a env μ).bind f) p (exW K L W G F ι env σ))
    (k : ∀ d μ1 F1 ι1 H1 v, To F ι F1 ι1 → SR K L G F1 ι1 env μ1 σ H1 → Reps K L F1 ι1 d v → WpR (f d μ1) p (exW K L W G F ι env σ) → Q v H1) : tAs K L Pg C W a σ H Q :=
  ⟨G, F, ι, env, μ, sr, (WpR.bind.mp h).mono (fun d μ1 h1 F1 ι1 H1 v t sr1 r => k d μ1 F1 ι1 H1 v t sr1 r h1) fun _ _ z => z⟩
theorem WpR.exle {α : Type} {r : Res α} {p : α → Sto → Prop} (t : To F ι F' ι') (h : WpR r p (exW K L W G F ι env σ)) : WpR r p (exW K L W G F' ι' env σ) := h.mono (fun _ _ z => z) fun _ _ z => exP.le t z
/-- both -/
theorem WpR.le {r : Res D} {Q : VK} (t : To F ι F' ι') (h : WpR r (okP K L G F ι env σ Q) (exW K L W G F ι env σ)) : WpR r (okP K L G F' ι' env σ Q) (exW K L W G F' ι' env σ) := h.mono (fun _ _ z => okP.le t z) fun _ _ z => exP.le t z
theorem WpR.leT {r : Res D} {Q : Bool → Hp → Prop} (t : To F ι F' ι') (h : WpR r (okT K L G F ι env σ Q) (exW K L W G F ι env σ)) : WpR r (okT K L G F' ι' env σ Q) (exW K L W G F' ι' env σ) := h.mono (fun _ _ z => okT.le t z) fun _ _ z => exP.le t z
theorem WpR.leA {r : Res (List D)} {Q : List V → Hp → Prop} (t : To F ι F' ι') (h : WpR r (okA K L G F ι env σ Q) (exW K L W G F ι env σ)) : WpR r (okA K L G F' ι' env σ Q) (exW K L W G F' ι' env σ) := h.mono (fun _ _ z => okA.le t z) fun _ _ z => exP.le t z
end

/-! ### what stands around -/
def visB (sc : Scope) (x : Str) : Bool := match sc.names.lookup x with | some .local => true | some .cell => true | some .free => true | _ => false
def locB (sc : Scope) (x : Str) : Bool := match sc.names.lookup x with | some .local => true | some .cell => true | _ => false
def gloB (sc : Scope) (x : Str) : Bool := match sc.names.lookup x with | some .globalImplicit => true | _ => false
def notDbg (x : Str) : Bool := !(x == ("__debug__" : Str)) && !(x == ("__classdict__" : Str)) && !(x == ("__name__" : Str))
/-- the names of built-ins that are used -/
def bltNames : List Str := ["len", "abs", "int", "str", "repr", "list", "tuple", "all", "sum", "min", "max", "sorted", "isinstance", "range", "enumerate", "zip", "bool", "dict", "ValueError", "LookupError", "KeyError", "IndexError"]
/-- what the __init__ of an own exception does -/
def spX (K : PySem.W.Frag) (fields : List Str) : Sp := fun vs H Q E => ∃ (x Ca : Addr) (ws : List V), vs = .ref x :: ws ∧ ws.length = fields.length ∧ OexG K Ca ∧ (∀ f ∈ fields, PySem.W.findIn K (.ref Ca) f = some none) ∧ H x = some (exo x Ca none) ∧
  ∀ dx, H dx = none → dx ≠ x → Q .non (upd (upd H dx (exd dx (fields.zip ws).reverse)) x (exo x Ca (some dx)))
/-- the names of an exception's fields -/
def xNames (L : Lk) (Pg : Pg) (c : Nat) : Option (List Str) := match Pg.cls[c]? with
  | some cl => match cl.xfs with
    | some ns => ns.mapM fun n => L.attr[n]?
    | none => none
  | none => none
/-- what the class of an exception must say, so that its instances are asked rightly -/
structure ExcK (K : PySem.W.Frag) (C : Addr) : Prop where
  xf : XfC K C
  cl : (PySem.W.clsIn K C).isSome = true
  hc : PySem.W.findIn K (.ref C) "__class__" = some (some (.builtin "object.__class__"))
  hn : PySem.W.specialIn K (.builtin "object.__class__") "__get__" = some (some (.builtin "getset_descriptor.__get__"))
  ht : PySem.W.takesIn K (.builtin "object.__class__") = some true
  hm : PySem.W.mroIn K C (.type "object") = some true
structure ExcOk (P : Program) (w : World) (K : PySem.W.Frag) (mg : Str → Option Value) (base : Heap) (L : Lk) (Pg : Lm.Pg) : Prop where
  made : ∀ (c : Nat) (x : Str) (fields : List Str), L.clN[c]? = some x → xNames L Pg c = some fields → ∃ C fI fd ps, L.clA[c]? = some C ∧ mg x = some (.ref C) ∧ OexG K C ∧ PySem.W.findIn K (.ref C) "__init__" = some (some (.ref fI)) ∧
    PySem.W.typeIn K (.ref fI) = some (.type "function") ∧ Binds K fd ps [] ∧ (∀ f ∈ fields, PySem.W.findIn K (.ref C) f = some none) ∧ FnG P w K mg base 1 fI fd ps (spX K fields)
  /-- a class behind except, or behind isinstance -/
  caught : ∀ (t : Nat) (x : Str), L.clN[t]? = some x → isX Pg t = true → ∃ Ct, L.clA[t]? = some Ct ∧ mg x = some (.ref Ct) ∧ ∀ (c : Nat) (Ca : Addr), isX Pg c = true → L.clA[c]? = some Ca → PySem.W.exmOne K (.ref Ca) (.ref Ct) = some (supOf Pg c (.inl t)) ∧ PySem.W.kitOne K (.ref Ca) (.ref Ct) = some (supOf Pg c (.inl t))
  /-- an exception in flight -/
  held : ∀ (c : Nat) (Ca : Addr), isX Pg c = true → L.clA[c]? = some Ca → ExcK K Ca ∧ (∀ (n : Nat) (x : Str), L.attr[n]? = some x → PySem.W.findIn K (.ref Ca) x = some none) ∧
    PySem.W.kitOne K (.ref Ca) (.type "ValueError") = some (supOf Pg c (.inr "ValueError")) ∧ PySem.W.kitOne K (.ref Ca) (.type "LookupError") = some (supOf Pg c (.inr "LookupError")) ∧
    PySem.W.kitOne K (.ref Ca) (.type "KeyError") = some (supOf Pg c (.inr "KeyError")) ∧ PySem.W.kitOne K (.ref Ca) (.type "IndexError") = some (supOf Pg c (.inr "IndexError"))
  /-- without an __init__ -/
  bare : ∀ (c : Nat) (x : Str), L.clN[c]? = some x → bareX Pg c = true → ∃ C, L.clA[c]? = some C ∧ mg x = some (.ref C) ∧ PySem.W.keepIn K (.ref C) = true ∧ ∃ (B newId initId : String) (bmB : List Value), ExcBaseFacts B newId initId bmB ∧ PySem.W.excIn K C bmB newId = true
/-- the defs and classes keep their contracts at level k -/
structure CallsOk (P : Program) (w : World) (K : PySem.W.Frag) (mg : Str → Option Value) (base : Heap) (L : Lk) (C : Orc) (k : Nat) : Prop where
  fn : ∀ (f : Nat) (a : Addr) (fd : FuncData), L.fnA[f]? = some a → L.fnD[f]? = some fd → FnG P w K mg base k a fd (L.fnP.getD f []) (spC K L C f)
  ini : ∀ (c f : Nat) (a : Addr) (fd : FuncData), L.fnA[f]? = some a → L.fnD[f]? = some fd → FnG P w K mg base k a fd (L.fnP.getD f []) (spI K L C c f)
  ar : ∀ f ds μ, C.call f ds μ ≠ .bad → ds.length = (L.fnP.getD f []).length
  ai : ∀ c f ds μ, C.init c f ds μ ≠ .bad → ds.length + 1 = (L.fnP.getD f []).length
/-- what isinstance asks of the class of instances at C -/
structure InsK (K : PySem.W.Frag) (C : Addr) : Prop where
  ha : PySem.W.findIn K (.ref C) "__class__" = some (some (.builtin "object.__class__"))
  hn : PySem.W.specialIn K (.builtin "object.__class__") "__get__" = some (some (.builtin "getset_descriptor.__get__"))
  ht : PySem.W.takesIn K (.builtin "object.__class__") = some true
  hm : PySem.W.mroIn K C (.type "object") = some true
  no : ∀ t ∈ (["int", "bool", "tuple", "str", "list", "dict"] : List String), PySem.W.kitOne K (.ref C) (.type t) = some false
  da : ∀ t ∈ (["NoneType", "bool", "int", "str", "tuple", "list", "dict"] : List String), PySem.W.kitOne K (.type t) (.ref C) = some false
def ocNm : Bool → Str | true => "__ne__" | false => "__eq__"
def ocOp : Bool → CmpOp | true => .NotEq | false => .Eq
def spNm : Nat → Str | 3 => "__len__" | 4 => "__str__" | _ => "__getitem__"
/-- what is true of the written part -/
structure LinkOk (K : PySem.W.Frag) (mg : Str → Option Value) (L : Lk) (Pg : Pg) : Prop where
  fnG : ∀ (f : Nat) (x : Str), L.fnN[f]? = some x → x ≠ Str.empty → ∃ a fd, L.fnA[f]? = some a ∧ L.fnD[f]? = some fd ∧ mg x = some (.ref a)
  fnB : ∀ (f : Nat) (a : Addr) (fd : FuncData), L.fnA[f]? = some a → L.fnD[f]? = some fd → Binds K fd (L.fnP.getD f []) [] ∧ PySem.W.keepIn K (.ref a) = true
  glo : ∀ (j : Nat) (x : Str) (d : D), L.glN[j]? = some x → Pg.globs[j]? = some d → ∃ v u, mg x = some u ∧ RelV v u ∧ ∀ F ι, Rep K L F ι d v
  blt : ∀ x, x ∈ bltNames → mg x = none
  /-- a class with __init__ (def f) -/
  new : ∀ (c f : Nat) (cl : Cl) (x : Str), Pg.cls[c]? = some cl → cl.init = some f → L.clN[c]? = some x → cl.kind.isExc = false → ∃ C a fd, L.clA[c]? = some C ∧ mg x = some (.ref C) ∧ Mk K C a ∧ L.fnA[f]? = some a ∧ L.fnD[f]? = some fd
  cls : ∀ (c : Nat) (cl : Cl) (C : Addr), Pg.cls[c]? = some cl → cl.kind.isExc = false → L.clA[c]? = some C → Cls K C
  prop : ∀ (c : Nat) (cl : Cl) (C : Addr) (n g : Nat), Pg.cls[c]? = some cl → L.clA[c]? = some C → lookN cl.props n = some g → ∃ x pr a fd, L.attr[n]? = some x ∧ PropOf K C x pr a ∧ L.fnA[g]? = some a ∧ L.fnD[g]? = some fd
  nattr : ∀ (c : Nat) (cl : Cl) (C : Addr) (n : Nat) (x : Str), Pg.cls[c]? = some cl → L.clA[c]? = some C → lookN cl.props n = none → lookN cl.meths n = none → L.attr[n]? = some x → NoAttr K C x
  ick : ∀ (c : Nat) (cl : Cl) (C : Addr), Pg.cls[c]? = some cl → cl.kind.isExc = false → L.clA[c]? = some C → InsK K C
  ock : ∀ (c c' : Nat) (C C' : Addr), isN Pg c = true → isN Pg c' = true → L.clA[c]? = some C → L.clA[c']? = some C' → PySem.W.kitOne K (.ref C) (.ref C') = some (decide (c = c'))
  cnm : ∀ (c : Nat) (cl : Cl) (x : Str), Pg.cls[c]? = some cl → cl.kind.isExc = false → L.clN[c]? = some x → ∃ C, L.clA[c]? = some C ∧ mg x = some (.ref C)
  sp : ∀ (c : Nat) (cl : Cl) (C : Addr) (b : Bool) (f : Nat), Pg.cls[c]? = some cl → cl.kind.isExc = false → L.clA[c]? = some C → lookN cl.sps (if b then 2 else 1) = some f → ∃ a fd, PySem.W.findIn K (.ref C) (ocNm b) = some (some (.ref a)) ∧ PySem.W.isFn K (.ref a) = true ∧ L.fnA[f]? = some a ∧ L.fnD[f]? = some fd ∧
    (∀ t ∈ (["NoneType", "bool", "int", "str", "tuple", "list", "dict"] : List String), PySem.W.notFirst K C (.type t) = true) ∧ ∀ (c' : Nat) (C' : Addr), isN Pg c' = true → L.clA[c']? = some C' → PySem.W.notFirst K C (.ref C') = true
  osp : ∀ (c : Nat) (cl : Cl) (C : Addr) (n f : Nat), Pg.cls[c]? = some cl → cl.kind.isExc = false → L.clA[c]? = some C → (n = 3 ∨ n = 4 ∨ n = 5) → lookN cl.sps n = some f → ∃ a fd, PySem.W.findIn K (.ref C) (spNm n) = some (some (.ref a)) ∧ PySem.W.isFn K (.ref a) = true ∧ PySem.W.fnIn K a = true ∧ L.fnA[f]? = some a ∧ L.fnD[f]? = some fd
  meth : ∀ (c : Nat) (cl : Cl) (m g : Nat), Pg.cls[c]? = some cl → cl.kind.isExc = false → lookN cl.meths m = some g → ∃ C x a fd, L.clA[c]? = some C ∧ L.attr[m]? = some x ∧ Meth K C x a ∧ L.fnA[g]? = some a ∧ L.fnD[g]? = some fd
  clInj : ∀ (c c' : Nat) (C : Addr), L.clA[c]? = some C → L.clA[c']? = some C → c = c'
  atInj : ∀ (n n' : Nat) (x : Str), L.attr[n]? = some x → L.attr[n']? = some x → n = n'
structure CtxE (L : Lk) (Pg : Pg) (C : Orc) (k : Nat) (W : WX) (sc : Scope) (fb : Str → Bool) (N : List Str) (X : Cx) : Prop where
  calm : X.calm = true
  n : X.N = N
  nd : N.Nodup
  room : Room (k + 1) X.A
  quiet : Quiet X.A
  sce : X.env.scope = sc
  fb : ∀ x, fb x = true → X.fn x = true
  tk : Takes X W
  calls : CallsOk X.prog X.w X.K X.mg X.base L C k
  excs : ExcOk X.prog X.w X.K X.mg X.base L Pg
  k1 : 1 ≤ k
  link : LinkOk X.K X.mg L Pg
  lw : L.w = X.w
theorem visB_ok {sc : Scope} {x : Str} (h : visB sc x = true) : Vis sc x := by
  unfold visB at h
  unfold Vis
  split at h
  · rename_i e; exact .inl e
  · rename_i e; exact .inr (.inl e)
  · rename_i e; exact .inr (.inr e)
  · cases h
theorem locB_ok {sc : Scope} {x : Str} (h : locB sc x = true) : L2.Loc sc x := by
  unfold locB at h
  unfold L2.Loc
  split at h
  · rename_i e; exact .inl e
  · rename_i e; exact .inr e
  · cases h
theorem gloB_ok {sc : Scope} {x : Str} (h : gloB sc x = true) : sc.names.lookup x = some .globalImplicit := by
  unfold gloB at h
  split at h
  · assumption
  · cases h
theorem CtxE.u65 {L : Lk} {Pg : Pg} {C : Orc} {k : Nat} {W : WX} {sc : Scope} {fb : Str → Bool} {N : List Str} {X : Cx} (c : CtxE L Pg C k W sc fb N X) : X.A.units + 65 < cLine := by have := c.room.un; omega
theorem CtxE.u66 {L : Lk} {Pg : Pg} {C : Orc} {k : Nat} {W : WX} {sc : Scope} {fb : Str → Bool} {N : List Str} {X : Cx} (c : CtxE L Pg C k W sc fb N X) : X.A.units + 66 < cLine := by have := c.room.un; omega
section
variable {L : Lk} {Pg : Pg} {C : Orc} {k : Nat} {W : WX} {sc : Scope} {fb : Str → Bool} {N : List Str} {X : Cx}
theorem s_var {i : Nat} {x : Str} {p : Pos} (c : CtxE L Pg C k W sc fb N X) (h1 : N[i]? = some x) (h2 : visB sc x = true) (h3 : notDbg x = true) : PE X (.Name x p) (tVar i) := by
  simp only [notDbg, Bool.and_eq_true, Bool.not_eq_true'] at h3
  exact pe_var (by rw [c.n]; exact h1) (by rw [c.sce]; exact visB_ok h2) h3.1.1 h3.1.2
theorem tE_var {i : Nat} {σ : L2.St} {H : Hp} {Q : VK} (h : tE X.K L Pg C W (.var i) σ H Q) : tVar i σ H Q := by
  obtain ⟨G, F, ι, env, μ, sr, h⟩ := h
  unfold evE at h
  cases e : (env[i]? : Option Sl) with
  | none => rw [e] at h; exact h.elim
  | some sl =>
    rw [e] at h
    cases sl with
    | val d =>
      obtain ⟨v, h1, h2⟩ := sr.val i d e
      exact ⟨v, h1, h.here sr h2⟩
    | _ => exact h.elim
theorem tB_var {i : Nat} {σ : L2.St} {H : Hp} {Q : VK} (h : tB X.K L Pg C W (.var i) σ H Q) : tVar i σ H Q := by
  obtain ⟨G, F, ι, env, μ, sr, h⟩ := h
  simp only [evB] at h
  cases e : (env[i]? : Option Sl) with
  | none => rw [e] at h; exact h.elim
  | some sl =>
    rw [e] at h
    cases sl with
    | val d =>
      obtain ⟨v, h1, h2⟩ := sr.val i d e
      exact ⟨v, h1, h F ι H v (To.refl _ _) sr (.inl h2)⟩
    | own o =>
      obtain ⟨a, ho, h1, h2, h3, h4, h5, h6⟩ := sr.own i o e
      exact ⟨.ref a, h1, h F ι H _ (To.refl _ _) sr (.inr ⟨i, o, a, e, h1, rfl, rfl⟩)⟩
    | _ => exact h.elim
theorem tB_of {e : E} (hne : ∀ i, e ≠ .var i) {σ : L2.St} {H : Hp} {Q : VK} (h : tB X.K L Pg C W e σ H Q) : tE X.K L Pg C W e σ H Q := by
  obtain ⟨G, F, ι, env, μ, sr, h⟩ := h
  refine ⟨G, F, ι, env, μ, sr, ?_⟩
  have e1 : evB Pg C e env μ = evE Pg C e env μ := by
    cases e <;> first | rfl | exact absurd rfl (hne _) | (simp only [evB])
  rw [e1] at h
  exact h.mono (fun d μ' k F' ι' H' v t sr r => k F' ι' H' v t sr (.inl r)) fun _ _ z => z
end
end Lm
set_option Elab.async false
set_option linter.all false
set_option maxRecDepth 100000
set_option maxHeartbeats 1000000
namespace Lm
open PySem PySem.Spec PyProof.Rows L2
/-! ## own exceptions: their __init__ sets each field to its argument -/
section
variable {X : Cx} {f1 f2 : Str} {e0 e0' e1 e2 : Expr} {p p' q q' : Pos}
theorem ost_one (h0 : PE X e0 (tVar 0)) (h1 : PE X e1 (tVar 1)) (s1 : swapsWith e1 (some (.Attribute e0 f1 p')) p.line X.env = pure false) :
    PSs X [.Assign [.Attribute e0 f1 p'] e1 p] (fun D σ H => ∃ (x Ca : Addr) (w : V), σ[0]? = some (some (.ref x)) ∧ σ[1]? = some (some w) ∧ OexG X.K Ca ∧ PySem.W.findIn X.K (.ref Ca) f1 = some none ∧ H x = some (exo x Ca none) ∧
      ∀ dx, H dx = none → dx ≠ x → D.nx σ (upd (upd H dx (exd dx [(f1, w)])) x (exo x Ca (some dx)))) :=
  (pss_one (ps_xfl h0 h1 s1)).imp fun D σ H ⟨x, Ca, w, g0, g1, T, n1, hx, go⟩ => ⟨w, g1, .ref x, g0, x, Ca, rfl, T, n1, .inl ⟨hx, go⟩⟩
theorem ost_two (h0 : PE X e0 (tVar 0)) (h0' : PE X e0' (tVar 0)) (h1 : PE X e1 (tVar 1)) (h2 : PE X e2 (tVar 2)) (s1 : swapsWith e1 (some (.Attribute e0 f1 p')) p.line X.env = pure false) (s2 : swapsWith e2 (some (.Attribute e0' f2 q')) q.line X.env = pure false) :
    PSs X [.Assign [.Attribute e0 f1 p'] e1 p, .Assign [.Attribute e0' f2 q'] e2 q] (fun D σ H => ∃ (x Ca : Addr) (w1 w2 : V), σ[0]? = some (some (.ref x)) ∧ σ[1]? = some (some w1) ∧ σ[2]? = some (some w2) ∧ OexG X.K Ca ∧
      PySem.W.findIn X.K (.ref Ca) f1 = some none ∧ PySem.W.findIn X.K (.ref Ca) f2 = some none ∧ H x = some (exo x Ca none) ∧
      ∀ dx, H dx = none → dx ≠ x → D.nx σ (upd (upd H dx (exd dx [(f2, w2), (f1, w1)])) x (exo x Ca (some dx)))) :=
  (pss_cons (ps_xfl h0 h1 s1) (pss_one (ps_xfl h0' h2 s2))).imp fun D σ H ⟨x, Ca, w1, w2, g0, g1, g2, T, n1, n2, hx, go⟩ => ⟨w1, g1, .ref x, g0, x, Ca, rfl, T, n1, .inl ⟨hx, fun dx hd hne => by
    refine ⟨w2, g2, .ref x, g0, x, Ca, rfl, T, n2, .inr ⟨dx, [(f1, w1)], upd_same, by rw [upd_ne hne]; exact upd_same, show 1 ≤ 900 by decide, ?_⟩⟩
    have e : upd (upd (upd H dx (exd dx [(f1, w1)])) x (exo x Ca (some dx))) dx (exd dx [(f2, w2), (f1, w1)]) = upd (upd H dx (exd dx [(f2, w2), (f1, w1)])) x (exo x Ca (some dx)) := by
      funext b
      by_cases h1 : b = dx
      · subst h1; rw [upd_same, upd_ne hne, upd_same]
      · rw [upd_ne h1]
        by_cases h2 : b = x
        · subst h2; rw [upd_same, upd_same]
        · rw [upd_ne h2, upd_ne h2, upd_ne h1, upd_ne h1]
    rw [e]
    exact go dx hd hne⟩⟩
end
section
variable {X : Cx} {x : Str} {C fI : Addr} {k : Nat} {fd : FuncData} {ps fields : List Str} {e : Expr} {es : List Expr} {ta : TA} {p pos : Pos}
/-- C(e, ..) behind raise -/
theorem pmkG (T : OexG X.K C) (iC : PySem.W.findIn X.K (.ref C) "__init__" = some (some (.ref fI))) (tI : PySem.W.typeIn X.K (.ref fI) = some (.type "function")) (hf : ∀ f ∈ fields, PySem.W.findIn X.K (.ref C) f = some none)
    (F1 : FnG X.prog X.w X.K X.mg X.base k fI fd ps (spX X.K fields)) (hr : Room (k + 1) X.A) (hq : Quiet X.A) (hb : Binds X.K fd ps []) (hg : Gl X x) (hm : X.mg x = some (.ref C)) (ha : PA X (e :: es) ta) (hn : (e :: es).all noStar = true) (hdb : (x == ("__debug__" : Str)) = false) :
    PMk X (.Call (.Name x p) (e :: es) [] pos) (fun σ H Q => ta σ H fun vs H1 => vs.length = fields.length ∧ vs.length ≤ 1000 ∧ ∀ d, H1 d = none → Q (.ref C) (some d) (upd H1 d (.xd (fields.zip vs).reverse))) := by
  intro pins s σ H Q I h
  rw [List.all_cons, Bool.and_eq_true] at hn
  obtain ⟨B, newId, initId, bmB, FB, _, qI, _⟩ := T.base
  refine wpAny_Call_Name_kw (ld_glob I hg hm ?_ hdb)
  refine PySem.W.callWith_K (h₀ := X.base) I.ok.mod.kin T.kC ?_ (starEach_cons hn.1) (starEach_none _ hn.2)
  refine thn (ha.run pos pins s σ H _ I h) ?_
  rintro us s1 ⟨vs, H1, I1, r1, hlen, hz, go⟩
  refine ⟨I1.kIn, ?_⟩
  show wpAny _ _ (call (.ref C) us) _ _ _
  obtain ⟨hp, gs, dr, tk, os⟩ := s1
  obtain ⟨nm, nk, qn, bs, mro, hdct, sn, sb, ab, cl, dl, a0, a1, a2, a3, a5, hC, hT⟩ := PySem.W.excInit_of I1.kIn qI
  have grow : hp.objs.size ≤ hp.objs.size + 1 := Nat.le_succ _
  have fresh : H1 (hp.objs.size + 1) = none := I1.hok.fresh grow
  have keeps : ∀ b o, hp.get? b = some o → ((hp.push (PySem.W.kdv_tup us)).push (PySem.HandSPX.excO C hp.objs.size)).get? b = some o := fun b o z => Heap.get?_push_of_some _ (Heap.get?_push_of_some _ z)
  have there : ((hp.push (PySem.W.kdv_tup us)).push (PySem.HandSPX.excO C hp.objs.size)).get? (hp.objs.size + 1) = some (PySem.HandSPX.excO C hp.objs.size) := by heap_get
  have J : Inv X pins σ (upd H1 (hp.objs.size + 1) (exo (hp.objs.size + 1) C none)) ⟨(hp.push (PySem.W.kdv_tup us)).push (PySem.HandSPX.excO C hp.objs.size), gs, dr, tk, os⟩ :=
    Inv.laid (t' := tk) (a := hp.objs.size + 1) (o := exo (hp.objs.size + 1) C none) (h' := (hp.push (PySem.W.kdv_tup us)).push (PySem.HandSPX.excO C hp.objs.size)) I1 keeps grow (exo_ok there)
  have rel : Vals (V.ref (hp.objs.size + 1) :: vs) (Value.ref (hp.objs.size + 1) :: us) := .cons rfl r1
  have want : spX X.K fields (.ref (hp.objs.size + 1) :: vs) (upd H1 (hp.objs.size + 1) (exo (hp.objs.size + 1) C none)) (fun v H2 => v = .non ∧ ∃ d, H1 d = none ∧ d ≠ hp.objs.size + 1 ∧
      H2 = upd (upd (upd H1 (hp.objs.size + 1) (exo (hp.objs.size + 1) C none)) d (exd d (fields.zip vs).reverse)) (hp.objs.size + 1) (exo (hp.objs.size + 1) C (some d))) E0 :=
    ⟨_, C, vs, rfl, hlen, T, hf, upd_same, fun d hd hne => ⟨rfl, d, by rw [upd_ne hne] at hd; exact hd, hne, rfl⟩⟩
  have many : (Value.ref (hp.objs.size + 1) :: us).length = ps.length := rel.length.symm.trans (F1.len _ _ _ _ want)
  have bound := hb ⟨(hp.push (PySem.W.kdv_tup us)).push (PySem.HandSPX.excO C hp.objs.size), gs, dr, tk, os⟩ (Value.ref (hp.objs.size + 1) :: us) J.kIn (by simpa using many)
  rw [List.append_nil] at bound
  have small : us.length ≤ sizeLine := by
    rw [← Paired.length r1, sizeLine_eq]
    omega
  refine wpAny_call (PySem.HandSPX.call_own FB hT hC (PySem.W.looks_findIn I1.kIn iC) (fun self => PySem.W.bind_fn I1.kIn self tI) small
    (codeAny_mono (F1.run _ X.stack _ _ ⟨Value.ref (hp.objs.size + 1) :: us, []⟩ (Value.ref (hp.objs.size + 1) :: us) _ _ E0 (hr.make C us []) (quiet_make hq C us []) (J.env0.make C us []) bound rel want) fun res s' done => ?_))
  match res, done with
  | .error z, d =>
    obtain ⟨_, _, _, _, _, _, _, _, _, _, _, _, no⟩ := d
    exact no.elim
  | .ok (.ret u), d =>
    obtain ⟨v, H2, os2, bare2, un2, hok2, rv, ev, dx, hd1, hd2, eH⟩ := d
    subst ev
    obtain ⟨h2, g2, r2, t2, o2⟩ := s'
    have ea : H2 (hp.objs.size + 1) = some (exo (hp.objs.size + 1) C (some dx)) := by rw [eH]; exact upd_same
    have ed : H2 dx = some (exd dx (fields.zip vs).reverse) := by rw [eH, upd_ne hd2]; exact upd_same
    have eq : upd (del H2 (hp.objs.size + 1)) dx (.xd (fields.zip vs).reverse) = upd H1 dx (.xd (fields.zip vs).reverse) := by
      funext b
      by_cases h1 : b = dx
      · subst h1; rw [upd_same, upd_same]
      · rw [upd_ne h1, upd_ne h1]
        by_cases h2 : b = hp.objs.size + 1
        · subst h2; rw [del_same, fresh]
        · rw [del_ne h2, eH, upd_ne h2, upd_ne h1, upd_ne h2]
    exact ⟨rv, mk_end (raises_own T.exC T.tyC) I1 grow keeps un2 hok2 os2 bare2 ea ed hd1 (by rw [eq]; exact go dx hd1)⟩
  | .ok .next, d => exact False.elim d
  | .ok .brk, d => exact False.elim d
  | .ok .cont, d => exact False.elim d
end
end Lm
set_option Elab.async false
set_option linter.all false
set_option maxRecDepth 100000
set_option maxHeartbeats 1000000
namespace Lm
open PySem PySem.Spec PyProof.Rows L2
/-! ### iterators over lists (true) and tuples (false), in pairs too -/
def SqB (K : PySem.W.Frag) : Bool → Hp → Addr → List V → Prop | true => SqL K | false => SqT K
def LsB : Bool → Heap → Addr → Array Value → Prop | true => Heap.IsList | false => Heap.IsTuple
def ItB : Bool → Heap → Addr → Addr → Nat → Prop | true => Heap.IsListIter | false => Heap.IsTupleIter
def obB : Bool → Addr → Obj
  | true => fun l => { cls := .type "list_iterator", data := .fields #[.ref l, .int 0 0] }
  | false => fun l => { cls := .type "tuple_iterator", data := .fields #[.ref l, .int 0 0] }
theorem begB : ∀ (b : Bool) (l : Addr) (its : Array Value), Begins (.ref l) (obB b l) (fun h => LsB b h l its)
  | true => begins_list
  | false => begins_tuple
theorem drawB {prog : Program} {w : World} {A : Around} (hh : A.handled = none) : ∀ (b : Bool) (it l : Addr), l ≠ it → ∀ (its : Array Value),
    Draws prog w A it [it, l] its.size (fun i v => its[i]? = some v) (fun i h => ItB b h it l i ∧ LsB b h l its)
  | true => fun it l hne its => Draws.list hh it l hne its
  | false => fun it l hne its => Draws.tuple hh it l hne its
theorem itB_ob : ∀ {b : Bool} {h : Heap} {it l : Addr} {i : Nat}, ItB b h it l i → ∃ o, h.get? it = some o ∧ ∀ v, o.data ≠ .cell v
  | true, _, _, _, _, ⟨o, e, _, d⟩ => ⟨o, e, fun v z => by rw [d] at z; cases z⟩
  | false, _, _, _, _, ⟨o, e, _, d⟩ => ⟨o, e, fun v z => by rw [d] at z; cases z⟩
theorem itB_at : ∀ {b : Bool} {h h' : Heap} {it l : Addr} {i : Nat}, ItB b h it l i → (∀ o, h.get? it = some o → h'.get? it = some o) → ItB b h' it l i
  | true, _, _, _, _, _, st, k => Heap.IsListIter.at st k
  | false, _, _, _, _, _, st, k => Heap.IsTupleIter.at st k
theorem itB_new : ∀ {b : Bool} {h : Heap} {it l : Addr}, h.get? it = some (obB b l) → ItB b h it l 0
  | true, _, _, _, e => ⟨_, e, rfl, rfl⟩
  | false, _, _, _, e => ⟨_, e, rfl, rfl⟩
section
variable {X : Cx} {pins : List (Addr × Obj)} {σ : L2.St} {H : Hp} {s : Shared}
theorem inv_seqB (I : Inv X pins σ H s) : ∀ {b : Bool} {a : Addr} {xs : List V}, SqB X.K b H a xs → ∃ its, Vals xs its ∧ LsB b s.heap a its.toArray ∧ a < s.heap.objs.size
  | true, _, _, h => let ⟨its, rv, p, _⟩ := I.list h; ⟨its, rv, p.isList, p.lt⟩
  | false, _, _, h => let ⟨its, rv, p, _⟩ := I.tuple h; ⟨its, rv, p, by obtain ⟨o, e, _⟩ := id p; exact Heap.lt_size e⟩
theorem inv_injB (I : Inv X pins σ H s) : ∀ {b : Bool} {a : Addr} {xs ys : List V}, SqB X.K b H a xs → SqB X.K b H a ys → xs = ys
  | true, _, _, _, h, g => I.list_inj h g
  | false, _, _, _, h, g => I.tuple_inj h g
end
/-! #### enumerate -/
theorem meets_enum1 {v : Value} {o : Obj} {H : Heap → Prop} (B : Begins v o H) :
    Meets (Builtin.«enumerate.__new__» ⟨[.type "enumerate", v], []⟩) (fun _ R s => H s.heap ∧
      R (.ok (.ret (.ref (s.heap.push o).objs.size))) { s with heap := (s.heap.push o).push { cls := .type "enumerate", data := .fields #[.none, .bool false, .ref s.heap.objs.size, rawInt 0, .none, .none] } }) :=
  .of_wp fun prog w A R s h => by
    obtain ⟨hp, g, d, tk, os⟩ := s
    obtain ⟨h1, h⟩ := h
    have hsub := sub_enumerate
    have q1 : ∀ {A' : Around} {E : Value → Shared → Prop} {Q : Value → Shared → Prop}, Q (.ref hp.objs.size) ⟨hp.push o, g, d, tk, os⟩ → wpAny (model prog w) A' (pyIter v) Q E ⟨hp, g, d, tk, os⟩ :=
      fun q => B.iter prog w _ _ ⟨hp, g, d, tk, os⟩ _ h1 q
    wp_walk using q1
    refine wpAny_stack_any fun st => wpAny_pure ?_
    split
    · rename_i c _ _ _ _ _
      cases (c == Value.type "enumerate")
      · wp_walk using q1
        exact ⟨_, rfl, h⟩
      · wp_walk using q1
        exact ⟨_, rfl, h⟩
    · wp_walk using q1
      exact ⟨_, rfl, h⟩
theorem call_enum1 {prog : Program} {w : World} {A : Around} {E : Value → Shared → Prop} {s : Shared} {v : Value} {o : Obj} {H : Heap → Prop} {Q : Value → Shared → Prop} (B : Begins v o H) (h1 : H s.heap)
    (h : ∀ h', IsEnum h' (s.heap.objs.size + 1) s.heap.objs.size 0 .none → h'.get? s.heap.objs.size = some o → h'.objs.size = s.heap.objs.size + 2 →
      (∀ b o, s.heap.get? b = some o → h'.get? b = some o) → Q (.ref (s.heap.objs.size + 1)) { s with heap := h' }) : wpAny (model prog w) A (call (.type "enumerate") [v]) Q E s := by
  refine callType_new F.called_enumerate (by decide) (F.typeCall_enumerate_1 _) (F.newCall_enumerate_1 _) (fun obj => F.args_object_init_2 obj _) F.entry_enumerate_new
    (meets_enum1 B) ⟨h1, ?_⟩
  have hz : (s.heap.push o).objs.size = s.heap.objs.size + 1 := Heap.size_push ..
  show _ ∧ _
  rw [hz]
  have he : IsEnum ((s.heap.push o).push { cls := .type "enumerate", data := .fields #[.none, .bool false, .ref s.heap.objs.size, rawInt 0, .none, .none] }) (s.heap.objs.size + 1) s.heap.objs.size 0 .none := by
    have := Heap.get?_push_size (s.heap.push o) (o := { cls := .type "enumerate", data := .fields #[.none, .bool false, .ref s.heap.objs.size, rawInt 0, .none, .none] }) rfl
    rw [hz] at this; exact this
  exact ⟨⟨_, he, rfl⟩, h _ he (Heap.get?_push_of_some _ (Heap.get?_push_size _ B.free)) (by rw [Heap.size_push, hz]) fun b o x => Heap.get?_push_of_some _ (Heap.get?_push_of_some _ x)⟩
/-- the items at a, each behind its number in a new pair -/
def IteB (K : PySem.W.Frag) (b : Bool) (a : Addr) : L2.It :=
  ⟨fun i H => ∃ (xs : List V) (x : V), SqB K b H a xs ∧ xs[i]? = some x, fun i H v H' => ∃ T x, v = .ref T ∧ H T = none ∧ H' = upd H T (.tup [.int (i : Nat), x]) ∧ ∀ xs, SqB K b H a xs → xs[i]? = some x,
    fun i H => ∃ xs : List V, SqB K b H a xs ∧ xs.length = i⟩
theorem turn_enumB {P : Program} {w : World} {K : PySem.W.Frag} {elts : List Expr} {kk : Nat} {tpos : Pos} (b : Bool) (a e it : Addr) (hne : e ≠ it) (ha : a ≠ it) (hae : e ≠ a) :
    Turn P w K (.Tuple elts kk tpos) (IteB K b a) [e, it] e (fun i h => (∃ old, IsEnum h e it ((i : Nat) : Int) old) ∧ ItB b h it a i) where
  mem := by simp
  obj := fun i h st c hc => by
    obtain ⟨⟨old, he⟩, hi⟩ := st
    have e' : c = e ∨ c = it := by simpa using hc
    rcases e' with z | z
    · rw [z]; exact ⟨_, he, fun v q => nomatch q⟩
    · rw [z]; exact itB_ob hi
  keep := fun i h h' st k => let ⟨⟨old, he⟩, hi⟩ := st; ⟨⟨old, k e (by simp) _ he⟩, itB_at hi fun o q => k it (by simp) o q⟩
  item := by
    intro X hP hw hK hc i pins s σ H E I hf st hg
    subst hP hw hK
    obtain ⟨⟨old, he⟩, hit⟩ := st
    obtain ⟨xs, x, hq, hx⟩ := hg
    obtain ⟨its, rv, p, _⟩ := inv_seqB I hq
    obtain ⟨u, hu, ru⟩ := rv.get hx
    have hel : e < s.heap.objs.size := Heap.lt_size he
    have hil : it < s.heap.objs.size := by obtain ⟨_, q, _⟩ := itB_ob hit; exact Heap.lt_size q
    have hlt : i < its.toArray.size := by
      have := (List.getElem?_eq_some_iff.mp hu).1
      simpa using this
    have hef : e ∉ [it, a] := by simp [hne, hae]
    refine wpAny_pyNext_enum_itemD (drawB (A := X.A.in1) (I.ok.hd hc) b it a ha its.toArray) he ⟨hit, p⟩ hlt hne hef fun y h' tk hy ho hst hT hsz hk => ?_
    have hy' : its[i]? = some y := by simpa using hy
    rw [hu] at hy'
    cases hy'
    refine ⟨_, rfl, wpAny_letOwnedTupleGo_enum (s := { s with heap := h', toks := tk + 1 }) ho fun h'' he' sb => ?_⟩
    have hT2 : h''.get? s.heap.objs.size = some { cls := .type "tuple", data := .seq #[.int i tk, u] } := (sb.2 _ (Nat.ne_of_gt hel)).trans hT
    have new : ObjOk X.prog X.w (upd H s.heap.objs.size (.tup [.int (i : Nat), x])) h'' s.heap.objs.size (.tup [.int (i : Nat), x]) :=
      ⟨by show 2 ≤ sizeLine; decide, [.int i tk, u], .cons ⟨_, rfl⟩ (.cons ru .nil), ⟨_, hT2, rfl, _, rfl⟩⟩
    have I1 : Inv X pins σ (upd H s.heap.objs.size (.tup [.int (i : Nat), x])) { s with heap := h'', toks := tk + 1 } :=
      I.turnedNew (ch := [e, it]) (fun c ob hb q => (sb.2 c (fun z => hb (by simp [z]))).trans (hk c ob (fun z => hb (by simp [z])) (fun z => hb (by simp [z])) q)) hf (Nat.le_refl _) new
    refine ⟨.ref s.heap.objs.size, _, I1, rfl, ⟨_, x, rfl, I.hok.fresh (Nat.le_refl _), rfl, fun ys hy => by rw [inv_injB I hy hq]; exact hx⟩, ⟨⟨u, ?_⟩, itB_at hst.1 fun o q => (sb.2 it (Ne.symm hne)).trans q⟩, fun c hcm => ?_⟩
    · have e1 : ((i + 1 : Nat) : Int) = (i : Int) + 1 := by omega
      rw [e1]; exact he'
    · have hb' : c < s.heap.objs.size := by
        have e' : c = e ∨ c = it := by simpa using hcm
        rcases e' with z | z
        · rw [z]; exact hel
        · rw [z]; exact hil
      rw [upd_ne (Nat.ne_of_lt hb')]
      exact (hf c hcm).1
  done := by
    intro X hP hw hK hc i pins s σ H E I hf st hg
    subst hP hw hK
    obtain ⟨⟨old, he⟩, hit⟩ := st
    obtain ⟨xs, hq, hx⟩ := hg
    obtain ⟨its, rv, p, _⟩ := inv_seqB I hq
    obtain ⟨f0, f1, f2, f3, f4, f5⟩ := hf it (by simp)
    have hl := rv.length
    have hz : its.toArray.size = i := by simp; omega
    exact wpAny_pyNext_enum_endD (drawB (A := X.A.in1) (I.ok.hd hc) b it a ha its.toArray) he ⟨by rw [hz]; exact hit, p⟩ fun h' eb => ⟨rfl, I.turned (t' := s.toks) (fun c o hb q => eb c o hb q) f0 f1 f3 f4 f5⟩
  self := fun A i s Q E st h => let ⟨⟨_, he⟩, _⟩ := st; wpAny_pyIter_enum he h
def iEnumB (K : PySem.W.Frag) (ta : TA) : TI := fun σ H R => ta σ H fun vs H1 => ∃ b a xs, vs = [.ref a] ∧ SqB K b H1 a xs ∧ R (IteB K b a) H1
theorem pi_enumB {X : Cx} {e : Expr} {ta : TA} {p pos tpos : Pos} {elts : List Expr} {kk : Nat} (hg : Gl X "enumerate") (hm : X.mg "enumerate" = none) (ha : PA X [e] ta) (hn : noStar e = true) :
    PI X (.Tuple elts kk tpos) (.Call (.Name "enumerate" p) [e] [] pos) (iEnumB X.K ta) := by
  refine ⟨fun pins s σ H R I h => ?_⟩
  refine Call_ (ld_blt I hg hm boot_enumerate (PyProof.Rows.callWith_type1 (thn (ha.run pos pins s σ H _ I h) fun us s1 ⟨vs, H1, I1, r1, q1⟩ => ?_) (starEach_cons hn) rfl))
  obtain ⟨b, a, xs, ex, hq, q⟩ := q1
  subst ex
  cases r1 with
  | cons r rr =>
    cases rr
    cases r
    obtain ⟨its, rv, p', hlt⟩ := inv_seqB I1 hq
    refine call_enum1 (begB b a its.toArray) p' fun h' he hit hsz hk => wpAny_pyIter_enum he ?_
    have I2 : Inv X pins σ H1 { s1 with heap := h' } := I1.kept (t' := s1.toks) hk
    refine ⟨s1.heap.objs.size + 1, [s1.heap.objs.size + 1, s1.heap.objs.size], _, _, H1, rfl, I2, turn_enumB b a (s1.heap.objs.size + 1) s1.heap.objs.size (Nat.succ_ne_self _) (Nat.ne_of_lt hlt) (Nat.ne_of_gt (Nat.lt_succ_of_lt hlt)), ⟨⟨.none, he⟩, itB_new hit⟩, fun c hcm => ?_, q⟩
    have e' : c = s1.heap.objs.size + 1 ∨ c = s1.heap.objs.size := by simpa using hcm
    have hle : s1.heap.objs.size ≤ c := by
      rcases e' with z | z
      · rw [z]; exact Nat.le_add_right _ _
      · rw [z]; exact Nat.le_refl _
    exact I1.fpOk hle (I1.hok.fresh hle)
/-! #### zip -/
def ItzB (K : PySem.W.Frag) (b c : Bool) (a d : Addr) : L2.It :=
  ⟨fun i H => ∃ (xs ys : List V) (x y : V), SqB K b H a xs ∧ SqB K c H d ys ∧ xs[i]? = some x ∧ ys[i]? = some y,
    fun i H v H' => ∃ T x y, v = .ref T ∧ H T = none ∧ H' = upd H T (.tup [x, y]) ∧ (∀ xs, SqB K b H a xs → xs[i]? = some x) ∧ ∀ ys, SqB K c H d ys → ys[i]? = some y,
    fun i H => ∃ xs ys : List V, SqB K b H a xs ∧ SqB K c H d ys ∧ i ≤ xs.length ∧ i ≤ ys.length ∧ (xs.length = i ∨ ys.length = i)⟩
theorem sepOf {z TI TO i1 i2 a d : Addr} (D : ZipApart z TI TO i1 i2 a d) : ZipSep2 z TI TO i1 i2 [i1, a] [i2, d] where
  TIz := D.TIz
  TOz := D.TOz
  TITO := D.TITO
  TIi1 := D.TIi1
  mem1 := by simp
  zf1 := by simp [D.i1z.symm, D.l1z.symm]
  Tf1 := by simp [D.TOi1, D.l1TO.symm]
  TIi2 := D.TIi2
  mem2 := by simp
  zf2 := by simp [D.i2z.symm, D.l2z.symm]
  Tf2 := by simp [D.TOi2, D.l2TO.symm]
  sep1_2 := by simp [D.i12, D.l2i1.symm]
  sep2_1 := by simp [D.i12.symm, D.l1i2.symm]
theorem turn_zipB {P : Program} {w : World} {K : PySem.W.Frag} {elts : List Expr} {kk : Nat} {tpos : Pos} (b c : Bool) {a d z TI TO i1 i2 : Addr} (D : ZipApart z TI TO i1 i2 a d) :
    Turn P w K (.Tuple elts kk tpos) (ItzB K b c a d) [z, TI, TO, i1, i2] z (fun i h => IsZip h z TI TO .none ∧ IsPair h TI (.ref i1) (.ref i2) ∧ (∃ x y, IsPair h TO x y) ∧ ItB b h i1 a i ∧ ItB c h i2 d i) where
  mem := by simp
  obj := fun i h st u hc => by
    obtain ⟨hz, hTI, ⟨x, y, hTO⟩, h1, h2⟩ := st
    have e' : u = z ∨ u = TI ∨ u = TO ∨ u = i1 ∨ u = i2 := by simpa using hc
    rcases e' with q | q | q | q | q
    · rw [q]; exact ⟨_, hz, fun v q => nomatch q⟩
    · rw [q]; exact ⟨_, hTI, fun v q => nomatch q⟩
    · rw [q]; exact ⟨_, hTO, fun v q => nomatch q⟩
    · rw [q]; exact itB_ob h1
    · rw [q]; exact itB_ob h2
  keep := fun i h h' st k => by
    obtain ⟨hz, hTI, ⟨x, y, hTO⟩, h1, h2⟩ := st
    exact ⟨k z (by simp) _ hz, k TI (by simp) _ hTI, ⟨x, y, k TO (by simp) _ hTO⟩, itB_at h1 fun o q => k i1 (by simp) o q, itB_at h2 fun o q => k i2 (by simp) o q⟩
  item := by
    intro X hP hw hK hc i pins s σ H E I hf st hg
    subst hP hw hK
    obtain ⟨hz, hTI, ⟨x0, y0, hTO⟩, h1, h2⟩ := st
    obtain ⟨xs, ys, x, y, hqx, hqy, hx, hy⟩ := hg
    obtain ⟨its, rv, p, _⟩ := inv_seqB I hqx
    obtain ⟨its2, rv2, p2, _⟩ := inv_seqB I hqy
    obtain ⟨u, hu, ru⟩ := rv.get hx
    obtain ⟨u2, hu2, ru2⟩ := rv2.get hy
    have hzl : z < s.heap.objs.size := Heap.lt_size hz
    have hlt1 : i < its.toArray.size := by simpa using (List.getElem?_eq_some_iff.mp hu).1
    have hlt2 : i < its2.toArray.size := by simpa using (List.getElem?_eq_some_iff.mp hu2).1
    refine wpAny_pyNext_zipD2_item (sepOf D) (drawB (A := X.A.in1) (I.ok.hd hc) b i1 a D.l1i1 its.toArray) (drawB (A := X.A.in1) (I.ok.hd hc) c i2 d D.l2i2 its2.toArray) hz hTI hTO ⟨h1, p⟩ ⟨h2, p2⟩ hlt1 hlt2 fun v1 v2 h' tk e1 e2 z' TO' h1' h2' hT hsz hk => ?_
    have e1' : its[i]? = some v1 := by simpa using e1
    have e2' : its2[i]? = some v2 := by simpa using e2
    rw [hu] at e1'
    rw [hu2] at e2'
    cases e1'
    cases e2'
    refine ⟨_, rfl, wpAny_letOwnedTupleGo_zip (s := { s with heap := h', toks := tk }) z' fun h'' z'' sb => ?_⟩
    have hT2 : h''.get? s.heap.objs.size = some { cls := .type "tuple", data := .seq #[u, u2] } := (sb.2 _ (Nat.ne_of_gt hzl)).trans hT
    have new : ObjOk X.prog X.w (upd H s.heap.objs.size (.tup [x, y])) h'' s.heap.objs.size (.tup [x, y]) :=
      ⟨by show 2 ≤ sizeLine; decide, [u, u2], .cons ru (.cons ru2 .nil), ⟨_, hT2, rfl, _, rfl⟩⟩
    have I1 : Inv X pins σ (upd H s.heap.objs.size (.tup [x, y])) { s with heap := h'', toks := tk } :=
      I.turnedNew (t' := tk) (ch := [z, TI, TO, i1, i2]) (fun c o hb q => (sb.2 c (fun q' => hb (by simp [q']))).trans (hk c o (fun q' => hb (by simp [q'])) (fun q' => hb (by simp [q'])) (fun q' => hb (by simp [q'])) (fun q' => hb (by simp [q'])) q)) hf (Nat.le_refl _) new
    refine ⟨.ref s.heap.objs.size, _, I1, rfl, ⟨_, x, y, rfl, I.hok.fresh (Nat.le_refl _), rfl, fun l hl => by rw [inv_injB I hl hqx]; exact hx, fun l hl => by rw [inv_injB I hl hqy]; exact hy⟩, ⟨z'', ?_, ⟨u, u2, ?_⟩, ?_, ?_⟩, fun c hcm => ?_⟩
    · exact (sb.2 _ D.TIz).trans (hk _ _ D.TIz D.TITO D.TIi1 D.TIi2 hTI)
    · exact (sb.2 _ D.TOz).trans TO'
    · exact itB_at h1'.1 fun o q => (sb.2 _ D.i1z).trans q
    · exact itB_at h2'.1 fun o q => (sb.2 _ D.i2z).trans q
    · have hlt : c < s.heap.objs.size := by
        have e' : c = z ∨ c = TI ∨ c = TO ∨ c = i1 ∨ c = i2 := by simpa using hcm
        rcases e' with q | q | q | q | q
        · rw [q]; exact hzl
        · rw [q]; exact Heap.lt_size hTI
        · rw [q]; exact Heap.lt_size hTO
        · rw [q]; obtain ⟨_, e1, _⟩ := itB_ob h1; exact Heap.lt_size e1
        · rw [q]; obtain ⟨_, e2, _⟩ := itB_ob h2; exact Heap.lt_size e2
      rw [upd_ne (Nat.ne_of_lt hlt)]
      exact (hf c hcm).1
  done := by
    intro X hP hw hK hc i pins s σ H E I hf st hg
    subst hP hw hK
    obtain ⟨hz, hTI, ⟨x0, y0, hTO⟩, h1, h2⟩ := st
    obtain ⟨xs, ys, hqx, hqy, hl1, hl2, hend⟩ := hg
    obtain ⟨its, rv, p, _⟩ := inv_seqB I hqx
    obtain ⟨its2, rv2, p2, _⟩ := inv_seqB I hqy
    have l1 := rv.length
    have l2 := rv2.length
    exact wpAny_pyNext_zipD2_end (sepOf D) (drawB (A := X.A.in1) (I.ok.hd hc) b i1 a D.l1i1 its.toArray) (drawB (A := X.A.in1) (I.ok.hd hc) c i2 d D.l2i2 its2.toArray) hz hTI hTO ⟨h1, p⟩ ⟨h2, p2⟩ (by simp; omega) (by simp; omega) (by simp; omega) fun h' tk hk =>
      ⟨rfl, I.turnedL (t' := tk) (ch := [z, TI, TO, i1, i2]) (fun c o hb q => hk c o (fun q' => hb (by simp [q'])) (fun q' => hb (by simp [q'])) (fun q' => hb (by simp [q'])) (fun q' => hb (by simp [q'])) q) hf⟩
  self := fun A i s Q E st h => wpAny_pyIter_zip st.1 h
def iZipB (K : PySem.W.Frag) (ta : TA) : TI := fun σ H R => ta σ H fun vs H1 => ∃ b c a d xs ys, vs = [.ref a, .ref d] ∧ SqB K b H1 a xs ∧ SqB K c H1 d ys ∧ R (ItzB K b c a d) H1
theorem pi_zipB {X : Cx} {e e2 : Expr} {ta : TA} {p pos tpos : Pos} {elts : List Expr} {kk : Nat} (hg : Gl X "zip") (hm : X.mg "zip" = none) (ha : PA X [e, e2] ta) (hn : noStar e = true) (hn2 : noStar e2 = true) :
    PI X (.Tuple elts kk tpos) (.Call (.Name "zip" p) [e, e2] [] pos) (iZipB X.K ta) := by
  refine ⟨fun pins s σ H R I h => ?_⟩
  refine Call_ (ld_blt I hg hm PyProof.Rows.boot_zip (PyProof.Rows.callWith_type1 (thn (ha.run pos pins s σ H _ I h) fun us s1 ⟨vs, H1, I1, r1, q1⟩ => ?_) (starEach_cons hn) (starEach_none _ (by simp [hn2]))))
  obtain ⟨b, c, a, d, xs, ys, ex, hqx, hqy, q⟩ := q1
  subst ex
  cases r1 with
  | cons r rr =>
    cases rr with
    | cons r' rr =>
      cases rr
      cases r
      cases r'
      obtain ⟨its, rv, p1, lt1⟩ := inv_seqB I1 hqx
      obtain ⟨its2, rv2, p2, lt2⟩ := inv_seqB I1 hqy
      refine zip_begins2 (begB b a its.toArray) (begB c d its2.toArray) p1 p2 fun h' hz hTI hTO h1 h2 hsz hk => wpAny_pyIter_zip hz ?_
      have I2 : Inv X pins σ H1 { s1 with heap := h' } := I1.kept (t' := s1.toks) hk
      refine ⟨s1.heap.objs.size + 4, [s1.heap.objs.size + 4, s1.heap.objs.size + 2, s1.heap.objs.size + 3, s1.heap.objs.size, s1.heap.objs.size + 1], _, _, H1, rfl, I2, turn_zipB b c (PySem.W.ktu_apart s1.heap.objs.size a d lt1 lt2), ⟨hz, hTI, ⟨_, _, hTO⟩, itB_new h1, itB_new h2⟩, fun c hcm => ?_, q⟩
      have e' : c = s1.heap.objs.size + 4 ∨ c = s1.heap.objs.size + 2 ∨ c = s1.heap.objs.size + 3 ∨ c = s1.heap.objs.size ∨ c = s1.heap.objs.size + 1 := by simpa using hcm
      have hle : s1.heap.objs.size ≤ c := by
        rcases e' with z | z | z | z | z
        · rw [z]; exact Nat.le_add_right _ _
        · rw [z]; exact Nat.le_add_right _ _
        · rw [z]; exact Nat.le_add_right _ _
        · rw [z]; exact Nat.le_refl _
        · rw [z]; exact Nat.le_add_right _ _
      exact I1.fpOk hle (I1.hok.fresh hle)
/-! #### a list or a tuple -/
def ItsB (K : PySem.W.Frag) : Bool → Addr → L2.It | true => Itl K | false => Itt K
def iSeqB (K : PySem.W.Frag) (tl : TE) : TI := fun σ H R => tl σ H fun x H1 => ∃ b a xs, x = .ref a ∧ SqB K b H1 a xs ∧ R (ItsB K b a) H1
theorem pi_seqB {X : Cx} {tg l : Expr} {tl : TE} (hl : PE X l tl) : PI X tg l (iSeqB X.K tl) := by
  refine ⟨fun pins s σ H R I h => ?_⟩
  refine thn (hl.run pins s σ H _ I h) fun v s1 ⟨x, H1, I1, r1, q1⟩ => ?_
  obtain ⟨b, a, xs, e, hq, q⟩ := q1
  subst e
  cases r1
  cases b with
  | true =>
    obtain ⟨its, rv, p, hz⟩ := I1.list hq
    exact wpAny_pyIter_list p.isList (pi_one (tk := s1.toks) I1 _ (turn_list a _) ⟨_, Heap.get?_push_size _ rfl, rfl, rfl⟩ q)
  | false =>
    obtain ⟨its, rv, p, hz⟩ := I1.tuple hq
    exact wpAny_pyIter_tuple (show s1.heap.IsTuple a its.toArray from p) (pi_one (tk := s1.toks) I1 _ (turn_tuple a _) ⟨_, Heap.get?_push_size _ rfl, rfl, rfl⟩ q)
end Lm
set_option Elab.async false
set_option linter.all false
set_option maxRecDepth 100000
set_option maxHeartbeats 1000000
namespace Lm
open PySem PySem.Spec PyProof.Rows L2
section
variable {L : Lk} {Pg : Pg} {C : Orc} {k : Nat} {W : WX} {sc : Scope} {fb : Str → Bool} {N : List Str} {X : Cx} {G F F' H H' : Hp} {ι ι' : List Addr} {env : Env} {μ : Sto} {σ : L2.St} {pos pos2 : Pos}
theorem both_of {e : E} {ex : Expr} (h : PE X ex (tE X.K L Pg C W e)) (hne : ∀ i, e ≠ .var i) : PE X ex (tB X.K L Pg C W e) := h.imp fun σ H Q q => tB_of hne q
/-! ### constants, globals -/
def constOk : D → Const → Bool
  | .int i, .int j => decide (i = j)
  | .bl a, .bool b => a == b
  | .non, .none => true
  | .str s, .str t => decide (s = t)
  | _, _ => false
theorem s_lit {d : D} {c : Const} {j : Nat} (h : constOk d c = true) : PE X (.Constant c j pos) (tE X.K L Pg C W (.lit d)) := by
  have go : ∀ {v : V} {σ H Q}, (∀ F ι, Rep X.K L F ι d v) → tE X.K L Pg C W (.lit d) σ H Q → tC v σ H Q := fun r q => by
    obtain ⟨G, F, ι, env, μ, sr, h⟩ := q
    unfold evE at h
    exact okP.here h sr (r F ι)
  cases d <;> cases c <;> simp only [constOk, reduceCtorEq, decide_eq_true_eq, beq_iff_eq] at h
  · exact pe_non.imp fun σ H Q => go fun F ι => .non
  · subst h; exact pe_bl.imp fun σ H Q => go fun F ι => .bl _
  · subst h; exact pe_int.imp fun σ H Q => go fun F ι => .int _
  · subst h; exact pe_str.imp fun σ H Q => go fun F ι => .str _
theorem s_glob {j : Nat} {x : Str} (c : CtxE L Pg C k W sc fb N X) (h1 : L.glN[j]? = some x) (h2 : gloB sc x = true) (h3 : notDbg x = true) : PE X (.Name x pos) (tE X.K L Pg C W (.glob j)) := by
  simp only [notDbg, Bool.and_eq_true, Bool.not_eq_true'] at h3
  have hg : Gl X x := by show X.env.scope.names.lookup x = _; rw [c.sce]; exact gloB_ok h2
  refine ⟨fun pins s σ H Q I h => ?_⟩
  obtain ⟨G, F, ι, env, μ, sr, h⟩ := h
  unfold evE at h
  obtain ⟨d, e, hk⟩ := WpR.ofO.mp h
  obtain ⟨v, u, hm, rv, rep⟩ := c.link.glo j x d h1 e
  exact (pe_glob hg hm rv h3.1.1).run pins s σ H Q I (hk.here sr (rep F ι))
theorem CtxE.gl {x : Str} (c : CtxE L Pg C k W sc fb N X) (h : gloB sc x = true) : Gl X x := by show X.env.scope.names.lookup x = _; rw [c.sce]; exact gloB_ok h
/-! ### argument lists, displays -/
theorem s_nil : PA X [] (tAs X.K L Pg C W []) := pa_nil.imp fun σ H Q q => by
  obtain ⟨G, F, ι, env, μ, sr, h⟩ := q
  unfold evEs at h
  exact (show okA X.K L G F ι env σ Q [] μ from h) F ι H [] (To.refl _ _) sr .nil
theorem s_cons {e : E} {es : List E} {ex : Expr} {exs : List Expr} (hn : noStar ex = true) (ha : PE X ex (tE X.K L Pg C W e)) (hr : PA X exs (tAs X.K L Pg C W es)) : PA X (ex :: exs) (tAs X.K L Pg C W (e :: es)) :=
  (paC hn ha hr).imp fun σ H Q q => by
    obtain ⟨G, F, ι, env, μ, sr, h⟩ := q
    unfold evEs at h
    exact tE_go sr h fun d μ1 F1 ι1 H1 v t1 sr1 r1 h1 => tAs_go sr1 (h1.exle t1) fun ds μ2 F2 ι2 H2 vs t2 sr2 r2 h2 =>
      (show okA X.K L G F ι env σ Q (d :: ds) μ2 from h2) F2 ι2 H2 (v :: vs) (t1.trans t2) sr2 (.cons (r1.mono t2.f t2.i) r2)
/-- a new object of the expression's value -/
def okN (K : PySem.W.Frag) (L : Lk) (G F : Hp) (ι : List Addr) (env : Env) (σ : L2.St) (Q : VK) (d : D) (μ' : Sto) : Prop :=
  ∀ F' ι' H' o ho p, To F ι F' ι' → SR K L G F' ι' env μ' σ H' → RepO K L F' ι' p o ho → d = O.toD o → (match o with | .ins _ _ => False | _ => True) → H' p = none → Q (.ref p) (upd H' p ho)
def tN (K : PySem.W.Frag) (L : Lk) (Pg : Lm.Pg) (C : Orc) (W : WX) (e : E) : TE := fun σ H Q => ∃ G F ι env μ, SR K L G F ι env μ σ H ∧ WpR (evE Pg C e env μ) (okN K L G F ι env σ Q) (exW K L W G F ι env σ)
theorem okN.le {K : PySem.W.Frag} {Q : VK} {d : D} (t : To F ι F' ι') (h : okN K L G F ι env σ Q d μ) : okN K L G F' ι' env σ Q d μ := fun F2 ι2 H' o ho p t2 sr r => h F2 ι2 H' o ho p (t.trans t2) sr r
theorem okP.okN {K : PySem.W.Frag} {Q : VK} {d : D} (h : okP K L G F ι env σ Q d μ) : okN K L G F ι env σ Q d μ := by
  intro F' ι' H' o ho p t sr r e hi hp
  subst e
  have le := le_upd (o := ho) (sr.fnone hp)
  refine h _ _ _ _ (t.trans (sr.to_new hp)) (sr.new hp) ?_
  cases r with
  | lst r => exact .lst upd_same (r.mono le (List.prefix_refl _))
  | dct r => exact .dct upd_same (r.mono le (List.prefix_refl _))
  | dcn r => exact .dcn upd_same (r.mono le (List.prefix_refl _))
  | ins c r => exact hi.elim
theorem pe_of_new {e : E} {ex : Expr} (h : PE X ex (tN X.K L Pg C W e)) : PE X ex (tE X.K L Pg C W e) := h.imp fun σ H Q q => by
  obtain ⟨G, F, ι, env, μ, sr, h⟩ := q
  exact ⟨G, F, ι, env, μ, sr, h.mono (fun _ _ z => z.okN) fun _ _ z => z⟩
theorem s_tup {es : List E} {exs : List Expr} {x1 : Nat} (ha : PA X exs (tAs X.K L Pg C W es)) : PE X (.Tuple exs x1 pos) (tE X.K L Pg C W (.tup es)) :=
  (pe_tup ha).imp fun σ H Q q => by
    obtain ⟨G, F, ι, env, μ, sr, h⟩ := q
    unfold evE at h
    refine tAs_go sr h fun ds μ1 F1 ι1 H1 vs t sr1 r h1 => ?_
    split at h1
    · rename_i hz
      exact ⟨by rw [← r.len]; exact hz, (okP.le t h1).newT sr1 r⟩
    · exact h1.elim
theorem s_lstN {es : List E} {exs : List Expr} (ha : PA X exs (tAs X.K L Pg C W es)) : PE X (.List exs pos) (tN X.K L Pg C W (.lst es)) :=
  (pe_lst ha).imp fun σ H Q q => by
    obtain ⟨G, F, ι, env, μ, sr, h⟩ := q
    unfold evE at h
    refine tAs_go sr h fun ds μ1 F1 ι1 H1 vs t sr1 r h1 => ?_
    split at h1
    · rename_i hz
      exact ⟨by rw [← r.len]; exact hz, fun p hp => (okN.le t h1) F1 ι1 H1 (.lst ds) (.lst vs) p (To.refl _ _) sr1 (.lst r) rfl trivial hp⟩
    · exact h1.elim
/-! ### operators -/
theorem s_bin {o : Bop} {a b : E} {ax bx : Expr} (ha : PE X ax (tB X.K L Pg C W a)) (hb : PE X bx (tB X.K L Pg C W b)) : PE X (.BinOp ax (opOf o) bx pos) (tE X.K L Pg C W (.bin o a b)) :=
  (pe_op (opr_bin o) ha hb).imp fun σ H Q q => by
    obtain ⟨G, F, ι, env, μ, sr, h⟩ := q
    unfold evE at h
    exact tB_go sr h fun d μ1 F1 ι1 H1 x t1 sr1 r1 h1 => tB_go sr1 (h1.exle t1) fun d2 μ2 F2 ι2 H2 y t2 sr2 r2 h2 => by
      obtain ⟨dz, e, hk⟩ := WpR.ofO.mp h2
      exact opB_ok e sr2 ((r1.to t2).b sr2) (r2.b sr2) (hk.le (t1.trans t2))
/-- lists: a new one -/
theorem s_binN {o : Bop} {a b : E} {ax bx : Expr} (ho : o = .add ∨ o = .mul) (ha : PE X ax (tB X.K L Pg C W a)) (hb : PE X bx (tB X.K L Pg C W b)) : PE X (.BinOp ax (opOf o) bx pos) (fun σ H Q => ∃ G F ι env μ, SR X.K L G F ι env μ σ H ∧
    WpR (evE Pg C (.bin o a b) env μ) (fun d μ' => (∃ xs, d = .lst xs) ∧ okN X.K L G F ι env σ Q d μ') (exW X.K L W G F ι env σ)) :=
  (pe_op (opr_bin o) ha hb).imp fun σ H Q q => by
    obtain ⟨G, F, ι, env, μ, sr, h⟩ := q
    unfold evE at h
    exact tB_go sr h fun d μ1 F1 ι1 H1 x t1 sr1 r1 h1 => tB_go sr1 (h1.exle t1) fun d2 μ2 F2 ι2 H2 y t2 sr2 r2 h2 => by
      obtain ⟨dz, e, ⟨xs, rfl⟩, hk⟩ := WpR.ofO.mp h2
      have rx := (r1.to t2).b sr2
      have ry := r2.b sr2
      have fin : ∀ ds vs, .lst xs = D.lst ds → Reps X.K L F2 ι2 ds vs → ∀ p, H2 p = none → Q (.ref p) (upd H2 p (.lst vs)) := fun ds vs e r p hp => by
        cases e
        exact hk F2 ι2 H2 (.lst xs) (.lst vs) p (t1.trans t2) sr2 (.lst r) rfl trivial hp
      rcases ho with rfl | rfl
      · cases d <;> cases d2 <;> simp only [opB, reduceCtorEq] at e <;> first
          | (cases e; done)
          | (split at e <;> first
              | (cases e; done)
              | (cases e
                 rename_i hz
                 obtain ⟨a, vs, rfl, ha, r⟩ := rx.lst sr2
                 obtain ⟨b, ws, rfl, hb, t⟩ := ry.lst sr2
                 exact .inr (.inr ⟨a, b, vs, ws, rfl, rfl, ha, hb, by rw [← r.len, ← t.len]; exact hz, fin _ _ rfl (r.append t)⟩)))
      · cases d <;> cases d2 <;> simp only [opB, reduceCtorEq] at e <;> first
          | (cases e; done)
          | (split at e <;> first
              | (cases e; done)
              | (cases e
                 rename_i hz
                 cases ry.int
                 obtain ⟨a, vs, rfl, ha, r⟩ := rx.lst sr2
                 exact .inr (.inr ⟨a, _, vs, rfl, rfl, ha, by omega, by omega, by rw [← r.len]; exact hz.2.2, fin _ _ rfl (r.rep _)⟩)))
theorem s_neg {a : E} {ax : Expr} (ha : PE X ax (tE X.K L Pg C W a)) : PE X (.UnaryOp .USub ax pos) (tE X.K L Pg C W (.neg a)) :=
  (pe_un un_neg ha).imp fun σ H Q q => by
    obtain ⟨G, F, ι, env, μ, sr, h⟩ := q
    unfold evE at h
    refine tE_go sr h fun d μ1 F1 ι1 H1 x t1 sr1 r1 h1 => ?_
    cases d <;> first | exact h1.elim | (cases r1; exact ⟨_, rfl, okP.here (okP.le t1 h1) sr1 (.int _)⟩)
theorem s_not {a : E} {ax : Expr} (ha : PE X ax (tE X.K L Pg C W a)) : PE X (.UnaryOp .Not ax pos) (tE X.K L Pg C W (.not a)) :=
  (pe_not ha).imp fun σ H Q q => by
    obtain ⟨G, F, ι, env, μ, sr, h⟩ := q
    unfold evE at h
    refine tE_go sr h fun d μ1 F1 ι1 H1 x t1 sr1 r1 h1 => ?_
    cases d <;> first | exact h1.elim | (cases r1; exact ⟨_, rfl, okP.here (okP.le t1 h1) sr1 (.bl _)⟩)
def notSet : Expr → Bool | .Set _ _ _ => false | _ => true
theorem bim {b : Expr} (op : CmpOp) (h : notSet b = true) : behindInMarks op b = false := by
  cases b <;> first | rfl | cases h
theorem s_cmp {o : Cop} {a b : E} {ax bx : Expr} (c : CtxE L Pg C k W sc fb N X) (hs : notSet bx = true) (ha : PE X ax (tB X.K L Pg C W a)) (hb : PE X bx (tB X.K L Pg C W b)) : PE X (.Compare ax [copOf o] [bx] pos) (tE X.K L Pg C W (.cmp o a b)) :=
  (pe_cmpR (opr_cmp c.u66 o) ha hb (bim _ hs)).imp fun σ H Q q => by
    obtain ⟨G, F, ι, env, μ, sr, h⟩ := q
    unfold evE at h
    exact tB_go sr h fun d μ1 F1 ι1 H1 x t1 sr1 r1 h1 => tB_go sr1 (h1.exle t1) fun d2 μ2 F2 ι2 H2 y t2 sr2 r2 h2 => by
      obtain ⟨dz, e, hk⟩ := WpR.ofO.mp h2
      exact opC_ok c.lw e sr2 ((r1.to t2).b sr2) (r2.b sr2) (hk.le (t1.trans t2))
theorem s_cmpT {o : Cop} {a b : E} {ax bx : Expr} (c : CtxE L Pg C k W sc fb N X) (hs : notSet bx = true) (ha : PE X ax (tB X.K L Pg C W a)) (hb : PE X bx (tB X.K L Pg C W b)) : PT X (.Compare ax [copOf o] [bx] pos) (tT X.K L Pg C W (.cmp o a b)) :=
  (pt_cmpR (opr_cmp c.u66 o) ha hb (bim _ hs)).imp fun σ H Q q => by
    obtain ⟨G, F, ι, env, μ, sr, h⟩ := q
    unfold evE at h
    exact tB_go sr h fun d μ1 F1 ι1 H1 x t1 sr1 r1 h1 => tB_go sr1 (h1.exle t1) fun d2 μ2 F2 ι2 H2 y t2 sr2 r2 h2 => by
      obtain ⟨dz, e, b, rfl, hk⟩ := WpR.ofO.mp h2
      exact opC_ok c.lw (G := G) (env := env) e sr2 ((r1.to t2).b sr2) (r2.b sr2) fun F3 ι3 H3 v t3 sr3 r3 => by
        cases r3
        exact ⟨b, rfl, hk F3 ι3 H3 ((t1.trans t2).trans t3) sr3⟩
theorem chain_go {o o' : Cop} {a b d : E} {ax bx dx : Expr} {Q : VK} (hw : L.w = X.w) (h : tE X.K L Pg C W (.chain o o' a b d) σ H Q) : tChain (rCmp X o) (rCmp X o') (tE X.K L Pg C W a) (tE X.K L Pg C W b) (tE X.K L Pg C W d) σ H Q := by
  obtain ⟨G, F, ι, env, μ, sr, h⟩ := h
  unfold evE at h
  refine tE_go sr h fun d1 μ1 F1 ι1 H1 x t1 sr1 r1 h1 => tE_go sr1 (h1.exle t1) fun d2 μ2 F2 ι2 H2 y t2 sr2 r2 h2 => ?_
  obtain ⟨dz, e, hk⟩ := WpR.ofO.mp (WpR.bind.mp h2)
  refine opC_ok hw (G := G) (env := env) e sr2 (.of (r1.mono t2.f t2.i)) (.of r2) fun F3 ι3 H3 v t3 sr3 r3 => ?_
  cases dz <;> first | exact hk.elim | skip
  rename_i kb
  cases r3
  refine ⟨kb, rfl, ?_⟩
  cases kb with
  | false => exact okP.here (okP.le ((t1.trans t2).trans t3) hk) sr3 (.bl _)
  | true =>
    rw [if_pos rfl]
    refine tE_go sr3 ((WpR.exle t2 hk).exle t3) fun d4 μ4 F4 ι4 H4 z t4 sr4 r4 h4 => ?_
    obtain ⟨dw, e4, hk4⟩ := WpR.ofO.mp h4
    exact opC_ok hw e4 sr4 (.of ((r2.mono t3.f t3.i).mono t4.f t4.i)) (.of r4) (hk4.le (((t1.trans t2).trans t3).trans t4))
theorem s_chain {o o' : Cop} {a b d : E} {ax bx dx : Expr} (c : CtxE L Pg C k W sc fb N X) (hs : notSet dx = true) (ha : PE X ax (tE X.K L Pg C W a)) (hb : PE X bx (tE X.K L Pg C W b)) (hd : PE X dx (tE X.K L Pg C W d)) :
    PE X (.Compare ax [copOf o, copOf o'] [bx, dx] pos) (tE X.K L Pg C W (.chain o o' a b d)) :=
  (pe_chain (opr_cmp c.u66 o) (opr_cmp c.u66 o') ha hb hd (bim _ hs)).imp fun σ H Q q => chain_go c.lw (ax := ax) (bx := bx) (dx := dx) q
/-- a value as a test -/
theorem tT_E {e : E} {σ : L2.St} {H : Hp} {Q : Bool → Hp → Prop} (h : tT X.K L Pg C W e σ H Q) : L2.tB (tE X.K L Pg C W e) σ H Q := by
  obtain ⟨G, F, ι, env, μ, sr, h⟩ := h
  refine ⟨G, F, ι, env, μ, sr, h.mono (fun d μ' z => ?_) fun _ _ z => z⟩
  obtain ⟨b, rfl, hk⟩ := z
  intro F' ι' H' v t sr' r
  cases r
  exact ⟨b, rfl, hk F' ι' H' t sr'⟩
theorem s_chainT {o o' : Cop} {a b d : E} {ax bx dx : Expr} (c : CtxE L Pg C k W sc fb N X) (hs : notSet dx = true) (ha : PE X ax (tE X.K L Pg C W a)) (hb : PE X bx (tE X.K L Pg C W b)) (hd : PE X dx (tE X.K L Pg C W d)) :
    PT X (.Compare ax [copOf o, copOf o'] [bx, dx] pos) (tT X.K L Pg C W (.chain o o' a b d)) :=
  (pt_chain (opr_cmp c.u66 o) (opr_cmp c.u66 o') ha hb hd (bim _ hs)).imp fun σ H Q q => by
    have z := tT_E q
    exact chain_go c.lw (ax := ax) (bx := bx) (dx := dx) z
theorem s_notT {a : E} {ax : Expr} (ha : PT X ax (tT X.K L Pg C W a)) : PT X (.UnaryOp .Not ax pos) (tT X.K L Pg C W (.not a)) :=
  (pt_not ha).imp fun σ H Q q => by
    obtain ⟨G, F, ι, env, μ, sr, h⟩ := q
    unfold evE at h
    refine ⟨G, F, ι, env, μ, sr, (WpR.bind.mp h).mono (fun d μ' z => ?_) fun _ _ z => z⟩
    cases d <;> first | exact z.elim | skip
    rename_i b
    obtain ⟨b', e, hk⟩ := z
    cases e
    exact ⟨b, rfl, hk⟩
/-- what is asked as its value -/
def plainT : Expr → Bool
  | .UnaryOp .Not _ _ => false | .BoolOp _ _ _ => false | .IfExp _ _ _ _ => false | .Compare _ _ _ _ => false | _ => true
theorem s_valT {e : E} {ex : Expr} (hp : plainT ex = true) (h : PE X ex (tE X.K L Pg C W e)) : PT X ex (tT X.K L Pg C W e) :=
  (pt_val h (by
    intro whole
    cases ex with
    | UnaryOp op a p => cases op <;> first | rfl | cases hp
    | _ => first | rfl | cases hp)).imp fun σ H Q q => tT_E q
theorem s_ite {c a b : E} {cx ax bx : Expr} (hc : PT X cx (tT X.K L Pg C W c)) (ha : PE X ax (tE X.K L Pg C W a)) (hb : PE X bx (tE X.K L Pg C W b)) : PE X (.IfExp cx ax bx pos) (tE X.K L Pg C W (.ite c a b)) :=
  (pe_ifExp hc ha hb).imp fun σ H Q q => by
    obtain ⟨G, F, ι, env, μ, sr, h⟩ := q
    unfold evE at h
    refine ⟨G, F, ι, env, μ, sr, (WpR.bind.mp h).mono (fun d μ' z => ?_) fun _ _ z => z⟩
    cases d <;> first | exact z.elim | skip
    rename_i kb
    refine ⟨kb, rfl, fun F' ι' H' t sr' => ?_⟩
    cases kb with
    | true => exact ⟨G, F', ι', env, μ', sr', WpR.le t z⟩
    | false => exact ⟨G, F', ι', env, μ', sr', WpR.le t z⟩
/-! and, or -/
theorem s_and1 {a : E} {ax : Expr} (ha : PE X ax (tE X.K L Pg C W a)) : PE X (.BoolOp .And [ax] pos) (tEand X.K L Pg C W [a]) :=
  (pe_one ha).imp fun σ H Q q => by
    obtain ⟨G, F, ι, env, μ, sr, h⟩ := q
    unfold evAnd at h
    refine ⟨G, F, ι, env, μ, sr, (WpR.bind.mp h).mono (fun d μ' z => ?_) fun _ _ z => z⟩
    cases d <;> first | exact z.elim | skip
    rename_i kb
    cases kb with
    | true => unfold evAnd at z; exact z
    | false => exact z
theorem s_andC {a : E} {ax bx : Expr} {es : List E} {exs : List Expr} (ha : PE X ax (tE X.K L Pg C W a)) (hr : PE X (.BoolOp .And (bx :: exs) pos) (tEand X.K L Pg C W es)) : PE X (.BoolOp .And (ax :: bx :: exs) pos) (tEand X.K L Pg C W (a :: es)) :=
  (pe_and ha hr).imp fun σ H Q q => by
    obtain ⟨G, F, ι, env, μ, sr, h⟩ := q
    unfold evAnd at h
    refine tE_go sr h fun d μ1 F1 ι1 H1 x t1 sr1 r1 h1 => ?_
    cases d <;> first | exact h1.elim | skip
    rename_i kb
    cases r1
    refine ⟨kb, rfl, ?_⟩
    cases kb with
    | true => exact ⟨G, F1, ι1, env, μ1, sr1, WpR.le t1 h1⟩
    | false => exact okP.here (okP.le t1 h1) sr1 (.bl _)
theorem s_or1 {a : E} {ax : Expr} (ha : PE X ax (tE X.K L Pg C W a)) : PE X (.BoolOp .Or [ax] pos) (tEor X.K L Pg C W [a]) :=
  (pe_one ha).imp fun σ H Q q => by
    obtain ⟨G, F, ι, env, μ, sr, h⟩ := q
    unfold evOr at h
    refine ⟨G, F, ι, env, μ, sr, (WpR.bind.mp h).mono (fun d μ' z => ?_) fun _ _ z => z⟩
    cases d <;> first | exact z.elim | skip
    rename_i kb
    cases kb with
    | false => unfold evOr at z; exact z
    | true => exact z
theorem s_orC {a : E} {ax bx : Expr} {es : List E} {exs : List Expr} (ha : PE X ax (tE X.K L Pg C W a)) (hr : PE X (.BoolOp .Or (bx :: exs) pos) (tEor X.K L Pg C W es)) : PE X (.BoolOp .Or (ax :: bx :: exs) pos) (tEor X.K L Pg C W (a :: es)) :=
  (pe_or ha hr).imp fun σ H Q q => by
    obtain ⟨G, F, ι, env, μ, sr, h⟩ := q
    unfold evOr at h
    refine tE_go sr h fun d μ1 F1 ι1 H1 x t1 sr1 r1 h1 => ?_
    cases d <;> first | exact h1.elim | skip
    rename_i kb
    cases r1
    refine ⟨kb, rfl, ?_⟩
    cases kb with
    | false => exact ⟨G, F1, ι1, env, μ1, sr1, WpR.le t1 h1⟩
    | true => exact okP.here (okP.le t1 h1) sr1 (.bl _)
theorem s_and1T {a : E} {ax : Expr} (ha : PT X ax (tT X.K L Pg C W a)) : PW X (.BoolOp .And [ax] pos) (tTand X.K L Pg C W [a]) :=
  (pw_and1 ha).imp fun σ H Q q => by
    obtain ⟨G, F, ι, env, μ, sr, h⟩ := q
    unfold evAnd at h
    refine ⟨G, F, ι, env, μ, sr, (WpR.bind.mp h).mono (fun d μ' z => ?_) fun _ _ z => z⟩
    cases d <;> first | exact z.elim | skip
    rename_i kb
    cases kb with
    | true => unfold evAnd at z; exact z
    | false => exact z
theorem s_andCT {a : E} {ax bx : Expr} {es : List E} {exs : List Expr} (ha : PT X ax (tT X.K L Pg C W a)) (hr : PW X (.BoolOp .And (bx :: exs) pos) (tTand X.K L Pg C W es)) : PW X (.BoolOp .And (ax :: bx :: exs) pos) (tTand X.K L Pg C W (a :: es)) :=
  (pw_and ha hr).imp fun σ H Q q => by
    obtain ⟨G, F, ι, env, μ, sr, h⟩ := q
    unfold evAnd at h
    refine ⟨G, F, ι, env, μ, sr, (WpR.bind.mp h).mono (fun d μ' z => ?_) fun _ _ z => z⟩
    cases d <;> first | exact z.elim | skip
    rename_i kb
    refine ⟨kb, rfl, fun F' ι' H' t sr' => ?_⟩
    cases kb with
    | true => exact ⟨G, F', ι', env, μ', sr', WpR.leT t z⟩
    | false =>
      obtain ⟨b', e, hk⟩ := z
      cases e
      exact hk F' ι' H' t sr'
theorem s_or1T {a : E} {ax : Expr} (ha : PT X ax (tT X.K L Pg C W a)) : PW X (.BoolOp .Or [ax] pos) (tTor X.K L Pg C W [a]) :=
  (pw_or1 ha).imp fun σ H Q q => by
    obtain ⟨G, F, ι, env, μ, sr, h⟩ := q
    unfold evOr at h
    refine ⟨G, F, ι, env, μ, sr, (WpR.bind.mp h).mono (fun d μ' z => ?_) fun _ _ z => z⟩
    cases d <;> first | exact z.elim | skip
    rename_i kb
    cases kb with
    | false => unfold evOr at z; exact z
    | true => exact z
theorem s_orCT {a : E} {ax bx : Expr} {es : List E} {exs : List Expr} (ha : PT X ax (tT X.K L Pg C W a)) (hr : PW X (.BoolOp .Or (bx :: exs) pos) (tTor X.K L Pg C W es)) : PW X (.BoolOp .Or (ax :: bx :: exs) pos) (tTor X.K L Pg C W (a :: es)) :=
  (pw_or ha hr).imp fun σ H Q q => by
    obtain ⟨G, F, ι, env, μ, sr, h⟩ := q
    unfold evOr at h
    refine ⟨G, F, ι, env, μ, sr, (WpR.bind.mp h).mono (fun d μ' z => ?_) fun _ _ z => z⟩
    cases d <;> first | exact z.elim | skip
    rename_i kb
    refine ⟨kb, rfl, fun F' ι' H' t sr' => ?_⟩
    cases kb with
    | false => exact ⟨G, F', ι', env, μ', sr', WpR.leT t z⟩
    | true =>
      obtain ⟨b', e, hk⟩ := z
      cases e
      exact hk F' ι' H' t sr'
end
end Lm
set_option Elab.async false
set_option linter.all false
set_option maxRecDepth 100000
set_option maxHeartbeats 1000000
namespace Lm
open PySem PySem.Spec PyProof.Rows L2
section
variable {L : Lk} {Pg : Pg} {C : Orc} {k : Nat} {W : WX} {sc : Scope} {fb : Str → Bool} {N : List Str} {X : Cx} {G F F' H H' : Hp} {ι ι' : List Addr} {env : Env} {μ μ' : Sto} {σ : L2.St} {pos pos2 : Pos}
/-! ### isinstance of data -/
def tyS : Ty → Str | .int => "int" | .bool => "bool" | .tuple => "tuple" | .str => "str" | .list => "list" | .dict => "dict" | _ => ""
def tyOk : Ty → Bool | .own _ => false | .exc _ => false | _ => true
def tyN : Ty → String | .int => "int" | .bool => "bool" | .tuple => "tuple" | .str => "str" | .list => "list" | .dict => "dict" | _ => ""
theorem kit_ty (K : PySem.W.Frag) {a : String} {t : Ty} (ha : a = "NoneType" ∨ a = "bool" ∨ a = "int" ∨ a = "str" ∨ a = "tuple" ∨ a = "list" ∨ a = "dict") (ht : tyOk t = true) :
    PySem.W.kitOne K (.type a) (.type (tyN t)) = some (a == tyN t || (a == "bool" && tyN t == "int")) := by
  rcases ha with rfl | rfl | rfl | rfl | rfl | rfl | rfl <;> cases t <;> first | rfl | cases ht
theorem tyX_of {d : D} {v : V} {a : String} (e : tyOf d = some a) (sr : SR X.K L G F ι env μ σ H) (r : Rep X.K L F ι d v) : TyX X.K H v (.type a) ∧ (a = "NoneType" ∨ a = "bool" ∨ a = "int" ∨ a = "str" ∨ a = "tuple" ∨ a = "list" ∨ a = "dict") := by
  cases d <;> simp only [tyOf, reduceCtorEq, Option.some.injEq] at e <;> subst e
  · cases r; exact ⟨.base .non, by simp⟩
  · cases r; exact ⟨.base (.bl _), by simp⟩
  · cases r; exact ⟨.base (.int _), by simp⟩
  · cases r; exact ⟨.base (.str _), by simp⟩
  · cases r with
    | tup h r =>
      refine ⟨?_, by simp⟩
      rcases sr.f.sqT h with (h | ⟨o, h⟩) | ⟨o, its, n, h1, h2, _⟩
      · exact .base (.tup h)
      · exact .fTuple h
      · exact .kTuple h1 h2
  · cases r with | lst h r => exact ⟨.base (.lst (sr.f _ _ h)), by simp⟩
  · cases r with | dct h r => exact ⟨.base (.dK (sr.f _ _ h)), by simp⟩
theorem kit_or (K : PySem.W.Frag) {a : String} {t : Ty} {nm : String} (ht : tyOk t = true) (h4 : tyNm t = some nm) : nm = tyN t := by cases t <;> simp only [tyNm, reduceCtorEq, Option.some.injEq] at h4 <;> subst h4 <;> rfl
/-- an instance's type -/
theorem tyX_ins {cn : Nat} {d : D} {v : V} (lk : LinkOk X.K X.mg L Pg) (e : clsOf μ d = some cn) (hn : isN Pg cn = true) (sr : SR X.K L G F ι env μ σ H) (r : Rep X.K L F ι d v) : ∃ C, L.clA[cn]? = some C ∧ TyX X.K H v (.ref C) ∧ InsK X.K C := by
  obtain ⟨cl, hc, hk⟩ : ∃ cl, Pg.cls[cn]? = some cl ∧ cl.kind.isExc = false := by
    unfold isN at hn
    split at hn
    · rename_i k hk; exact ⟨k, hk, by simpa using hn⟩
    · cases hn
  have key : ∀ (C a dx : Addr) (gs : List (Str × V)), v = .ref a → H a = some (.ins C dx gs) → L.clA[cn]? = some C → ∃ C, L.clA[cn]? = some C ∧ TyX X.K H v (.ref C) ∧ InsK X.K C := fun C a dx gs hv ha hC => by
    subst hv
    have ik := lk.ick cn cl C hc hk hC
    exact ⟨C, hC, .base (.ins ha (lk.cls cn cl C hc hk hC) ik.ha ik.hn ik.ht ik.hm), ik⟩
  cases d <;> simp only [clsOf, reduceCtorEq, Option.some.injEq] at e
  · subst e
    cases r with
    | obj hC ha _ => exact key _ _ _ _ rfl (sr.f _ _ ha) hC
  · cases r with
    | loc hl =>
      obtain ⟨h1, h2, o, ho, h3, h4, h5⟩ := sr.sto _ _ hl
      rw [h3] at e
      cases h5 with
      | ins hC rf =>
        simp only [Option.some.injEq] at e
        subst e
        exact key _ _ _ _ rfl h4 hC
      | _ => cases e
theorem s_isi {a : E} {t : Ty} {ax : Expr} {p p2 : Pos} (c : CtxE L Pg C k W sc fb N X) (hg : gloB sc "isinstance" = true) (hg2 : gloB sc (tyS t) = true) (ht : tyOk t = true) (hn : noStar ax = true) (ha : PE X ax (tE X.K L Pg C W a)) :
    PE X (.Call (.Name "isinstance" p) [ax, .Name (tyS t) p2] [] pos) (tE X.K L Pg C W (.isi a [t])) := by
  have pt : PE X (.Name (tyS t) p2) (tC (.ty (tyN t))) := by
    have hm : X.mg (tyS t) = none := c.link.blt _ (by cases t <;> first | (simp [tyS, bltNames]; done) | cases ht)
    cases t <;> first | exact pe_bltn (u := .type _) (c.gl hg2) hm (by decide +kernel) rfl (by decide +kernel) (by decide +kernel) | exact absurd ht (by simp [tyOk])
  have pa := paC hn ha (paC (X := X) (e := .Name (tyS t) p2) rfl pt (pa_nil (X := X)))
  refine (pe_callB call_isi (c.gl hg) (c.link.blt _ (by simp [bltNames])) (by decide +kernel) pa (by decide +kernel) (by decide +kernel) (starEach_cons hn) (starEach_none _ (by simp [noStar]))).imp fun σ H Q q => ?_
  obtain ⟨G, F, ι, env, μ, sr, h⟩ := q
  unfold evE at h
  refine tE_go sr h fun d μ1 F1 ι1 H1 x t1 sr1 r1 h1 => ?_
  obtain ⟨dz, e, hk⟩ := WpR.ofO.mp h1
  obtain ⟨b, e1, rfl⟩ := Option.map_eq_some_iff.mp e
  have e2 : isT Pg μ1 d t = some b := by
    simp only [isTs] at e1
    split at e1
    · rename_i z; cases e1; exact z
    · rename_i z; cases e1; exact z
    · cases e1
  cases hcl : clsOf μ1 d with
  | some cn =>
    have e3 : (if isN Pg cn = true then (tyNm t).map fun _ => false else none) = some b := by
      unfold isT at e2
      rw [hcl] at e2
      cases t <;> first | exact e2 | cases ht
    split at e3
    · rename_i hN
      obtain ⟨nm, h4, rfl⟩ := Option.map_eq_some_iff.mp e3
      obtain rfl := kit_or X.K (a := "") ht h4
      obtain ⟨Ca, _, tx, ik⟩ := tyX_ins c.link hcl hN sr1 r1
      exact ⟨x, .ty (tyN t), .ref Ca, .type (tyN t), _, rfl, .ty _, tx, ik.no _ (by cases t <;> first | (simp [tyN]; done) | cases ht), okP.here (okP.le t1 hk) sr1 (.bl _)⟩
    · cases e3
  | none =>
    have e3 : (match tyOf d, tyNm t with | some a, some b => some (a == b || (a == "bool" && b == "int")) | _, _ => none) = some b := by
      unfold isT at e2
      rw [hcl] at e2
      cases t <;> first | exact e2 | cases ht
    split at e3
    · rename_i ty nm h3 h4
      obtain ⟨tx, hty⟩ := tyX_of h3 sr1 r1
      obtain rfl := kit_or X.K (a := "") ht h4
      cases e3
      exact ⟨x, .ty (tyN t), .type ty, .type (tyN t), _, rfl, .ty _, tx, kit_ty X.K hty ht, okP.here (okP.le t1 hk) sr1 (.bl _)⟩
    · cases e3
/-- isinstance(x, C), C a class of instances -/
theorem s_isiO {a : E} {cn : Nat} {y : Str} {ax : Expr} {p p2 : Pos} (c : CtxE L Pg C k W sc fb N X) (hg : gloB sc "isinstance" = true) (hcn : L.clN[cn]? = some y) (hN : isN Pg cn = true) (hg2 : gloB sc y = true) (hd : notDbg y = true) (hn : noStar ax = true) (ha : PE X ax (tE X.K L Pg C W a)) :
    PE X (.Call (.Name "isinstance" p) [ax, .Name y p2] [] pos) (tE X.K L Pg C W (.isi a [.own cn])) := by
  obtain ⟨cl, hc, hx⟩ : ∃ cl, Pg.cls[cn]? = some cl ∧ cl.kind.isExc = false := by
    have hN := hN
    unfold isN at hN
    split at hN
    · rename_i k hk; exact ⟨k, hk, by simpa using hN⟩
    · cases hN
  obtain ⟨Ct, hCt, hm⟩ := c.link.cnm cn cl y hc hx hcn
  have hdb : (y == ("__debug__" : Str)) = false := by
    simp only [notDbg, Bool.and_eq_true, Bool.not_eq_true'] at hd
    exact hd.1.1
  have pt : PE X (.Name y p2) (tC (.ref Ct)) := pe_glob (c.gl hg2) hm rfl hdb
  have pa := paC hn ha (paC (X := X) (e := .Name y p2) rfl pt (pa_nil (X := X)))
  refine (pe_callB call_isi (c.gl hg) (c.link.blt _ (by simp [bltNames])) (by decide +kernel) pa (by decide +kernel) (by decide +kernel) (starEach_cons hn) (starEach_none _ (by simp [noStar]))).imp fun σ H Q q => ?_
  obtain ⟨G, F, ι, env, μ, sr, h⟩ := q
  unfold evE at h
  refine tE_go sr h fun d μ1 F1 ι1 H1 x t1 sr1 r1 h1 => ?_
  obtain ⟨dz, e, hk⟩ := WpR.ofO.mp h1
  obtain ⟨b, e1, rfl⟩ := Option.map_eq_some_iff.mp e
  have e2 : isT Pg μ1 d (.own cn) = some b := by
    simp only [isTs] at e1
    split at e1
    · rename_i z; cases e1; exact z
    · rename_i z; cases e1; exact z
    · cases e1
  have ikt := c.link.ick cn cl Ct hc hx hCt
  cases hcl : clsOf μ1 d with
  | some c1 =>
    have e3 : (if (isN Pg c1 && isN Pg cn) = true then some (decide (c1 = cn)) else none) = some b := by
      unfold isT at e2
      rw [hcl] at e2
      exact e2
    split at e3
    · rename_i hNN
      rw [Bool.and_eq_true] at hNN
      cases e3
      obtain ⟨Ca, hCa, tx, ik⟩ := tyX_ins c.link hcl hNN.1 sr1 r1
      exact ⟨x, .ref Ct, .ref Ca, .ref Ct, _, rfl, .own _, tx, c.link.ock c1 cn Ca Ct hNN.1 hN hCa hCt, okP.here (okP.le t1 hk) sr1 (.bl _)⟩
    · cases e3
  | none =>
    have e3 : (if isN Pg cn = true then (tyOf d).map fun _ => false else (exC d).bind fun c => if (isX Pg c && isX Pg cn) = true then some (supOf Pg c (.inl cn)) else none) = some b := by
      unfold isT at e2
      rw [hcl] at e2
      exact e2
    rw [if_pos hN] at e3
    obtain ⟨ty, h3, rfl⟩ := Option.map_eq_some_iff.mp e3
    obtain ⟨tx, hty⟩ := tyX_of h3 sr1 r1
    have hm9 : ty ∈ (["NoneType", "bool", "int", "str", "tuple", "list", "dict"] : List String) := by
      rcases hty with rfl | rfl | rfl | rfl | rfl | rfl | rfl <;> simp
    exact ⟨x, .ref Ct, .type ty, .ref Ct, _, rfl, .own _, tx, ikt.da ty hm9, okP.here (okP.le t1 hk) sr1 (.bl _)⟩
/-! ### built-ins -/
theorem s_f1 {b : F1} {a : E} {ax : Expr} {p : Pos} (c : CtxE L Pg C k W sc fb N X) (hok : f1Ok b = true) (hg : gloB sc (f1Name b) = true) (hn : noStar ax = true) (ha : PE X ax (tB X.K L Pg C W a)) :
    PE X (.Call (.Name (f1Name b) p) [ax] [] pos) (tE X.K L Pg C W (.f1 b a)) := by
  have hm : X.mg (f1Name b) = none := c.link.blt _ (by cases b <;> first | (simp [f1Name, bltNames]; done) | cases hok)
  refine (pe_f1 hok (callr_f1 c.calm c.quiet c.u66 b) (c.gl hg) hm ha hn).imp fun σ H Q q => ?_
  obtain ⟨G, F, ι, env, μ, sr, h⟩ := q
  unfold evE at h
  refine tB_go sr h fun d μ1 F1 ι1 H1 x t1 sr1 r1 h1 => ?_
  obtain ⟨dz, e, hk⟩ := WpR.ofO.mp h1
  obtain ⟨d', e1, e2⟩ := Option.bind_eq_some_iff.mp e
  exact opF1_ok c.lw e2 sr1 ((r1.b sr1).deref sr1 e1) (hk.le t1)
def f2Name : F2 → Str | .min => "min" | .max => "max" | _ => ""
def f2Ok : F2 → Bool | .min => true | .max => true | _ => false
theorem s_f2 {b : F2} {a a2 : E} {ax ax2 : Expr} {p : Pos} (c : CtxE L Pg C k W sc fb N X) (hok : f2Ok b = true) (hg : gloB sc (f2Name b) = true) (hn : noStar ax = true) (hn2 : noStar ax2 = true) (ha : PE X ax (tB X.K L Pg C W a)) (ha2 : PE X ax2 (tB X.K L Pg C W a2)) :
    PE X (.Call (.Name (f2Name b) p) [ax, ax2] [] pos) (tE X.K L Pg C W (.f2 b a a2)) := by
  have hm : X.mg (f2Name b) = none := c.link.blt _ (by cases b <;> first | (simp [f2Name, bltNames]; done) | cases hok)
  have pa := paC hn ha (paC hn2 ha2 (pa_nil (X := X)))
  have go : ∀ {σ : L2.St} {H : Hp} {Q : VK}, tE X.K L Pg C W (.f2 b a a2) σ H Q → tB X.K L Pg C W a σ H fun x H1 => tB X.K L Pg C W a2 σ H1 fun y H2 => ∃ i j, x = .int i ∧ y = .int j ∧
      (match b with | .min => Q (.int (if j < i then j else i)) H2 | .max => Q (.int (if j > i then j else i)) H2 | _ => False) := fun {σ H Q} q => by
    obtain ⟨G, F, ι, env, μ, sr, h⟩ := q
    unfold evE at h
    refine tB_go sr h fun d μ1 F1 ι1 H1 x t1 sr1 r1 h1 => tB_go sr1 (h1.exle t1) fun d2 μ2 F2 ι2 H2 y t2 sr2 r2 h2 => ?_
    obtain ⟨dz, e, hk⟩ := WpR.ofO.mp h2
    obtain ⟨d', e1, e2⟩ := Option.bind_eq_some_iff.mp e
    have rx := ((r1.to t2).b sr2).deref sr2 e1
    have ry := r2.b sr2
    cases b <;> first | (cases hok; done) | skip
    · cases d' <;> cases d2 <;> simp only [opF2, reduceCtorEq] at e2
      cases rx.int; cases ry.int; cases e2
      exact ⟨_, _, rfl, rfl, okP.here (okP.le (t1.trans t2) hk) sr2 (.int _)⟩
    · cases d' <;> cases d2 <;> simp only [opF2, reduceCtorEq] at e2
      cases rx.int; cases ry.int; cases e2
      exact ⟨_, _, rfl, rfl, okP.here (okP.le (t1.trans t2) hk) sr2 (.int _)⟩
  have imp : ∀ {ta : TE} {σ : L2.St} {H : Hp}, True := trivial
  cases b <;> first | (cases hok; done) | skip
  · refine (pe_callB (call_min2 c.calm) (c.gl hg) hm (by decide +kernel) pa (by decide +kernel) (by decide +kernel) (starEach_cons hn) (starEach_none _ (by simp [hn2]))).imp fun σ H Q q => ?_
    have z := go q
    obtain ⟨G, F, ι, env, μ, sr, h⟩ := z
    refine ⟨G, F, ι, env, μ, sr, h.mono (fun d μ1 k1 F1 ι1 H1 v t1 sr1 r1 => ?_) fun _ _ z => z⟩
    obtain ⟨G', F', ι', env', μ', sr', h'⟩ := k1 F1 ι1 H1 v t1 sr1 r1
    refine ⟨G', F', ι', env', μ', sr', h'.mono (fun d2 μ2 k2 F2 ι2 H2 v2 t2 sr2 r2 => ?_) fun _ _ z => z⟩
    obtain ⟨i, j, e1, e2, q⟩ := k2 F2 ι2 H2 v2 t2 sr2 r2
    exact ⟨i, j, by rw [e1, e2], q⟩
  · refine (pe_callB (call_max2 c.calm) (c.gl hg) hm (by decide +kernel) pa (by decide +kernel) (by decide +kernel) (starEach_cons hn) (starEach_none _ (by simp [hn2]))).imp fun σ H Q q => ?_
    have z := go q
    obtain ⟨G, F, ι, env, μ, sr, h⟩ := z
    refine ⟨G, F, ι, env, μ, sr, h.mono (fun d μ1 k1 F1 ι1 H1 v t1 sr1 r1 => ?_) fun _ _ z => z⟩
    obtain ⟨G', F', ι', env', μ', sr', h'⟩ := k1 F1 ι1 H1 v t1 sr1 r1
    refine ⟨G', F', ι', env', μ', sr', h'.mono (fun d2 μ2 k2 F2 ι2 H2 v2 t2 sr2 r2 => ?_) fun _ _ z => z⟩
    obtain ⟨i, j, e1, e2, q⟩ := k2 F2 ι2 H2 v2 t2 sr2 r2
    exact ⟨i, j, by rw [e1, e2], q⟩
/-! ### subscripts -/
def rIxD : R2 := fun x y H Q => ∃ a v, x = .ref a ∧ DGet H a y (some v) ∧ Q v H
theorem ix_dict (hu : X.A.units + 1 < cLine) : IxR X rIxD := by
  intro value slice pins s σ H x y v u Q I rx ry h hs
  obtain ⟨a, w, rfl, g, q⟩ := h
  cases rx
  exact tail_any (dict_typeIs I g) PySem.F.slot_dict_getitem.lookup (d_getItem hu I g ry fun w' s3 I3 rw' => ⟨w, H, I3, rw', q⟩) hs
def rIxN (X : Cx) : R2 := fun x y H Q => ∃ a xs k v, x = .ref a ∧ NAt X.K X.w H a xs ∧ NKey X.K H k y ∧ valN xs k = some v ∧ Q v H
theorem NAt.typeIs {pins : List (Addr × Obj)} {s : Shared} {a : Addr} {xs : List (NestedKey × Addr × V)} (I : Inv X pins σ H s) (h : NAt X.K X.w H a xs) : s.TypeIs (.ref a) "dict" := by
  obtain ⟨_, _, ys, _, dd⟩ := h.of I
  exact dd.typeIs
theorem ix_nest (hu : X.A.units + 1 + 8 < cLine) : IxR X (rIxN X) := by
  intro value slice pins s σ H x y v u Q I rx ry h hs
  obtain ⟨a, xs, k, w, rfl, g, hk, hv, q⟩ := h
  cases rx
  exact tail_any (g.typeIs I) PySem.F.slot_dict_getitem.lookup (n_getItem hu I g hk ry hv fun w' s3 I3 rw' => ⟨w, H, I3, rw', q⟩) hs
def notSlice : Expr → Bool | .Slice _ _ _ _ => false | _ => true
theorem plainIx_of {b : Expr} (h : notSlice b = true) : PlainIx b := by
  intro o i
  cases b <;> first | rfl | cases h
theorem cut_eq {α : Type} (xs : List α) (lo hi : Option Int) : cutL xs lo hi = (xs.drop (HT.sIx xs.length 0 lo)).take (HT.sIx xs.length xs.length hi - HT.sIx xs.length 0 lo) := by
  have e : ∀ n d (o : Option Int), cutN n d o = HT.sIx n d o := fun n d o => by
    cases o with
    | none => rfl
    | some v => rfl
  unfold cutL
  rw [e, e]
theorem reps_cut {K : PySem.W.Frag} {xs : List D} {vs : List V} (r : Reps K L F ι xs vs) (lo hi : Option Int) : Reps K L F ι (cutL xs lo hi) (cutV vs lo hi) := by
  rw [cut_eq]
  unfold cutV
  rw [r.len]
  exact (r.drop _).take _
theorem atI_of {xs : List D} {vs : List V} {K : PySem.W.Frag} {i : Int} {dz : D} (r : Reps K L F ι xs vs) (e : (ixN xs.length i).bind (fun j => xs[j]?) = some dz) : ∃ v, atI vs i = some v ∧ Rep K L F ι dz v := by
  obtain ⟨j, e1, e2⟩ := Option.bind_eq_some_iff.mp e
  obtain ⟨v, e3, rv⟩ := r.get e2
  refine ⟨v, ?_, rv⟩
  have e4 : L2.ixN vs.length i = some j := by rw [← r.len]; exact e1
  unfold atI
  rw [e4]
  exact e3
theorem s_idx {a b : E} {ax bx : Expr} (c : CtxE L Pg C k W sc fb N X) (hs : notSlice bx = true) (ha : PE X ax (tB X.K L Pg C W a)) (hb : PE X bx (tE X.K L Pg C W b)) : PE X (.Subscript ax bx pos) (tE X.K L Pg C W (.idx a b)) :=
  (pe_ix ((ix_seq.or (ix_dict (by have := c.u65; omega))).or (ix_nest (by have := c.u65; omega))) ha hb (plainIx_of hs)).imp fun σ H Q q => by
    obtain ⟨G, F, ι, env, μ, sr, h⟩ := q
    unfold evE at h
    refine tB_go sr h fun d μ1 F1 ι1 H1 x t1 sr1 r1 h1 => tE_go sr1 (h1.exle t1) fun d2 μ2 F2 ι2 H2 y t2 sr2 r2 h2 => ?_
    obtain ⟨dz, e, hk⟩ := WpR.ofO.mp h2
    obtain ⟨d', e1, e2⟩ := Option.bind_eq_some_iff.mp e
    have rx := ((r1.to t2).b sr2).deref sr2 e1
    have hk := okP.le (t1.trans t2) hk
    cases d' with
    | tup xs =>
      cases d2 <;> simp only [idxD, reduceCtorEq] at e2
      cases r2
      obtain ⟨p, vs, rfl, hq, r⟩ := rx.tup sr2
      -- the items may be read as they stand
      obtain ⟨v, e3, rv⟩ := atI_of r e2
      exact .inl (.inl (.inr (.inl ⟨p, vs, _, v, rfl, rfl, hq, e3, hk.here sr2 rv⟩)))
    | lst xs =>
      cases d2 <;> simp only [idxD, reduceCtorEq] at e2
      cases r2
      obtain ⟨p, vs, rfl, hq, r⟩ := rx.lst sr2
      obtain ⟨v, e3, rv⟩ := atI_of r e2
      exact .inl (.inl (.inl ⟨p, vs, _, v, rfl, rfl, SqL.of hq, e3, hk.here sr2 rv⟩))
    | str z =>
      cases d2 <;> simp only [idxD, reduceCtorEq] at e2
      cases r2
      cases rx.str
      split at e2
      · rename_i hz
        obtain ⟨j, e3, e4⟩ := Option.bind_eq_some_iff.mp e2
        obtain ⟨ch, e5, rfl⟩ := Option.map_eq_some_iff.mp e4
        refine .inl (.inl (.inr (.inr ⟨z, _, ch, rfl, rfl, hz, ?_, hk.here sr2 (.str _)⟩)))
        have el : z.cps.toList.length = z.length := by simp [Str.length]
        have e6 : L2.ixN z.cps.toList.length ‹Int› = some j := by rw [el]; exact e3
        unfold atI
        rw [e6]
        show z.cps.toList[j]? = some ch
        rw [Array.getElem?_toList]
        exact e5
      · cases e2
    | dct kvs =>
      have e3 : (keyD d2).bind (fun q => dget kvs q) = some dz := by cases d2 <;> exact e2
      obtain ⟨q, e4, e5⟩ := Option.bind_eq_some_iff.mp e3
      obtain ⟨p, ks, rfl, hp, r⟩ := rx.dct sr2
      obtain ⟨v, e6, rv⟩ := (r.get q).1 _ e5
      cases keyD_rep e4 r2
      exact .inl (.inr ⟨p, v, rfl, by rw [← e6]; exact DGet.k hp, hk.here sr2 rv⟩)
    | dcn kvs =>
      have e3 : (keyT d2).bind (fun q => dgetN kvs q) = some dz := by cases d2 <;> exact e2
      obtain ⟨q, e4, e5⟩ := Option.bind_eq_some_iff.mp e3
      obtain ⟨p, xs, rfl, hp, r⟩ := rx.nat c.lw sr2
      obtain ⟨v, e6, rv⟩ := (r.r.get q).1 _ e5
      exact .inr ⟨p, xs, q, v, rfl, hp, (RepB.of r2).nkey sr2 e4, e6, hk.here sr2 rv⟩
    | _ => cases d2 <;> cases e2
/-! ### slices -/
theorem s_ono : PO X none (fun σ H Q => ∃ G F ι env μ, SR X.K L G F ι env μ σ H ∧ WpR (evO Pg C none env μ) (fun o μ' => ∀ F' ι' H', To F ι F' ι' → SR X.K L G F' ι' env μ' σ H' → Q o H') (exW X.K L W G F ι env σ)) := by
  refine ⟨fun pins s σ H Q I h => po_none.run pins s σ H Q I ?_⟩
  obtain ⟨G, F, ι, env, μ, sr, h⟩ := h
  unfold evO at h
  exact (show ∀ F' ι' H', To F ι F' ι' → SR X.K L G F' ι' env μ σ H' → Q none H' from h) F ι H (To.refl _ _) sr
theorem s_osome {e : E} {ex : Expr} (he : PE X ex (tE X.K L Pg C W e)) : PO X (some ex) (fun σ H Q => ∃ G F ι env μ, SR X.K L G F ι env μ σ H ∧ WpR (evO Pg C (some e) env μ) (fun o μ' => ∀ F' ι' H', To F ι F' ι' → SR X.K L G F' ι' env μ' σ H' → Q o H') (exW X.K L W G F ι env σ)) := by
  refine ⟨fun pins s σ H Q I h => (po_some he).run pins s σ H Q I ?_⟩
  obtain ⟨G, F, ι, env, μ, sr, h⟩ := h
  unfold evO at h
  refine tE_go sr h fun d μ1 F1 ι1 H1 x t1 sr1 r1 h1 => ?_
  cases d <;> first | exact h1.elim | (cases r1; exact ⟨_, rfl, h1 F1 ι1 H1 t1 sr1⟩)
def tO (K : PySem.W.Frag) (L : Lk) (Pg : Lm.Pg) (C : Orc) (W : WX) (o : Option E) : TO := fun σ H Q => ∃ G F ι env μ, SR K L G F ι env μ σ H ∧ WpR (evO Pg C o env μ) (fun o μ' => ∀ F' ι' H', To F ι F' ι' → SR K L G F' ι' env μ' σ H' → Q o H') (exW K L W G F ι env σ)
theorem tO_go {α : Type} {K : PySem.W.Frag} {a : Option E} {f : Option Int → Sto → Res α} {p : α → Sto → Prop} {Q : Option Int → Hp → Prop} (sr : SR K L G F ι env μ σ H) (h : WpR ((evO Pg C a env μ).bind f) p (exW K L W G F ι env σ))
    (k : ∀ d μ1 F1 ι1 H1, To F ι F1 ι1 → SR K L G F1 ι1 env μ1 σ H1 → WpR (f d μ1) p (exW K L W G F ι env σ) → Q d H1) : tO K L Pg C W a σ H Q :=
  ⟨G, F, ι, env, μ, sr, (WpR.bind.mp h).mono (fun d μ1 h1 F1 ι1 H1 t sr1 => k d μ1 F1 ι1 H1 t sr1 h1) fun _ _ z => z⟩
theorem s_sli {a : E} {lo hi : Option E} {ax : Expr} {lx hx : Option Expr} (ha : PE X ax (tB X.K L Pg C W a)) (hl : PO X lx (tO X.K L Pg C W lo)) (hh : PO X hx (tO X.K L Pg C W hi)) : PE X (.Subscript ax (.Slice lx hx none pos2) pos) (tE X.K L Pg C W (.sli a lo hi)) :=
  (pe_slice (sl_list.or (sl_tupA.or sl_str)) ha hl hh).imp fun σ H Q q => by
    obtain ⟨G, F, ι, env, μ, sr, h⟩ := q
    unfold evE at h
    refine tB_go sr h fun d μ1 F1 ι1 H1 x t1 sr1 r1 h1 => tO_go sr1 (h1.exle t1) fun l μ2 F2 ι2 H2 t2 sr2 h2 => tO_go sr2 (h2.exle t2) fun u μ3 F3 ι3 H3 t3 sr3 h3 => ?_
    obtain ⟨dz, e, hk⟩ := WpR.ofO.mp h3
    obtain ⟨d', e1, e2⟩ := Option.bind_eq_some_iff.mp e
    have rx := ((r1.to (t2.trans t3)).b sr3).deref sr3 e1
    have hk := okP.le ((t1.trans t2).trans t3) hk
    cases d' <;> simp only [sliD, reduceCtorEq, Option.some.injEq] at e2
    · rename_i z
      cases rx.str
      split at e2
      · rename_i hz
        cases e2
        refine .inr (.inr ⟨z, rfl, hz, ?_⟩)
        have e3 : (⟨(cutL z.cps.toList l u).toArray⟩ : Str) = cutS z l u := by
          unfold cutS
          rw [cut_eq, Array.length_toList]
          rfl
        rw [e3] at hk
        exact hk.here sr3 (.str _)
      · cases e2
    · subst e2
      obtain ⟨p, vs, rfl, hq, r⟩ := rx.tup sr3
      refine .inr (.inl ⟨p, vs, rfl, hq, fun hw => ?_, fun hw => hk.newT sr3 (reps_cut r l u)⟩)
      have e3 : cutL (‹List D›) l u = (‹List D›) := by
        rw [cut_eq, r.len, hw.1, hw.2, List.drop_zero, Nat.sub_zero, ← r.len, List.take_length]
      rw [e3] at hk
      exact hk.here sr3 rx.rep_tup
    · subst e2
      obtain ⟨p, vs, rfl, hq, r⟩ := rx.lst sr3
      exact .inl ⟨p, vs, rfl, SqL.of hq, hk.newL sr3 (reps_cut r l u)⟩
    · subst e2
      obtain ⟨p, vs, rfl, hq, r⟩ := rx.frz sr3
      exact .inl ⟨p, vs, rfl, hq, hk.newL sr3 (reps_cut r l u)⟩
end
end Lm
set_option Elab.async false
set_option linter.all false
set_option maxRecDepth 100000
set_option maxHeartbeats 1000000
namespace Lm
open PySem PySem.Spec PyProof.Rows L2
/-! ## t[::-1], t a tuple -/
theorem rv_adjust (n : Nat) : Builtin.Slice.sliceAdjust none none (-1) (n : Int) = ((n : Int) - 1, -1) := by
  unfold Builtin.Slice.sliceAdjust
  simp
theorem rv_places (n : Nat) : Builtin.Slice.slicePlaces ((n : Int) - 1) (-1) (-1) = n := by
  unfold Builtin.Slice.slicePlaces
  simp
  omega
theorem rv_pick (xs : Array Value) : ((List.range xs.size).filterMap fun (m : Nat) => xs[((xs.size : Int) - 1 + (m : Int) * (-1)).toNat]?).toArray = xs.toList.reverse.toArray := by
  have e : (fun (m : Nat) => xs[((xs.size : Int) - 1 + (m : Int) * (-1)).toNat]?) = (fun i => xs[i]?) ∘ fun k => xs.size - 1 - k := by
    funext m
    have : ((xs.size : Int) - 1 + (m : Int) * (-1)).toNat = xs.size - 1 - m := by omega
    rw [this]
    rfl
  rw [e, ← List.filterMap_map, PySem.W.krv_range, List.filterMap_reverse, PySem.W.krv_all]
section
variable {prog : Program} {w : World} {A : Around} {E : Value → Shared → Prop} {s : Shared}
theorem sliceApplied_rev {sl : Addr} {vs : Value} {n : Nat} {Q : Int × Int × Nat → Shared → Prop} (hs : s.heap.IsSliceOf sl .none .none vs) (ps : IsPart vs (some (-1)))
    (h : Q ((n : Int) - 1, -1, n) s) : wpAny (model prog w) A (Builtin.Slice.sliceApplied (.ref sl) (pure (n : Int))) Q E s := by
  obtain ⟨os, hos, hcs, hds⟩ := id hs
  unfold Builtin.Slice.sliceApplied Builtin.Slice.sliceFields
  refine wpAny_bind (wpAny_bind (wpAny_field hos hds (x := .none) rfl (wpAny_bind (wpAny_field hos hds (x := .none) rfl (wpAny_bind (wpAny_field hos hds (x := vs) rfl (wpAny_pure ?_)))))))
  refine wpAny_bind (HT.slicePart_ ps ?_)
  show wpAny _ _ (if ((-1 : Int) == 0) = true then _ else _) _ _ s
  rw [if_neg (by decide)]
  refine wpAny_bind (HT.slicePart_ .none (wpAny_bind (HT.slicePart_ .none (wpAny_bind (wpAny_pure ?_)))))
  show wpAny _ _ (match Builtin.Slice.sliceAdjust none none (-1) (n : Int) with | (lo, hi) => pure (lo, (-1 : Int), Builtin.Slice.slicePlaces lo hi (-1))) _ _ s
  rw [rv_adjust n]
  show wpAny _ _ (pure ((n : Int) - 1, (-1 : Int), Builtin.Slice.slicePlaces ((n : Int) - 1) (-1) (-1))) _ _ s
  rw [rv_places]
  exact wpAny_pure h
theorem getItem_tuple_rev {t sl : Addr} {items : Array Value} {vs : Value} {Q : Value → Shared → Prop} (ht : IsTup s.heap t items) (hs : s.heap.IsSliceOf sl .none .none vs) (ps : IsPart vs (some (-1)))
    (h : Q (.ref s.heap.objs.size) { s with heap := s.heap.push { cls := .type "tuple", data := .seq items.toList.reverse.toArray } })
    (hsz : items.size ≤ sizeLine) : wpAny (model prog w) A (getItem (.ref t) (.ref sl)) Q E s := by
  have htake : sizeOk (.seq items.toList.reverse.toArray) := by
    show items.toList.reverse.toArray.size ≤ sizeLine
    rw [List.size_toArray, List.length_reverse, Array.length_toList]
    exact hsz
  obtain ⟨os, hos, hcs, hds⟩ := id hs
  have hTs : s.TypeIs (.ref sl) "slice" := ⟨os, hos, hcs⟩
  unfold getItem
  try with_reducible refine wpAny_holding ?_
  first | refine wpAny_bind (wpAny_pure ?_) | skip
  refine wpAny_bind (wpAny_sequenceKey ht.typeIs (by decide) ?_)
  refine wpAny_bind (wpAny_callSpecial?_slot (name := Str.ofString "__getitem__") ht.typeIs PyProof.Rows.slot_tuple_getitem
    (wpAny_call_entry PyProof.Rows.slot_tuple_getitem ht.typeIs entry_tuple_getitem ?_ (args_tuple_getitem _ _)))
  show wpAny _ _ (Builtin.Tuple.tupleItemsOf (.ref t) >>= _) _ _ s
  refine wpAny_bind (tupleItemsOf_ ht ?_)
  refine wpAny_bind (wpAny_typeOf hTs ?_)
  rw [if_pos (by decide)]
  refine wpAny_bind (sliceApplied_rev hs ps ?_)
  have hno : ¬ ((((items.size : Int) - 1) == 0 && (-1 : Int) == 1 && items.size == items.size) = true) := by
    intro q
    rw [Bool.and_eq_true, Bool.and_eq_true] at q
    exact absurd (eq_of_beq q.1.2) (by decide)
  show wpAny _ _ (if (((items.size : Int) - 1) == 0 && (-1 : Int) == 1 && items.size == items.size) = true then _ else _) _ _ s
  rw [if_neg hno, rv_pick]
  first
    | exact wpAny_bind (m := Builtin.Tuple.tupleExact _) (wpAny_newObj_type (wpAny_pure ⟨_, rfl, wpAny_pure h⟩) htake)
    | exact wpAny_bind (m := Builtin.Tuple.tupleExact _) (wpAny_newObj_type (wpAny_bind (wpAny_pure (wpAny_pure ⟨_, rfl, wpAny_pure h⟩))) htake)
    | exact wpAny_bind (wpAny_bind (m := Builtin.Tuple.tupleExact _) (wpAny_newObj_type (wpAny_pure (wpAny_pure ⟨_, rfl, wpAny_pure h⟩)) htake))
    | exact wpAny_bind (wpAny_bind (m := Builtin.Tuple.tupleExact _) (wpAny_newObj_type (wpAny_pure ⟨_, rfl, wpAny_pure h⟩) htake))
end
section
variable {X : Cx} {pos : Pos}
def tRevT (K : PySem.W.Frag) (te : TE) : TE := fun σ H Q => te σ H fun x H1 => ∃ a xs, x = .ref a ∧ SqT K H1 a xs ∧ ∀ p, H1 p = none → Q (.ref p) (upd H1 p (.tup xs.reverse))
theorem pe_revT {e : Expr} {te : TE} {k : Nat} {p1 p2 p3 pos : Pos} (he : PE X e te) : PE X (.Subscript e (.Slice none none (some (.UnaryOp .USub (.Constant (.int 1) k p1) p2)) p3) pos) (tRevT X.K te) := by
  refine ⟨fun pins s σ H Q I h => ?_⟩
  refine Subscript_ (thn (he.run pins s σ H _ I h) fun v s1 ⟨x, H1, I1, r1, q1⟩ => ?_)
  obtain ⟨a, xs, ex, hx, q⟩ := q1
  subst ex
  cases r1
  have hst : PO X (some (.UnaryOp .USub (.Constant (.int 1) k p1) p2)) (tPart (tUn (rU fun i => .int (-i)) (tC (.int 1)))) := po_some (pe_un un_neg pe_int)
  refine wpAny_Slice (thn (po_none.run pins s1 σ H1 (fun o H2 => o = none ∧ H2 = H1) I1 ⟨rfl, rfl⟩) fun vl s2 ⟨l, H2, I2, pl, el, e2⟩ => ?_)
  subst el e2
  refine thn (po_none.run pins s2 σ H2 (fun o H3 => o = none ∧ H3 = H2) I2 ⟨rfl, rfl⟩) fun vu s3 ⟨u, H3, I3, pu, eu, e3⟩ => ?_
  subst eu e3
  refine thn (hst.run pins s3 σ H3 (fun o H4 => o = some (-1) ∧ H4 = H3) I3 ⟨1, rfl, -1, rfl, rfl, rfl⟩) fun vs s4 ⟨o, H4, I4, ps, eo, e4⟩ => ?_
  subst eo e4
  cases pl
  cases pu
  have I5 : Inv X pins σ H4 { s4 with heap := s4.heap.push { cls := .type "slice", data := .fields #[.none, .none, vs] } } := I4.kept (t' := s4.toks) fun b ob q => Heap.get?_push_of_some _ q
  obtain ⟨its, r, ht, hz⟩ := I5.tuple hx
  have hlen := r.length
  show wpAny (model X.prog X.w) X.A (subscriptTail e (.Slice none none (some (.UnaryOp .USub (.Constant (.int 1) k p1) p2)) p3) (.ref a) (.ref s4.heap.objs.size)) (EP X pins σ Q) X.xe { s4 with heap := s4.heap.push { cls := .type "slice", data := .fields #[.none, .none, vs] } }
  refine tail_any (ops := [.ref a, .ref s4.heap.objs.size]) ht.typeIs PyProof.Rows.slot_tuple_getitem.lookup ?_ (by with_unfolding_all rfl)
  refine getItem_tuple_rev ht (Heap.IsSliceOf.new _ .none .none vs) ps ?_ (by rw [List.size_toArray]; omega)
  refine ⟨.ref _, _, I5.laid (t' := s4.toks) (o := .tup xs.reverse) (fun b ob q => Heap.get?_push_of_some _ q) (Nat.le_refl _) ?_, rfl, q _ (I5.hok.fresh (Nat.le_refl _))⟩
  exact ⟨by rw [List.length_reverse]; exact hz, _, r.reverse, IsTup.new _ _⟩
/-- a[::-1], a a list or a tuple -/
def tRevA (K : PySem.W.Frag) (te : TE) : TE := fun σ H Q => te σ H fun x H1 => (∃ a xs, x = .ref a ∧ SqL K H1 a xs ∧ ∀ p, H1 p = none → Q (.ref p) (upd H1 p (.lst xs.reverse))) ∨ ∃ a xs, x = .ref a ∧ SqT K H1 a xs ∧ ∀ p, H1 p = none → Q (.ref p) (upd H1 p (.tup xs.reverse))
theorem pe_revA {e : Expr} {te : TE} {k : Nat} {p1 p2 p3 pos : Pos} (he : PE X e te) : PE X (.Subscript e (.Slice none none (some (.UnaryOp .USub (.Constant (.int 1) k p1) p2)) p3) pos) (tRevA X.K te) := by
  refine ⟨fun pins s σ H Q I h => ?_⟩
  refine Subscript_ (thn (he.run pins s σ H _ I h) fun v s1 ⟨x, H1, I1, r1, q1⟩ => ?_)
  obtain ⟨a, ex⟩ : ∃ a, x = V.ref a := by rcases q1 with ⟨a, xs, ex, _⟩ | ⟨a, xs, ex, _⟩ <;> exact ⟨a, ex⟩
  subst ex
  cases r1
  have hst : PO X (some (.UnaryOp .USub (.Constant (.int 1) k p1) p2)) (tPart (tUn (rU fun i => .int (-i)) (tC (.int 1)))) := po_some (pe_un un_neg pe_int)
  refine wpAny_Slice (thn (po_none.run pins s1 σ H1 (fun o H2 => o = none ∧ H2 = H1) I1 ⟨rfl, rfl⟩) fun vl s2 ⟨l, H2, I2, pl, el, e2⟩ => ?_)
  subst el e2
  refine thn (po_none.run pins s2 σ H2 (fun o H3 => o = none ∧ H3 = H2) I2 ⟨rfl, rfl⟩) fun vu s3 ⟨u, H3, I3, pu, eu, e3⟩ => ?_
  subst eu e3
  refine thn (hst.run pins s3 σ H3 (fun o H4 => o = some (-1) ∧ H4 = H3) I3 ⟨1, rfl, -1, rfl, rfl, rfl⟩) fun vs s4 ⟨o, H4, I4, ps, eo, e4⟩ => ?_
  subst eo e4
  cases pl
  cases pu
  have I5 : Inv X pins σ H4 { s4 with heap := s4.heap.push { cls := .type "slice", data := .fields #[.none, .none, vs] } } := I4.kept (t' := s4.toks) fun b ob q => Heap.get?_push_of_some _ q
  show wpAny (model X.prog X.w) X.A (subscriptTail e (.Slice none none (some (.UnaryOp .USub (.Constant (.int 1) k p1) p2)) p3) (.ref a) (.ref s4.heap.objs.size)) (EP X pins σ Q) X.xe { s4 with heap := s4.heap.push { cls := .type "slice", data := .fields #[.none, .none, vs] } }
  rcases q1 with ⟨a', xs, ea, hx, q⟩ | ⟨a', xs, ea, hx, q⟩
  · cases ea
    obtain ⟨its, r, ht, hz⟩ := I5.list hx
    have hlen := r.length
    refine tail_any (ops := [.ref a, .ref s4.heap.objs.size]) ht.isList.typeIs (PySem.slot_list_getitem.lookup) ?_ (by with_unfolding_all rfl)
    refine wpAny_getItem_list_slice ht.isList (Heap.IsSliceOf.new _ .none .none vs) .none .none ps (by decide) ?_ (by rw [List.size_toArray]; omega)
    rw [PySem.W.krv_pick]
    refine ⟨.ref _, _, I5.laid (t' := s4.toks) (o := .lst xs.reverse) (fun b ob q => Heap.get?_push_of_some _ q) (Nat.le_refl _) ?_, rfl, q _ (I5.hok.fresh (Nat.le_refl _))⟩
    exact ⟨by rw [List.length_reverse]; exact hz, _, 0, r.reverse, Heap.get?_push_size _ rfl⟩
  · cases ea
    obtain ⟨its, r, ht, hz⟩ := I5.tuple hx
    have hlen := r.length
    refine tail_any (ops := [.ref a, .ref s4.heap.objs.size]) ht.typeIs PyProof.Rows.slot_tuple_getitem.lookup ?_ (by with_unfolding_all rfl)
    refine getItem_tuple_rev ht (Heap.IsSliceOf.new _ .none .none vs) ps ?_ (by rw [List.size_toArray]; omega)
    refine ⟨.ref _, _, I5.laid (t' := s4.toks) (o := .tup xs.reverse) (fun b ob q => Heap.get?_push_of_some _ q) (Nat.le_refl _) ?_, rfl, q _ (I5.hok.fresh (Nat.le_refl _))⟩
    exact ⟨by rw [List.length_reverse]; exact hz, _, r.reverse, IsTup.new _ _⟩
end
section
variable {L : Lk} {Pg : Pg} {C : Orc} {W : WX} {X : Cx} {pos : Pos}
theorem s_rev {a : E} {ax : Expr} {k : Nat} {p1 p2 p3 : Pos} (ha : PE X ax (tB X.K L Pg C W a)) : PE X (.Subscript ax (.Slice none none (some (.UnaryOp .USub (.Constant (.int 1) k p1) p2)) p3) pos) (tE X.K L Pg C W (.rev a)) :=
  (pe_revA ha).imp fun σ H Q q => by
    obtain ⟨G, F, ι, env, μ, sr, h⟩ := q
    unfold evE at h
    refine tB_go sr h fun d μ1 F1 ι1 H1 x t1 sr1 r1 h1 => ?_
    obtain ⟨dz, e, hk⟩ := WpR.ofO.mp h1
    obtain ⟨d', e1, e2⟩ := Option.bind_eq_some_iff.mp e
    have rx := (r1.b sr1).deref sr1 e1
    have hk := okP.le t1 hk
    cases d' <;> simp only [revD, reduceCtorEq, Option.some.injEq] at e2 <;> subst e2
    · obtain ⟨p, vs, rfl, hq, r⟩ := rx.tup sr1
      exact .inr ⟨p, vs, rfl, hq, hk.newT sr1 r.reverse⟩
    · obtain ⟨p, vs, rfl, hq, r⟩ := rx.lst sr1
      exact .inl ⟨p, vs, rfl, SqL.of hq, hk.newL sr1 r.reverse⟩
    · obtain ⟨p, vs, rfl, hq, r⟩ := rx.frz sr1
      exact .inl ⟨p, vs, rfl, hq, hk.newL sr1 r.reverse⟩
end
end Lm
set_option Elab.async false
set_option linter.all false
set_option maxRecDepth 100000
set_option maxHeartbeats 1000000
namespace Lm
open PySem PySem.Spec PyProof.Rows L2
/-! ### states changed -/
section
variable {K : PySem.W.Frag} {L : Lk} {G F F' H H' : Hp} {ι ι' : List Addr} {env : Env} {μ μ' : Sto} {σ : L2.St} {p : Addr} {o o' : HO} {d : D} {v : V}
open Classical in
/-- what a callee is to leave as it is -/
noncomputable def ownG (G : Hp) (env : Env) (σ : L2.St) (H : Hp) : Hp := fun a => if ∃ (i : Nat) (o : O), env[i]? = some (Sl.own o) ∧ σ[i]? = some (some (V.ref a)) then H a else G a
theorem ownG_own {a : Addr} {i : Nat} {w : O} (h1 : env[i]? = some (Sl.own w)) (h2 : σ[i]? = some (some (V.ref a))) : ownG G env σ H a = H a := if_pos ⟨i, w, h1, h2⟩
theorem SR.ownG_of (sr : SR K L G F ι env μ σ H) {a : Addr} {u : HO} (h : G a = some u) : ownG G env σ H a = some u := by
  unfold ownG
  split
  · exact sr.g a u h
  · exact h
theorem SR.ownG_none (sr : SR K L G F ι env μ σ H) {a : Addr} (h : ownG G env σ H a = none) : G a = none := by
  cases e : G a with
  | none => rfl
  | some u => rw [sr.ownG_of e] at h; cases h
theorem SR.enter (sr : SR K L G F ι env μ σ H) : SR K L (ownG G env σ H) F ι [] μ [] H := by
  refine ⟨sr.f, fun a u e => ?_, fun a e => ?_, rfl, fun i d e => (by simp at e), sr.il, sr.nd, fun l a e => ?_, fun i w e => (by simp at e), fun i j w w' a _ e => (by simp at e), ?_, fun i c fs e => (by simp at e)⟩
  · unfold ownG at e
    split at e
    · exact e
    · exact sr.g a u e
  · unfold ownG at e
    split at e
    · rename_i h
      obtain ⟨i, w, h1, h2⟩ := h
      obtain ⟨a', ho, e1, e2, _⟩ := sr.own i w h1
      rw [h2] at e1; cases e1
      exact e2
    · exact sr.gf a e
  · obtain ⟨h1, h2, w, ho, h3, h4, h5⟩ := sr.sto l a e
    refine ⟨h1, ?_, w, ho, h3, h4, h5⟩
    unfold ownG
    rw [if_neg]
    · exact h2
    · rintro ⟨i, w', h6, h7⟩
      obtain ⟨a', ho', e1, _, _, e4, _⟩ := sr.own i w' h6
      rw [h7] at e1; cases e1
      exact e4 (List.mem_iff_getElem?.mpr ⟨l, e⟩)
  · obtain ⟨φ, h⟩ := sr.sm
    exact ⟨φ, sr.ownG_of h⟩
theorem SR.back (sr : SR K L G F ι env μ σ H) (t : To F ι F' ι') (s2 : SR K L (ownG G env σ H) F' ι' [] μ' [] H') : SR K L G F' ι' env μ' σ H' := by
  refine ⟨s2.f, fun a u e => s2.g a u (sr.ownG_of e), fun a e => s2.gf a fun z => e (sr.ownG_none z), sr.len, fun i d e => ?_, s2.il, s2.nd, fun l a e => ?_, fun i w e => ?_, sr.owd, sr.sm, sr.hx⟩
  · obtain ⟨v, h1, h2⟩ := sr.val i d e
    exact ⟨v, h1, h2.mono t.f t.i⟩
  · obtain ⟨h1, h2, w, ho, h3, h4, h5⟩ := s2.sto l a e
    exact ⟨h1, sr.ownG_none h2, w, ho, h3, h4, h5⟩
  · obtain ⟨a, ho, h1, h2, h3, h4, h5, h6⟩ := sr.own i w e
    have hg : ownG G env σ H a = some ho := by rw [ownG_own e h1]; exact h5
    refine ⟨a, ho, h1, s2.gf a (by rw [hg]; exact fun z => by cases z), h3, fun hm => ?_, s2.g a ho hg, h6.mono t.f t.i⟩
    obtain ⟨l, hl⟩ := List.mem_iff_getElem?.mp hm
    have := (s2.sto l a hl).2.1
    rw [hg] at this; cases this
/-- nothing of the state stands at p -/
structure Off (G F : Hp) (ι : List Addr) (env : Env) (σ : L2.St) (p : Addr) : Prop where
  f : F p = none
  g : G p = none
  i : p ∉ ι
  o : ∀ (i : Nat) (w : O), env[i]? = some (Sl.own w) → σ[i]? ≠ some (some (V.ref p))
theorem SR.off (sr : SR K L G F ι env μ σ H) (hp : H p = none) : Off G F ι env σ p where
  f := sr.fnone hp
  g := sr.gnone hp
  i := fun hm => by
    obtain ⟨l, hl⟩ := List.mem_iff_getElem?.mp hm
    obtain ⟨_, _, _, _, _, h4, _⟩ := sr.sto l p hl
    rw [hp] at h4; cases h4
  o := fun i w e e2 => by
    obtain ⟨a, ho, h1, _, _, _, h5, _⟩ := sr.own i w e
    rw [e2] at h1; cases h1
    rw [hp] at h5; cases h5
/-- an object that nothing speaks of may be written -/
theorem SR.upd_off (sr : SR K L G F ι env μ σ H) (off : Off G F ι env σ p) : SR K L G F ι env μ σ (upd H p o) := by
  have nf : ∀ {a u}, F a = some u → a ≠ p := fun e z => by rw [z, off.f] at e; cases e
  have ng : ∀ {a u}, G a = some u → a ≠ p := fun e z => by rw [z, off.g] at e; cases e
  refine ⟨fun a u e => by rw [upd_ne (nf e)]; exact sr.f a u e, fun a u e => by rw [upd_ne (ng e)]; exact sr.g a u e, sr.gf, sr.len, sr.val, sr.il, sr.nd, fun l a e => ?_, fun i w e => ?_, sr.owd, sr.sm, sr.hx⟩
  · obtain ⟨h1, h2, w, ho, h3, h4, h5⟩ := sr.sto l a e
    have : a ≠ p := fun z => off.i (by rw [← z]; exact List.mem_iff_getElem?.mpr ⟨l, e⟩)
    exact ⟨h1, h2, w, ho, h3, by rw [upd_ne this]; exact h4, h5⟩
  · obtain ⟨a, ho, h1, h2, h3, h4, h5, h6⟩ := sr.own i w e
    have : a ≠ p := fun z => off.o i w e (by rw [← z]; exact h1)
    exact ⟨a, ho, h1, h2, h3, h4, by rw [upd_ne this]; exact h5, h6⟩
/-- such an object may be spoken of from now on, and never changes -/
theorem SR.freezeAt (sr : SR K L G F ι env μ σ H) (off : Off G F ι env σ p) (hp : H p = some o) : SR K L G (upd F p o) ι env μ σ H := by
  have le := le_upd (o := o) off.f
  have pr := List.prefix_refl ι
  refine ⟨fun a u e => ?_, sr.g, fun a e => ?_, sr.len, fun i d e => ?_, sr.il, sr.nd, fun l a e => ?_, fun i w e => ?_, sr.owd, sr.sm, sr.hx⟩
  · by_cases h : a = p
    · subst h; rw [upd_same] at e; cases e; exact hp
    · rw [upd_ne h] at e; exact sr.f a u e
  · have : a ≠ p := fun z => e (by rw [z]; exact off.g)
    rw [upd_ne this]; exact sr.gf a e
  · obtain ⟨v, h1, h2⟩ := sr.val i d e
    exact ⟨v, h1, h2.mono le pr⟩
  · obtain ⟨h1, h2, w, ho, h3, h4, h5⟩ := sr.sto l a e
    have : a ≠ p := fun z => off.i (by rw [← z]; exact List.mem_iff_getElem?.mpr ⟨l, e⟩)
    exact ⟨by rw [upd_ne this]; exact h1, h2, w, ho, h3, h4, h5.mono le pr⟩
  · obtain ⟨a, ho, h1, h2, h3, h4, h5, h6⟩ := sr.own i w e
    have : a ≠ p := fun z => off.o i w e (by rw [← z]; exact h1)
    exact ⟨a, ho, h1, by rw [upd_ne this]; exact h2, h3, h4, h5, h6.mono le pr⟩
theorem Off.to (off : Off G F ι env σ p) : To F ι (upd F p o) ι := ⟨le_upd off.f, List.prefix_refl ι⟩
/-- such an object goes to the store -/
theorem SR.allocAt {w : O} (sr : SR K L G F ι env μ σ H) (off : Off G F ι env σ p) (hp : H p = some o) (r : RepO K L F ι p w o) : SR K L G F (ι ++ [p]) env (μ ++ [w]) σ H := by
  have pr : ι <+: ι ++ [p] := List.prefix_append ι [p]
  refine ⟨sr.f, sr.g, sr.gf, sr.len, fun i d e => ?_, by simp [sr.il], ?_, fun l a e => ?_, fun i w' e => ?_, sr.owd, sr.sm, sr.hx⟩
  · obtain ⟨v, h1, h2⟩ := sr.val i d e
    exact ⟨v, h1, h2.mono (Le.refl F) pr⟩
  · rw [List.nodup_append]
    refine ⟨sr.nd, by simp, fun a ha b hb => ?_⟩
    simp at hb
    subst hb
    exact fun z => off.i (by rw [← z]; exact ha)
  · by_cases hl : l < ι.length
    · rw [List.getElem?_append_left hl] at e
      obtain ⟨h1, h2, w', ho, h3, h4, h5⟩ := sr.sto l a e
      exact ⟨h1, h2, w', ho, by rw [List.getElem?_append_left (by rw [← sr.il]; exact hl)]; exact h3, h4, h5.mono (Le.refl F) pr⟩
    · have e1 : l = ι.length ∧ a = p := by
        rw [List.getElem?_append_right (by omega)] at e
        have : l - ι.length = 0 := by
          rcases Nat.eq_zero_or_pos (l - ι.length) with z | z
          · exact z
          · rw [List.getElem?_eq_none (by simp; omega)] at e; cases e
        rw [this] at e
        simp at e
        exact ⟨by omega, e.symm⟩
      obtain ⟨rfl, rfl⟩ := e1
      exact ⟨off.f, off.g, w, o, by rw [sr.il]; simp, hp, r.mono (Le.refl F) pr⟩
  · obtain ⟨a, ho, h1, h2, h3, h4, h5, h6⟩ := sr.own i w' e
    have : a ≠ p := fun z => off.o i w' e (by rw [← z]; exact h1)
    exact ⟨a, ho, h1, h2, h3, by simp [h4, this], h5, h6.mono (Le.refl F) pr⟩
/-- an object under way is guarded -/
theorem SR.guard (sr : SR K L G F ι env μ σ H) (hp : H p = none) : SR K L (upd G p o) F ι env μ σ (upd H p o) := by
  have off := sr.off hp
  have s2 := sr.upd_off (o := o) off
  refine ⟨s2.f, fun a u e => ?_, fun a e => ?_, s2.len, s2.val, s2.il, s2.nd, fun l a e => ?_, fun i w e => ?_, s2.owd, ?_, s2.hx⟩
  · by_cases h : a = p
    · subst h; rw [upd_same] at e ⊢; exact e
    · rw [upd_ne h] at e; exact s2.g a u e
  · by_cases h : a = p
    · subst h; exact off.f
    · rw [upd_ne h] at e; exact s2.gf a e
  · obtain ⟨h1, h2, w, ho, h3, h4, h5⟩ := s2.sto l a e
    have : a ≠ p := fun z => off.i (by rw [← z]; exact List.mem_iff_getElem?.mpr ⟨l, e⟩)
    exact ⟨h1, by rw [upd_ne this]; exact h2, w, ho, h3, h4, h5⟩
  · obtain ⟨a, ho, h1, h2, h3, h4, h5, h6⟩ := s2.own i w e
    have : a ≠ p := fun z => off.o i w e (by rw [← z]; exact h1)
    exact ⟨a, ho, h1, h2, by rw [upd_ne this]; exact h3, h4, h5, h6⟩
  · obtain ⟨φ, h⟩ := s2.sm
    refine ⟨φ, ?_⟩
    rw [upd_ne]
    · exact h
    · exact fun z => by rw [z, off.g] at h; cases h
def era (H : Hp) (p : Addr) : Hp := fun a => if a = p then none else H a
theorem era_same : era H p p = none := if_pos rfl
theorem era_ne {a : Addr} (h : a ≠ p) : era H p a = H a := if_neg h
theorem upd_era : upd (era H p) p o = upd H p o := by
  funext a
  by_cases h : a = p
  · subst h; rw [upd_same, upd_same]
  · rw [upd_ne h, upd_ne h, era_ne h]
/-- the guard taken away, with the object -/
theorem SR.erase (hG : G p = none) (hs : ∃ φ, G sysModules = some (.ext φ)) (sr : SR K L (upd G p o) F ι env μ σ H) : SR K L G F ι env μ σ (era H p) := by
  have gp : upd G p o p ≠ none := by rw [upd_same]; exact fun z => by cases z
  have fp : F p = none := sr.gf p gp
  have nf : ∀ {a u}, F a = some u → a ≠ p := fun e z => by rw [z, fp] at e; cases e
  have ng : ∀ {a u}, G a = some u → a ≠ p := fun e z => by rw [z, hG] at e; cases e
  refine ⟨fun a u e => by rw [era_ne (nf e)]; exact sr.f a u e, fun a u e => ?_, fun a e => ?_, sr.len, sr.val, sr.il, sr.nd, fun l a e => ?_, fun i w e => ?_, sr.owd, hs, sr.hx⟩
  · rw [era_ne (ng e)]; exact sr.g a u (by rw [upd_ne (ng e)]; exact e)
  · have : a ≠ p := fun z => e (by rw [z]; exact hG)
    exact sr.gf a (by rw [upd_ne this]; exact e)
  · obtain ⟨h1, h2, w, ho, h3, h4, h5⟩ := sr.sto l a e
    have : a ≠ p := fun z => gp (by rw [z] at h2; exact h2)
    exact ⟨h1, by rw [upd_ne this] at h2; exact h2, w, ho, h3, by rw [era_ne this]; exact h4, h5⟩
  · obtain ⟨a, ho, h1, h2, h3, h4, h5, h6⟩ := sr.own i w e
    have : a ≠ p := fun z => gp (by rw [z] at h3; exact h3)
    exact ⟨a, ho, h1, h2, by rw [upd_ne this] at h3; exact h3, h4, by rw [era_ne this]; exact h5, h6⟩
/-! ### slots set -/
theorem get_set {α : Type} {l : List α} {i j : Nat} {x : α} : (l.set i x)[j]? = if i = j then (if i < l.length then some x else none) else l[j]? := by
  by_cases h : i = j
  · subst h
    rw [if_pos rfl]
    by_cases hl : i < l.length
    · rw [if_pos hl, List.getElem?_set_self hl]
    · rw [if_neg hl, List.getElem?_eq_none (by simpa using hl)]
  · rw [if_neg h, List.getElem?_set_ne h]
/-- .. with something that owns nothing -/
theorem SR.setSl {i : Nat} {sl : Sl} {ov : Option V} (sr : SR K L G F ι env μ σ H) (h : match sl with | .val d => ∃ v, ov = some v ∧ Rep K L F ι d v | .un => True | .hx _ _ => ∃ a, ov = some (V.ref a) | .own _ => False) : SR K L G F ι (env.set i sl) μ (σ.set i ov) H := by
  refine ⟨sr.f, sr.g, sr.gf, by simp [sr.len], fun j d e => ?_, sr.il, sr.nd, sr.sto, fun j w e => ?_, fun j j' w w' a hne e e2 e3 => ?_, sr.sm, fun j c fs e => ?_⟩
  · rw [get_set] at e ⊢
    split at e
    · rename_i hij
      split at e
      · rename_i hl
        cases e
        obtain ⟨v, h1, h2⟩ := h
        rw [if_pos hij, if_pos (by rw [← sr.len]; exact hl), h1]
        exact ⟨v, rfl, h2⟩
      · cases e
    · rename_i hij
      rw [if_neg hij]
      exact sr.val j d e
  · rw [get_set] at e ⊢
    split at e
    · split at e
      · cases e; exact h.elim
      · cases e
    · rename_i hij
      rw [if_neg hij]
      exact sr.own j w e
  · rw [get_set] at e e2 e3 ⊢
    split at e
    · split at e
      · cases e; exact h.elim
      · cases e
    · split at e2
      · split at e2
        · cases e2; exact h.elim
        · cases e2
      · rename_i h1 h2
        rw [if_neg h1] at e3
        rw [if_neg h2]
        exact sr.owd j j' w w' a hne e e2 e3
  · rw [get_set] at e ⊢
    split at e
    · rename_i hij
      split at e
      · rename_i hl
        cases e
        obtain ⟨a, h1⟩ := h
        rw [if_pos hij, if_pos (by rw [← sr.len]; exact hl), h1]
        exact ⟨a, rfl⟩
      · cases e
    · rename_i hij
      rw [if_neg hij]
      exact sr.hx j c fs e
theorem SR.setVal {i : Nat} (sr : SR K L G F ι env μ σ H) (r : Rep K L F ι d v) : SR K L G F ι (env.set i (.val d)) μ (σ.set i (some v)) H := sr.setSl ⟨v, rfl, r⟩
theorem SR.setUn {i : Nat} {ov : Option V} (sr : SR K L G F ι env μ σ H) : SR K L G F ι (env.set i .un) μ (σ.set i ov) H := sr.setSl (sl := .un) trivial
/-- an own object in a slot -/
theorem SR.setOwn {i : Nat} {w : O} (sr : SR K L G F ι env μ σ H) (off : Off G F ι env σ p) (hp : H p = some o) (r : RepO K L F ι p w o) : SR K L G F ι (env.set i (.own w)) μ (σ.set i (some (V.ref p))) H := by
  refine ⟨sr.f, sr.g, sr.gf, by simp [sr.len], fun j d e => ?_, sr.il, sr.nd, sr.sto, fun j w e => ?_, fun j j' w w' a hne e e2 e3 => ?_, sr.sm, fun j c fs e => ?_⟩
  · rw [get_set] at e ⊢
    split at e
    · split at e <;> cases e
    · rename_i hij
      rw [if_neg hij]
      exact sr.val j d e
  · rw [get_set] at e ⊢
    split at e
    · rename_i hij
      split at e
      · rename_i hl
        cases e
        rw [if_pos hij, if_pos (by rw [← sr.len]; exact hl)]
        exact ⟨p, o, rfl, off.f, off.g, off.i, hp, r⟩
      · cases e
    · rename_i hij
      rw [if_neg hij]
      exact sr.own j w e
  · rw [get_set] at e e2 e3 ⊢
    split at e
    · rename_i h1
      split at e
      · rename_i hl
        rw [if_pos h1, if_pos (by rw [← sr.len]; exact hl)] at e3
        cases e3
        split at e2
        · rename_i h2; exact absurd (h1.symm.trans h2) hne
        · rename_i h2
          rw [if_neg h2]
          exact off.o j' w' e2
      · cases e
    · rename_i h1
      rw [if_neg h1] at e3
      split at e2
      · rename_i h2
        split at e2
        · rename_i hl
          rw [if_pos h2, if_pos (by rw [← sr.len]; exact hl)]
          intro z
          cases z
          exact off.o j w e e3
        · cases e2
      · rename_i h2
        rw [if_neg h2]
        exact sr.owd j j' w w' a hne e e2 e3
  · rw [get_set] at e ⊢
    split at e
    · split at e <;> cases e
    · rename_i hij
      rw [if_neg hij]
      exact sr.hx j c fs e
/-- an own object that changes -/
theorem SR.updOwn {i : Nat} {w w' : O} {a : Addr} (sr : SR K L G F ι env μ σ H) (hi : env[i]? = some (Sl.own w)) (hv : σ[i]? = some (some (V.ref a))) (r : RepO K L F ι a w' o) : SR K L G F ι (env.set i (.own w')) μ σ (upd H a o) := by
  obtain ⟨a', ho, h1, h2, h3, h4, h5, h6⟩ := sr.own i w hi
  rw [hv] at h1; cases h1
  have hlt : i < env.length := (List.getElem?_eq_some_iff.mp hi).1
  have nf : ∀ {b u}, F b = some u → b ≠ a := fun e z => by rw [z, h2] at e; cases e
  have ng : ∀ {b u}, G b = some u → b ≠ a := fun e z => by rw [z, h3] at e; cases e
  refine ⟨fun b u e => by rw [upd_ne (nf e)]; exact sr.f b u e, fun b u e => by rw [upd_ne (ng e)]; exact sr.g b u e, sr.gf, by simp [sr.len], fun j d e => ?_, sr.il, sr.nd, fun l b e => ?_, fun j v e => ?_, fun j j' v v' b hne e e2 e3 => ?_, sr.sm, fun j c fs e => ?_⟩
  · rw [get_set] at e
    split at e
    · first | (cases e; done) | (split at e <;> cases e)
    · exact sr.val j d e
  · obtain ⟨g1, g2, w2, ho2, g3, g4, g5⟩ := sr.sto l b e
    have : b ≠ a := fun z => h4 (by rw [← z]; exact List.mem_iff_getElem?.mpr ⟨l, e⟩)
    exact ⟨g1, g2, w2, ho2, g3, by rw [upd_ne this]; exact g4, g5⟩
  · rw [get_set] at e
    split at e
    · rename_i hij
      first | rw [if_pos hlt] at e | skip
      cases e
      subst hij
      exact ⟨a, o, hv, h2, h3, h4, upd_same, r⟩
    · rename_i hij
      obtain ⟨b, ho2, g1, g2, g3, g4, g5, g6⟩ := sr.own j v e
      have : b ≠ a := fun z => sr.owd i j w v a hij hi e hv (by rw [← z]; exact g1)
      exact ⟨b, ho2, g1, g2, g3, g4, by rw [upd_ne this]; exact g5, g6⟩
  · have back : ∀ (m : Nat) (v : O), (env.set i (Sl.own w'))[m]? = some (Sl.own v) → ∃ u, env[m]? = some (Sl.own u) := fun m v e => by
      rw [get_set] at e
      split at e
      · rename_i hij; subst hij; exact ⟨w, hi⟩
      · exact ⟨v, e⟩
    obtain ⟨u, e⟩ := back _ _ e
    obtain ⟨u', e2⟩ := back _ _ e2
    exact sr.owd j j' u u' b hne e e2 e3
  · rw [get_set] at e
    split at e
    · first | (cases e; done) | (split at e <;> cases e)
    · exact sr.hx j c fs e
theorem nd_inj {α : Type} : ∀ {l : List α} {i j : Nat} {a : α}, l.Nodup → l[i]? = some a → l[j]? = some a → i = j
  | [], _, _, _, _, h, _ => by simp at h
  | x :: xs, 0, 0, _, _, _, _ => rfl
  | x :: xs, 0, j + 1, a, n, h, h2 => by
    simp at h; subst h
    exact absurd (List.mem_iff_getElem?.mpr ⟨j, h2⟩) (List.nodup_cons.mp n).1
  | x :: xs, i + 1, 0, a, n, h, h2 => by
    simp at h2; subst h2
    exact absurd (List.mem_iff_getElem?.mpr ⟨i, h⟩) (List.nodup_cons.mp n).1
  | x :: xs, i + 1, j + 1, a, n, h, h2 => congrArg (· + 1) (nd_inj (List.nodup_cons.mp n).2 h h2)
/-- a store's object that changes -/
theorem SR.updLoc {l : Nat} {w' : O} {a : Addr} (sr : SR K L G F ι env μ σ H) (hl : ι[l]? = some a) (r : RepO K L F ι a w' o) : SR K L G F ι env (μ.set l w') σ (upd H a o) := by
  obtain ⟨h2, h3, w, ho, h4, h5, h6⟩ := sr.sto l a hl
  have hm : a ∈ ι := List.mem_iff_getElem?.mpr ⟨l, hl⟩
  have nf : ∀ {b u}, F b = some u → b ≠ a := fun e z => by rw [z, h2] at e; cases e
  have ng : ∀ {b u}, G b = some u → b ≠ a := fun e z => by rw [z, h3] at e; cases e
  refine ⟨fun b u e => by rw [upd_ne (nf e)]; exact sr.f b u e, fun b u e => by rw [upd_ne (ng e)]; exact sr.g b u e, sr.gf, sr.len, sr.val, by simp [sr.il], sr.nd, fun m b e => ?_, fun j v e => ?_, sr.owd, sr.sm, sr.hx⟩
  · obtain ⟨g1, g2, w2, ho2, g3, g4, g5⟩ := sr.sto m b e
    by_cases hmb : l = m
    · subst hmb
      rw [hl] at e; cases e
      refine ⟨g1, g2, w', o, ?_, upd_same, r⟩
      rw [List.getElem?_set_self (by rw [← sr.il]; exact (List.getElem?_eq_some_iff.mp hl).1)]
    · have : b ≠ a := fun z => by
        subst z
        exact hmb (nd_inj sr.nd hl e)
      exact ⟨g1, g2, w2, ho2, by rw [List.getElem?_set_ne hmb]; exact g3, by rw [upd_ne this]; exact g4, g5⟩
  · obtain ⟨b, ho2, g1, g2, g3, g4, g5, g6⟩ := sr.own j v e
    have : b ≠ a := fun z => g4 (by rw [z]; exact hm)
    exact ⟨b, ho2, g1, g2, g3, g4, by rw [upd_ne this]; exact g5, g6⟩
/-- an own object that is given away: it never changes from now on -/
theorem SR.freezeOwn {i : Nat} {w : O} (sr : SR K L G F ι env μ σ H) (hi : env[i]? = some (Sl.own w)) : ∃ F', To F ι F' ι ∧ SR K L G F' ι (env.set i (.val w.toD)) μ σ H := by
  obtain ⟨a, ho, h1, h2, h3, h4, h5, h6⟩ := sr.own i w hi
  have hlt : i < env.length := (List.getElem?_eq_some_iff.mp hi).1
  have s1 : SR K L G F ι (env.set i .un) μ σ H := by
    have : σ = σ.set i (some (V.ref a)) := by
      apply List.ext_getElem?
      intro j
      rw [get_set]
      split
      · rename_i hij; subst hij; rw [if_pos (by rw [← sr.len]; exact hlt)]; exact h1
      · rfl
    rw [this]
    exact sr.setUn
  have off : Off G F ι (env.set i .un) σ a := ⟨h2, h3, h4, fun j v e z => by
    rw [get_set] at e
    split at e
    · first | (cases e; done) | (split at e <;> cases e)
    · rename_i hij
      exact sr.owd i j w v a hij hi e h1 z⟩
  have s2 := s1.freezeAt off h5
  refine ⟨upd F a ho, off.to, ?_⟩
  have rv : Rep K L (upd F a ho) ι w.toD (V.ref a) := by
    have r := h6.mono (le_upd (o := ho) h2) (List.prefix_refl ι)
    cases r with
    | lst r => exact .lst upd_same r
    | dct r => exact .dct upd_same r
    | dcn r => exact .dcn upd_same r
    | ins c r => exact .obj c upd_same r
  have s3 := s2.setVal (i := i) rv
  have e1 : (env.set i Sl.un).set i (Sl.val w.toD) = env.set i (Sl.val w.toD) := List.set_set ..
  have e2 : σ.set i (some (V.ref a)) = σ := by
    apply List.ext_getElem?
    intro j
    rw [get_set]
    split
    · rename_i hij; subst hij; rw [if_pos (by rw [← sr.len]; exact hlt)]; exact h1.symm
    · rfl
  rw [e1, e2] at s3
  exact s3
end
end Lm
set_option Elab.async false
set_option linter.all false
set_option maxRecDepth 100000
set_option maxHeartbeats 2000000
namespace Lm
open PySem PySem.Spec PyProof.Rows L2
/-! ### exceptions held as values -/
section
variable {X : Cx} {x : Str} {C fI : Addr} {k : Nat} {fd : FuncData} {ps fields : List Str} {e : Expr} {es : List Expr} {ta : TA} {p pos : Pos}
/-- C(e, ..), its __init__ sets each field -/
theorem pe_mkX (T : OexG X.K C) (iC : PySem.W.findIn X.K (.ref C) "__init__" = some (some (.ref fI))) (tI : PySem.W.typeIn X.K (.ref fI) = some (.type "function")) (hf : ∀ f ∈ fields, PySem.W.findIn X.K (.ref C) f = some none)
    (F1 : FnG X.prog X.w X.K X.mg X.base k fI fd ps (spX X.K fields)) (hr : Room (k + 1) X.A) (hq : Quiet X.A) (hb : Binds X.K fd ps []) (hg : Gl X x) (hm : X.mg x = some (.ref C)) (ha : PA X (e :: es) ta) (hn : (e :: es).all noStar = true) (hdb : (x == ("__debug__" : Str)) = false) :
    PE X (.Call (.Name x p) (e :: es) [] pos) (fun σ H Q => ta σ H fun vs H1 => vs.length = fields.length ∧ vs.length ≤ 1000 ∧ ∀ y d, H1 y = none → H1 d = none → d ≠ y → Q (.ref y) (upd (upd H1 d (exd d (fields.zip vs).reverse)) y (exo y C (some d)))) := by
  constructor
  intro pins s σ H Q I h
  rw [List.all_cons, Bool.and_eq_true] at hn
  obtain ⟨B, newId, initId, bmB, FB, _, qI, _⟩ := T.base
  refine wpAny_Call_Name_kw (ld_glob I hg hm ?_ hdb)
  refine PySem.W.callWith_K (h₀ := X.base) I.ok.mod.kin T.kC ?_ (starEach_cons hn.1) (starEach_none _ hn.2)
  refine thn (ha.run pos pins s σ H _ I h) ?_
  rintro us s1 ⟨vs, H1, I1, r1, hlen, hz, go⟩
  refine ⟨I1.kIn, ?_⟩
  show wpAny _ _ (call (.ref C) us) _ _ _
  obtain ⟨hp, gs, dr, tk, os⟩ := s1
  obtain ⟨nm, nk, qn, bs, mro, hdct, sn, sb, ab, cl, dl, a0, a1, a2, a3, a5, hC, hT⟩ := PySem.W.excInit_of I1.kIn qI
  have grow : hp.objs.size ≤ hp.objs.size + 1 := Nat.le_succ _
  have fresh : H1 (hp.objs.size + 1) = none := I1.hok.fresh grow
  have keeps : ∀ b o, hp.get? b = some o → ((hp.push (PySem.W.kdv_tup us)).push (PySem.HandSPX.excO C hp.objs.size)).get? b = some o := fun b o z => Heap.get?_push_of_some _ (Heap.get?_push_of_some _ z)
  have there : ((hp.push (PySem.W.kdv_tup us)).push (PySem.HandSPX.excO C hp.objs.size)).get? (hp.objs.size + 1) = some (PySem.HandSPX.excO C hp.objs.size) := by heap_get
  have J : Inv X pins σ (upd H1 (hp.objs.size + 1) (exo (hp.objs.size + 1) C none)) ⟨(hp.push (PySem.W.kdv_tup us)).push (PySem.HandSPX.excO C hp.objs.size), gs, dr, tk, os⟩ :=
    Inv.laid (t' := tk) (a := hp.objs.size + 1) (o := exo (hp.objs.size + 1) C none) (h' := (hp.push (PySem.W.kdv_tup us)).push (PySem.HandSPX.excO C hp.objs.size)) I1 keeps grow (exo_ok there)
  have rel : Vals (V.ref (hp.objs.size + 1) :: vs) (Value.ref (hp.objs.size + 1) :: us) := .cons rfl r1
  have want : spX X.K fields (.ref (hp.objs.size + 1) :: vs) (upd H1 (hp.objs.size + 1) (exo (hp.objs.size + 1) C none)) (fun v H2 => v = .non ∧ ∃ d, H1 d = none ∧ d ≠ hp.objs.size + 1 ∧
      H2 = upd (upd (upd H1 (hp.objs.size + 1) (exo (hp.objs.size + 1) C none)) d (exd d (fields.zip vs).reverse)) (hp.objs.size + 1) (exo (hp.objs.size + 1) C (some d))) E0 :=
    ⟨_, C, vs, rfl, hlen, T, hf, upd_same, fun d hd hne => ⟨rfl, d, by rw [upd_ne hne] at hd; exact hd, hne, rfl⟩⟩
  have many : (Value.ref (hp.objs.size + 1) :: us).length = ps.length := rel.length.symm.trans (F1.len _ _ _ _ want)
  have bound := hb ⟨(hp.push (PySem.W.kdv_tup us)).push (PySem.HandSPX.excO C hp.objs.size), gs, dr, tk, os⟩ (Value.ref (hp.objs.size + 1) :: us) J.kIn (by simpa using many)
  rw [List.append_nil] at bound
  have small : us.length ≤ sizeLine := by
    rw [← Paired.length r1, sizeLine_eq]
    omega
  refine wpAny_call (PySem.HandSPX.call_own FB hT hC (PySem.W.looks_findIn I1.kIn iC) (fun self => PySem.W.bind_fn I1.kIn self tI) small
    (codeAny_mono (F1.run _ X.stack _ _ ⟨Value.ref (hp.objs.size + 1) :: us, []⟩ (Value.ref (hp.objs.size + 1) :: us) _ _ E0 (hr.make C us []) (quiet_make hq C us []) (J.env0.make C us []) bound rel want) fun res s' done => ?_))
  match res, done with
  | .error z, d =>
    obtain ⟨_, _, _, _, _, _, _, _, _, _, _, _, no⟩ := d
    exact no.elim
  | .ok (.ret u), d =>
    obtain ⟨v, H2, I3, rv, ev, dx, hd1, hd2, eH⟩ := J.after d
    subst ev
    have e9 : H2 = upd (upd H1 dx (exd dx (fields.zip vs).reverse)) (hp.objs.size + 1) (exo (hp.objs.size + 1) C (some dx)) := by
      rw [eH]
      funext b
      by_cases h1 : b = hp.objs.size + 1
      · subst h1; rw [upd_same, upd_same]
      · rw [upd_ne h1, upd_ne h1]
        by_cases h2 : b = dx
        · subst h2; rw [upd_same, upd_same]
        · rw [upd_ne h2, upd_ne h2, upd_ne h1]
    subst e9
    exact ⟨rv, ⟨V.ref (hp.objs.size + 1), _, I3, rfl, go _ _ fresh hd1 hd2⟩⟩
  | .ok .next, d => exact False.elim d
  | .ok .brk, d => exact False.elim d
  | .ok .cont, d => exact False.elim d
/-- C(), without an __init__ -/
theorem pe_mkX0 {bmB : List Value} {B newId initId : String} (F : ExcBaseFacts B newId initId bmB) (q : PySem.W.excIn X.K C bmB newId = true) (gC : X.mg x = some (.ref C)) (kC : PySem.W.keepIn X.K (.ref C) = true) (hg : Gl X x) (hdb : (x == ("__debug__" : Str)) = false) :
    PE X (.Call (.Name x p) [] [] pos) (fun σ H Q => ∀ a, H a = none → Q (.ref a) (upd H a (exo a C none))) := by
  refine ⟨fun pins s σ H Q I h => ?_⟩
  refine wpAny_Call_Name_kw (ld_glob I hg gC ?_ hdb)
  refine PySem.W.callWith_K0 I.kIn kC ?_
  show wpAny _ _ (call (.ref C) []) _ _ _
  obtain ⟨bm, N, nm, qn, bs, hdct, sn, sub, ab, col, dd, k0, k1, k2, k3, k5, mN, hC, hN, hni, T⟩ := exc_obj I.kIn q
  refine wpAny_call_exc_subT F T hC hN hni (fun h' a hm => ?_) (by show 0 ≤ sizeLine; rw [sizeLine_eq]; omega)
  have hn : H a = none := I.hok.gone hm.new
  obtain ⟨t, ht, _, _⟩ := hm.there
  exact ⟨.ref a, upd H a (exo a C none), I.laidN hm.keeps hm.new hn (exo_ok ht), rfl, h a hn⟩
/-- isinstance(e, c), e an exception -/
def rIsX (K : PySem.W.Frag) : List V → Hp → VK → Prop := fun xs H Q => ∃ (a D : Addr) (d : Option Addr) (c : V) (cv : Value) (b : Bool), xs = [.ref a, c] ∧ H a = some (exo a D d) ∧ ExcK K D ∧ (∀ u, RelV c u → u = cv) ∧ PySem.W.kitOne K (.ref D) cv = some b ∧ (d = none ∨ ∃ dx gs, d = some dx ∧ H dx = some (exd dx gs)) ∧ Q (.bl b) H
theorem exo_inst {pins : List (Addr × Obj)} {σ : L2.St} {H : Hp} {s : Shared} {a D : Addr} {d : Option Addr} (I : Inv X pins σ H s) (ha : H a = some (exo a D d)) (hd : d = none ∨ ∃ dx gs, d = some dx ∧ H dx = some (exd dx gs)) : ∃ oe od, PySem.W.InstAt s.heap a oe D od := by
  obtain ⟨t1, here⟩ := exo_at I.hok ha
  rcases hd with rfl | ⟨dx, gs, rfl, hx⟩
  · exact ⟨_, none, here, rfl, rfl, trivial⟩
  · obtain ⟨mA, hns, hr⟩ := exd_at I.hok hx
    obtain ⟨od, ho, hl⟩ := lookIn_ns hns
    exact ⟨_, some od, here, rfl, rfl, ho⟩
theorem call_isX : CallR X (.builtin "isinstance") (rIsX X.K) := by
  intro pins s σ H xs us Q I r h
  obtain ⟨a, D, d, c, cv, b, rfl, ha, CK, hcv, e, hd, q⟩ := h
  obtain ⟨u1, u2, rfl, rx, rt⟩ : ∃ u1 u2, us = [u1, u2] ∧ RelV (.ref a) u1 ∧ RelV c u2 := by
    cases r with
    | cons rx rr =>
      cases rr with
      | cons rt rr => cases rr; exact ⟨_, _, rfl, rx, rt⟩
  cases rx
  obtain rfl := hcv _ rt
  obtain ⟨oe, od, J⟩ := exo_inst I ha hd
  exact PySem.W.kia_one (PySem.W.kitx_exc CK.cl CK.xf.ga CK.xf.gg CK.xf.exC CK.hc CK.hn CK.ht CK.hm) I.kIn J e (fun z => nomatch z) fun tk => ⟨.bl b, H, I.kept (t' := tk) fun _ _ z => z, rfl, q⟩
/-- e.f, e an exception -/
theorem getX {pins : List (Addr × Obj)} {σ : L2.St} {H : Hp} {s : Shared} {a D dx : Addr} {gs : List (Str × V)} {f : Str} {v : V} {Q : VK} {E' : Value → Shared → Prop} {bb : Bool} (I : Inv X pins σ H s) (T : ExcK X.K D) (hno : PySem.W.findIn X.K (.ref D) f = some none) (ha : H a = some (exo a D (some dx))) (hx : H dx = some (exd dx gs)) (l : gs.lookup f = some v) (q : Q v H) :
    wpAny (model X.prog X.w) X.A (getAttr (.ref a) f bb) (EP X pins σ Q) E' s := by
  obtain ⟨t1, here⟩ := exo_at I.hok ha
  obtain ⟨mA, hns, hr⟩ := exd_at I.hok hx
  obtain ⟨od, ho, hl⟩ := lookIn_ns hns
  obtain ⟨u, hu, ru⟩ := RelO.some_of (v := v) (o := mA f) (by rw [← l]; exact hr f)
  exact PySem.HandSPX.exc_get I.kIn ⟨here, rfl, rfl, ho⟩ T.xf.ga T.xf.gg T.xf.exC (PySem.W.findObj_own T.xf.hdC hno rfl (by rw [hl, hu])) (handed_of ru) ⟨v, H, I.tok _, ru, q⟩
end
section
variable {L : Lk} {X : Cx} {G F H : Hp} {ι : List Addr} {env : Env} {μ : Sto} {σ : L2.St}
/-- what stands for an exception -/
theorem exc_rep {cn : Nat} {fs : List (Nat × D)} {v : V} (sr : SR X.K L G F ι env μ σ H) (r : Rep X.K L F ι (.exc cn fs) v) : ∃ a D d, v = .ref a ∧ L.clA[cn]? = some D ∧ H a = some (exo a D d) ∧ ((d = none ∧ fs = []) ∨ ∃ dx gs, d = some dx ∧ H dx = some (exd dx gs) ∧ RepF X.K L F ι fs gs) := by
  cases r with
  | exc h1 h2 h3 h4 => exact ⟨_, _, _, rfl, h1, sr.f _ _ h2, .inr ⟨_, _, rfl, sr.f _ _ h3, h4⟩⟩
  | ex0 h1 h2 => exact ⟨_, _, none, rfl, h1, sr.f _ _ h2, .inl ⟨rfl, rfl⟩⟩
end
end Lm
set_option Elab.async false
set_option linter.all false
set_option maxRecDepth 100000
set_option maxHeartbeats 1000000
namespace Lm
open PySem PySem.Spec PyProof.Rows L2
section
variable {L : Lk} {Pg : Pg} {C : Orc} {k : Nat} {W : WX} {sc : Scope} {fb : Str → Bool} {N : List Str} {X : Cx} {G F F' H H' : Hp} {ι ι' : List Addr} {env : Env} {μ μ' : Sto} {σ : L2.St} {pos pos2 apos : Pos}
theorem WpR.nbad {α : Type} {r : Res α} {p : α → Sto → Prop} {q : Exn → Sto → Prop} (h : WpR r p q) : r ≠ .bad := fun z => by rw [z] at h; exact h
theorem notDbg_of {x : Str} (h : notDbg x = true) : (x == ("__debug__" : Str)) = false := by
  simp only [notDbg, Bool.and_eq_true, Bool.not_eq_true'] at h
  exact h.1.1
/-- what a callee is asked for -/
theorem sp_of {f : Nat} {ds : List D} {vs : List V} {Q : VK} {F0 : Hp} {ι0 : List Addr} (c : CallsOk X.prog X.w X.K X.mg X.base L C k) (sr : SR X.K L G F ι env μ σ H) (r : Reps X.K L F ι ds vs)
    (h : WpR (C.call f ds μ) (okP X.K L G F0 ι0 env σ Q) (exW X.K L W G F0 ι0 env σ)) (t0 : To F0 ι0 F ι) : spC X.K L C f vs H Q fun c d H' => W c d σ H' :=
  ⟨ownG G env σ H, F, ι, μ, ds, sr.enter, r, c.ar f ds μ h.nbad, h.mono (fun d μ1 z F' ι' H' v t sr' r' => z F' ι' H' v (t0.trans t) (sr.back t sr') r') fun x μ1 z F' ι' H' cls dx t sr' r' => z F' ι' H' cls dx (t0.trans t) (sr.back t sr') r'⟩
theorem s_call {f : Nat} {e : E} {es : List E} {ex : Expr} {exs : List Expr} {x : Str} {p : Pos} (c : CtxE L Pg C k W sc fb N X) (h1 : L.fnN[f]? = some x) (hx : x ≠ Str.empty) (hg : gloB sc x = true) (hd : notDbg x = true)
    (ha : PA X (ex :: exs) (tAs X.K L Pg C W (e :: es))) (hn : (ex :: exs).all noStar = true) : PE X (.Call (.Name x p) (ex :: exs) [] pos) (tE X.K L Pg C W (.call f (e :: es))) := by
  obtain ⟨a, fd, hA, hD, hm⟩ := c.link.fnG f x h1 hx
  obtain ⟨hb, hk⟩ := c.link.fnB f a fd hA hD
  refine (pe_callG (c.calls.fn f a fd hA hD) (c.room.mono (by omega)) c.quiet (c.gl hg) hm hk hb c.tk ha hn (notDbg_of hd)).imp fun σ H Q q => ?_
  obtain ⟨G, F, ι, env, μ, sr, h⟩ := q
  unfold evE at h
  exact tAs_go sr h fun ds μ1 F1 ι1 H1 vs t1 sr1 r1 h1 => sp_of c.calls sr1 r1 h1 t1
theorem s_call0 {f : Nat} {x : Str} {p : Pos} (c : CtxE L Pg C k W sc fb N X) (h1 : L.fnN[f]? = some x) (hx : x ≠ Str.empty) (hg : gloB sc x = true) (hd : notDbg x = true) : PE X (.Call (.Name x p) [] [] pos) (tE X.K L Pg C W (.call f [])) := by
  obtain ⟨a, fd, hA, hD, hm⟩ := c.link.fnG f x h1 hx
  obtain ⟨hb, hk⟩ := c.link.fnB f a fd hA hD
  refine (pe_callG0 (c.calls.fn f a fd hA hD) (c.room.mono (by omega)) c.quiet (c.gl hg) hm hk hb c.tk (notDbg_of hd)).imp fun σ H Q q => ?_
  obtain ⟨G, F, ι, env, μ, sr, h⟩ := q
  unfold evE evEs at h
  exact sp_of c.calls sr .nil h (To.refl _ _)
/-! ### new objects -/
theorem s_new {cn f : Nat} {cl : Cl} {e : E} {es : List E} {ex : Expr} {exs : List Expr} {x : Str} {p : Pos} (c : CtxE L Pg C k W sc fb N X) (hc : Pg.cls[cn]? = some cl) (hi : cl.init = some f) (hk : cl.kind.isExc = false)
    (h1 : L.clN[cn]? = some x) (hg : gloB sc x = true) (hd : notDbg x = true)
    (ha : PA X (ex :: exs) (tAs X.K L Pg C W (e :: es))) (hn : (ex :: exs).all noStar = true) : PE X (.Call (.Name x p) (ex :: exs) [] pos) (tE X.K L Pg C W (.new cn (e :: es))) := by
  obtain ⟨Ca, a, fd, hC, hm, M, hA, hD⟩ := c.link.new cn f cl x hc hi h1 hk
  obtain ⟨hb, _⟩ := c.link.fnB f a fd hA hD
  refine (pe_makeG M (c.calls.ini cn f a fd hA hD) c.room c.quiet (c.gl hg) hm hb c.tk ha hn (notDbg_of hd)).imp fun σ H Q q => ?_
  obtain ⟨G, F, ι, env, μ, sr, h⟩ := q
  unfold evE at h
  refine tAs_go sr h fun ds μ1 F1 ι1 H1 vs t1 sr1 r1 h1 y dy hy hdy hne => ?_
  have e0 : ∃ g : List (Nat × D) → Sto → Res D, newObj Pg C cn ds μ1 = (C.init cn f ds μ1).bind g ∧ ((cl.kind = .frozen ∧ g = fun fs μ' => .ok (.obj cn fs) μ') ∨ (cl.kind = .mutb ∧ g = fun fs μ' => .ok (.loc μ'.length) (μ' ++ [.ins cn fs]))) := by
    unfold newObj
    rw [hc]
    dsimp only
    rw [hi]
    cases e2 : cl.kind with
    | frozen => exact ⟨_, rfl, .inl ⟨rfl, rfl⟩⟩
    | mutb => exact ⟨_, rfl, .inr ⟨rfl, rfl⟩⟩
    | exc => rw [e2] at hk; cases hk
  obtain ⟨g, e1, hg2⟩ := e0
  rw [e1] at h1
  have h2 := WpR.bind.mp h1
  have hy2 : upd H1 dy (.own y) y = none := by rw [upd_ne (Ne.symm hne)]; exact hy
  have srE := ((sr1.enter.junk (o := .own y) hdy).junk (o := .ins Ca dy []) hy2)
  have offE := (sr1.enter.junk (o := .own y) hdy).off hy2
  refine ⟨ownG G env σ H1, F1, ι1, μ1, ds, y, Ca, dy, vs, rfl, srE, r1, c.calls.ai cn f ds μ1 h2.nbad, hC, upd_same, offE.f, offE.g, offE.i, h2.mono (fun fs μ2 z F' ι' H' gs dx' t sr' hins hF hι rf => ⟨rfl, ?_⟩) fun ex μ2 z F' ι' H' cls dx t sr' r' => z F' ι' H' cls dx (t1.trans t) (sr1.back t sr') r'⟩
  have off : Off (ownG G env σ H1) F' ι' [] [] y := ⟨hF, offE.g, hι, fun i w e => by simp at e⟩
  rcases hg2 with ⟨_, rfl⟩ | ⟨_, rfl⟩
  · have s3 := sr'.freezeAt off hins
    have t3 := off.to (o := .ins Ca dx' gs)
    exact (show okP X.K L G F ι env σ Q (.obj cn fs) μ2 from z) _ _ _ _ ((t1.trans t).trans t3) (sr1.back (t.trans t3) s3) (.obj hC upd_same (rf.mono t3.f t3.i))
  · have s3 := sr'.allocAt off hins (.ins hC rf)
    have t3 : To F' ι' F' (ι' ++ [y]) := ⟨Le.refl _, List.prefix_append ι' [y]⟩
    exact (show okP X.K L G F ι env σ Q (.loc μ2.length) (μ2 ++ [.ins cn fs]) from z) _ _ _ _ ((t1.trans t).trans t3) (sr1.back (t.trans t3) s3) (.loc (by rw [← sr'.il]; simp))
/-! ### attributes -/
theorem RepF.look {K : PySem.W.Frag} (inj : ∀ (n n' : Nat) (x : Str), L.attr[n]? = some x → L.attr[n']? = some x → n = n') {n : Nat} {x : Str} (hx : L.attr[n]? = some x) : ∀ {fs : List (Nat × D)} {gs : List (Str × V)} {d : D}, RepF K L F ι fs gs → lookN fs n = some d → ∃ v, gs.lookup x = some v ∧ Rep K L F ι d v
  | [], _, _, _, e => by cases e
  | (m, d0) :: rest, _, d, r, e => by
    cases r with
    | @cons _ _ y v _ t h1 h2 h3 =>
      unfold lookN at e
      split at e
      · rename_i hmn
        cases e
        subst hmn
        rw [hx] at h1; cases h1
        exact ⟨v, by simp [List.lookup], h2⟩
      · rename_i hmn
        obtain ⟨w, e1, e2⟩ := RepF.look inj hx h3 e
        refine ⟨w, ?_, e2⟩
        have : (x == y) = false := by
          rw [beq_eq_false_iff_ne]
          intro z
          subst z
          exact hmn (inj _ _ _ h1 hx)
        simp [List.lookup, this, e1]
def noSuper : Expr → Bool | .Call _ [] _ _ => false | _ => true
theorem attrBase {o : Expr} {f : Str} {env : PySem.Env} (h : noSuper o = true) : attributeBase o f env (eval o env) = eval o env := by
  cases o <;> first | rfl | skip
  rename_i fe args ks p
  cases args with
  | nil => cases h
  | cons a as => cases fe <;> rfl
theorem s_attr {f : Nat} {fx : Str} {a : E} {ax : Expr} (c : CtxE L Pg C k W sc fb N X) (hf : L.attr[f]? = some fx) (hs : noSuper ax = true) (ha : PE X ax (tE X.K L Pg C W a)) : PE X (.Attribute ax fx pos) (tE X.K L Pg C W (.attr f a)) := by
  refine ⟨fun pins s σ H Q I h => ?_⟩
  obtain ⟨G, F, ι, env, μ, sr, h⟩ := h
  unfold evE at h
  refine attr_of (attrBase hs) (thn (ha.run pins s σ H (fun v H1 => ∃ d μ1 F1 ι1, To F ι F1 ι1 ∧ SR X.K L G F1 ι1 env μ1 σ H1 ∧ Rep X.K L F1 ι1 d v ∧ WpR (attrD Pg C f d μ1) (okP X.K L G F ι env σ Q) (exW X.K L W G F ι env σ)) I
    (tE_go sr h fun d μ1 F1 ι1 H1 v t1 sr1 r1 h1 => ⟨d, μ1, F1, ι1, t1, sr1, r1, h1⟩)) fun u s1 ⟨v, H1, I1, ru, d, μ1, F1, ι1, t1, sr1, r1, h1⟩ => ?_)
  unfold attrD at h1
  cases hcl : clsOf μ1 d with
  | none =>
    rw [hcl] at h1
    dsimp only at h1
    unfold excA at h1
    split at h1
    · rename_i cn fs
      split at h1
      · rename_i hX
        obtain ⟨dv, e1, hk⟩ := WpR.ofO.mp h1
        obtain ⟨a, D, d, rfl, hC, ha, hd⟩ := exc_rep sr1 r1
        cases ru
        rcases hd with ⟨_, rfl⟩ | ⟨dx, gs, rfl, hx, rf⟩
        · cases e1
        · obtain ⟨CK, hno, _⟩ := c.excs.held cn D hX hC
          obtain ⟨w, e2, rw'⟩ := RepF.look c.link.atInj hf rf e1
          exact getX I1 CK (hno f fx hf) ha hx e2 ((okP.le t1 hk).here sr1 rw')
      · exact h1.elim
    · exact h1.elim
  | some cn =>
    rw [hcl] at h1
    dsimp only at h1
    cases hcc : Pg.cls[cn]? with
    | none => rw [hcc] at h1; exact h1.elim
    | some cl =>
      rw [hcc] at h1
      dsimp only at h1
      split at h1
      · exact h1.elim
      rename_i hne
      have hne : cl.kind.isExc = false := by simpa using hne
      -- the instance
      have key : ∀ (Ca x dx : Addr) (fs : List (Nat × D)) (gs : List (Str × V)), v = .ref x → H1 x = some (.ins Ca dx gs) → L.clA[cn]? = some Ca → RepF X.K L F1 ι1 fs gs → fldsOf μ1 d = some fs →
          wpAny (model X.prog X.w) X.A (getAttr u fx true) (EP X pins σ Q) X.xe s1 := by
        intro Ca x dx fs gs hv hx hC rf hfl
        subst hv
        cases ru
        cases hp : lookN cl.props f with
        | some g =>
          rw [hp] at h1
          dsimp only at h1
          obtain ⟨y, pr, ag, fd, hy, po, hA, hD⟩ := c.link.prop cn cl Ca f g hcc hC hp
          rw [hf] at hy; cases hy
          obtain ⟨hb, _⟩ := c.link.fnB g ag fd hA hD
          cases hcall : C.call g [d] μ1 with
          | ok r μ2 =>
            rw [hcall] at h1
            refine propG I1 hx (c.link.cls cn cl Ca hcc hne hC) po (c.calls.fn g ag fd hA hD) c.room c.quiet hb (Q := Q) ⟨ownG G env σ H1, F1, ι1, μ1, [d], sr1.enter, .cons r1 .nil, c.calls.ar g [d] μ1 (by rw [hcall]; exact fun z => by cases z), ?_⟩
            rw [hcall]
            exact fun F' ι' H' v t sr' r' => (show okP X.K L G F ι env σ Q r μ2 from h1) F' ι' H' v (t1.trans t) (sr1.back t sr') r'
          | exn x μ2 => rw [hcall] at h1; exact h1.elim
          | bad => rw [hcall] at h1; exact h1.elim
        | none =>
          rw [hp] at h1
          dsimp only at h1
          split at h1
          · exact h1.elim
          rename_i hm
          have hm : lookN cl.meths f = none := by cases e : lookN cl.meths f with | none => rfl | some _ => rw [e] at hm; exact absurd rfl hm
          rw [hfl] at h1
          dsimp only at h1
          obtain ⟨dv, e1, hk⟩ := WpR.ofO.mp h1
          obtain ⟨w, e2, rw'⟩ := RepF.look c.link.atInj hf rf e1
          exact getattr_ok I1 hx (c.link.cls cn cl Ca hcc hne hC) (c.link.nattr cn cl Ca f fx hcc hC hp hm hf) e2 fun u' s2 I2 ru' => ⟨w, H1, I2, ru', (okP.le t1 hk).here sr1 rw'⟩
      cases d with
      | obj cn' fs =>
        cases hcl
        cases r1 with
        | obj hC hF rf => exact key _ _ _ fs _ rfl (sr1.f _ _ hF) hC rf rfl
      | loc l =>
        cases r1 with
        | loc hl =>
          obtain ⟨g1, g2, w, ho, g3, g4, g5⟩ := sr1.sto l _ hl
          cases g5 with
          | @ins c2 _ _ _ _ hC rf =>
            have e3 : clsOf μ1 (.loc l) = some c2 := by simp only [clsOf, g3]
            rw [e3] at hcl
            cases hcl
            exact key _ _ _ _ _ rfl g4 hC rf (by simp only [fldsOf, g3])
          | lst r => simp only [clsOf, g3] at hcl; cases hcl
          | dct r => simp only [clsOf, g3] at hcl; cases hcl
          | dcn r => simp only [clsOf, g3] at hcl; cases hcl
      | _ => cases hcl
/-! ### == and != by an own method -/
def rOwn (X : Cx) (k : Nat) (L : Lk) (C : Orc) (o : Bool) : R2 := fun x y H Q => ∃ (p Ca a dx : Addr) (gs : List (Str × V)) (fd : FuncData) (f : Nat) (t : Value),
  x = .ref p ∧ H p = some (.ins Ca dx gs) ∧ TyX X.K H y t ∧ PySem.W.notFirst X.K Ca t = true ∧ PySem.W.findIn X.K (.ref Ca) (ocNm o) = some (some (.ref a)) ∧ PySem.W.isFn X.K (.ref a) = true ∧
  FnG X.prog X.w X.K X.mg X.base k a fd (L.fnP.getD f []) (spC X.K L C f) ∧ Binds X.K fd (L.fnP.getD f []) [] ∧ spC X.K L C f [x, y] H (fun v H' => (∃ b, v = .bl b) ∧ Q v H') E0
theorem or_own {o : Bool} (hr : Room (k + 1) X.A) (hq : Quiet X.A) : OpR X (compareOp (ocOp o)) (rOwn X k L C o) := by
  intro pins s σ H x y v u Q I rx ry h
  obtain ⟨p, Ca, a, dx, gs, fd, f, t, rfl, hp, ty, nf, hs, hf, F, hb, sp⟩ := h
  cases rx
  obtain ⟨mA, J, _⟩ := ins_get I.hok hp
  obtain ⟨od, J, _⟩ := J.look
  obtain ⟨m, hF⟩ := I.fr
  obtain ⟨P, Z, hP, _⟩ := kit_of I ry ty
  have hu : X.A.units < cLine := by have := hr.un; omega
  have key : ∀ op : CmpOp, (cmpInfo op).2.1 = ocNm o → wpAny (model X.prog X.w) X.A (richCompare op (.ref p) u) (EP X pins σ Q) X.xe s := fun op ho => by
    refine PySem.W.cmp_K (tb := t) hu hF I.ok.mod.kin J (Z.ty _ _ I.kIn hP) nf (by rw [ho]; exact hs) hf ?_
    refine wpAny_mono (runG0 (us := [.ref p, u]) (vs := [.ref p, y]) (E' := X.xe) F (hr.mono (Nat.le_succ k)) hq hb I (.cons rfl (.cons ry .nil)) sp) (fun z s' q => ?_) fun _ _ e => e
    obtain ⟨w, H', I', rw', ⟨b, rfl⟩, q⟩ := q
    cases rw'
    exact ⟨V.bl b, H', I', rfl, q⟩
  cases o
  · exact key .Eq rfl
  · exact key .NotEq rfl
/-- an instance, as it stands in the heap -/
theorem ins_rep {cn : Nat} {d : D} {v : V} (e : clsOf μ d = some cn) (sr : SR X.K L G F ι env μ σ H) (r : Rep X.K L F ι d v) : ∃ a C dx gs, v = .ref a ∧ H a = some (.ins C dx gs) ∧ L.clA[cn]? = some C := by
  cases d <;> simp only [clsOf, reduceCtorEq, Option.some.injEq] at e
  · subst e
    cases r with
    | obj hC ha _ => exact ⟨_, _, _, _, rfl, sr.f _ _ ha, hC⟩
  · cases r with
    | loc hl =>
      obtain ⟨h1, h2, o, ho, h3, h4, h5⟩ := sr.sto _ _ hl
      rw [h3] at e
      cases h5 with
      | ins hC rf =>
        simp only [Option.some.injEq] at e
        subst e
        exact ⟨_, _, _, _, rfl, h4, hC⟩
      | lst _ => simp at e
      | dct _ => simp at e
      | dcn _ => simp at e
theorem ownC_go {o : Bool} {d d2 : D} {x y : V} {T : D → Sto → Prop} {U : Exn → Sto → Prop} {Q : VK} (c : CtxE L Pg C k W sc fb N X) (sr : SR X.K L G F ι env μ σ H) (r1 : Rep X.K L F ι d x) (r2 : Rep X.K L F ι d2 y) (h : WpR (ownC Pg C o d d2 μ) T U)
    (hT : ∀ b μ', T (.bl b) μ' → ∀ F' ι' H', To F ι F' ι' → SR X.K L G F' ι' env μ' σ H' → Q (.bl b) H') : rOwn X k L C o x y H Q := by
  unfold ownC at h
  cases hcl : clsOf μ d with
  | none => rw [hcl] at h; exact h.elim
  | some cn =>
    rw [hcl] at h
    dsimp only at h
    cases hcc : Pg.cls[cn]? with
    | none => rw [hcc] at h; exact h.elim
    | some cl =>
      rw [hcc] at h
      dsimp only at h
      split at h
      · exact h.elim
      rename_i hne
      have hne : cl.kind.isExc = false := by simpa using hne
      cases hf : lookN cl.sps (if o then 2 else 1) with
      | none => rw [hf] at h; exact h.elim
      | some f =>
        rw [hf] at h
        dsimp only at h
        split at h
        · rename_i hk
          obtain ⟨p, Ca, dx, gs, hx, hp, hC⟩ := ins_rep hcl sr r1
          obtain ⟨a, fd, hs, hfn, hA, hD, nb, nc⟩ := c.link.sp cn cl Ca o f hcc hne hC hf
          obtain ⟨hb, _⟩ := c.link.fnB f a fd hA hD
          obtain ⟨t, ty, nf⟩ : ∃ t, TyX X.K H y t ∧ PySem.W.notFirst X.K Ca t = true := by
            unfold knownD at hk
            rw [Bool.or_eq_true] at hk
            rcases hk with hk | hk
            · obtain ⟨tn, htn⟩ := Option.isSome_iff_exists.mp hk
              obtain ⟨tx, hty⟩ := tyX_of htn sr r2
              exact ⟨_, tx, nb _ (by simpa using hty)⟩
            · split at hk
              · rename_i c2 hc2
                obtain ⟨C2, hC2, tx, _⟩ := tyX_ins c.link hc2 hk sr r2
                exact ⟨_, tx, nc c2 C2 hk hC2⟩
              · cases hk
          cases hcall : C.call f [d, d2] μ with
          | ok r μ2 =>
            rw [hcall] at h
            refine ⟨p, Ca, a, dx, gs, fd, f, t, hx, hp, ty, nf, hs, hfn, c.calls.fn f a fd hA hD, hb, ownG G env σ H, F, ι, μ, [d, d2], sr.enter, .cons r1 (.cons r2 .nil), c.calls.ar f [d, d2] μ (by rw [hcall]; exact fun z => by cases z), ?_⟩
            rw [hcall]
            cases r <;> first | exact h.elim | skip
            rename_i b
            exact fun F' ι' H' v t sr' r' => by
              cases r'
              exact ⟨⟨b, rfl⟩, hT b μ2 h F' ι' H' t (sr.back t sr')⟩
          | exn x μ2 => rw [hcall] at h; exact h.elim
          | bad => rw [hcall] at h; exact h.elim
        · exact h.elim
theorem s_ocmp {o : Bool} {a b : E} {ax bx : Expr} (c : CtxE L Pg C k W sc fb N X) (hs : notSet bx = true) (ha : PE X ax (tE X.K L Pg C W a)) (hb : PE X bx (tE X.K L Pg C W b)) : PE X (.Compare ax [ocOp o] [bx] pos) (tE X.K L Pg C W (.ocmp o a b)) :=
  (pe_cmpR (or_own (L := L) (C := C) c.room c.quiet) ha hb (bim _ hs)).imp fun σ H Q q => by
    obtain ⟨G, F, ι, env, μ, sr, h⟩ := q
    unfold evE at h
    exact tE_go sr h fun d μ1 F1 ι1 H1 x t1 sr1 r1 h1 => tE_go sr1 (h1.exle t1) fun d2 μ2 F2 ι2 H2 y t2 sr2 r2 h2 =>
      ownC_go c sr2 (r1.mono t2.f t2.i) r2 h2 fun b μ' hk F' ι' H' t sr' => okP.here (okP.le ((t1.trans t2).trans t) hk) sr' (.bl _)
theorem s_ocmpT {o : Bool} {a b : E} {ax bx : Expr} (c : CtxE L Pg C k W sc fb N X) (hs : notSet bx = true) (ha : PE X ax (tE X.K L Pg C W a)) (hb : PE X bx (tE X.K L Pg C W b)) : PT X (.Compare ax [ocOp o] [bx] pos) (tT X.K L Pg C W (.ocmp o a b)) :=
  (pt_cmpR (or_own (L := L) (C := C) c.room c.quiet) ha hb (bim _ hs)).imp fun σ H Q q => by
    obtain ⟨G, F, ι, env, μ, sr, h⟩ := q
    unfold evE at h
    exact tE_go sr h fun d μ1 F1 ι1 H1 x t1 sr1 r1 h1 => tE_go sr1 (h1.exle t1) fun d2 μ2 F2 ι2 H2 y t2 sr2 r2 h2 =>
      ownC_go c sr2 (r1.mono t2.f t2.i) r2 h2 fun b μ' hk F' ι' H' t sr' => by
        obtain ⟨b', e, hk⟩ := hk
        cases e
        exact ⟨b, rfl, hk F' ι' H' ((t1.trans t2).trans t) sr'⟩
/-! ### the store -/
theorem s_alloc {a : E} {ax : Expr} (ha : PE X ax (tN X.K L Pg C W a)) : PE X ax (tE X.K L Pg C W (.alloc a)) := ha.imp fun σ H Q q => by
  obtain ⟨G, F, ι, env, μ, sr, h⟩ := q
  unfold evE at h
  refine ⟨G, F, ι, env, μ, sr, (WpR.bind.mp h).mono (fun d μ1 z F' ι' H' o ho p t sr' r e hi hp => ?_) fun _ _ z => z⟩
  have e1 : D.toO d = some o := by subst e; cases o <;> first | rfl | exact hi.elim
  rw [e1] at z
  have off := sr'.off hp
  have s3 := (sr'.upd_off (o := ho) off).allocAt off upd_same r
  have t3 : To F' ι' F' (ι' ++ [p]) := ⟨Le.refl _, List.prefix_append ι' [p]⟩
  exact (show okP X.K L G F ι env σ Q (.loc μ1.length) (μ1 ++ [o]) from z) _ _ _ _ (t.trans t3) s3 (.loc (by rw [← sr'.il]; simp))
/-! ### dicts -/
theorem repK_any {K : PySem.W.Frag} {q : Key} : ∀ {kvs : List (D × D)} {ks : List (Key × V)}, RepK K L F ι kvs ks → (kvs.any fun kv => decide (keyD kv.1 = some q)) = ks.any fun kv => decide (kv.1 = q)
  | [], _, r => by cases r; rfl
  | (k0, d0) :: rest, _, r => by
    cases r with
    | @cons _ _ q0 v0 _ t h1 h2 h3 =>
      rw [List.any_cons, List.any_cons, repK_any h3]
      simp only [h1, Option.some.injEq]
theorem repK_map {K : PySem.W.Frag} {q : Key} {d : D} {v : V} (rv : Rep K L F ι d v) : ∀ {kvs : List (D × D)} {ks : List (Key × V)}, RepK K L F ι kvs ks → RepK K L F ι (kvs.map fun kv => if keyD kv.1 = some q then (kv.1, d) else kv) (ks.map fun kv => if kv.1 = q then (kv.1, v) else kv)
  | [], _, r => by cases r; exact .nil
  | (k0, d0) :: rest, _, r => by
    cases r with
    | @cons _ _ q0 v0 _ t h1 h2 h3 =>
      have ih := repK_map (q := q) rv h3
      rw [List.map_cons, List.map_cons]
      by_cases e : q0 = q
      · rw [if_pos (show keyD (k0, d0).1 = some q by rw [← e]; exact h1), if_pos (show (q0, v0).1 = q from e)]
        exact .cons h1 rv ih
      · rw [if_neg (show ¬ keyD (k0, d0).1 = some q by rw [show keyD (k0, d0).1 = some q0 from h1]; exact fun z => e (Option.some.inj z)), if_neg (show ¬ (q0, v0).1 = q from e)]
        exact .cons h1 h2 ih
theorem repK_app {K : PySem.W.Frag} {q : Key} {kd d : D} {v : V} (hk : keyD kd = some q) (rv : Rep K L F ι d v) : ∀ {kvs : List (D × D)} {ks : List (Key × V)}, RepK K L F ι kvs ks → RepK K L F ι (kvs ++ [(kd, d)]) (ks ++ [(q, v)])
  | [], _, r => by cases r; exact .cons hk rv .nil
  | _ :: _, _, r => by
    cases r with
    | cons h1 h2 h3 => exact .cons h1 h2 (repK_app hk rv h3)
theorem RepK.put {K : PySem.W.Frag} {q : Key} {kd d : D} {v : V} (hk : keyD kd = some q) (rv : Rep K L F ι d v) {kvs : List (D × D)} {ks : List (Key × V)} (r : RepK K L F ι kvs ks) : RepK K L F ι (dput kvs q kd d) (putK ks q v) := by
  unfold dput putK
  rw [repK_any r]
  split
  · exact repK_map rv r
  · exact repK_app hk rv r
/-- the pairs of a display, from the left, put one by one -/
def dfold : List (Key × D × D) → List (D × D) → List (D × D)
  | [], acc => acc
  | (q, kd, d) :: r, acc => dfold r (dput acc q kd d)
end
end Lm
set_option Elab.async false
set_option linter.all false
set_option maxRecDepth 100000
set_option maxHeartbeats 2000000
namespace Lm
open PySem PySem.Spec PyProof.Rows L2
section
variable {K : PySem.W.Frag} {L : Lk} {F : Hp} {ι : List Addr}
theorem repF_zip : ∀ {ns : List Nat} {fields : List Str} {ds : List Lm.D} {vs : List V}, ns.mapM (fun n => L.attr[n]?) = some fields → Reps K L F ι ds vs → ns.length = ds.length → RepF K L F ι (ns.zip ds) (fields.zip vs)
  | [], fields, ds, vs, h, r, hl => by
    cases h
    exact .nil
  | n :: ns, fields, [], vs, h, r, hl => by simp at hl
  | n :: ns, fields, d :: ds, vs, h, r, hl => by
    rw [List.mapM_cons] at h
    cases e1 : L.attr[n]? with
    | none => rw [e1] at h; cases h
    | some x =>
      rw [e1] at h
      cases e2 : ns.mapM (fun n => L.attr[n]?) with
      | none => rw [e2] at h; cases h
      | some xs =>
        rw [e2] at h
        cases h
        cases r with
        | cons r1 r2 => exact .cons e1 r1 (repF_zip e2 r2 (by simpa using hl))
theorem repF_app : ∀ {fs fs' : List (Nat × Lm.D)} {gs gs' : List (Str × V)}, RepF K L F ι fs gs → RepF K L F ι fs' gs' → RepF K L F ι (fs ++ fs') (gs ++ gs')
  | _, _, _, _, .nil, h => h
  | _, _, _, _, .cons a b c, h => .cons a b (repF_app c h)
theorem repF_rev : ∀ {fs : List (Nat × Lm.D)} {gs : List (Str × V)}, RepF K L F ι fs gs → RepF K L F ι fs.reverse gs.reverse
  | _, _, .nil => .nil
  | _, _, .cons a b c => by
    rw [List.reverse_cons, List.reverse_cons]
    exact repF_app (repF_rev c) (.cons a b .nil)
theorem mapM_len {ns : List Nat} {fields : List Str} (h : ns.mapM (fun n => L.attr[n]?) = some fields) : ns.length = fields.length := by
  induction ns generalizing fields with
  | nil => cases h; rfl
  | cons n ns ih =>
    rw [List.mapM_cons] at h
    cases e1 : L.attr[n]? with
    | none => rw [e1] at h; cases h
    | some x =>
      rw [e1] at h
      cases e2 : ns.mapM (fun n => L.attr[n]?) with
      | none => rw [e2] at h; cases h
      | some xs => rw [e2] at h; cases h; simp [ih e2]
end
section
variable {L : Lk} {Pg : Pg} {C : Orc} {k : Nat} {W : WX} {sc : Scope} {fb : Str → Bool} {N : List Str} {X : Cx} {G F F' H H' : Hp} {ι ι' : List Addr} {env : Env} {μ μ' : Sto} {σ : L2.St} {pos pos2 apos : Pos}
theorem bare_exc {cn : Nat} (h : bareX Pg cn = true) : ∃ cl, Pg.cls[cn]? = some cl ∧ cl.kind = .exc := by
  unfold bareX at h
  split at h
  · rename_i cl hc
    rw [Bool.and_eq_true] at h
    refine ⟨cl, hc, ?_⟩
    cases e : cl.kind <;> rw [e] at h <;> first | rfl | (cases h.1)
  · cases h
theorem s_newX {cn : Nat} {e : E} {es : List E} {ex : Expr} {exs : List Expr} {x : Str} {p : Pos} {fields : List Str} (c : CtxE L Pg C k W sc fb N X) (hk : isX Pg cn = true) (hbr : bareX Pg cn = false) (h1 : L.clN[cn]? = some x) (hx : xNames L Pg cn = some fields) (hg : gloB sc x = true) (hd : notDbg x = true)
    (ha : PA X (ex :: exs) (tAs X.K L Pg C W (e :: es))) (hn : (ex :: exs).all noStar = true) : PE X (.Call (.Name x p) (ex :: exs) [] pos) (tE X.K L Pg C W (.new cn (e :: es))) := by
  obtain ⟨Ca, fI, fd, ps, hC, hm, T, iC, tI, hb, hf, F1⟩ := c.excs.made cn x fields h1 hx
  refine (pe_mkX T iC tI hf (F1.mono c.k1) c.room c.quiet hb (c.gl hg) hm ha hn (notDbg_of hd)).imp fun σ H Q q => ?_
  obtain ⟨G, F, ι, env, μ, sr, h⟩ := q
  unfold evE at h
  refine tAs_go sr h fun ds μ1 F1 ι1 H1 vs t1 sr1 r1 h1 => ?_
  unfold newObj at h1
  unfold isX at hk
  cases e2 : Pg.cls[cn]? with
  | none => rw [e2] at hk; cases hk
  | some cl =>
    rw [e2] at h1 hk
    dsimp only at h1 hk
    have ek : cl.kind = .exc := by cases e : cl.kind <;> rw [e] at hk <;> first | rfl | cases hk
    rw [ek] at h1
    dsimp only at h1
    rw [if_neg (by rw [hbr]; exact Bool.false_ne_true)] at h1
    cases e1 : excFs Pg cn ds with
    | none => rw [e1] at h1; exact h1.elim
    | some fs =>
      rw [e1] at h1
      dsimp only at h1
      unfold excFs at e1
      unfold xNames at hx
      rw [e2] at e1 hx
      dsimp only at e1 hx
      cases e3 : cl.xfs with
      | none => rw [e3] at e1; cases e1
      | some ns =>
        rw [e3] at e1 hx
        dsimp only at e1 hx
        split at e1
        · rename_i hl
          cases e1
          refine ⟨by rw [← r1.len, ← hl.1]; exact mapM_len hx, by rw [← r1.len]; exact hl.2, fun y d hy hd hne => ?_⟩
          have s2 := sr1.new (o := exd d (fields.zip vs).reverse) hd
          have hy2 : upd H1 d (exd d (fields.zip vs).reverse) y = none := by rw [upd_ne (Ne.symm hne)]; exact hy
          have s3 := s2.new (o := exo y Ca (some d)) hy2
          have t2 : To F1 ι1 _ ι1 := sr1.to_new (o := exd d (fields.zip vs).reverse) hd
          have t3 : To _ ι1 _ ι1 := s2.to_new (o := exo y Ca (some d)) hy2
          refine (show okP X.K L G F ι env σ Q (.exc cn (ns.zip ds).reverse) μ1 from h1) _ _ _ _ ((t1.trans t2).trans t3) s3 (.exc hC upd_same ?_ (repF_rev ((repF_zip hx r1 hl.1).mono (t2.trans t3).f (t2.trans t3).i)))
          rw [upd_ne hne]; exact upd_same
        · cases e1
theorem s_newX0 {cn : Nat} {x : Str} {p : Pos} (c : CtxE L Pg C k W sc fb N X) (hbr : bareX Pg cn = true) (h1 : L.clN[cn]? = some x) (hg : gloB sc x = true) (hd : notDbg x = true) : PE X (.Call (.Name x p) [] [] pos) (tE X.K L Pg C W (.new cn [])) := by
  obtain ⟨Ca, hC, hm, kC, B, newId, initId, bmB, FB, q⟩ := c.excs.bare cn x h1 hbr
  refine (pe_mkX0 FB q hm kC (c.gl hg) (notDbg_of hd)).imp fun σ H Q q => ?_
  obtain ⟨G, F, ι, env, μ, sr, h⟩ := q
  unfold evE evEs at h
  have h1 : WpR (newObj Pg C cn [] μ) (okP X.K L G F ι env σ Q) (exW X.K L W G F ι env σ) := h
  obtain ⟨cl, e2, ek⟩ := bare_exc hbr
  unfold newObj at h1
  rw [e2] at h1
  dsimp only at h1
  rw [ek] at h1
  dsimp only at h1
  rw [if_pos hbr, if_pos (show ([] : List D).isEmpty = true from rfl)] at h1
  intro a ha
  exact (show okP X.K L G F ι env σ Q (.exc cn []) μ from h1) _ _ _ _ (sr.to_new (o := exo a Ca none) ha) (sr.new ha) (.ex0 hC upd_same)
/-! isinstance -/
def excNmB (n : String) (y : Str) : Bool := (decide (n = "ValueError") && decide (y = ("ValueError" : Str))) || (decide (n = "LookupError") && decide (y = ("LookupError" : Str))) || (decide (n = "KeyError") && decide (y = ("KeyError" : Str))) || (decide (n = "IndexError") && decide (y = ("IndexError" : Str)))
theorem s_isiG {t : Ty} {cw : V} {cv : Value} {bb : Nat → Bool} {a : E} {y : Str} {ax : Expr} {p p2 : Pos} (c : CtxE L Pg C k W sc fb N X) (hg : gloB sc "isinstance" = true) (hn : noStar ax = true) (ha : PE X ax (tE X.K L Pg C W a)) (hy : PE X (.Name y p2) (tC cw)) (hcw : ∀ u, RelV cw u → u = cv)
    (hT : ∀ d μ b, isT Pg μ d t = some b → ∃ cn fs, d = .exc cn fs ∧ isX Pg cn = true ∧ b = bb cn) (hk : ∀ c' Ca, isX Pg c' = true → L.clA[c']? = some Ca → PySem.W.kitOne X.K (.ref Ca) cv = some (bb c')) :
    PE X (.Call (.Name "isinstance" p) [ax, .Name y p2] [] pos) (tE X.K L Pg C W (.isi a [t])) := by
  have pa := paC hn ha (paC (X := X) (e := .Name y p2) rfl hy (pa_nil (X := X)))
  refine (pe_callB call_isX (c.gl hg) (c.link.blt _ (by simp [bltNames])) (by decide +kernel) pa (by decide +kernel) (by decide +kernel) (starEach_cons hn) (starEach_none _ (by simp [noStar]))).imp fun σ H Q q => ?_
  obtain ⟨G, F, ι, env, μ, sr, h⟩ := q
  unfold evE at h
  refine tE_go sr h fun d μ1 F1 ι1 H1 x t1 sr1 r1 h1 => ?_
  obtain ⟨dz, e, hk'⟩ := WpR.ofO.mp h1
  obtain ⟨b, e1, rfl⟩ := Option.map_eq_some_iff.mp e
  have e2 : isT Pg μ1 d t = some b := by
    simp only [isTs] at e1
    split at e1
    · rename_i z; cases e1; exact z
    · rename_i z; cases e1; exact z
    · cases e1
  obtain ⟨cn, fs, rfl, hX, rfl⟩ := hT _ _ _ e2
  obtain ⟨x0, D, dd, rfl, hC, hx, hd⟩ := exc_rep sr1 r1
  obtain ⟨CK, _⟩ := c.excs.held cn D hX hC
  refine ⟨x0, D, dd, cw, cv, _, rfl, hx, CK, hcw, hk cn D hX hC, ?_, okP.here (okP.le t1 hk') sr1 (.bl _)⟩
  rcases hd with ⟨h, _⟩ | ⟨dx, gs, h2, h3, _⟩
  · exact .inl h
  · exact .inr ⟨dx, gs, h2, h3⟩
theorem isX_isN {cn : Nat} (h : isX Pg cn = true) : isN Pg cn = false := by
  unfold isX at h
  unfold isN
  split at h
  · rename_i k e
    rw [h]; rfl
  · cases h
theorem s_isiX {a : E} {cn : Nat} {y : Str} {ax : Expr} {p p2 : Pos} (c : CtxE L Pg C k W sc fb N X) (hg : gloB sc "isinstance" = true) (hcn : L.clN[cn]? = some y) (hX : isX Pg cn = true) (hg2 : gloB sc y = true) (hd : notDbg y = true) (hn : noStar ax = true) (ha : PE X ax (tE X.K L Pg C W a)) :
    PE X (.Call (.Name "isinstance" p) [ax, .Name y p2] [] pos) (tE X.K L Pg C W (.isi a [.own cn])) := by
  obtain ⟨Ct, z1, z2, z3⟩ := c.excs.caught cn y hcn hX
  refine s_isiG (bb := fun c' => supOf Pg c' (.inl cn)) (cv := .ref Ct) (cw := .ref Ct) c hg hn ha (pe_glob (c.gl hg2) z2 rfl (notDbg_of hd)) (fun u r => r) (fun d μ b h => ?_) fun c' Ca g1 g2 => (z3 c' Ca g1 g2).2
  have hN := isX_isN hX
  unfold isT at h
  cases hcl : clsOf μ d with
  | some c1 => rw [hcl] at h; dsimp only at h; rw [hN, Bool.and_false] at h; cases h
  | none =>
    rw [hcl] at h
    dsimp only at h
    rw [if_neg (by rw [hN]; exact Bool.false_ne_true)] at h
    obtain ⟨c1, e1, e2⟩ := Option.bind_eq_some_iff.mp h
    split at e2
    · rename_i hh
      rw [Bool.and_eq_true] at hh
      cases e2
      cases d <;> simp only [exC, reduceCtorEq, Option.some.injEq] at e1
      subst e1
      exact ⟨_, _, rfl, hh.1, rfl⟩
    · cases e2
theorem s_isiE {a : E} {n : String} {y : Str} {ax : Expr} {p p2 : Pos} (c : CtxE L Pg C k W sc fb N X) (hg : gloB sc "isinstance" = true) (hn : noStar ax = true) (ha : PE X ax (tE X.K L Pg C W a)) (hy : PE X (.Name y p2) (tC (.ty n)))
    (hk : ∀ c' Ca, isX Pg c' = true → L.clA[c']? = some Ca → PySem.W.kitOne X.K (.ref Ca) (.type n) = some (supOf Pg c' (.inr n))) :
    PE X (.Call (.Name "isinstance" p) [ax, .Name y p2] [] pos) (tE X.K L Pg C W (.isi a [.exc n])) := by
  refine s_isiG (bb := fun c' => supOf Pg c' (.inr n)) (cv := .type n) (cw := .ty n) c hg hn ha hy (fun u r => r) (fun d μ b h => ?_) hk
  unfold isT at h
  cases hcl : clsOf μ d with
  | some c1 =>
    rw [hcl] at h
    dsimp only [tyNm] at h
    split at h <;> cases h
  | none =>
    rw [hcl] at h
    dsimp only at h
    obtain ⟨c1, e1, e2⟩ := Option.bind_eq_some_iff.mp h
    split at e2
    · rename_i hh
      cases e2
      cases d <;> simp only [exC, reduceCtorEq, Option.some.injEq] at e1
      subst e1
      exact ⟨_, _, rfl, hh, rfl⟩
    · cases e2
theorem s_isiB {a : E} {n : String} {y : Str} {ax : Expr} {p p2 : Pos} (c : CtxE L Pg C k W sc fb N X) (hg : gloB sc "isinstance" = true) (hb : excNmB n y = true) (hg2 : gloB sc y = true) (hn : noStar ax = true) (ha : PE X ax (tE X.K L Pg C W a)) :
    PE X (.Call (.Name "isinstance" p) [ax, .Name y p2] [] pos) (tE X.K L Pg C W (.isi a [.exc n])) := by
  simp only [excNmB, Bool.or_eq_true, Bool.and_eq_true, decide_eq_true_eq] at hb
  rcases hb with ((⟨rfl, rfl⟩ | ⟨rfl, rfl⟩) | ⟨rfl, rfl⟩) | ⟨rfl, rfl⟩
  · exact s_isiE c hg hn ha (pe_bltn (c.gl hg2) (c.link.blt _ (by simp [bltNames])) (u := .type "ValueError") (by decide +kernel) rfl (by decide +kernel) (by decide +kernel)) fun c' Ca g1 g2 => (c.excs.held c' Ca g1 g2).2.2.1
  · exact s_isiE c hg hn ha (pe_bltn (c.gl hg2) (c.link.blt _ (by simp [bltNames])) (u := .type "LookupError") (by decide +kernel) rfl (by decide +kernel) (by decide +kernel)) fun c' Ca g1 g2 => (c.excs.held c' Ca g1 g2).2.2.2.1
  · exact s_isiE c hg hn ha (pe_bltn (c.gl hg2) (c.link.blt _ (by simp [bltNames])) (u := .type "KeyError") (by decide +kernel) rfl (by decide +kernel) (by decide +kernel)) fun c' Ca g1 g2 => (c.excs.held c' Ca g1 g2).2.2.2.2.1
  · exact s_isiE c hg hn ha (pe_bltn (c.gl hg2) (c.link.blt _ (by simp [bltNames])) (u := .type "IndexError") (by decide +kernel) rfl (by decide +kernel) (by decide +kernel)) fun c' Ca g1 g2 => (c.excs.held c' Ca g1 g2).2.2.2.2.2
end
end Lm
set_option Elab.async false
set_option linter.all false
set_option maxRecDepth 100000
set_option maxHeartbeats 2000000
namespace Lm
open PySem PySem.Spec PyProof.Rows L2
section
variable {X : Cx} {W : WX} {k : Nat} {f C : Addr} {fd : FuncData} {ps : List Str} {sp : Sp}
/-- a def run around A' -/
theorem runGA {A' : Around} {pins : List (Addr × Obj)} {σ : L2.St} {H : Hp} {s : Shared} {Q : VK} {us : List Value} {vs : List V} (F : FnG X.prog X.w X.K X.mg X.base k f fd ps sp) (hr : Room k A') (hq : Quiet A') (e0 : Env0 X.prog X.w X.K X.mg X.base A' X.stack s H) (hb : Binds X.K fd ps []) (tk : Takes X W)
    (I : Inv X pins σ H s) (r : Vals vs us) (h : sp vs H Q fun c d H' => W c d σ H') : wpAny (model X.prog X.w) A' (call (.ref f) us) (EP X pins σ Q) X.xe s := by
  have many : us.length = ps.length := r.length.symm.trans (F.len _ _ _ _ h)
  have bound := hb s us I.kIn (by simpa using many)
  rw [List.append_nil] at bound
  refine wpAny_call (codeAny_mono (F.run A' X.stack s H ⟨us, []⟩ us vs Q (fun c d H' => W c d σ H') hr hq e0 bound r h) ?_)
  intro res s' done
  match res, done with
  | .error z, d => exact passAt tk σ pins H s z s' I d
  | .ok (.ret u), d => exact I.after d
  | .ok .next, d => exact False.elim d
  | .ok .brk, d => exact False.elim d
  | .ok .cont, d => exact False.elim d
/-- .. that raises nothing -/
theorem runGA0 {A' : Around} {pins : List (Addr × Obj)} {σ : L2.St} {H : Hp} {s : Shared} {Q : VK} {us : List Value} {vs : List V} {E' : Value → Shared → Prop} (F : FnG X.prog X.w X.K X.mg X.base k f fd ps sp) (hr : Room k A') (hq : Quiet A') (e0 : Env0 X.prog X.w X.K X.mg X.base A' X.stack s H) (hb : Binds X.K fd ps [])
    (I : Inv X pins σ H s) (r : Vals vs us) (h : sp vs H Q E0) : wpAny (model X.prog X.w) A' (call (.ref f) us) (EP X pins σ Q) E' s := by
  have many : us.length = ps.length := r.length.symm.trans (F.len _ _ _ _ h)
  have bound := hb s us I.kIn (by simpa using many)
  rw [List.append_nil] at bound
  refine wpAny_call (codeAny_mono (F.run A' X.stack s H ⟨us, []⟩ us vs Q E0 hr hq e0 bound r h) ?_)
  intro res s' done
  match res, done with
  | .error z, d =>
    obtain ⟨_, _, _, _, _, _, _, _, _, _, _, _, no⟩ := d
    exact no.elim
  | .ok (.ret u), d => exact I.after d
  | .ok .next, d => exact False.elim d
  | .ok .brk, d => exact False.elim d
  | .ok .cont, d => exact False.elim d
theorem room2 {A : Around} (r : Room (k + 1) A) : Room k A.in1.in1 :=
  ⟨r.hd, by have := r.dp; show A.depth + 3 * k + 5 < _; omega, by have := r.un; show A.units + 1 + 1 + 16 * k + 200 < _; omega⟩
/-- len, str by an own method -/
def rSpO (X : Cx) (k : Nat) (L : Lk) (C : Orc) (nm : Str) (post : V → Prop) : List V → Hp → VK → Prop := fun xs H Q => ∃ (p Ca a dx : Addr) (gs : List (Str × V)) (fd : FuncData) (f : Nat), xs = [.ref p] ∧ H p = some (.ins Ca dx gs) ∧
  PySem.W.findIn X.K (.ref Ca) nm = some (some (.ref a)) ∧ PySem.W.isFn X.K (.ref a) = true ∧ FnG X.prog X.w X.K X.mg X.base k a fd (L.fnP.getD f []) (spC X.K L C f) ∧ Binds X.K fd (L.fnP.getD f []) [] ∧ spC X.K L C f [.ref p] H (fun v H' => post v ∧ Q v H') E0
theorem call_lenO {L : Lk} {C : Orc} (hr : Room (k + 1) X.A) (hq : Quiet X.A) : CallR X (.builtin "len") (rSpO X k L C "__len__" fun v => ∃ n : Int, v = .int n ∧ 0 ≤ n ∧ n < 2 ^ 63) := by
  intro pins s σ H xs us Q I r h
  obtain ⟨p, Ca, a, dx, gs, fd, f, rfl, hp, hs, hf, F, hb, sp⟩ := h
  obtain ⟨u, rfl, ru⟩ := vals1 r
  cases ru
  obtain ⟨mA, J, _⟩ := ins_get I.hok hp
  obtain ⟨od, J, _⟩ := J.look
  obtain ⟨m, hF⟩ := I.fr
  refine PySem.W.len_K hF I.ok.mod.kin J hs hf ?_
  refine wpAny_mono (runGA0 (us := [.ref p]) (vs := [.ref p]) (E' := X.xe) F hr.in1 (quiet_in1 hq) I.env0.in1 hb I (.cons rfl .nil) sp) (fun z s' q => ?_) fun _ _ e => e
  obtain ⟨w, H', I', rw', ⟨n, rfl, h0, h1⟩, q⟩ := q
  obtain ⟨t, rfl⟩ := rw'
  exact ⟨⟨h0, h1⟩, V.int n, H', I'.tok _, ⟨_, rfl⟩, q⟩
theorem call_strO {L : Lk} {C : Orc} (hr : Room (k + 1) X.A) (hq : Quiet X.A) : CallR X (.type "str") (rSpO X k L C "__str__" fun v => ∃ n : Str, v = .str n) := by
  intro pins s σ H xs us Q I r h
  obtain ⟨p, Ca, a, dx, gs, fd, f, rfl, hp, hs, hf, F, hb, sp⟩ := h
  obtain ⟨u, rfl, ru⟩ := vals1 r
  cases ru
  obtain ⟨mA, J, _⟩ := ins_get I.hok hp
  obtain ⟨od, J, _⟩ := J.look
  refine PySem.W.kso_call (by have := (room2 hr).units0; exact this) I.kIn J hs hf ?_
  refine wpAny_mono (runGA0 (us := [.ref p]) (vs := [.ref p]) (E' := X.xe) F (room2 hr) (quiet_in1 (quiet_in1 hq)) I.env0.in1.in1 hb I (.cons rfl .nil) sp) (fun z s' q => ?_) fun _ _ e => e
  obtain ⟨w, H', I', rw', ⟨n, rfl⟩, q⟩ := q
  obtain ⟨t, rfl⟩ := rw'
  exact ⟨V.str n, H', I', ⟨_, rfl⟩, q⟩
/-- a[b] by an own method -/
theorem pe_subO {L : Lk} {C : Orc} {a b : Expr} {ta tb : TE} {pos : Pos} (hr : Room (k + 1) X.A) (hq : Quiet X.A) (tk : Takes X W) (ha : PE X a ta) (hb : PE X b tb) (hs : notSlice b = true) :
    PE X (.Subscript a b pos) (fun σ H Q => ta σ H fun x H1 => tb σ H1 fun y H2 => ∃ (p Ca g dx : Addr) (gs : List (Str × V)) (fd : FuncData) (f : Nat), x = .ref p ∧ H2 p = some (.ins Ca dx gs) ∧
      PySem.W.findIn X.K (.ref Ca) "__getitem__" = some (some (.ref g)) ∧ PySem.W.isFn X.K (.ref g) = true ∧ PySem.W.fnIn X.K g = true ∧ FnG X.prog X.w X.K X.mg X.base k g fd (L.fnP.getD f []) (spC X.K L C f) ∧ Binds X.K fd (L.fnP.getD f []) [] ∧ spC X.K L C f [x, y] H2 Q fun c d H' => W c d σ H') := by
  refine ⟨fun pins s σ H Q I h => ?_⟩
  refine Subscript_ (binT ha hb I (R := fun x y H2 => ∃ (p Ca g dx : Addr) (gs : List (Str × V)) (fd : FuncData) (f : Nat), x = .ref p ∧ H2 p = some (.ins Ca dx gs) ∧
      PySem.W.findIn X.K (.ref Ca) "__getitem__" = some (some (.ref g)) ∧ PySem.W.isFn X.K (.ref g) = true ∧ PySem.W.fnIn X.K g = true ∧ FnG X.prog X.w X.K X.mg X.base k g fd (L.fnP.getD f []) (spC X.K L C f) ∧ Binds X.K fd (L.fnP.getD f []) [] ∧ spC X.K L C f [x, y] H2 Q fun c d H' => W c d σ H') h fun v u s2 x y H2 I2 rx ry q => ?_)
  obtain ⟨p, Ca, g, dx, gs, fd, f, rfl, hp, hs2, hf, hfn, F, hb, sp⟩ := q
  cases rx
  obtain ⟨mA, J, _⟩ := ins_get I2.hok hp
  obtain ⟨od, J, _⟩ := J.look
  obtain ⟨m, hF⟩ := I2.fr
  exact PySem.W.sub_K hF I2.ok.mod.kin J hs2 hfn hf (runGA (us := [.ref p, u]) (vs := [.ref p, y]) F hr.in1 (quiet_in1 hq) I2.env0.in1 hb tk I2 (.cons rfl (.cons ry .nil)) sp) (by cases b <;> first | rfl | cases hs)
end
section
variable {L : Lk} {Pg : Pg} {C : Orc} {k : Nat} {W : WX} {sc : Scope} {fb : Str → Bool} {N : List Str} {X : Cx} {G F F' H H' : Hp} {ι ι' : List Addr} {env : Env} {μ μ' : Sto} {σ : L2.St} {pos pos2 apos : Pos}
theorem RepF.no {K : PySem.W.Frag} (inj : ∀ (n n' : Nat) (x : Str), L.attr[n]? = some x → L.attr[n']? = some x → n = n') {n : Nat} {x : Str} (hx : L.attr[n]? = some x) : ∀ {fs : List (Nat × D)} {gs : List (Str × V)}, RepF K L F ι fs gs → lookN fs n = none → gs.lookup x = none
  | [], _, r, e => by cases r; rfl
  | (m, d0) :: rest, _, r, e => by
    cases r with
    | @cons _ _ y v _ t h1 h2 h3 =>
      unfold lookN at e
      split at e
      · cases e
      · rename_i hmn
        have : (x == y) = false := by
          rw [beq_eq_false_iff_ne]
          intro z
          subst z
          exact hmn (inj _ _ _ h1 hx)
        simp only [List.lookup, this]
        exact RepF.no inj hx h3 e
/-- an instance without a field of that name -/
theorem ins_no (inj : ∀ (n n' : Nat) (x : Str), L.attr[n]? = some x → L.attr[n']? = some x → n = n') {m : Nat} {x : Str} (hx : L.attr[m]? = some x) {cn : Nat} {d : D} {v : V} (e : clsOf μ d = some cn) (hno : noFld μ d m = true) (sr : SR X.K L G F ι env μ σ H) (r : Rep X.K L F ι d v) :
    ∃ a C dx gs, v = .ref a ∧ H a = some (.ins C dx gs) ∧ L.clA[cn]? = some C ∧ gs.lookup x = none := by
  unfold noFld at hno
  cases d with
  | obj c0 fs =>
    cases e
    simp only [fldsOf, Option.isNone_iff_eq_none] at hno
    cases r with
    | obj hC hF rf => exact ⟨_, _, _, _, rfl, sr.f _ _ hF, hC, rf.no inj hx hno⟩
  | loc l =>
    cases r with
    | loc hl =>
      obtain ⟨g1, g2, w, ho, g3, g4, g5⟩ := sr.sto l _ hl
      cases g5 with
      | @ins c2 _ _ fs _ hC rf =>
        have e3 : clsOf μ (.loc l) = some c2 := by simp only [clsOf, g3]
        rw [e3] at e
        cases e
        simp only [fldsOf, g3, Option.isNone_iff_eq_none] at hno
        exact ⟨_, _, _, _, rfl, g4, hC, rf.no inj hx hno⟩
      | lst r => simp only [clsOf, g3] at e; cases e
      | dct r => simp only [clsOf, g3] at e; cases e
      | dcn r => simp only [clsOf, g3] at e; cases e
  | _ => cases e
theorem methC_ok {m c g : Nat} (h : methC Pg m = some (c, g)) : ∃ cl, Pg.cls[c]? = some cl ∧ cl.kind.isExc = false ∧ lookN cl.meths m = some g := by
  unfold methC at h
  obtain ⟨z, hz, e⟩ := List.exists_of_findSome?_eq_some h
  rw [List.mem_zipIdx_iff_getElem?] at hz
  split at e
  · cases e
  · rename_i hk
    obtain ⟨g', e1, e2⟩ := Option.map_eq_some_iff.mp e
    cases e2
    exact ⟨_, hz, by simpa using hk, e1⟩
theorem form_few {env : PySem.Env} {pos : Pos} {es : List Expr} (hn : es.all noStar = true) (hz : es.length ≤ 20) : methodCallForm (es.length + ([] : List Keyword).length) (backTo pos (starEach es env)) (backToKw pos (keywordEach [] env)) = true := by
  have a1 : (backTo pos (starEach es env)).all (fun x => !x.1) = true := by
    rw [← List.not_any_eq_all_not, starEach_none pos hn]; rfl
  have a2 : backToKw pos (keywordEach [] env) = [] := by first | rfl | simp [keywordEach, backToKw]
  unfold methodCallForm
  rw [a1, a2]
  simp
  omega
theorem methTree {o : Expr} {m : Str} {es : List Expr} (hs : noSuper o = true) (hn : es.all noStar = true) (hz : es.length ≤ 20) (hl : (apos.endLine == pos.line) = true) : MethTree X o m es apos pos := by
  refine ⟨plainOf o X.env, ?_⟩
  have e0 : eval (.Call (.Attribute o m apos) es [] pos) X.env = (do
      let ov ← attributeBase o m X.env (eval o X.env)
      standAt apos.atName
      methodCall o m apos pos X.env ov (es.length + ([] : List Keyword).length) (backTo pos (starEach es X.env)) (backToKw pos (keywordEach [] X.env))) := by
    first | rfl | simp only [eval]
  rw [e0, attrBase hs]
  simp only [mcall_line (form_few hn hz) hl]
/-- o.m(e, ..) -/
theorem s_meth {m : Nat} {o e : E} {es : List E} {ox ex : Expr} {exs : List Expr} {x : Str} (c : CtxE L Pg C k W sc fb N X) (hx : L.attr[m]? = some x) (hlt : m < 1000000) (hmc : (methC Pg m).isSome = true) (tree : MethTree X ox x (ex :: exs) apos pos) (ho : PE X ox (tE X.K L Pg C W o))
    (ha : PA X (ex :: exs) (tAs X.K L Pg C W (e :: es))) (hn : (ex :: exs).all noStar = true) : PE X (.Call (.Attribute ox x apos) (ex :: exs) [] pos) (tE X.K L Pg C W (.meth m o (e :: es))) := by
  obtain ⟨⟨cn, g⟩, hmc⟩ := Option.isSome_iff_exists.mp hmc
  obtain ⟨cl, hcl, hk, hl⟩ := methC_ok hmc
  obtain ⟨Ca, x', a, fd, hC, hx', hM, hA, hD⟩ := c.link.meth cn cl m g hcl hk hl
  rw [hx] at hx'; cases hx'
  obtain ⟨hb, _⟩ := c.link.fnB g a fd hA hD
  refine (pe_methG ho (c.link.cls cn cl Ca hcl hk hC) hM (c.calls.fn g a fd hA hD) (c.room.mono (by omega)) c.quiet hb c.tk ha hn tree).imp fun σ H Q q => ?_
  obtain ⟨G, F, ι, env, μ, sr, h⟩ := q
  unfold evE at h
  refine tE_go sr h fun d μ1 F1 ι1 H1 v t1 sr1 r1 h1 => ?_
  rw [if_pos hlt, hmc] at h1
  dsimp only at h1
  split at h1
  · rename_i hh
    rw [Bool.and_eq_true, decide_eq_true_eq] at hh
    obtain ⟨p, C', dx, gs, rfl, hp, hC', hno⟩ := ins_no c.link.atInj hx hh.1 hh.2 sr1 r1
    rw [hC] at hC'; cases hC'
    refine ⟨p, dx, gs, rfl, hp, hno, tAs_go sr1 (h1.le t1) fun ds μ2 F2 ι2 H2 vs t2 sr2 r2 h2 => sp_of c.calls sr2 (.cons (r1.mono t2.f t2.i) r2) h2 t2⟩
  · exact h1.elim
theorem s_meth0 {m : Nat} {o : E} {ox : Expr} {x : Str} (c : CtxE L Pg C k W sc fb N X) (hx : L.attr[m]? = some x) (hlt : m < 1000000) (hmc : (methC Pg m).isSome = true) (tree : MethTree X ox x [] apos pos) (ho : PE X ox (tE X.K L Pg C W o)) :
    PE X (.Call (.Attribute ox x apos) [] [] pos) (tE X.K L Pg C W (.meth m o [])) := by
  obtain ⟨⟨cn, g⟩, hmc⟩ := Option.isSome_iff_exists.mp hmc
  obtain ⟨cl, hcl, hk, hl⟩ := methC_ok hmc
  obtain ⟨Ca, x', a, fd, hC, hx', hM, hA, hD⟩ := c.link.meth cn cl m g hcl hk hl
  rw [hx] at hx'; cases hx'
  obtain ⟨hb, _⟩ := c.link.fnB g a fd hA hD
  refine (pe_methG0 ho (c.link.cls cn cl Ca hcl hk hC) hM (c.calls.fn g a fd hA hD) (c.room.mono (by omega)) c.quiet hb c.tk tree).imp fun σ H Q q => ?_
  obtain ⟨G, F, ι, env, μ, sr, h⟩ := q
  unfold evE at h
  refine tE_go sr h fun d μ1 F1 ι1 H1 v t1 sr1 r1 h1 => ?_
  rw [if_pos hlt, hmc] at h1
  dsimp only at h1
  split at h1
  · rename_i hh
    rw [Bool.and_eq_true, decide_eq_true_eq] at hh
    obtain ⟨p, C', dx, gs, rfl, hp, hC', hno⟩ := ins_no c.link.atInj hx hh.1 hh.2 sr1 r1
    rw [hC] at hC'; cases hC'
    unfold evEs at h1
    exact ⟨p, dx, gs, rfl, hp, hno, sp_of c.calls sr1 (.cons r1 .nil) h1 t1⟩
  · exact h1.elim
/-! ### len, str, [] by own methods -/
theorem spD_go {n : Nat} {d : D} {ds : List D} {T : D → Sto → Prop} {U : Exn → Sto → Prop} {v : V} (c : CtxE L Pg C k W sc fb N X) (hn : n = 3 ∨ n = 4 ∨ n = 5) (sr : SR X.K L G F ι env μ σ H) (r1 : Rep X.K L F ι d v) (h : WpR (spD Pg C n d ds μ) T U) :
    ∃ (f : Nat) (p Ca a dx : Addr) (gs : List (Str × V)) (fd : FuncData), v = .ref p ∧ H p = some (.ins Ca dx gs) ∧ PySem.W.findIn X.K (.ref Ca) (spNm n) = some (some (.ref a)) ∧ PySem.W.isFn X.K (.ref a) = true ∧ PySem.W.fnIn X.K a = true ∧
      FnG X.prog X.w X.K X.mg X.base k a fd (L.fnP.getD f []) (spC X.K L C f) ∧ Binds X.K fd (L.fnP.getD f []) [] ∧ WpR (if n = 5 then C.call f (d :: ds) μ
        else if n = 3 then (match C.call f (d :: ds) μ with | .ok (.int n) μ' => if 0 ≤ n ∧ n < 2 ^ 63 then .ok (.int n) μ' else .bad | _ => .bad)
        else if n = 4 then (match C.call f (d :: ds) μ with | .ok (.str n) μ' => .ok (.str n) μ' | _ => .bad) else .bad) T U := by
  unfold spD at h
  cases hcl : clsOf μ d with
  | none => rw [hcl] at h; exact h.elim
  | some cn =>
    rw [hcl] at h
    dsimp only at h
    cases hcc : Pg.cls[cn]? with
    | none => rw [hcc] at h; exact h.elim
    | some cl =>
      rw [hcc] at h
      dsimp only at h
      split at h
      · exact h.elim
      rename_i hne
      have hne : cl.kind.isExc = false := by simpa using hne
      cases hf : lookN cl.sps n with
      | none => rw [hf] at h; exact h.elim
      | some f =>
        rw [hf] at h
        dsimp only at h
        obtain ⟨p, Ca, dx, gs, hx, hp, hC⟩ := ins_rep hcl sr r1
        obtain ⟨a, fd, hs, hfn, hfi, hA, hD⟩ := c.link.osp cn cl Ca n f hcc hne hC hn hf
        obtain ⟨hb, _⟩ := c.link.fnB f a fd hA hD
        exact ⟨f, p, Ca, a, dx, gs, fd, hx, hp, hs, hfn, hfi, c.calls.fn f a fd hA hD, hb, h⟩
theorem s_lenO {a : E} {ax : Expr} {p : Pos} (c : CtxE L Pg C k W sc fb N X) (hg : gloB sc "len" = true) (hn : noStar ax = true) (ha : PE X ax (tE X.K L Pg C W a)) : PE X (.Call (.Name "len" p) [ax] [] pos) (tE X.K L Pg C W (.meth 1000003 a [])) := by
  refine (pe_f1 (b := .len) rfl (call_lenO (L := L) (C := C) c.room c.quiet) (c.gl hg) (c.link.blt _ (by simp [bltNames, f1Name])) ha hn).imp fun σ H Q q => ?_
  obtain ⟨G, F, ι, env, μ, sr, h⟩ := q
  unfold evE at h
  refine tE_go sr h fun d μ1 F1 ι1 H1 v t1 sr1 r1 h1 => ?_
  rw [if_neg (by decide)] at h1
  unfold evEs at h1
  have h1 : WpR (spD Pg C 3 d [] μ1) (okP X.K L G F ι env σ Q) (exW X.K L W G F ι env σ) := h1
  obtain ⟨f, p, Ca, g, dx, gs, fd, rfl, hp, hs, hfn, hfi, FF, hb, h2⟩ := spD_go c (.inl rfl) sr1 r1 h1
  rw [if_neg (by decide), if_pos rfl] at h2
  cases hcall : C.call f [d] μ1 with
  | ok r μ2 =>
    rw [hcall] at h2
    cases r <;> first | exact h2.elim | skip
    rename_i n
    dsimp only at h2
    split at h2
    · rename_i hz
      refine ⟨p, Ca, g, dx, gs, fd, f, rfl, hp, hs, hfn, FF, hb, ownG G env σ H1, F1, ι1, μ1, [d], sr1.enter, .cons r1 .nil, c.calls.ar f [d] μ1 (by rw [hcall]; exact fun z => by cases z), ?_⟩
      rw [hcall]
      exact fun F' ι' H' v t sr' r' => by
        cases r'
        exact ⟨⟨n, rfl, hz.1, hz.2⟩, (show okP X.K L G F ι env σ Q (.int n) μ2 from h2) _ _ _ _ (t1.trans t) (sr1.back t sr') (.int _)⟩
    · exact h2.elim
  | exn x μ2 => rw [hcall] at h2; exact h2.elim
  | bad => rw [hcall] at h2; exact h2.elim
theorem s_strO {a : E} {ax : Expr} {p : Pos} (c : CtxE L Pg C k W sc fb N X) (hg : gloB sc "str" = true) (hn : noStar ax = true) (ha : PE X ax (tE X.K L Pg C W a)) : PE X (.Call (.Name "str" p) [ax] [] pos) (tE X.K L Pg C W (.meth 1000004 a [])) := by
  refine (pe_f1 (b := .str) rfl (call_strO (L := L) (C := C) c.room c.quiet) (c.gl hg) (c.link.blt _ (by simp [bltNames, f1Name])) ha hn).imp fun σ H Q q => ?_
  obtain ⟨G, F, ι, env, μ, sr, h⟩ := q
  unfold evE at h
  refine tE_go sr h fun d μ1 F1 ι1 H1 v t1 sr1 r1 h1 => ?_
  rw [if_neg (by decide)] at h1
  unfold evEs at h1
  have h1 : WpR (spD Pg C 4 d [] μ1) (okP X.K L G F ι env σ Q) (exW X.K L W G F ι env σ) := h1
  obtain ⟨f, p, Ca, g, dx, gs, fd, rfl, hp, hs, hfn, hfi, FF, hb, h2⟩ := spD_go c (.inr (.inl rfl)) sr1 r1 h1
  rw [if_neg (by decide), if_neg (by decide), if_pos rfl] at h2
  cases hcall : C.call f [d] μ1 with
  | ok r μ2 =>
    rw [hcall] at h2
    cases r <;> first | exact h2.elim | skip
    rename_i n
    dsimp only at h2
    refine ⟨p, Ca, g, dx, gs, fd, f, rfl, hp, hs, hfn, FF, hb, ownG G env σ H1, F1, ι1, μ1, [d], sr1.enter, .cons r1 .nil, c.calls.ar f [d] μ1 (by rw [hcall]; exact fun z => by cases z), ?_⟩
    rw [hcall]
    exact fun F' ι' H' v t sr' r' => by
      cases r'
      exact ⟨⟨n, rfl⟩, (show okP X.K L G F ι env σ Q (.str n) μ2 from h2) _ _ _ _ (t1.trans t) (sr1.back t sr') (.str _)⟩
  | exn x μ2 => rw [hcall] at h2; exact h2.elim
  | bad => rw [hcall] at h2; exact h2.elim
theorem s_subO {a b : E} {ax bx : Expr} (c : CtxE L Pg C k W sc fb N X) (hs : notSlice bx = true) (ha : PE X ax (tE X.K L Pg C W a)) (hb : PE X bx (tE X.K L Pg C W b)) : PE X (.Subscript ax bx pos) (tE X.K L Pg C W (.meth 1000005 a [b])) := by
  refine (pe_subO (L := L) (C := C) c.room c.quiet c.tk ha hb hs).imp fun σ H Q q => ?_
  obtain ⟨G, F, ι, env, μ, sr, h⟩ := q
  unfold evE at h
  refine tE_go sr h fun d μ1 F1 ι1 H1 v t1 sr1 r1 h1 => ?_
  rw [if_neg (by decide)] at h1
  have h1 := h1.le t1
  unfold evEs at h1
  have h1 : WpR ((evE Pg C b env μ1).bind fun y μ2 => spD Pg C 5 d [y] μ2) (okP X.K L G F1 ι1 env σ Q) (exW X.K L W G F1 ι1 env σ) := by
    cases hb : evE Pg C b env μ1 with
    | ok y μ2 => rw [hb] at h1; unfold evEs at h1; exact h1
    | exn x μ2 => rw [hb] at h1; exact h1
    | bad => rw [hb] at h1; exact h1.elim
  refine tE_go sr1 h1 fun d2 μ2 F2 ι2 H2 y t2 sr2 r2 h2 => ?_
  obtain ⟨f, p, Ca, g, dx, gs, fd, rfl, hp, hs, hfn, hfi, FF, hb, h3⟩ := spD_go c (.inr (.inr rfl)) sr2 (r1.mono t2.f t2.i) h2
  rw [if_pos rfl] at h3
  exact ⟨p, Ca, g, dx, gs, fd, f, rfl, hp, hs, hfn, hfi, FF, hb, sp_of c.calls sr2 (.cons (r1.mono t2.f t2.i) (.cons r2 .nil)) h3 t2⟩
/-! ### f-strings -/
inductive FPs (X : Cx) (L : Lk) (Pg : Lm.Pg) (C : Orc) (W : WX) : List E → List Expr → Prop where
  | nil : FPs X L Pg C W [] []
  | con {s : Str} {ex : Expr} {es : List E} {exs : List Expr} (h : PE X ex (tE X.K L Pg C W (.lit (.str s)))) (r : FPs X L Pg C W es exs) : FPs X L Pg C W (.lit (.str s) :: es) (ex :: exs)
  | fmt {e : E} {ex : Expr} {p : Pos} {es : List E} {exs : List Expr} (h : PE X ex (tE X.K L Pg C W e)) (r : FPs X L Pg C W es exs) : FPs X L Pg C W (e :: es) (.FormattedValue ex (-1) none p :: exs)
theorem fmt_rep {d : D} {v : V} {z : Str} (h : fmtD d = some z) (r : Rep X.K L F ι d v) : (∃ y : Str, v = .str y ∧ y.length ≤ sizeLine ∧ z = y) ∨ ∃ i : Int, v = .int i ∧ i.natAbs.log2 < 1920 ∧ z = toString i := by
  cases d <;> simp only [fmtD, reduceCtorEq] at h
  · cases r
    unfold digitsI at h
    split at h
    · rename_i hl
      cases h
      exact .inr ⟨_, rfl, hl, rfl⟩
    · cases h
  · cases r
    split at h
    · rename_i hl
      cases h
      exact .inl ⟨_, rfl, by rw [sizeLine_eq]; exact hl, rfl⟩
    · cases h
theorem fps_go {es : List E} {exs : List Expr} (h : FPs X L Pg C W es exs) : ∃ ts, PJ X exs ts ∧ ∀ {G F H : Hp} {ι : List Addr} {env : Env} {μ : Sto} {σ : L2.St} {acc : Str} {Q : VK}, SR X.K L G F ι env μ σ H →
    WpR (evFs Pg C es acc env μ) (okP X.K L G F ι env σ Q) (exW X.K L W G F ι env σ) → tJs ts acc σ H fun out H1 => Q (.str out) H1 := by
  induction h with
  | nil =>
    refine ⟨[], .nil, fun {G F H ι env μ σ acc Q} sr h => ?_⟩
    unfold evFs at h
    exact okP.here h sr (.str _)
  | con h1 r ih =>
    rename_i s ex es exs
    obtain ⟨ts, pj, go⟩ := ih
    refine ⟨_, .cons h1 pj, fun {G F H ι env μ σ acc Q} sr h => ?_⟩
    unfold evFs at h
    refine ⟨G, F, ι, env, μ, sr, ?_⟩
    unfold evE at h ⊢
    have h : WpR (match fmtD (.str s) with | some y => if (acc ++ y).length ≤ line then evFs Pg C es (acc ++ y) env μ else .bad | none => .bad) (okP X.K L G F ι env σ Q) (exW X.K L W G F ι env σ) := h
    intro F' ι' H' v t sr' r'
    cases r'
    split at h
    · rename_i y e
      split at h
      · rename_i hz
        replace e : (if s.length ≤ line then some s else none) = some y := e
        split at e
        · cases e
          exact ⟨_, rfl, by rw [sizeLine_eq]; exact hz, go sr' (h.le t)⟩
        · cases e
      · exact h.elim
    · exact h.elim
  | fmt h1 r ih =>
    rename_i e ex p es exs
    obtain ⟨ts, pj, go⟩ := ih
    refine ⟨_, .cons (pe_fmt h1) pj, fun {G F H ι env μ σ acc Q} sr h => ?_⟩
    unfold evFs at h
    refine tE_go sr h fun d μ1 F1 ι1 H1 v t1 sr1 r1 h2 => ?_
    split at h2
    · rename_i y e
      split at h2
      · rename_i hz
        have hz : (acc ++ y).length ≤ sizeLine := by rw [sizeLine_eq]; exact hz
        rcases fmt_rep e r1 with ⟨y', rfl, hl, rfl⟩ | ⟨i, rfl, hl, rfl⟩
        · exact .inl ⟨_, rfl, hl, _, rfl, hz, go sr1 (h2.le t1)⟩
        · exact .inr ⟨_, rfl, hl, _, rfl, hz, go sr1 (h2.le t1)⟩
      · exact h2.elim
    · exact h2.elim
theorem s_fstr {e1 e2 : E} {es : List E} {x1 x2 : Expr} {exs : List Expr} (h : FPs X L Pg C W (e1 :: e2 :: es) (x1 :: x2 :: exs)) : PE X (.JoinedStr (x1 :: x2 :: exs) pos) (tE X.K L Pg C W (.fstr (e1 :: e2 :: es))) := by
  obtain ⟨ts, pj, go⟩ := fps_go h
  refine (pe_joined pj).imp fun σ H Q q => ?_
  obtain ⟨G, F, ι, env, μ, sr, h⟩ := q
  unfold evE at h
  exact go sr h
end
end Lm
set_option Elab.async false
set_option linter.all false
set_option maxRecDepth 100000
set_option maxHeartbeats 1000000
namespace Lm
open PySem PySem.Spec PyProof.Rows L2
section
variable {L : Lk} {Pg : Pg} {C : Orc} {k : Nat} {W : WX} {sc : Scope} {fb : Str → Bool} {N : List Str} {X : Cx} {G F F' H H' : Hp} {ι ι' : List Addr} {env : Env} {μ μ' : Sto} {σ : L2.St} {pos pos2 apos : Pos}
/-- expressions one by one -/
inductive PEs (X : Cx) (L : Lk) (Pg : Lm.Pg) (C : Orc) (W : WX) : List E → List Expr → Prop
  | nil : PEs X L Pg C W [] []
  | cons {e : E} {ex : Expr} {es : List E} {exs : List Expr} : PE X ex (tE X.K L Pg C W e) → PEs X L Pg C W es exs → PEs X L Pg C W (e :: es) (ex :: exs)
theorem PEs.pa : ∀ {es : List E} {exs : List Expr}, PEs X L Pg C W es exs → exs.all noStar = true → PA X exs (tAs X.K L Pg C W es)
  | _, _, .nil, _ => s_nil
  | _, _, .cons a b, h => by
    rw [List.all_cons, Bool.and_eq_true] at h
    exact s_cons h.1 a (b.pa h.2)
theorem PEs.len : ∀ {es : List E} {exs : List Expr}, PEs X L Pg C W es exs → es.length = exs.length
  | _, _, .nil => rfl
  | _, _, .cons _ b => congrArg (· + 1) b.len
/-! ### dict displays -/
def keyOf (d : D) : Key := (keyD d).getD (.inl 0)
theorem keyD_of {d : D} (h : (keyD d).isSome = true) : keyD d = some (keyOf d) := by
  unfold keyOf
  cases e : keyD d with
  | none => rw [e] at h; cases h
  | some q => rfl
theorem fold_rep {K : PySem.W.Frag} : ∀ (ks : List D), (∀ d ∈ ks, (keyD d).isSome = true) → ∀ (ds : List D) (ws : List V), Reps K L F ι ds ws → ∀ (acc kvs : List (D × D)) (av : List (Key × V)), RepK K L F ι acc av →
    (ks.zip ds).foldlM (fun acc kv => (keyD kv.1).map fun q => dput acc q kv.1 kv.2) acc = some kvs → RepK K L F ι kvs (mergeK av ((ks.map keyOf).zip ws))
  | [], _, _, _, _, acc, kvs, av, r, e => by
    simp at e; subst e; exact r
  | d :: ks, hk, [], ws, rs, acc, kvs, av, r, e => by
    cases rs
    simp at e; subst e
    simpa [mergeK] using r
  | d :: ks, hk, x :: ds, ws, rs, acc, kvs, av, r, e => by
    cases rs with
    | @cons _ w _ ws' rx rs =>
      have h1 := keyD_of (hk d List.mem_cons_self)
      rw [List.zip_cons_cons, List.foldlM_cons, h1] at e
      have e : (ks.zip ds).foldlM (fun acc kv => (keyD kv.1).map fun q => dput acc q kv.1 kv.2) (dput acc (keyOf d) d x) = some kvs := e
      exact fold_rep ks (fun y hy => hk y (List.mem_cons_of_mem _ hy)) ds ws' rs _ _ _ (r.put h1 rx) e
theorem pairs_go {σ : L2.St} : ∀ (ks : List D), (∀ d ∈ ks, (keyD d).isSome = true) → ∀ (vs : List E), ks.length = vs.length → ∀ {G F : Hp} {ι : List Addr} {env : Env} {μ : Sto} {H : Hp} {G0 F0 : Hp} {ι0 : List Addr} {Qp : List (V × V) → Hp → Prop}, SR X.K L G F ι env μ σ H →
    WpR (evEs Pg C vs env μ) (fun ds μ' => ∀ F' ι' H' ws, To F ι F' ι' → SR X.K L G F' ι' env μ' σ H' → Reps X.K L F' ι' ds ws → Qp ((ks.map fun d => kV (keyOf d)).zip ws) H') (exW X.K L W G F ι env σ) →
    tPairs ((ks.map fun d => tE X.K L Pg C W (.lit d)).zip (vs.map fun e => tE X.K L Pg C W e)) σ H Qp
  | [], _, vs, hl, G, F, ι, env, μ, H, _, _, _, Qp, sr, h => by
    cases vs with
    | nil =>
      unfold evEs at h
      exact (show ∀ F' ι' H' ws, To F ι F' ι' → SR X.K L G F' ι' env μ σ H' → Reps X.K L F' ι' [] ws → Qp (([] : List V).zip ws) H' from h) F ι H [] (To.refl _ _) sr .nil
    | cons v vs => simp at hl
  | d :: ks, hk, vs, hl, G, F, ι, env, μ, H, _, _, _, Qp, sr, h => by
    cases vs with
    | nil => simp at hl
    | cons v vs =>
      unfold evEs at h
      have h1 := keyD_of (hk d List.mem_cons_self)
      show tE X.K L Pg C W (.lit d) σ H fun x H1 => tE X.K L Pg C W v σ H1 fun y H2 => tPairs ((ks.map fun d => tE X.K L Pg C W (.lit d)).zip (vs.map fun e => tE X.K L Pg C W e)) σ H2 fun ps H3 => Qp ((x, y) :: ps) H3
      refine ⟨G, F, ι, env, μ, sr, ?_⟩
      unfold evE
      intro F1 ι1 H1 x t1 sr1 r1
      cases keyD_rep h1 r1
      -- the store is as it was
      refine ⟨G, F1, ι1, env, μ, sr1, ?_⟩
      refine ((WpR.bind.mp h).exle t1).mono (fun y μ2 z F2 ι2 H2 w t2 sr2 r2 => ?_) fun _ _ z => z
      refine pairs_go ks (fun e he => hk e (List.mem_cons_of_mem _ he)) vs (by simpa using hl) (G0 := G) (F0 := F) (ι0 := ι) sr2 ?_
      have z2 := WpR.bind.mp z
      refine (z2.exle (t1.trans t2)).mono (fun ys μ3 z3 F3 ι3 H3 ws t3 sr3 r3 => ?_) fun _ _ z => z
      have z4 : ∀ F' ι' H' ws, To F ι F' ι' → SR X.K L G F' ι' env μ3 σ H' → Reps X.K L F' ι' (y :: ys) ws → Qp (((d :: ks).map fun d => kV (keyOf d)).zip ws) H' := z3
      exact z4 F3 ι3 H3 (w :: ws) ((t1.trans t2).trans t3) sr3 (.cons (r2.mono t3.f t3.i) r3)
/-- keys written as constants -/
inductive PKs : List D → List (Option Expr) → Prop
  | nil : PKs [] []
  | cons {d : D} {c : Const} {j : Nat} {p : Pos} {ds : List D} {xs : List (Option Expr)} : constOk d c = true → (keyD d).isSome = true → PKs ds xs → PKs (d :: ds) (some (.Constant c j p) :: xs)
theorem PKs.key : ∀ {ds : List D} {xs : List (Option Expr)}, PKs ds xs → ∀ d ∈ ds, (keyD d).isSome = true
  | _, _, .nil, d, h => by simp at h
  | _, _, .cons a b c, d, h => by
    rcases List.mem_cons.mp h with rfl | h
    · exact b
    · exact c.key d h
theorem PKs.len : ∀ {ds : List D} {xs : List (Option Expr)}, PKs ds xs → ds.length = xs.length
  | _, _, .nil => rfl
  | _, _, .cons _ _ c => congrArg (· + 1) c.len
theorem PKs.all : ∀ {ds : List D} {xs : List (Option Expr)}, PKs ds xs → xs.all (·.isSome) = true
  | _, _, .nil => rfl
  | _, _, .cons _ _ c => by simpa using c.all
theorem s_pps : ∀ {ds : List D} {xs : List (Option Expr)} {es : List E} {exs : List Expr}, PKs ds xs → PEs X L Pg C W es exs → ds.length = es.length → PPs X pos xs exs ((ds.map fun d => tE X.K L Pg C W (.lit d)).zip (es.map fun e => tE X.K L Pg C W e))
  | _, _, _, _, .nil, .nil, _ => pps_nil
  | _, _, _, _, .nil, .cons _ _, h => by simp at h
  | _, _, _, _, .cons _ _ _, .nil, h => by simp at h
  | _, _, _, _, .cons a _ c, .cons u v, h => pps_cons (s_lit a) u (s_pps c v (by simpa using h))
theorem evEs_lit : ∀ (ds : List D), evEs Pg C (ds.map E.lit) env μ = .ok ds μ
  | [] => by simp only [List.map_nil, evEs]
  | d :: ds => by simp only [List.map_cons, evEs, evE, Res.bind, evEs_lit ds]
theorem s_dicN {ds : List D} {xs : List (Option Expr)} {es : List E} {exs : List Expr} (hk : PKs ds xs) (hv : PEs X L Pg C W es exs) (hl : ds.length = es.length) (h15 : ds.length ≤ 15) : PE X (.Dict xs exs pos) (tN X.K L Pg C W (.dic (ds.map E.lit) es)) := by
  by_cases h0 : xs = []
  · subst h0
    cases hk
    cases hv with
    | cons _ _ => simp at hl
    | nil =>
      refine pe_dnewK.imp fun σ H Q q p hp => ?_
      obtain ⟨G, F, ι, env, μ, sr, h⟩ := q
      unfold evE at h
      simp only [List.map_nil, evEs, Res.bind, List.zip_nil_left, List.foldlM_nil, ofO, pure] at h
      exact (show okN X.K L G F ι env σ Q (.dct []) μ from h) F ι H (.dct []) (.dK []) p (To.refl _ _) sr (.dct .nil) rfl trivial hp
  · refine (pe_disp (s_pps hk hv hl) hk.all (by rw [← hk.len, hl, hv.len]) h0 (by rw [← hk.len]; exact h15)).imp fun σ H Q q p hp => ?_
    obtain ⟨G, F, ι, env, μ, sr, h⟩ := q
    unfold evE at h
    rw [evEs_lit] at h
    have h : WpR ((evEs Pg C es env μ).bind fun vl μ'' => (ofO ((ds.zip vl).foldlM (fun acc kv => (keyD kv.1).map fun q => dput acc q kv.1 kv.2) []) μ'').bind fun kvs μ3 => .ok (.dct kvs) μ3) (okN X.K L G F ι env σ Q) (exW X.K L W G F ι env σ) := h
    have sg := sr.guard (o := .dK []) hp
    have off := sr.off hp
    refine pairs_go ds hk.key es hl (G0 := G) (F0 := F) (ι0 := ι) sg ?_
    refine (WpR.bind.mp h).mono (fun vl μ1 z F' ι' H' ws t sr' r => ?_) fun x μ1 z F' ι' H' cls dx t sr' r => ?_
    · obtain ⟨kvs, e, hk2⟩ := WpR.ofO.mp (WpR.bind.mp z)
      have hHp : H' p = some (.dK []) := sr'.g p _ upd_same
      refine ⟨hHp, (ds.map keyOf).zip ws, ?_, ?_, ?_⟩
      · have : (ds.map fun d => kV (keyOf d)) = (ds.map keyOf).map kV := by rw [List.map_map]; rfl
        rw [this]
        rw [List.map_zip_eq_zipWith, List.zip_map_left, List.map_zip_eq_zipWith]
        rfl
      · rw [List.length_zip, List.length_map]
        omega
      · have rk := fold_rep ds hk.key vl ws r [] kvs [] .nil e
        have s3 := SR.erase off.g sr.sm sr'
        have := (show okN X.K L G F ι env σ Q (.dct kvs) μ1 from hk2) F' ι' (era H' p) (.dct kvs) (.dK (mergeK [] ((ds.map keyOf).zip ws))) p t s3 (.dct rk) rfl trivial era_same
        rw [upd_era] at this
        exact this
    · -- an error leaves the new dict behind
      have s3 := (SR.erase off.g sr.sm sr')
      have s4 := s3.upd_off (o := .dK []) (s3.off era_same)
      have e5 : upd (era H' p) p (.dK []) = H' := by
        rw [upd_era]
        funext a
        by_cases ha : a = p
        · subst ha; rw [upd_same]; exact (sr'.g a _ upd_same).symm
        · rw [upd_ne ha]
      rw [e5] at s4
      exact z F' ι' H' cls dx t s4 r
/-! ### split, join -/
def f2M : F2 → Str | .join => "join" | .split => "split" | _ => ""
def f2m : F2 → Bool | .join => true | .split => true | _ => false
theorem reps_strs {K : PySem.W.Frag} : ∀ (zs : List Str), Reps K L F ι (zs.map D.str) (zs.map V.str)
  | [] => .nil
  | z :: zs => .cons (.str z) (reps_strs zs)
theorem s_tx {b : F2} {a a2 : E} {ax ax2 : Expr} {ap : Pos} (hok : f2m b = true) (hs : noSuper ax = true) (hn : noStar ax2 = true) (hl : (ap.endLine == pos.line) = true) (ha : PE X ax (tB X.K L Pg C W a)) (ha2 : PE X ax2 (tB X.K L Pg C W a2)) :
    PE X (.Call (.Attribute ax (f2M b) ap) [ax2] [] pos) (tE X.K L Pg C W (.tx b a a2)) := by
  have st : starEach [ax2] X.env = [(false, eval ax2 X.env)] := starEach_cons hn
  have go : ∀ {σ : L2.St} {H : Hp} {Q : VK}, tE X.K L Pg C W (.tx b a a2) σ H Q → tB X.K L Pg C W a σ H fun x H1 => ∃ z, x = V.str z ∧ tB X.K L Pg C W a2 σ H1 fun y H2 => ∃ G F ι env μ dw dz, SR X.K L G F ι env μ σ H2 ∧ RepB X.K L F ι H2 dw y ∧ opTx b z dw = some dz ∧ okP X.K L G F ι env σ Q dz μ := fun {σ H Q} q => by
    obtain ⟨G, F, ι, env, μ, sr, h⟩ := q
    unfold evE at h
    refine tB_go sr h fun d μ1 F1 ι1 H1 x t1 sr1 r1 h1 => ?_
    split at h1
    · rename_i z e1
      have rx := (r1.b sr1).deref sr1 e1
      refine ⟨z, rx.str, tB_go sr1 (h1.exle t1) fun d2 μ2 F2 ι2 H2 y t2 sr2 r2 h2 => ?_⟩
      obtain ⟨dz, e, hk⟩ := WpR.ofO.mp h2
      exact ⟨G, F2, ι2, env, μ2, d2, dz, sr2, r2.b sr2, e, okP.le (t1.trans t2) hk⟩
    · exact h1.elim
  cases b <;> first | (cases hok; done) | skip
  · refine (pe_join ha ha2 st (attrBase hs) hl).imp fun σ H Q q => ?_
    obtain ⟨G, F, ι, env, μ, sr, h⟩ := go q
    refine ⟨G, F, ι, env, μ, sr, h.mono (fun d μ1 k1 F1 ι1 H1 v t1 sr1 r1 => ?_) fun _ _ z => z⟩
    obtain ⟨z, rfl, G', F', ι', env', μ', sr', h'⟩ := k1 F1 ι1 H1 v t1 sr1 r1
    refine ⟨⟨z, rfl⟩, G', F', ι', env', μ', sr', h'.mono (fun d2 μ2 k2 F2 ι2 H2 v2 t2 sr2 r2 => ?_) fun _ _ z => z⟩
    obtain ⟨G3, F3, ι3, env3, μ3, dw, dz, sr3, rw3, eo, hk⟩ := k2 F2 ι2 H2 v2 t2 sr2 r2
    have fin : ∀ ys : List D, (dw = .lst ys ∨ dw = .tup ys) → joinD z ys = some dz → ∃ c p, ∃ zs : List Str, V.str z = .str c ∧ [v2] = [.ref p] ∧ (SqL X.K H2 p (zs.map V.str) ∨ SqT X.K H2 p (zs.map V.str)) ∧ (zs.map (·.length)).sum + zs.length * c.length ≤ 16777216 ∧ Q (.str (Txt.join c zs)) H2 := fun ys hd ej => by
      obtain ⟨zs, e3, e4⟩ := Option.bind_eq_some_iff.mp ej
      split at e4
      · rename_i hz
        cases e4
        obtain ⟨p, vs, rfl, hq, rs⟩ := rw3.seq (hd.elim .inl fun z => .inr (.inl z)) sr3
        rw [strsOf_rep e3 rs] at hq
        exact ⟨z, p, zs, rfl, rfl, hq, hz, hk.here sr3 (.str _)⟩
      · cases e4
    cases dw <;> simp only [opTx, reduceCtorEq] at eo
    · exact fin _ (.inr rfl) eo
    · exact fin _ (.inl rfl) eo
  · refine (pe_split ha ha2 st (attrBase hs) hl).imp fun σ H Q q => ?_
    obtain ⟨G, F, ι, env, μ, sr, h⟩ := go q
    refine ⟨G, F, ι, env, μ, sr, h.mono (fun d μ1 k1 F1 ι1 H1 v t1 sr1 r1 => ?_) fun _ _ z => z⟩
    obtain ⟨z, rfl, G', F', ι', env', μ', sr', h'⟩ := k1 F1 ι1 H1 v t1 sr1 r1
    refine ⟨⟨z, rfl⟩, G', F', ι', env', μ', sr', h'.mono (fun d2 μ2 k2 F2 ι2 H2 v2 t2 sr2 r2 => ?_) fun _ _ z => z⟩
    obtain ⟨G3, F3, ι3, env3, μ3, dw, dz, sr3, rw3, eo, hk⟩ := k2 F2 ι2 H2 v2 t2 sr2 r2
    cases dw <;> simp only [opTx, reduceCtorEq] at eo
    cases rw3.str
    split at eo
    · rename_i hz
      cases eo
      exact ⟨z, _, rfl, rfl, hz.1, hz.2, hk.newL sr3 (reps_strs _)⟩
    · cases eo
end
end Lm
set_option Elab.async false
set_option linter.all false
set_option maxRecDepth 100000
set_option maxHeartbeats 1000000
namespace Lm
open PySem PySem.Spec PyProof.Rows L2
/-! ### what a walk gives -/
structure Drives (K : PySem.W.Frag) (L : Lk) (J : L2.It) (F : Hp) (ι : List Addr) (xs : List D) : Prop where
  go : ∀ (i : Nat) (H : Hp), Le F H → i < xs.length → J.go i H
  stop : ∀ (H : Hp), Le F H → J.stop xs.length H
  yld : ∀ (i : Nat) (H : Hp) (v : V) (H' : Hp), Le F H → i < xs.length → J.yld i H v H' → ∃ d, xs[i]? = some d ∧ ((H' = H ∧ Rep K L F ι d v) ∨ ∃ T vs ds, d = .tup ds ∧ v = .ref T ∧ H T = none ∧ H' = upd H T (.tup vs) ∧ Reps K L F ι ds vs)
section
variable {K : PySem.W.Frag} {L : Lk} {G F F' H H' : Hp} {ι ι' : List Addr} {env : Env} {μ μ' : Sto} {σ : L2.St} {xs ys : List D} {vs ws : List V} {a b : Addr}
theorem Drives.mono {J : L2.It} (h : Drives K L J F ι xs) (t : To F ι F' ι') : Drives K L J F' ι' xs where
  go := fun i H e l => h.go i H (t.f.trans e) l
  stop := fun H e => h.stop H (t.f.trans e)
  yld := fun i H v H' e l y => by
    obtain ⟨d, h1, h2⟩ := h.yld i H v H' (t.f.trans e) l y
    refine ⟨d, h1, ?_⟩
    rcases h2 with ⟨h2, h3⟩ | ⟨T, vs, ds, h2, h3, h4, h5, h6⟩
    · exact .inl ⟨h2, h3.mono t.f t.i⟩
    · exact .inr ⟨T, vs, ds, h2, h3, h4, h5, h6.mono t.f t.i⟩
theorem Drives.use {J : L2.It} {i : Nat} {v : V} (h : Drives K L J F ι xs) (sr : SR K L G F ι env μ σ H) (l : i < xs.length) (y : J.yld i H v H') : ∃ d F1, xs[i]? = some d ∧ To F ι F1 ι ∧ SR K L G F1 ι env μ σ H' ∧ Rep K L F1 ι d v := by
  obtain ⟨d, h1, h2⟩ := h.yld i H v H' sr.f l y
  rcases h2 with ⟨rfl, h3⟩ | ⟨T, vs, ds, rfl, rfl, h4, rfl, h6⟩
  · exact ⟨d, F, h1, To.refl _ _, sr, h3⟩
  · exact ⟨_, _, h1, sr.to_new h4, sr.new h4, .tup (SqT.of upd_same) (h6.mono (le_upd (sr.fnone h4)) (List.prefix_refl ι))⟩
theorem sqB_le {bb : Bool} (h : SqB K bb F a vs) (e : Le F H) : SqB K bb H a vs := by
  cases bb with
  | true => exact e.sqL h
  | false => exact e.sqT h
theorem Reps.lt {i : Nat} (r : Reps K L F ι xs vs) (l : i < xs.length) : ∃ x v, xs[i]? = some x ∧ vs[i]? = some v ∧ Rep K L F ι x v := by
  obtain ⟨v, h1, h2⟩ := r.get (i := i) (x := xs[i]) (by simp [l])
  exact ⟨xs[i], v, by simp [l], h1, h2⟩
theorem drives_seq {bb : Bool} (h : SqB K bb F a vs) (r : Reps K L F ι xs vs) : Drives K L (ItsB K bb a) F ι xs := by
  cases bb with
  | true =>
    refine ⟨fun i H e l => ?_, fun H e => ⟨vs, e.sqL h, by rw [r.len]; exact Nat.le_refl _⟩, fun i H v H' e l y => ?_⟩
    · obtain ⟨x, v, h1, h2, h3⟩ := r.lt l
      exact ⟨vs, v, e.sqL h, h2⟩
    · obtain ⟨rfl, y⟩ := y
      obtain ⟨x, w, h1, h2, h3⟩ := r.lt l
      have := y vs (e.sqL h)
      rw [h2] at this; cases this
      exact ⟨x, h1, .inl ⟨rfl, h3⟩⟩
  | false =>
    refine ⟨fun i H e l => ?_, fun H e => ⟨vs, e.sqT h, by rw [r.len]; exact Nat.le_refl _⟩, fun i H v H' e l y => ?_⟩
    · obtain ⟨x, v, h1, h2, h3⟩ := r.lt l
      exact ⟨vs, v, e.sqT h, h2⟩
    · obtain ⟨rfl, y⟩ := y
      obtain ⟨x, w, h1, h2, h3⟩ := r.lt l
      have := y vs (e.sqT h)
      rw [h2] at this; cases this
      exact ⟨x, h1, .inl ⟨rfl, h3⟩⟩
theorem enumL_get {i : Nat} {x : D} (h : xs[i]? = some x) : (enumL xs)[i]? = some (.tup [.int (i : Int), x]) := by
  have hl := (List.getElem?_eq_some_iff.mp h).1
  unfold enumL
  rw [List.getElem?_zipWith, h, List.getElem?_range hl]
theorem enumL_len : (enumL xs).length = xs.length := by unfold enumL; simp
theorem drives_enum {bb : Bool} (h : SqB K bb F a vs) (r : Reps K L F ι xs vs) : Drives K L (IteB K bb a) F ι (enumL xs) := by
  refine ⟨fun i H e l => ?_, fun H e => ⟨vs, sqB_le h e, by rw [enumL_len, r.len]⟩, fun i H v H' e l y => ?_⟩
  · rw [enumL_len] at l
    obtain ⟨x, v, h1, h2, h3⟩ := r.lt l
    exact ⟨vs, v, sqB_le h e, h2⟩
  · rw [enumL_len] at l
    obtain ⟨T, x, rfl, hT, rfl, y⟩ := y
    obtain ⟨d, w, h1, h2, h3⟩ := r.lt l
    have := y vs (sqB_le h e)
    rw [h2] at this; cases this
    exact ⟨_, enumL_get h1, .inr ⟨T, _, _, rfl, rfl, hT, rfl, .cons (.int _) (.cons h3 .nil)⟩⟩
theorem zipL_len : (zipL xs ys).length = min xs.length ys.length := by unfold zipL; simp
theorem drives_zip {bb cc : Bool} (h : SqB K bb F a vs) (h' : SqB K cc F b ws) (r : Reps K L F ι xs vs) (r' : Reps K L F ι ys ws) : Drives K L (ItzB K bb cc a b) F ι (zipL xs ys) := by
  refine ⟨fun i H e l => ?_, fun H e => ⟨vs, ws, sqB_le h e, sqB_le h' e, ?_, ?_, ?_⟩, fun i H v H' e l y => ?_⟩
  · rw [zipL_len] at l
    obtain ⟨x, v, h1, h2, h3⟩ := r.lt (i := i) (by omega)
    obtain ⟨x', v', h1', h2', h3'⟩ := r'.lt (i := i) (by omega)
    exact ⟨vs, ws, v, v', sqB_le h e, sqB_le h' e, h2, h2'⟩
  · rw [zipL_len, r.len, r'.len]; omega
  · rw [zipL_len, r.len, r'.len]; omega
  · rw [zipL_len, r.len, r'.len]; omega
  · rw [zipL_len] at l
    obtain ⟨T, x, y', rfl, hT, rfl, y1, y2⟩ := y
    obtain ⟨d, w, h1, h2, h3⟩ := r.lt (i := i) (by omega)
    obtain ⟨d', w', h1', h2', h3'⟩ := r'.lt (i := i) (by omega)
    have e1 := y1 vs (sqB_le h e)
    have e2 := y2 ws (sqB_le h' e)
    rw [h2] at e1; cases e1
    rw [h2'] at e2; cases e2
    refine ⟨.tup [d, d'], ?_, .inr ⟨T, _, _, rfl, rfl, hT, rfl, .cons h3 (.cons h3' .nil)⟩⟩
    unfold zipL
    rw [List.getElem?_zipWith, h1, h1']
theorem drives_rangeC {lo c : Int} {n : Nat} : Drives K L (Itc lo c n) F ι ((List.range n).map fun (k : Nat) => D.int (lo + (k : Int) * c)) := by
  refine ⟨fun i H e l => by simpa [Itc] using l, fun H e => by simp [Itc], fun i H v H' e l y => ?_⟩
  obtain ⟨rfl, rfl⟩ := y
  have l : i < n := by simpa using l
  exact ⟨.int (lo + i * c), by simp [l], .inl ⟨rfl, .int _⟩⟩
theorem drives_range {lo : Int} {n : Nat} : Drives K L (Itr lo n) F ι ((List.range n).map fun (k : Nat) => D.int (lo + (k : Int))) := by
  refine ⟨fun i H e l => by simpa [Itr] using l, fun H e => by simp [Itr], fun i H v H' e l y => ?_⟩
  obtain ⟨rfl, rfl⟩ := y
  have l : i < n := by simpa using l
  exact ⟨.int (lo + i), by simp [l], .inl ⟨rfl, .int _⟩⟩
end
section
variable {L : Lk} {Pg : Pg} {C : Orc} {k : Nat} {W : WX} {sc : Scope} {fb : Str → Bool} {N : List Str} {X : Cx} {G F F' H H' : Hp} {ι ι' : List Addr} {env : Env} {μ μ' : Sto} {σ : L2.St} {pos pos2 apos : Pos}
def okI (K : PySem.W.Frag) (L : Lk) (G F : Hp) (ι : List Addr) (env : Env) (σ : L2.St) (R : L2.It → Hp → Prop) (xs : List D) (μ' : Sto) : Prop :=
  ∀ F' ι' H' J, To F ι F' ι' → SR K L G F' ι' env μ' σ H' → Drives K L J F' ι' xs → R J H'
def tI (K : PySem.W.Frag) (L : Lk) (Pg : Lm.Pg) (C : Orc) (W : WX) (it : Lm.It) : TI := fun σ H R => ∃ G F ι env μ, SR K L G F ι env μ σ H ∧ WpR (evIt Pg C it env μ) (okI K L G F ι env σ R) (exW K L W G F ι env σ)
theorem okI.le {K : PySem.W.Frag} {R : L2.It → Hp → Prop} {xs : List D} (t : To F ι F' ι') (h : okI K L G F ι env σ R xs μ) : okI K L G F' ι' env σ R xs μ := fun F2 ι2 H' J t2 sr r => h F2 ι2 H' J (t.trans t2) sr r
theorem seq_of {d : D} {v : V} {xs : List D} (e : itemsOf d = some xs) (r : Rep X.K L F ι d v) : ∃ b a vs, v = .ref a ∧ SqB X.K b F a vs ∧ Reps X.K L F ι xs vs := by
  cases d <;> simp only [itemsOf, reduceCtorEq, Option.some.injEq] at e <;> subst e
  · cases r with | tup h r => exact ⟨false, _, _, rfl, h, r⟩
  · cases r with | lst h r => exact ⟨true, _, _, rfl, SqL.of h, r⟩
/-- a list, a tuple or a text -/
def iSeqS (K : PySem.W.Frag) (w : World) (tl : TE) : TI := fun σ H R => tl σ H fun x H1 => (∃ b a xs, x = .ref a ∧ SqB K b H1 a xs ∧ R (ItsB K b a) H1) ∨ ((∃ z, x = .str z ∧ R (Its z) H1) ∨ ∃ a ob xs, x = .ref a ∧ H1 a = some (DN ob w a xs) ∧ R (ItN w a ob xs) H1)
theorem pi_seqS {tg l : Expr} {tl : TE} (hl : PE X l tl) : PI X tg l (iSeqS X.K X.w tl) := by
  refine ⟨fun pins s σ H R I h => ?_⟩
  refine thn (hl.run pins s σ H _ I h) fun v s1 ⟨x, H1, I1, r1, q1⟩ => ?_
  rcases q1 with ⟨b, a, xs, e, hq, q⟩ | ⟨z, e, q⟩ | ⟨a, ob, xs, e, hq, q⟩
  · subst e
    cases r1
    cases b with
    | true =>
      obtain ⟨its, rv, p, hz⟩ := I1.list hq
      exact wpAny_pyIter_list p.isList (pi_one (tk := s1.toks) I1 _ (turn_list a _) ⟨_, Heap.get?_push_size _ rfl, rfl, rfl⟩ q)
    | false =>
      obtain ⟨its, rv, p, hz⟩ := I1.tuple hq
      exact wpAny_pyIter_tuple (show s1.heap.IsTuple a its.toArray from p) (pi_one (tk := s1.toks) I1 _ (turn_tuple a _) ⟨_, Heap.get?_push_size _ rfl, rfl, rfl⟩ q)
  · subst e
    obtain ⟨t, rfl⟩ := r1
    cases ha : z.cps.all (· < 128)
    · exact wpAny_pyIter_wide ha (pi_one (tk := s1.toks) I1 _ (turn_str _ z t "str_iterator" (.inr rfl)) ⟨_, Heap.get?_push_size _ rfl, rfl, rfl⟩ q)
    · exact wpAny_pyIter_ascii ha (pi_one (tk := s1.toks) I1 _ (turn_str _ z t "str_ascii_iterator" (.inl rfl)) ⟨_, Heap.get?_push_size _ rfl, rfl, rfl⟩ q)
  · subst e
    cases r1
    obtain ⟨hs, hgd, hx, es, ep, hdt, hsz, ent⟩ := dn_at I1 hq
    refine iter_keys hs hgd hx hdt (pi_one (tk := s1.toks) I1 _ (turn_keysN _ hdt) ⟨_, Heap.get?_push_size _ rfl, rfl, ?_⟩ q)
    rw [hsz] <;> rfl
theorem drives_nest {w : World} {a : Addr} {ob : Obj} {kvs : List (D × D)} {xs : List (NestedKey × Addr × V)} (h : F a = some (DN ob w a xs)) (r : RepN X.K L F ι kvs xs) : Drives X.K L (ItN w a ob xs) F ι (kvs.map (·.1)) := by
  have l := r.len
  refine ⟨fun i H e hl => ⟨e _ _ h, by simpa [l] using hl⟩, fun H e => ⟨e _ _ h, by simp [l]⟩, fun i H v H' e hl y => ?_⟩
  obtain ⟨rfl, q, hq, rfl⟩ := y
  have rk := r.keyReps
  have hv : (keysN xs)[i]? = some (V.ref q.2.1) := by unfold keysN; rw [List.getElem?_map, hq]; rfl
  obtain ⟨x, v, h1, h2, h3⟩ := Reps.lt rk hl
  rw [hv] at h2
  cases h2
  exact ⟨x, h1, .inl ⟨rfl, h3⟩⟩
theorem drives_txt {z : Str} : Drives X.K L (Its z) F ι (z.cps.toList.map fun c => D.str ⟨#[c]⟩) := by
  refine ⟨fun i H e l => ?_, fun H e => ?_, fun i H v H' e l y => ?_⟩
  · simpa [Its] using l
  · simp [Its]
  · obtain ⟨rfl, c, hc, rfl⟩ := y
    refine ⟨.str ⟨#[c]⟩, ?_, .inl ⟨rfl, .str _⟩⟩
    rw [List.getElem?_map, Array.getElem?_toList, hc]
    rfl
theorem s_seq {tg : Expr} {e : E} {ex : Expr} (hw : L.w = X.w) (he : PE X ex (tE X.K L Pg C W e)) : PI X tg ex (tI X.K L Pg C W (.seq e)) :=
  (pi_seqS he).imp fun σ H R q => by
    obtain ⟨G, F, ι, env, μ, sr, h⟩ := q
    unfold evIt at h
    refine tE_go sr h fun d μ1 F1 ι1 H1 x t1 sr1 r1 h1 => ?_
    split at h1
    · rename_i z
      cases r1
      exact .inr (.inl ⟨z, rfl, (okI.le t1 (show okI X.K L G F ι env σ R _ μ1 from h1)) F1 ι1 H1 _ (To.refl _ _) sr1 drives_txt⟩)
    · rename_i kvs
      cases r1 with
      | @dcn a ob _ xs hF rn =>
        rw [hw] at hF
        exact .inr (.inr ⟨a, ob, xs, rfl, sr1.f _ _ hF, (okI.le t1 (show okI X.K L G F ι env σ R _ μ1 from h1)) F1 ι1 H1 _ (To.refl _ _) sr1 (drives_nest hF rn)⟩)
    · obtain ⟨xs, e1, hk⟩ := WpR.ofO.mp h1
      obtain ⟨b, a, vs, rfl, hq, rs⟩ := seq_of e1 r1
      exact .inl ⟨b, a, vs, rfl, sqB_le hq sr1.f, (okI.le t1 hk) F1 ι1 H1 _ (To.refl _ _) sr1 (drives_seq hq rs)⟩
theorem s_enum {e : E} {ex : Expr} {elts : List Expr} {kk : Nat} {tpos p : Pos} (c : CtxE L Pg C k W sc fb N X) (hg : gloB sc "enumerate" = true) (hn : noStar ex = true) (he : PE X ex (tE X.K L Pg C W e)) :
    PI X (.Tuple elts kk tpos) (.Call (.Name "enumerate" p) [ex] [] pos) (tI X.K L Pg C W (.enum e)) :=
  (pi_enumB (c.gl hg) (c.link.blt _ (by simp [bltNames])) (paC hn he (pa_nil (X := X))) hn).imp fun σ H R q => by
    obtain ⟨G, F, ι, env, μ, sr, h⟩ := q
    unfold evIt at h
    refine tE_go sr h fun d μ1 F1 ι1 H1 x t1 sr1 r1 h1 => ?_
    obtain ⟨xs, e1, hk⟩ := WpR.ofO.mp h1
    obtain ⟨ys, e2, rfl⟩ := Option.map_eq_some_iff.mp e1
    obtain ⟨b, a, vs, rfl, hq, rs⟩ := seq_of e2 r1
    exact ⟨b, a, vs, rfl, sqB_le hq sr1.f, (okI.le t1 hk) F1 ι1 H1 _ (To.refl _ _) sr1 (drives_enum hq rs)⟩
theorem s_zip {e e2 : E} {ex ex2 : Expr} {elts : List Expr} {kk : Nat} {tpos p : Pos} (c : CtxE L Pg C k W sc fb N X) (hg : gloB sc "zip" = true) (hn : noStar ex = true) (hn2 : noStar ex2 = true) (he : PE X ex (tE X.K L Pg C W e)) (he2 : PE X ex2 (tE X.K L Pg C W e2)) :
    PI X (.Tuple elts kk tpos) (.Call (.Name "zip" p) [ex, ex2] [] pos) (tI X.K L Pg C W (.zip e e2)) :=
  (pi_zipB (c.gl hg) (c.link.blt _ (by simp [bltNames])) (paC hn he (paC hn2 he2 (pa_nil (X := X)))) hn hn2).imp fun σ H R q => by
    obtain ⟨G, F, ι, env, μ, sr, h⟩ := q
    unfold evIt at h
    refine tE_go sr h fun d μ1 F1 ι1 H1 x t1 sr1 r1 h1 => tE_go sr1 (h1.exle t1) fun d2 μ2 F2 ι2 H2 y t2 sr2 r2 h2 => ?_
    obtain ⟨xs, e1, hk⟩ := WpR.ofO.mp h2
    obtain ⟨us, e3, e4⟩ := Option.bind_eq_some_iff.mp e1
    obtain ⟨ws, e5, rfl⟩ := Option.map_eq_some_iff.mp e4
    obtain ⟨b, a, vs, rfl, hq, rs⟩ := seq_of e3 (r1.mono t2.f t2.i)
    obtain ⟨b', a', vs', rfl, hq', rs'⟩ := seq_of e5 r2
    exact ⟨b, b', a, a', vs, vs', rfl, sqB_le hq sr2.f, sqB_le hq' sr2.f, (okI.le (t1.trans t2) hk) F2 ι2 H2 _ (To.refl _ _) sr2 (drives_zip hq hq' rs rs')⟩
theorem evEs_len : ∀ {es : List E} {ds : List D} {μ μ' : Sto}, evEs Pg C es env μ = .ok ds μ' → ds.length = es.length
  | [], ds, μ, μ', h => by unfold evEs at h; cases h; rfl
  | e :: es, ds, μ, μ', h => by
    unfold evEs at h
    cases h1 : evE Pg C e env μ with
    | bad => rw [h1] at h; cases h
    | exn x m => rw [h1] at h; cases h
    | ok d m =>
      rw [h1] at h
      simp only [Res.bind] at h
      cases h2 : evEs Pg C es env m with
      | bad => rw [h2] at h; cases h
      | exn x m => rw [h2] at h; cases h
      | ok ds2 m2 =>
        rw [h2] at h
        cases h
        exact congrArg (· + 1) (evEs_len h2)
theorem tAs_goE {α : Type} {a : List E} {f : List D → Sto → Res α} {p : α → Sto → Prop} {Q : List V → Hp → Prop} (sr : SR X.K L G F ι env μ σ H) (h : WpR ((evEs Pg C a env μ).bind f) p (exW X.K L W G F ι env σ))
    (k : ∀ d μ1 F1 ι1 H1 v, d.length = a.length → To F ι F1 ι1 → SR X.K L G F1 ι1 env μ1 σ H1 → Reps X.K L F1 ι1 d v → WpR (f d μ1) p (exW X.K L W G F ι env σ) → Q v H1) : tAs X.K L Pg C W a σ H Q := by
  refine ⟨G, F, ι, env, μ, sr, ?_⟩
  have h := WpR.bind.mp h
  cases e : evEs Pg C a env μ with
  | bad => rw [e] at h; exact h
  | exn x m => rw [e] at h; exact h
  | ok d m => rw [e] at h; exact fun F1 ι1 H1 v t sr1 r => k d m F1 ι1 H1 v (evEs_len e) t sr1 r h
theorem s_range1 {tg : Expr} {e : E} {ex : Expr} {p : Pos} (c : CtxE L Pg C k W sc fb N X) (hg : gloB sc "range" = true) (hn : noStar ex = true) (he : PE X ex (tE X.K L Pg C W e)) :
    PI X tg (.Call (.Name "range" p) [ex] [] pos) (tI X.K L Pg C W (.range [e])) :=
  (pi_range1 (c.gl hg) (c.link.blt _ (by simp [bltNames])) (s_cons hn he s_nil) (starEach_cons hn)).imp fun σ H R q => by
    obtain ⟨G, F, ι, env, μ, sr, h⟩ := q
    unfold evIt at h
    refine tAs_goE sr h fun ds μ1 F1 ι1 H1 vs hl t1 sr1 r1 h1 => ?_
    obtain ⟨xs, e1, hk⟩ := WpR.ofO.mp h1
    have one : ∃ i, ds = [.int i] ∧ -(2 ^ 62) ≤ i ∧ i < 2 ^ 62 ∧ xs = (List.range i.toNat).map fun (k : Nat) => D.int (0 + (k : Int)) := by
      unfold rangeL at e1
      split at e1
      · rename_i b
        split at e1
        · rename_i hz
          cases e1
          exact ⟨b, rfl, hz.1, hz.2, by simp⟩
        · cases e1
      · simp at hl
      · simp at hl
      · cases e1
    obtain ⟨i, rfl, h2, h3, rfl⟩ := one
    cases r1 with
    | cons ra rb =>
      cases rb
      cases ra
      exact ⟨i, rfl, h2, h3, (okI.le t1 hk) F1 ι1 H1 _ (To.refl _ _) sr1 drives_range⟩
theorem s_range2 {tg : Expr} {e e2 : E} {ex ex2 : Expr} {p : Pos} (c : CtxE L Pg C k W sc fb N X) (hg : gloB sc "range" = true) (hn : noStar ex = true) (hn2 : noStar ex2 = true) (he : PE X ex (tE X.K L Pg C W e)) (he2 : PE X ex2 (tE X.K L Pg C W e2)) :
    PI X tg (.Call (.Name "range" p) [ex, ex2] [] pos) (tI X.K L Pg C W (.range [e, e2])) :=
  (pi_range2 (c.gl hg) (c.link.blt _ (by simp [bltNames])) (s_cons hn he (s_cons hn2 he2 s_nil)) (by rw [starEach_cons hn, starEach_cons hn2]; rfl) (by rw [starEach_cons hn2]; rfl)).imp fun σ H R q => by
    obtain ⟨G, F, ι, env, μ, sr, h⟩ := q
    unfold evIt at h
    refine tAs_goE sr h fun ds μ1 F1 ι1 H1 vs hl t1 sr1 r1 h1 => ?_
    obtain ⟨xs, e1, hk⟩ := WpR.ofO.mp h1
    have two : ∃ i j, ds = [.int i, .int j] ∧ (-(2 ^ 62) ≤ i ∧ i < 2 ^ 62 ∧ -(2 ^ 62) ≤ j ∧ j < 2 ^ 62) ∧ xs = (List.range (j - i).toNat).map fun (k : Nat) => D.int (i + (k : Int)) := by
      unfold rangeL at e1
      split at e1
      · simp at hl
      · rename_i a b
        split at e1
        · rename_i hz
          cases e1
          exact ⟨a, b, rfl, hz, rfl⟩
        · cases e1
      · simp at hl
      · cases e1
    obtain ⟨i, j, rfl, h2, rfl⟩ := two
    cases r1 with
    | cons ra rb =>
      cases rb with
      | cons rc rd =>
        cases rd
        cases ra
        cases rc
        exact ⟨i, j, rfl, h2, (okI.le t1 hk) F1 ι1 H1 _ (To.refl _ _) sr1 drives_range⟩
theorem s_range3 {tg : Expr} {e e2 e3 : E} {ex ex2 ex3 : Expr} {p : Pos} (c : CtxE L Pg C k W sc fb N X) (hg : gloB sc "range" = true) (hn : noStar ex = true) (hn2 : noStar ex2 = true) (hn3 : noStar ex3 = true) (he : PE X ex (tE X.K L Pg C W e)) (he2 : PE X ex2 (tE X.K L Pg C W e2)) (he3 : PE X ex3 (tE X.K L Pg C W e3)) :
    PI X tg (.Call (.Name "range" p) [ex, ex2, ex3] [] pos) (tI X.K L Pg C W (.range [e, e2, e3])) :=
  (pi_range3 (c.gl hg) (c.link.blt _ (by simp [bltNames])) (s_cons hn he (s_cons hn2 he2 (s_cons hn3 he3 s_nil))) (by rw [starEach_cons hn]) (by rw [starEach_cons hn2, starEach_cons hn3]; rfl)).imp fun σ H R q => by
    obtain ⟨G, F, ι, env, μ, sr, h⟩ := q
    unfold evIt at h
    refine tAs_goE sr h fun ds μ1 F1 ι1 H1 vs hl t1 sr1 r1 h1 => ?_
    obtain ⟨xs, e1, hk⟩ := WpR.ofO.mp h1
    have three : ∃ i j d, ds = [.int i, .int j, .int d] ∧ (d ≠ 0 ∧ d.natAbs < 1073741824 ∧ PySem.Builtin.Range.small i j d = true) ∧ xs = (List.range (PySem.Builtin.Range.rangeSize i j d).toNat).map fun (k : Nat) => D.int (i + (k : Int) * d) := by
      unfold rangeL at e1
      split at e1
      · simp at hl
      · simp at hl
      · rename_i a b d
        split at e1
        · rename_i hz
          cases e1
          exact ⟨a, b, d, rfl, hz, rfl⟩
        · cases e1
      · cases e1
    obtain ⟨i, j, d, rfl, h2, rfl⟩ := three
    cases r1 with
    | cons ra rb =>
      cases rb with
      | cons rc rd =>
        cases rd with
        | cons re rf =>
          cases rf
          cases ra
          cases rc
          cases re
          exact ⟨i, j, d, _, rfl, ⟨h2.1, h2.2.1, h2.2.2, rangeSize_toNat i j d⟩, (okI.le t1 hk) F1 ι1 H1 _ (To.refl _ _) sr1 drives_rangeC⟩
/-! ### targets -/
/-- nothing else is set -/
def Only (vs : List Nat) (σ σ' : L2.St) : Prop := σ'.length = σ.length ∧ ∀ j, j ∉ vs → σ'[j]? = σ[j]?
def tG (K : PySem.W.Frag) (L : Lk) (t : Tgt) : TG := fun v σ H Q => ∃ G F ι env μ d env', SR K L G F ι env μ σ H ∧ Rep K L F ι d v ∧ setT t d env = some env' ∧ ∀ σ', SR K L G F ι env' μ σ' H → Only (slotsT t) σ σ' → Q σ' H
def tGs (K : PySem.W.Frag) (L : Lk) (ts : List Tgt) : TGs := fun vs σ H Q => ∃ G F ι env μ ds env', SR K L G F ι env μ σ H ∧ Reps K L F ι ds vs ∧ setTs ts ds env = some env' ∧ ∀ σ', SR K L G F ι env' μ σ' H → Only (slotsTs ts) σ σ' → Q σ' H
theorem _root_.L2.PG.imp {tg : Expr} {t t' : TG} (h : PG X tg t) (i : ∀ v σ H Q, t' v σ H Q → t v σ H Q) : PG X tg t' := ⟨fun pins s σ H v u Q I r q => h.run pins s σ H v u Q I r (i v σ H Q q)⟩
theorem _root_.L2.PGs.imp {tg : List Expr} {t t' : TGs} (h : PGs X tg t) (i : ∀ v σ H Q, t' v σ H Q → t v σ H Q) : PGs X tg t' := ⟨fun pins s σ H v u Q I r q => h.run pins s σ H v u Q I r (i v σ H Q q)⟩
theorem s_tnm {i : Nat} {x : Str} (c : CtxE L Pg C k W sc fb N X) (h1 : N[i]? = some x) (h2 : locB sc x = true) (h3 : (fb x || (match sc.names.lookup x with | some .local => true | _ => false)) = true) : PG X (.Name x pos) (tG X.K L (.nm i)) := by
  have hf : X.fn x = true ∨ X.env.scope.names.lookup x = some .local := by
    rw [Bool.or_eq_true] at h3
    rcases h3 with z | z
    · exact .inl (c.fb x z)
    · rw [c.sce]
      split at z
      · rename_i e; exact .inr e
      · cases z
  refine (pg_name (i := i) (by rw [c.n]; exact c.nd) (by rw [c.n]; exact h1) (by rw [c.sce]; exact locB_ok h2) hf).imp fun v σ H Q q => ?_
  obtain ⟨G, F, ι, env, μ, d, env', sr, r, e, hk⟩ := q
  unfold setT at e
  cases e
  refine hk _ (sr.setVal r) ⟨by simp, fun j hj => ?_⟩
  rw [get_set, if_neg]
  exact fun z => hj (by simp [slotsT, z])
theorem s_tnil : PGs X [] (tGs X.K L []) := pgs_nil.imp fun vs σ H Q q => by
  obtain ⟨G, F, ι, env, μ, ds, env', sr, r, e, hk⟩ := q
  cases r with
  | nil => unfold setTs at e; cases e; exact ⟨rfl, hk σ sr ⟨rfl, fun _ _ => rfl⟩⟩
  | cons a b => unfold setTs at e; cases e
def noStarT : Expr → Bool | .Starred _ _ => false | _ => true
theorem assignEach_cons {e : Expr} {es : List Expr} {env : PySem.Env} (h : noStarT e = true) : assignEach (e :: es) env = (false, assign e env) :: assignEach es env := by
  cases e <;> first | rfl | cases h
theorem s_tcons {t : Tgt} {ts : List Tgt} {e : Expr} {es : List Expr} (hn : noStarT e = true) (h1 : PG X e (tG X.K L t)) (h2 : PGs X es (tGs X.K L ts)) : PGs X (e :: es) (tGs X.K L (t :: ts)) :=
  (pgs_cons h1 h2 (by rw [assignEach_cons hn]; rfl)).imp fun vs σ H Q q => by
    obtain ⟨G, F, ι, env, μ, ds, env', sr, r, e, hk⟩ := q
    cases r with
    | nil => unfold setTs at e; cases e
    | @cons d v ds vs r rs =>
      unfold setTs at e
      obtain ⟨env1, e1, e2⟩ := Option.bind_eq_some_iff.mp e
      refine ⟨v, vs, rfl, G, F, ι, env, μ, d, env1, sr, r, e1, fun σ1 sr1 o1 => ⟨G, F, ι, env1, μ, ds, env', sr1, rs, e2, fun σ2 sr2 o2 => hk σ2 sr2 ⟨o2.1.trans o1.1, fun j hj => ?_⟩⟩⟩
      have : j ∉ slotsT t ∧ j ∉ slotsTs ts := by simpa [slotsTs, not_or] using hj
      exact (o2.2 j this.2).trans (o1.2 j this.1)
theorem assignEach_len : ∀ {es : List Expr} {env : PySem.Env}, es.all noStarT = true → (assignEach es env).length = es.length ∧ (assignEach es env).findIdx? (·.1) = none
  | [], _, _ => ⟨rfl, rfl⟩
  | e :: es, env, h => by
    rw [List.all_cons, Bool.and_eq_true] at h
    obtain ⟨h1, h2⟩ := assignEach_len (env := env) h.2
    rw [assignEach_cons h.1]
    refine ⟨by simp [h1], ?_⟩
    rw [List.findIdx?_cons]
    simp [h2]
theorem s_ttp {ts : List Tgt} {es : List Expr} {kk : Nat} (hc : X.calm = true) (hl : ts.length = es.length) (hn : es.all noStarT = true) (h : PGs X es (tGs X.K L ts)) : PG X (.Tuple es kk pos) (tG X.K L (.tp ts)) :=
  (pg_tup hc h (assignEach_len hn).1 (assignEach_len hn).2).imp fun v σ H Q q => by
    obtain ⟨G, F, ι, env, μ, d, env', sr, r, e, hk⟩ := q
    unfold setT at e
    cases d <;> first | (cases e; done) | skip
    rename_i ds
    have e : setTs ts ds env = some env' := e
    cases r with
    | @tup a _ vs hq rs =>
      have hl2 : ∀ (ts : List Tgt) (ds : List D) (env env' : Env), setTs ts ds env = some env' → ts.length = ds.length := by
        intro ts
        induction ts with
        | nil => intro ds env env' e; cases ds with | nil => rfl | cons a b => unfold setTs at e; cases e
        | cons t ts ih =>
          intro ds env env' e
          cases ds with
          | nil => unfold setTs at e; cases e
          | cons a b =>
            unfold setTs at e
            obtain ⟨env1, e1, e2⟩ := Option.bind_eq_some_iff.mp e
            exact congrArg (· + 1) (ih _ _ _ e2)
      exact ⟨a, vs, rfl, sr.f.sqT hq, by rw [← rs.len, ← hl2 _ _ _ _ e, hl], G, F, ι, env, μ, ds, env', sr, rs, e, fun σ' s o => hk σ' s (by simpa [slotsT] using o)⟩
end
end Lm
set_option Elab.async false
set_option linter.all false
set_option maxRecDepth 100000
set_option maxHeartbeats 1000000
namespace Lm
open PySem PySem.Spec PyProof.Rows L2
/-! ### d.get(k), d.get(k, x) -/
def XGet (X : Cx) (H : Hp) (a : Addr) (y : V) (o : Option V) : Prop := DGet H a y o ∨ ∃ xs k, NAt X.K X.w H a xs ∧ NKey X.K H k y ∧ o = valN xs k
def IsDX (X : Cx) (H : Hp) (a : Addr) : Prop := IsD H a ∨ ∃ xs, NAt X.K X.w H a xs
def tGet1 (X : Cx) (td ty : TE) : TE := fun σ H Q => td σ H fun x H1 => ∃ a, x = .ref a ∧ IsDX X H1 a ∧ ty σ H1 fun y H2 => ∃ o, XGet X H2 a y o ∧ Q (o.getD .non) H2
def tGet2 (X : Cx) (td ty tx : TE) : TE := fun σ H Q => td σ H fun x H1 => ∃ a, x = .ref a ∧ IsDX X H1 a ∧ ty σ H1 fun y H2 => tx σ H2 fun z H3 => ∃ o, XGet X H3 a y o ∧ Q (o.getD z) H3
section
variable {X : Cx} {o e f : Expr} {apos cpos : Pos} {td ty tx : TE}
theorem isDX_at {pins : List (Addr × Obj)} {σ : L2.St} {H : Hp} {s : Shared} {a : Addr} (I : Inv X pins σ H s) (d : IsDX X H a) :
    s.TypeIs (.ref a) "dict" ∧ ∀ b, Value.ref a = .ref b → ∃ ob, s.heap.get? b = some ob ∧ ob.dict = none := by
  rcases d with d | ⟨xs, d⟩
  · obtain ⟨h1, h2, _⟩ := isD_at I d; exact ⟨h1, h2⟩
  · obtain ⟨_, _, ys, _, dd⟩ := d.of I
    refine ⟨dd.typeIs, fun b q => ?_⟩
    cases q
    obtain ⟨ob, _, _, h1, h2, _⟩ := dd
    exact ⟨ob, h1, h2.2.1⟩
theorem pe_get1X (hu : X.A.units + 66 < cLine) (ho : PE X o td) (he : PE X e ty) (m : M1 X o "get" apos e cpos) : PE X (.Call (.Attribute o "get" apos) [e] [] cpos) (tGet1 X td ty) := by
  refine ⟨fun pins s σ H Q I h => ?_⟩
  refine wpAny_Call_method m.base m.few m.line PySem.F.plainAttrs_dict PySem.F.slot_dict_get PySem.F.type_dict_get (thn (ho.run pins s σ H _ I h) fun u s1 ⟨x, H1, I1, rx, a, ex, d, q1⟩ => ?_)
  subst ex
  obtain rfl : u = Value.ref a := rx
  obtain ⟨t1, t2⟩ := isDX_at I1 d
  refine ⟨t1, t2, ?_⟩
  rw [m.trees]
  refine Calls.callWith_builtin rfl (Calls.evalArgs_plain (Calls.spliced_cons (thn (he.run pins s1 σ H1 _ I1 q1) fun iv s2 ⟨y, H2, I2, ry, ov, g, q2⟩ => Calls.spliced_nil ?_)))
  rcases g with g | ⟨xs, k, g, hk, rfl⟩
  · exact d_get1 (by omega) I2 g ry fun w' s3 I3 rw' => ⟨_, H2, I3, rw', q2⟩
  · exact n_get (by show X.A.units + 1 + 8 < cLine; omega) I2 g hk ry fun w' s3 I3 rw' => ⟨_, H2, I3, rw', q2⟩
theorem pe_get2X (hu : X.A.units + 66 < cLine) (ho : PE X o td) (he : PE X e ty) (hf : PE X f tx) (m : M2 X o "get" apos e f cpos) : PE X (.Call (.Attribute o "get" apos) [e, f] [] cpos) (tGet2 X td ty tx) := by
  refine ⟨fun pins s σ H Q I h => ?_⟩
  refine wpAny_Call_method m.base m.few m.line PySem.F.plainAttrs_dict PySem.F.slot_dict_get PySem.F.type_dict_get (thn (ho.run pins s σ H _ I h) fun u s1 ⟨x, H1, I1, rx, a, ex, d, q1⟩ => ?_)
  subst ex
  obtain rfl : u = Value.ref a := rx
  obtain ⟨t1, t2⟩ := isDX_at I1 d
  refine ⟨t1, t2, ?_⟩
  rw [m.trees]
  refine Calls.callWith_builtin rfl (Calls.evalArgs_plain (Calls.spliced_cons (thn (he.run pins s1 σ H1 _ I1 q1) fun iv s2 ⟨y, H2, I2, ry, q2⟩ =>
    Calls.spliced_cons (thn (hf.run pins s2 σ H2 _ I2 q2) fun fv s3 ⟨z, H3, I3, rz, ov, g, q3⟩ => Calls.spliced_nil ?_))))
  rcases g with g | ⟨xs, k, g, hk, rfl⟩
  · exact d_get2 (by omega) I3 g ry rz fun w' s4 I4 rw' => ⟨_, H3, I4, rw', q3⟩
  · exact n_getOr (by show X.A.units + 1 + 8 < cLine; omega) I3 g hk ry rz fun w' s4 I4 rw' => ⟨_, H3, I4, rw', q3⟩
end
/-! ### {k: v}, k a tuple -/
def tDisp1 (X : Cx) (tk tv : TE) : TE := fun σ H Q => ∀ p, H p = none → tk σ (upd H p (.dK [])) fun x H1 => tv σ H1 fun y H2 => H2 p = some (.dK []) ∧ ∃ k b, x = .ref b ∧ NKey X.K H2 k (.ref b) ∧ ∀ ob, Q (.ref p) (upd H2 p (DN ob X.w p [(k, b, y)]))
theorem pe_disp1 {X : Cx} {kx vx : Expr} {tk tv : TE} {pos : Pos} (hu : X.A.units + 66 < cLine) (hk : PE X kx tk) (hv : PE X vx tv) : PE X (.Dict [some kx] [vx] pos) (tDisp1 X tk tv) := by
  refine ⟨fun pins s σ H Q I q => ?_⟩
  have hn := I.hok.fresh (Nat.le_refl s.heap.objs.size)
  have I1 := I.laid (a := s.heap.objs.size) (o := .dK []) (h' := s.heap.push { cls := .type "dict", data := .dict #[] }) (t' := s.toks) (fun _ _ q => Heap.get?_push_of_some _ q) (Nat.le_refl _) (dk_empty s.heap I.big)
  have hz := PySem.zip_pairTrees [some kx] [vx] X.env pos rfl rfl
  have h0 : pairTrees [some kx] [vx] X.env pos ≠ [] := fun z => by cases z
  have hl : (pairTrees [some kx] [vx] X.env pos).length = 1 := rfl
  rw [arm_eval_Dict, hz, dictDisplay_pairs _ h0 (by rw [hl]; decide)]
  refine wpAny_bind (wpAny_standAt (wpAny_bind (wpAny_subDictH (knd := nestedKind X.prog X.w) (Q := fun d s' => wpAny (model X.prog X.w) X.A (pure (Value.ref d)) (EP X pins σ Q) X.xe s') (show X.A.units + 8 < cLine by omega) (by rw [hl]; decide) ?_)))
  refine pairTrees_cons_walk (thn (hk.run pins _ σ _ _ I1 (q _ hn)) fun w1 s1 ⟨x, H1, I1, rx, q1⟩ => thn (hv.run pins s1 σ H1 _ I1 q1) fun w2 s2 ⟨y, H2, I2, ry, q2⟩ => pairTrees_nil_walk ?_)
  obtain ⟨e, k, b, rfl, hkey, q2⟩ := q2
  obtain ⟨b', e1, e2, hb⟩ := hkey.is I2 rx
  cases e2
  obtain ⟨_, hm, ys, pr, dd⟩ := NAt.of I2 (show NAt X.K X.w H2 s.heap.objs.size [] from ⟨.inr ⟨rfl, e⟩, fun x hx => nomatch hx⟩)
  cases pr
  refine ⟨[(k, b, w2)], ⟨e1, rfl, hb, trivial⟩, dd, fun h' tk dd' hs => wpAny_pure ?_⟩
  obtain ⟨o, g1, g2⟩ := NAt.new (xs := [(k, b, y)]) (by show 1 ≤ sizeLine; decide) hm (.cons ⟨rfl, rfl, ry⟩ .nil) dd'
  exact ⟨.ref s.heap.objs.size, _, d_write I2 (by rw [e]; exact True.intro) hs ⟨o, g1⟩ (g2 _), rfl, q2 o⟩
section
variable {L : Lk} {Pg : Pg} {C : Orc} {k : Nat} {W : WX} {sc : Scope} {fb : Str → Bool} {N : List Str} {X : Cx} {G F F' H H' : Hp} {ι ι' : List Addr} {env : Env} {μ μ' : Sto} {σ : L2.St} {pos pos2 apos : Pos}
/-- a dict that is asked, in its reading -/
theorem look_ok {d' q : D} {v y : V} {o : Option D} (hw : L.w = X.w) (sr : SR X.K L G F ι env μ σ H) (rd : RepB X.K L F ι H d' v) (rq : Rep X.K L F ι q y)
    (e : (∃ kvs, d' = .dct kvs ∧ dlook kvs q = some o) ∨ ∃ kvs, d' = .dcn kvs ∧ dlookN kvs q = some o) : ∃ a ov, v = .ref a ∧ XGet X H a y ov ∧ (∀ d, o = some d → ∃ w, ov = some w ∧ Rep X.K L F ι d w) ∧ (o = none → ov = none) := by
  rcases e with ⟨kvs, rfl, e⟩ | ⟨kvs, rfl, e⟩
  · obtain ⟨a, ks, rfl, ha, r⟩ := rd.dct sr
    rcases dlook_some e with ⟨kq, e2, rfl⟩ | ⟨kq, e0, e2, rfl⟩
    · cases keyD_rep e2 rq
      obtain ⟨h1, h2⟩ := r.get kq
      exact ⟨a, valV ks kq, rfl, .inl (DGet.k ha), fun d hd => h1 d hd, h2⟩
    · subst e0
      cases r
      exact ⟨a, none, rfl, .inr ⟨[], kq, NAt.empty ha, (RepB.of rq).nkey sr e2, rfl⟩, (fun d hd => nomatch hd), fun _ => rfl⟩
  · obtain ⟨kq, e2, rfl⟩ := Option.map_eq_some_iff.mp e
    obtain ⟨a, xs, rfl, ha, r⟩ := rd.nat hw sr
    obtain ⟨h1, h2⟩ := r.r.get kq
    exact ⟨a, valN xs kq, rfl, .inr ⟨xs, kq, ha, (RepB.of rq).nkey sr e2, rfl⟩, fun d hd => h1 d hd, h2⟩
theorem isDX_of {d' : D} {v : V} (hw : L.w = X.w) (sr : SR X.K L G F ι env μ σ H) (rd : RepB X.K L F ι H d' v) (e : (∃ kvs, d' = .dct kvs) ∨ ∃ kvs, d' = .dcn kvs) : ∃ a, v = .ref a ∧ IsDX X H a := by
  rcases e with ⟨kvs, rfl⟩ | ⟨kvs, rfl⟩
  · obtain ⟨a, ks, rfl, ha, r⟩ := rd.dct sr
    exact ⟨a, rfl, .inl (.inl ⟨ks, .inl ha⟩)⟩
  · obtain ⟨a, xs, rfl, ha, r⟩ := rd.nat hw sr
    exact ⟨a, rfl, .inr ⟨xs, ha⟩⟩
theorem isDic_some {d : D} (h : isDic d = true) : (∃ kvs, d = .dct kvs) ∨ ∃ kvs, d = .dcn kvs := by
  cases d <;> first | (cases h; done) | exact .inl ⟨_, rfl⟩ | exact .inr ⟨_, rfl⟩
/-- asked for its dict first: the evaluation is done only where it is one -/
theorem s_get1 {a q : E} {ax qx : Expr} {ap : Pos} (c : CtxE L Pg C k W sc fb N X) (hs : noSuper ax = true) (hn : noStar qx = true) (hl : (ap.endLine == pos.line) = true) (ha : PE X ax (tB X.K L Pg C W a)) (hq : PE X qx (tE X.K L Pg C W q)) :
    PE X (.Call (.Attribute ax "get" ap) [qx] [] pos) (tE X.K L Pg C W (.get1 a q)) := by
  have st : starEach [qx] X.env = [(false, eval qx X.env)] := starEach_cons hn
  refine (pe_get1X c.u66 ha hq ⟨attrBase hs, by rw [st]; rfl, hl, by rw [st]; rfl⟩).imp fun σ H Q qq => ?_
  obtain ⟨G, F, ι, env, μ, sr, h⟩ := qq
  unfold evE at h
  refine tB_go sr h fun d μ1 F1 ι1 H1 x t1 sr1 r1 h1 => ?_
  cases e0 : derefD μ1 d with
  | none => rw [e0] at h1; exact h1.elim
  | some d' =>
    rw [e0] at h1
    dsimp only at h1
    split at h1
    · rename_i hd
      obtain ⟨ad, rfl, hD⟩ := isDX_of c.lw sr1 ((r1.b sr1).deref sr1 e0) (isDic_some hd)
      refine ⟨ad, rfl, hD, tE_go sr1 (h1.exle t1) fun kd μ2 F2 ι2 H2 y t2 sr2 r2 h2 => ?_⟩
      obtain ⟨dz, e, hk⟩ := WpR.ofO.mp h2
      obtain ⟨d2, e1, e2⟩ := Option.bind_eq_some_iff.mp e
      have rx := ((r1.to t2).b sr2).deref sr2 e1
      have hk := okP.le (t1.trans t2) hk
      have key : ∃ o, ((∃ kvs, d2 = .dct kvs ∧ dlook kvs kd = some o) ∨ ∃ kvs, d2 = .dcn kvs ∧ dlookN kvs kd = some o) ∧ dz = o.getD .non := by
        cases d2 <;> simp only [opF2, reduceCtorEq] at e2
        · obtain ⟨o, e3, rfl⟩ := Option.map_eq_some_iff.mp e2; exact ⟨o, .inl ⟨_, rfl, e3⟩, rfl⟩
        · obtain ⟨o, e3, rfl⟩ := Option.map_eq_some_iff.mp e2; exact ⟨o, .inr ⟨_, rfl, e3⟩, rfl⟩
      obtain ⟨o, e3, rfl⟩ := key
      obtain ⟨a2, ov, e4, g, g1, g2⟩ := look_ok c.lw sr2 rx r2 e3
      cases e4
      refine ⟨ov, g, hk.here sr2 ?_⟩
      cases o with
      | none => rw [g2 rfl]; exact .non
      | some d3 => obtain ⟨w, rfl, rw'⟩ := g1 d3 rfl; exact rw'
    · exact h1.elim
theorem s_get3 {a q z : E} {ax qx zx : Expr} {ap : Pos} (c : CtxE L Pg C k W sc fb N X) (hs : noSuper ax = true) (hn : noStar qx = true) (hn2 : noStar zx = true) (hl : (ap.endLine == pos.line) = true) (ha : PE X ax (tB X.K L Pg C W a)) (hq : PE X qx (tE X.K L Pg C W q)) (hz : PE X zx (tE X.K L Pg C W z)) :
    PE X (.Call (.Attribute ax "get" ap) [qx, zx] [] pos) (tE X.K L Pg C W (.get3 a q z)) := by
  have st : starEach [qx, zx] X.env = [(false, eval qx X.env), (false, eval zx X.env)] := by rw [starEach_cons hn, starEach_cons hn2]; rfl
  refine (pe_get2X c.u66 ha hq hz ⟨attrBase hs, by rw [st]; rfl, hl, by rw [st]; rfl⟩).imp fun σ H Q qq => ?_
  obtain ⟨G, F, ι, env, μ, sr, h⟩ := qq
  unfold evE at h
  refine tB_go sr h fun d μ1 F1 ι1 H1 x t1 sr1 r1 h1 => ?_
  cases e0 : derefD μ1 d with
  | none => rw [e0] at h1; exact h1.elim
  | some d' =>
    rw [e0] at h1
    dsimp only at h1
    split at h1
    · rename_i hd
      obtain ⟨ad, rfl, hD⟩ := isDX_of c.lw sr1 ((r1.b sr1).deref sr1 e0) (isDic_some hd)
      refine ⟨ad, rfl, hD, tE_go sr1 (h1.exle t1) fun kd μ2 F2 ι2 H2 y t2 sr2 r2 h2 => tE_go sr2 (h2.exle t2) fun zd μ3 F3 ι3 H3 zv t3 sr3 r3 h3 => ?_⟩
      obtain ⟨dz, e, hk⟩ := WpR.ofO.mp h3
      obtain ⟨d2, e1, e2⟩ := Option.bind_eq_some_iff.mp e
      have rx := ((r1.to (t2.trans t3)).b sr3).deref sr3 e1
      have hk := okP.le ((t1.trans t2).trans t3) hk
      have key : ∃ o, ((∃ kvs, d2 = .dct kvs ∧ dlook kvs kd = some o) ∨ ∃ kvs, d2 = .dcn kvs ∧ dlookN kvs kd = some o) ∧ dz = o.getD zd := by
        cases d2 <;> simp only [get3D, reduceCtorEq] at e2
        · obtain ⟨o, e3, rfl⟩ := Option.map_eq_some_iff.mp e2; exact ⟨o, .inl ⟨_, rfl, e3⟩, rfl⟩
        · obtain ⟨o, e3, rfl⟩ := Option.map_eq_some_iff.mp e2; exact ⟨o, .inr ⟨_, rfl, e3⟩, rfl⟩
      obtain ⟨o, e3, rfl⟩ := key
      obtain ⟨a2, ov, e4, g, g1, g2⟩ := look_ok c.lw sr3 rx (r2.mono t3.f t3.i) e3
      cases e4
      refine ⟨ov, g, hk.here sr3 ?_⟩
      cases o with
      | none => rw [g2 rfl]; exact r3
      | some d3 => obtain ⟨w, rfl, rw'⟩ := g1 d3 rfl; exact rw'
    · exact h1.elim
/-- {k: v} -/
theorem s_dc1 {kk v : E} {kx vx : Expr} (c : CtxE L Pg C k W sc fb N X) (hk : PE X kx (tE X.K L Pg C W kk)) (hv : PE X vx (tE X.K L Pg C W v)) : PE X (.Dict [some kx] [vx] pos) (tN X.K L Pg C W (.dc1 kk v)) := by
  refine (pe_disp1 c.u66 hk hv).imp fun σ H Q q p hp => ?_
  obtain ⟨G, F, ι, env, μ, sr, h⟩ := q
  unfold evE at h
  have off := sr.off hp
  have sg := sr.guard (o := .dK []) hp
  have undo : ∀ {F' : Hp} {ι' : List Addr} {μ' : Sto} {H' : Hp}, SR X.K L (upd G p (.dK [])) F' ι' env μ' σ H' → H' p = some (.dK []) ∧ SR X.K L G F' ι' env μ' σ (era H' p) ∧ SR X.K L G F' ι' env μ' σ H' := fun {F' ι' μ' H'} s => by
    have hp' := s.g p _ upd_same
    have s3 := SR.erase off.g sr.sm s
    have s4 := s3.upd_off (o := .dK []) (s3.off era_same)
    have e5 : upd (era H' p) p (.dK []) = H' := by
      rw [upd_era]
      funext a
      by_cases ha : a = p
      · subst ha; rw [upd_same]; exact hp'.symm
      · rw [upd_ne ha]
    rw [e5] at s4
    exact ⟨hp', s3, s4⟩
  have exG : ∀ {F0 : Hp} {ι0 : List Addr} (x : Exn) (μ1 : Sto), To F ι F0 ι0 → exW X.K L W G F ι env σ x μ1 → exW X.K L W (upd G p (.dK [])) F0 ι0 env σ x μ1 := fun x μ1 t0 z F' ι' H' cls dx t s r => z F' ι' H' cls dx (t0.trans t) (undo s).2.2 r
  refine ⟨_, F, ι, env, μ, sg, (WpR.bind.mp h).mono (fun kd μ1 z F1 ι1 H1 y t1 s1 r1 => ?_) fun x μ1 z => exG x μ1 (To.refl _ _) z⟩
  refine ⟨_, F1, ι1, env, μ1, s1, (WpR.bind.mp z).mono (fun vd μ2 z2 F2 ι2 H2 w t2 s2 r2 => ?_) fun x μ1 z => exG x μ1 t1 z⟩
  obtain ⟨dz, e, hkk⟩ := WpR.ofO.mp z2
  obtain ⟨q, e2, rfl⟩ := Option.map_eq_some_iff.mp e
  obtain ⟨g1, s3, _⟩ := undo s2
  have r1' := r1.mono t2.f t2.i
  have hkey := (RepB.of (H := H2) r1').nkey s2 e2
  obtain ⟨k1, k2, b, rfl⟩ := hkey
  have hkey : NKey X.K H2 q (.ref b) := ⟨k1, k2, b, rfl⟩
  refine ⟨g1, q, b, rfl, hkey, fun ob => ?_⟩
  have hw := c.lw
  have := (show okN X.K L G F ι env σ Q (.dcn [(kd, vd)]) μ2 from hkk) F2 ι2 (era H2 p) (.dcn [(kd, vd)]) (DN ob L.w p [(q, b, w)]) p (t1.trans t2) s3 (.dcn (.cons e2 r1' r2 .nil)) rfl trivial era_same
  rw [upd_era, hw] at this
  exact this
end
end Lm
set_option Elab.async false
set_option linter.all false
set_option maxRecDepth 100000
set_option maxHeartbeats 1000000
namespace Lm
open PySem PySem.Spec PyProof.Rows L2
/-! ### a comprehension's slots -/
theorem wipe_len (σ : L2.St) (vs : List Nat) : (wipe σ vs).length = σ.length := wipe_length σ vs
theorem unAll_len (env : Env) : ∀ vs : List Nat, (unAll vs env).length = env.length
  | [] => rfl
  | v :: vs => by unfold unAll; rw [List.length_set, unAll_len env vs]
theorem wipe_get {σ : L2.St} {j : Nat} : ∀ {vs : List Nat}, (wipe σ vs)[j]? = if j ∈ vs then (if j < σ.length then some none else none) else σ[j]?
  | [] => by simp [wipe]
  | v :: vs => by
    unfold wipe
    rw [get_set, wipe_len, wipe_get (vs := vs)]
    by_cases h : v = j
    · subst h; simp
    · rw [if_neg h]
      have : (j ∈ v :: vs) = (j ∈ vs) := by simp [Ne.symm h]
      simp only [this]
theorem unAll_get {env : Env} {j : Nat} : ∀ {vs : List Nat}, (unAll vs env)[j]? = if j ∈ vs then (if j < env.length then some Sl.un else none) else env[j]?
  | [] => by simp [unAll]
  | v :: vs => by
    unfold unAll
    rw [get_set, unAll_len, unAll_get (vs := vs)]
    by_cases h : v = j
    · subst h; simp
    · rw [if_neg h]
      have : (j ∈ v :: vs) = (j ∈ vs) := by simp [Ne.symm h]
      simp only [this]
theorem wipe_eq {σ σ' : L2.St} {vs : List Nat} (hl : σ'.length = σ.length) (h : ∀ j, j ∉ vs → σ'[j]? = σ[j]?) : wipe σ' vs = wipe σ vs := by
  apply List.ext_getElem?
  intro j
  rw [wipe_get, wipe_get, hl]
  split
  · rfl
  · rename_i z; exact h j z
theorem unAll_eq {env env' : Env} {vs : List Nat} (hl : env'.length = env.length) (h : ∀ j, j ∉ vs → env'[j]? = env[j]?) : unAll vs env' = unAll vs env := by
  apply List.ext_getElem?
  intro j
  rw [unAll_get, unAll_get, hl]
  split
  · rfl
  · rename_i z; exact h j z
mutual
theorem setT_only : ∀ {t : Tgt} {d : D} {env env' : Env}, setT t d env = some env' → env'.length = env.length ∧ ∀ j, j ∉ slotsT t → env'[j]? = env[j]?
  | .nm i, d, env, env', e => by
    unfold setT at e
    cases e
    refine ⟨by simp, fun j hj => ?_⟩
    rw [get_set, if_neg]
    exact fun z => hj (by simp [slotsT, z])
  | .tp ts, d, env, env', e => by
    unfold setT at e
    cases d <;> first | (cases e; done) | skip
    rename_i ds
    have := setTs_only (show setTs ts ds env = some env' from e)
    simpa [slotsT] using this
theorem setTs_only : ∀ {ts : List Tgt} {ds : List D} {env env' : Env}, setTs ts ds env = some env' → env'.length = env.length ∧ ∀ j, j ∉ slotsTs ts → env'[j]? = env[j]?
  | [], [], env, env', e => by unfold setTs at e; cases e; exact ⟨rfl, fun _ _ => rfl⟩
  | [], _ :: _, env, env', e => by unfold setTs at e; cases e
  | _ :: _, [], env, env', e => by unfold setTs at e; cases e
  | t :: ts, d :: ds, env, env', e => by
    unfold setTs at e
    obtain ⟨env1, e1, e2⟩ := Option.bind_eq_some_iff.mp e
    obtain ⟨h1, h2⟩ := setT_only e1
    obtain ⟨h3, h4⟩ := setTs_only e2
    refine ⟨h3.trans h1, fun j hj => ?_⟩
    have : j ∉ slotsT t ∧ j ∉ slotsTs ts := by simpa [slotsTs, not_or] using hj
    exact (h4 j this.2).trans (h2 j this.1)
end
section
variable {K : PySem.W.Frag} {L : Lk} {G G' F F' H H' : Hp} {ι ι' : List Addr} {env : Env} {μ μ' : Sto} {σ : L2.St}
theorem SR.wipe (sr : SR K L G F ι env μ σ H) : ∀ vs : List Nat, SR K L G F ι (unAll vs env) μ (L2.wipe σ vs) H
  | [] => sr
  | v :: vs => (SR.wipe sr vs).setUn
theorem SR.unwipe {vs : List Nat} (sr0 : SR K L G F ι env μ σ H) (t : To F ι F' ι') (s2 : SR K L G' F' ι' (unAll vs env) μ' (L2.wipe σ vs) H') (hno : ∀ (i : Nat) (w : O), env[i]? = some (Sl.own w) → i ∉ vs) : SR K L G' F' ι' env μ' σ H' := by
  refine ⟨s2.f, s2.g, s2.gf, sr0.len, fun i d e => ?_, s2.il, s2.nd, s2.sto, fun i w e => ?_, sr0.owd, s2.sm, sr0.hx⟩
  · obtain ⟨v, h1, h2⟩ := sr0.val i d e
    exact ⟨v, h1, h2.mono t.f t.i⟩
  · have hi := hno i w e
    obtain ⟨a, ho, h1, h2⟩ := s2.own i w (by rw [unAll_get, if_neg hi]; exact e)
    rw [wipe_get, if_neg hi] at h1
    exact ⟨a, ho, h1, h2⟩
end
/-! ### the walk -/
def compF (P : Pg) (C : Orc) (t : Tgt) (conds : List E) (elt : E) : D → Env → Sto → Res (Option D) := fun x env μ => match setT t x (unAll (slotsT t) env) with
  | none => .bad
  | some env' => (noX (evAnd P C conds env' μ)).bind fun c μ' => match c with
    | .bl true => (noX (evE P C elt env' μ')).bind fun y μ'' => .ok (some y) μ''
    | .bl false => .ok none μ'
    | _ => .bad
theorem compF_noexn {P : Pg} {C : Orc} {t : Tgt} {conds : List E} {elt : E} {x : D} {env : Env} {μ : Sto} {z : Exn} {m : Sto} : compF P C t conds elt x env μ ≠ .exn z m := by
  intro h
  unfold compF at h
  split at h
  · cases h
  · rename_i env' _
    cases e : evAnd P C conds env' μ with
    | bad => rw [e] at h; cases h
    | exn _ _ => rw [e] at h; cases h
    | ok c m1 =>
      rw [e] at h
      simp only [noX, Res.bind] at h
      split at h
      · cases e2 : evE P C elt env' m1 with
        | bad => rw [e2] at h; cases h
        | exn _ _ => rw [e2] at h; cases h
        | ok y m2 => rw [e2] at h; cases h
      · cases h
      · cases h
theorem mapR_noexn {f : D → Env → Sto → Res (Option D)} (hf : ∀ x env μ z m, f x env μ ≠ .exn z m) : ∀ {xs : List D} {env : Env} {μ : Sto} {z : Exn} {m : Sto}, mapR f xs env μ ≠ .exn z m
  | [], env, μ, z, m => by unfold mapR; exact fun h => by cases h
  | x :: xs, env, μ, z, m => by
    unfold mapR
    intro h
    cases e : f x env μ with
    | bad => rw [e] at h; cases h
    | exn _ _ => exact hf _ _ _ _ _ e
    | ok y m1 =>
      rw [e] at h
      simp only [Res.bind] at h
      cases e2 : mapR f xs env m1 with
      | bad => rw [e2] at h; cases h
      | exn _ _ => exact mapR_noexn hf e2
      | ok ys m2 => rw [e2] at h; cases h
/-- one turn -/
theorem mapR_cons {f : D → Env → Sto → Res (Option D)} {x : D} {xs : List D} {env : Env} {μ μ2 : Sto} {ys : List D} (h : mapR f (x :: xs) env μ = .ok ys μ2) : ∃ o m1 zs, f x env μ = .ok o m1 ∧ mapR f xs env m1 = .ok zs μ2 ∧ ys = (match o with | some y => y :: zs | none => zs) := by
  unfold mapR at h
  cases e : f x env μ with
  | bad => rw [e] at h; cases h
  | exn _ _ => rw [e] at h; cases h
  | ok y m1 =>
    rw [e] at h
    simp only [Res.bind] at h
    cases e2 : mapR f xs env m1 with
    | bad => rw [e2] at h; cases h
    | exn _ _ => rw [e2] at h; cases h
    | ok zs m2 =>
      rw [e2] at h
      cases h
      exact ⟨y, m1, zs, rfl, e2, rfl⟩
/-- .. its parts -/
theorem compF_ok {P : Pg} {C : Orc} {t : Tgt} {conds : List E} {elt : E} {x : D} {env : Env} {μ m : Sto} {o : Option D} (h : compF P C t conds elt x env μ = .ok o m) :
    ∃ env', setT t x (unAll (slotsT t) env) = some env' ∧ ((o = none ∧ evAnd P C conds env' μ = .ok (.bl false) m) ∨ ∃ y m1, o = some y ∧ evAnd P C conds env' μ = .ok (.bl true) m1 ∧ evE P C elt env' m1 = .ok y m) := by
  unfold compF at h
  split at h
  · cases h
  · rename_i env' hs
    refine ⟨env', hs, ?_⟩
    cases e : evAnd P C conds env' μ with
    | bad => rw [e] at h; cases h
    | exn _ _ => rw [e] at h; cases h
    | ok c m1 =>
      rw [e] at h
      simp only [noX, Res.bind] at h
      split at h
      · cases e2 : evE P C elt env' m1 with
        | bad => rw [e2] at h; cases h
        | exn _ _ => rw [e2] at h; cases h
        | ok y m2 =>
          rw [e2] at h
          cases h
          exact .inr ⟨y, m1, rfl, rfl, e2⟩
      · cases h
        exact .inl ⟨rfl, rfl⟩
      · cases h
abbrev W0 : WX := fun _ _ _ _ => False
section
variable {L : Lk} {Pg : Pg} {C : Orc} {k : Nat} {W : WX} {sc : Scope} {fb : Str → Bool} {N : List Str} {X : Cx} {G F F' H H' : Hp} {ι ι' : List Addr} {env : Env} {μ μ' : Sto} {σ : L2.St} {pos pos2 apos : Pos}
theorem comp_go {elt : E} {t : Tgt} {it : Lm.It} {conds : List E} {Q : VK} (h : tN X.K L Pg C W (.comp elt t it conds) σ H Q) :
    tLc (tI X.K L Pg C W it) (tG X.K L t) (tTand X.K L Pg C W0 conds) (tE X.K L Pg C W0 elt) (slotsT t) σ H Q := by
  obtain ⟨G, F, ι, env, μ, sr, h⟩ := h
  unfold evE at h
  refine ⟨G, F, ι, env, μ, sr, (WpR.bind.mp h).mono (fun xs μ1 z F1 ι1 H1 J t1 sr1 dr D hD => ?_) fun _ _ z => z⟩
  split at z
  · exact z.elim
  rename_i hno
  have z : WpR ((mapR (compF Pg C t conds elt) xs env μ1).bind fun ys μ'' => if ys.length ≤ line then .ok (.lst ys) μ'' else .bad) (okN X.K L G F ι env σ Q) (exW X.K L W G F ι env σ) := z
  have hno : ∀ (i : Nat) (w : O), env[i]? = some (Sl.own w) → i ∉ slotsT t := fun i w e hi => hno (List.any_eq_true.mpr ⟨i, hi, by rw [e]⟩)
  obtain ⟨all, μf, hm, hz, hk⟩ : ∃ all μf, mapR (compF Pg C t conds elt) xs env μ1 = .ok all μf ∧ all.length ≤ line ∧ okN X.K L G F ι env σ Q (.lst all) μf := by
    cases e : mapR (compF Pg C t conds elt) xs env μ1 with
    | bad => rw [e] at z; exact z.elim
    | exn _ _ => exact absurd e (mapR_noexn fun _ _ _ _ _ => compF_noexn)
    | ok ys m =>
      rw [e] at z
      simp only [Res.bind] at z
      split at z
      · rename_i hz; exact ⟨ys, m, rfl, hz, z⟩
      · exact z.elim
  have offD := sr1.off hD
  generalize hvs : slotsT t = vs at hno
  refine ⟨fun i m H => m = xs.length - i ∧ i ≤ xs.length ∧ ∃ F2 ι2 μi acc av ys, To F1 ι1 F2 ι2 ∧ SR X.K L (upd G D (.lst av)) F2 ι2 (unAll vs env) μi (wipe σ vs) H ∧ Reps X.K L F2 ι2 acc av ∧ mapR (compF Pg C t conds elt) (xs.drop i) env μi = .ok ys μf ∧ acc ++ ys = all, ⟨xs.length, by simp, Nat.zero_le _, F1, ι1, μ1, [], [], all, To.refl _ _, (sr1.guard hD).wipe vs, .nil, by simpa using hm, by simp⟩, ?_⟩
  rintro i m H2 ⟨rfl, hi, F2, ι2, μi, acc, av, ys, t2, s2, racc, hm2, hall⟩
  have dr2 := dr.mono t2
  by_cases hlt : i < xs.length
  · refine .inr ⟨dr2.go i H2 s2.f hlt, fun H3 => ∃ F2 ι2 μi acc av ys, To F1 ι1 F2 ι2 ∧ SR X.K L (upd G D (.lst av)) F2 ι2 (unAll vs env) μi (wipe σ vs) H3 ∧ Reps X.K L F2 ι2 acc av ∧ mapR (compF Pg C t conds elt) (xs.drop (i + 1)) env μi = .ok ys μf ∧ acc ++ ys = all,
      fun H3 h3 => ⟨xs.length - (i + 1), by omega, rfl, hlt, h3⟩, fun x H3 hy => ?_⟩
    obtain ⟨d, F3, hd, t3, s3, rd⟩ := dr2.use s2 hlt hy
    have hdrop : xs.drop i = d :: xs.drop (i + 1) := by
      rw [List.drop_eq_getElem_cons hlt]
      rw [List.getElem?_eq_getElem hlt] at hd
      cases hd; rfl
    rw [hdrop] at hm2
    obtain ⟨o, m1, zs, hf, hm3, hys⟩ := mapR_cons hm2
    obtain ⟨env2, hset, hcase⟩ := compF_ok hf
    rw [hvs] at hset
    refine ⟨_, F3, ι2, unAll vs env, μi, d, env2, s3, rd, hset, fun σ2 s4 only => ?_⟩
    rw [hvs] at only
    have ew : wipe σ2 vs = wipe σ vs := wipe_eq (by rw [only.1, wipe_len]) fun j hj => by rw [only.2 j hj, wipe_get, if_neg hj]
    have ee : unAll vs env2 = unAll vs env := by
      have so := setT_only hset
      rw [hvs] at so
      exact unAll_eq (by rw [so.1, unAll_len]) fun j hj => by rw [so.2 j hj, unAll_get, if_neg hj]
    have nxt : ∀ {F5 : Hp} {ι5 : List Addr} {μ5 : Sto} {H5 : Hp}, SR X.K L (upd G D (.lst av)) F5 ι5 env2 μ5 σ2 H5 → SR X.K L (upd G D (.lst av)) F5 ι5 (unAll vs env) μ5 (wipe σ vs) H5 := fun s => by
      have := s.wipe vs
      rw [ee, ew] at this
      exact this
    rw [ew]
    refine ⟨by rw [wipe_eq (σ := wipe σ vs) (σ' := σ) (by rw [wipe_len]) fun j hj => by rw [wipe_get, if_neg hj]], ?_⟩
    rcases hcase with ⟨rfl, hand⟩ | ⟨y, m2, rfl, hand, helt⟩
    · refine ⟨_, F3, ι2, env2, μi, s4, ?_⟩
      rw [hand]
      refine ⟨false, rfl, fun F5 ι5 H5 t5 s5 => ?_⟩
      have hys : ys = zs := hys
      exact ⟨F5, ι5, m1, acc, av, zs, (t2.trans t3).trans t5, nxt s5, (racc.mono t3.f t3.i).mono t5.f t5.i, hm3, by rw [← hys]; exact hall⟩
    · have hys : ys = y :: zs := hys
      refine ⟨_, F3, ι2, env2, μi, s4, ?_⟩
      rw [hand]
      refine ⟨true, rfl, fun F5 ι5 H5 t5 s5 => ?_⟩
      show (if true = true then _ else _)
      rw [if_pos rfl]
      refine ⟨_, F5, ι5, env2, m2, s5, ?_⟩
      rw [helt]
      intro F6 ι6 H6 v t6 s6 rv
      refine ⟨av, s6.g D _ upd_same, ?_, F6, ι6, m1, acc ++ [y], av ++ [v], zs, ((t2.trans t3).trans t5).trans t6, ?_, (((racc.mono t3.f t3.i).mono t5.f t5.i).mono t6.f t6.i).append (.cons rv .nil), hm3, by rw [List.append_assoc, List.singleton_append, ← hys]; exact hall⟩
      · have e1 : (acc ++ y :: zs).length ≤ line := by rw [← hys, hall]; exact hz
        rw [← racc.len]
        rw [List.length_append, List.length_cons] at e1
        show acc.length < line
        omega
      · have s7 := SR.erase offD.g sr1.sm (nxt s6)
        have s8 := s7.guard (o := .lst (av ++ [v])) era_same
        rw [upd_era] at s8
        exact s8
  · have e : i = xs.length := by omega
    subst e
    refine .inl ⟨dr2.stop H2 s2.f, ?_⟩
    rw [List.drop_length] at hm2
    unfold mapR at hm2
    cases hm2
    rw [List.append_nil] at hall
    subst hall
    have s7 := sr1.unwipe t2 (SR.erase offD.g sr1.sm s2) hno
    have := hk F2 ι2 (era H2 D) (.lst acc) (.lst av) D (t1.trans t2) s7 (.lst racc) rfl trivial era_same
    rw [upd_era] at this
    have e5 : upd H2 D (.lst av) = H2 := by
      funext a
      by_cases ha : a = D
      · subst ha; rw [upd_same]; exact (s2.g a _ upd_same).symm
      · rw [upd_ne ha]
    rw [e5] at this
    exact this
/-! tests of a clause -/
theorem s_pts0 : PTs X [] (tTand X.K L Pg C W []) := ⟨fun pins s σ H Q I h => pts_nil.run pins s σ H Q I (by
  obtain ⟨G, F, ι, env, μ, sr, h⟩ := h
  unfold evAnd at h
  obtain ⟨b, e, hk⟩ := h
  cases e
  exact hk F ι H (To.refl _ _) sr)⟩
theorem s_pts1 {c : E} {cx : Expr} (hc : PT X cx (tT X.K L Pg C W c)) : PTs X [cx] (tTand X.K L Pg C W [c]) := ⟨fun pins s σ H Q I h => (pts_one hc).run pins s σ H Q I (by
  obtain ⟨G, F, ι, env, μ, sr, h⟩ := h
  unfold evAnd at h
  refine ⟨G, F, ι, env, μ, sr, (WpR.bind.mp h).mono (fun d μ' z => ?_) fun _ _ z => z⟩
  cases d <;> first | exact z.elim | skip
  rename_i kb
  cases kb with
  | true => unfold evAnd at z; exact z
  | false => exact z)⟩
end
end Lm
set_option Elab.async false
set_option linter.all false
set_option maxRecDepth 100000
set_option maxHeartbeats 1000000
namespace Lm
open PySem PySem.Spec PyProof.Rows L2
/-! ### does the text say what the term says? -/
def all2 {α β : Type} (f : α → β → Bool) : List α → List β → Bool
  | [], [] => true
  | a :: as, b :: bs => f a b && all2 f as bs
  | _, _ => false
def chkKs : List E → List (Option Expr) → Bool
  | [], [] => true
  | .lit d :: es, some (.Constant c _ _) :: xs => constOk d c && (keyD d).isSome && chkKs es xs
  | _, _ => false
def isLitS : E → Bool | .lit (.str _) => true | _ => false
def nameIs (x y : Str) : Bool := decide (x = y)
def notBin : E → Bool | .bin _ _ _ => false | _ => true
def tupleOf : Expr → Bool | .Tuple _ _ _ => true | _ => false
section
variable (L : Lk) (Pg : Pg) (N : List Str)
def chkTg : Nat → Scope → (Str → Bool) → Tgt → Expr → Bool
  | 0, _, _, _, _ => false
  | n + 1, sc, fb, t, ex => match t with
    | .nm i => (match ex with | .Name x _ => decide (N[i]? = some x) && locB sc x && (fb x || (match sc.names.lookup x with | some .local => true | _ => false)) | _ => false)
    | .tp ts => (match ex with | .Tuple es _ _ => es.all noStarT && all2 (chkTg n sc fb) ts es | _ => false)
def ownOf (vs : List Nat) : List (Str × Nat) := vs.map fun i => ((N[i]?).getD Str.empty, i)
def blkF (scope : Scope) : Str → Bool := fun x => scope.names.lookup x == some .cell
mutual
def chkE : Nat → Scope → (Str → Bool) → E → Expr → Bool
  | 0, _, _, _, _ => false
  | n + 1, sc, fb, e, ex => match e with
    | .var i => (match ex with | .Name x _ => decide (N[i]? = some x) && visB sc x && notDbg x | _ => false)
    | .lit d => (match ex with | .Constant c _ _ => constOk d c | _ => false)
    | .glob j => (match ex with | .Name x _ => decide (L.glN[j]? = some x) && gloB sc x && notDbg x | _ => false)
    | .tup es => (match ex with | .Tuple exs _ _ => exs.all noStar && all2 (chkE n sc fb) es exs | _ => false)
    | .lst _ => chkM n sc fb e ex
    | .dic _ _ => chkM n sc fb e ex
    | .comp _ _ _ _ => chkM n sc fb e ex
    | .bin o a b => (match ex with | .BinOp ax op bx _ => decide (op = opOf o) && chkE n sc fb a ax && chkE n sc fb b bx | _ => false)
    | .neg a => (match ex with | .UnaryOp .USub ax _ => chkE n sc fb a ax | _ => false)
    | .not a => (match ex with | .UnaryOp .Not ax _ => chkE n sc fb a ax | _ => false)
    | .cmp o a b => (match ex with
      | .Compare ax ops bxs _ => (match ops with
        | [op] => (match bxs with | [bx] => decide (op = copOf o) && notSet bx && chkE n sc fb a ax && chkE n sc fb b bx | _ => false)
        | _ => false)
      | _ => false)
    | .ocmp o a b => (match ex with
      | .Compare ax ops bxs _ => (match ops with
        | [op] => (match bxs with | [bx] => decide (op = ocOp o) && notSet bx && chkE n sc fb a ax && chkE n sc fb b bx | _ => false)
        | _ => false)
      | _ => false)
    | .chain o o' a b d => (match ex with
      | .Compare ax ops bxs _ => (match ops with
        | [op, op'] => (match bxs with | [bx, dx] => decide (op = copOf o) && decide (op' = copOf o') && notSet dx && chkE n sc fb a ax && chkE n sc fb b bx && chkE n sc fb d dx | _ => false)
        | _ => false)
      | _ => false)
    | .and es => (match ex with | .BoolOp .And exs _ => !exs.isEmpty && all2 (chkE n sc fb) es exs | _ => false)
    | .or es => (match ex with | .BoolOp .Or exs _ => !exs.isEmpty && all2 (chkE n sc fb) es exs | _ => false)
    | .ite c a b => (match ex with | .IfExp cx ax bx _ => chkT n sc fb c cx && chkE n sc fb a ax && chkE n sc fb b bx | _ => false)
    | .call f es => (match ex with
      | .Call (.Name x _) exs kws _ => decide (L.fnN[f]? = some x) && !nameIs x Str.empty && gloB sc x && notDbg x && exs.all noStar && kws.isEmpty && all2 (chkE n sc fb) es exs
      | _ => false)
    | .new cn es => (match ex with
      | .Call (.Name x _) exs kws _ => (match Pg.cls[cn]? with
        | some cl => if cl.kind.isExc then decide (L.clN[cn]? = some x) && gloB sc x && notDbg x && exs.all noStar && kws.isEmpty && (if exs.isEmpty then es.isEmpty && bareX Pg cn else !bareX Pg cn && (xNames L Pg cn).isSome && all2 (chkE n sc fb) es exs)
          else cl.init.isSome && !cl.kind.isExc && decide (L.clN[cn]? = some x) && gloB sc x && notDbg x && exs.all noStar && kws.isEmpty && !exs.isEmpty && all2 (chkE n sc fb) es exs
        | none => false)
      | _ => false)
    | .attr f a => (match ex with | .Attribute ax fx _ => decide (L.attr[f]? = some fx) && noSuper ax && chkE n sc fb a ax | _ => false)
    | .isi a ts => (match ts with
      | [t] => (match ex with
        | .Call (.Name x _) exs kws _ => (match exs with
          | [ax, .Name y _] => nameIs x "isinstance" && gloB sc x && gloB sc y && noStar ax && kws.isEmpty && (match t with
            | .own cn => decide (L.clN[cn]? = some y) && (isN Pg cn || isX Pg cn) && notDbg y
            | .exc en => excNmB en y
            | t => nameIs y (tyS t) && tyOk t) && chkE n sc fb a ax
          | _ => false)
        | _ => false)
      | _ => false)
    | .f1 b a => (match ex with
      | .Call (.Name x _) exs kws _ => (match exs with | [ax] => f1Ok b && nameIs x (f1Name b) && gloB sc x && noStar ax && kws.isEmpty && chkE n sc fb a ax | _ => false)
      | _ => false)
    | .f2 b a d => (match ex with
      | .Call (.Name x _) exs kws _ => (match exs with | [ax, dx] => f2Ok b && nameIs x (f2Name b) && gloB sc x && noStar ax && noStar dx && kws.isEmpty && chkE n sc fb a ax && chkE n sc fb d dx | _ => false)
      | _ => false)
    | .tx b a d => (match ex with
      | .Call (.Attribute ax m ap) exs kws cp => (match exs with | [dx] => f2m b && nameIs m (f2M b) && noSuper ax && noStar dx && kws.isEmpty && (ap.endLine == cp.line) && chkE n sc fb a ax && chkE n sc fb d dx | _ => false)
      | _ => false)
    | .get1 a q => (match ex with
      | .Call (.Attribute ax m ap) exs kws cp => (match exs with | [qx] => nameIs m "get" && noSuper ax && noStar qx && kws.isEmpty && (ap.endLine == cp.line) && chkE n sc fb a ax && chkE n sc fb q qx | _ => false)
      | _ => false)
    | .get3 a q z => (match ex with
      | .Call (.Attribute ax m ap) exs kws cp => (match exs with | [qx, zx] => nameIs m "get" && noSuper ax && noStar qx && noStar zx && kws.isEmpty && (ap.endLine == cp.line) && chkE n sc fb a ax && chkE n sc fb q qx && chkE n sc fb z zx | _ => false)
      | _ => false)
    | .dc1 _ _ => chkM n sc fb e ex
    | .idx a d => (match ex with | .Subscript ax dx _ => notSlice dx && chkE n sc fb a ax && chkE n sc fb d dx | _ => false)
    | .sli a lo hi => (match ex with
      | .Subscript ax (.Slice lx hx none _) _ => chkE n sc fb a ax && chkO n sc fb lo lx && chkO n sc fb hi hx
      | _ => false)
    | .rev a => (match ex with
      | .Subscript ax (.Slice none none st _) _ => (match st with | some (.UnaryOp .USub (.Constant (.int i) _ _) _) => decide (i = 1) && chkE n sc fb a ax | _ => false)
      | _ => false)
    | .alloc a => notBin a && chkM n sc fb a ex
    | .meth m o es => (match ex with
      | .Call (.Attribute ox x ap) exs kws cp => decide (L.attr[m]? = some x) && decide (m < 1000000) && (methC Pg m).isSome && noSuper ox && exs.all noStar && decide (exs.length ≤ 20) && (ap.endLine == cp.line) && kws.isEmpty && chkE n sc fb o ox && all2 (chkE n sc fb) es exs
      | .Call (.Name x _) exs kws _ => (match exs with
        | [ax] => kws.isEmpty && es.isEmpty && gloB sc x && noStar ax && chkE n sc fb o ax && ((nameIs x "len" && decide (m = 1000003)) || (nameIs x "str" && decide (m = 1000004)))
        | _ => false)
      | .Subscript ax bx _ => decide (m = 1000005) && notSlice bx && chkE n sc fb o ax && (match es with | [b] => chkE n sc fb b bx | _ => false)
      | _ => false)
    | .fstr es => (match ex with
      | .JoinedStr exs _ => decide (2 ≤ exs.length) && all2 (fun e ex => match ex with | .FormattedValue vx cv fs _ => decide (cv = -1) && fs.isNone && chkE n sc fb e vx | ex => isLitS e && chkE n sc fb e ex) es exs
      | _ => false)
    | _ => false
/-- an expression that makes a new object -/
def chkM : Nat → Scope → (Str → Bool) → E → Expr → Bool
  | 0, _, _, _, _ => false
  | n + 1, sc, fb, e, ex => match e with
    | .lst es => (match ex with | .List exs _ => exs.all noStar && all2 (chkE n sc fb) es exs | _ => false)
    | .dic ks vs => (match ex with | .Dict xs exs _ => chkKs ks xs && all2 (chkE n sc fb) vs exs && decide (ks.length = vs.length) && decide (ks.length ≤ 15) | _ => false)
    | .dc1 kk v => (match ex with
      | .Dict xs exs _ => (match xs with | [some kx] => (match exs with | [vx] => chkE n sc fb kk kx && chkE n sc fb v vx | _ => false) | _ => false)
      | _ => false)
    | .comp elt t it conds => (match ex with
      | .ListComp eltx gens scope _ => (match gens with
        | [⟨tg, iter, ifs, asy⟩] => decide (asy = 0) && notSet iter && blkC N sc scope (ownOf N (slotsT t)) && chkI n sc fb it tg iter && chkTg N n (relS scope sc) (blkF scope) t tg && chkE n (relS scope sc) (blkF scope) elt eltx &&
            (match conds with
            | [] => ifs.isEmpty
            | [c] => (match ifs with | [cx] => chkT n (relS scope sc) (blkF scope) c cx | _ => false)
            | _ => false)
        | _ => false)
      | _ => false)
    | .bin o a b => (match o with
      | .add => (match ex with | .BinOp ax op bx _ => decide (op = .Add) && chkE n sc fb a ax && chkE n sc fb b bx | _ => false)
      | .mul => (match ex with | .BinOp ax op bx _ => decide (op = .Mult) && chkE n sc fb a ax && chkE n sc fb b bx | _ => false)
      | _ => false)
    | _ => false
def chkO : Nat → Scope → (Str → Bool) → Option E → Option Expr → Bool
  | 0, _, _, _, _ => false
  | n + 1, sc, fb, o, ox => match o with
    | none => (match ox with | none => true | some _ => false)
    | some e => (match ox with | some ex => chkE n sc fb e ex | none => false)
/-- an expression that is asked for its truth -/
def chkT : Nat → Scope → (Str → Bool) → E → Expr → Bool
  | 0, _, _, _, _ => false
  | n + 1, sc, fb, e, ex => match e with
    | .not a => (match ex with | .UnaryOp .Not ax _ => chkT n sc fb a ax | _ => false)
    | .and es => (match ex with | .BoolOp .And exs _ => !exs.isEmpty && all2 (chkT n sc fb) es exs | _ => false)
    | .or es => (match ex with | .BoolOp .Or exs _ => !exs.isEmpty && all2 (chkT n sc fb) es exs | _ => false)
    | .cmp o a b => (match ex with
      | .Compare ax ops bxs _ => (match ops with
        | [op] => (match bxs with | [bx] => decide (op = copOf o) && notSet bx && chkE n sc fb a ax && chkE n sc fb b bx | _ => false)
        | _ => false)
      | _ => false)
    | .ocmp o a b => (match ex with
      | .Compare ax ops bxs _ => (match ops with
        | [op] => (match bxs with | [bx] => decide (op = ocOp o) && notSet bx && chkE n sc fb a ax && chkE n sc fb b bx | _ => false)
        | _ => false)
      | _ => false)
    | .chain o o' a b d => (match ex with
      | .Compare ax ops bxs _ => (match ops with
        | [op, op'] => (match bxs with | [bx, dx] => decide (op = copOf o) && decide (op' = copOf o') && notSet dx && chkE n sc fb a ax && chkE n sc fb b bx && chkE n sc fb d dx | _ => false)
        | _ => false)
      | _ => false)
    | e => plainT ex && chkE n sc fb e ex
/-- what is walked -/
def chkI : Nat → Scope → (Str → Bool) → It → Expr → Expr → Bool
  | 0, _, _, _, _, _ => false
  | n + 1, sc, fb, it, tg, ex => match it with
    | .seq e => chkE n sc fb e ex
    | .range es => (match ex with
      | .Call (.Name x _) exs kws _ => nameIs x "range" && gloB sc x && kws.isEmpty && exs.all noStar && (decide (exs.length = 1) || (decide (exs.length = 2) || decide (exs.length = 3))) && all2 (chkE n sc fb) es exs
      | _ => false)
    | .enum e => (match ex with
      | .Call (.Name x _) exs kws _ => (match exs with | [ax] => nameIs x "enumerate" && gloB sc x && kws.isEmpty && noStar ax && tupleOf tg && chkE n sc fb e ax | _ => false)
      | _ => false)
    | .zip e e2 => (match ex with
      | .Call (.Name x _) exs kws _ => (match exs with | [ax, bx] => nameIs x "zip" && gloB sc x && kws.isEmpty && noStar ax && noStar bx && tupleOf tg && chkE n sc fb e ax && chkE n sc fb e2 bx | _ => false)
      | _ => false)
end
end
end Lm
set_option Elab.async false
set_option linter.all false
set_option maxRecDepth 100000
set_option maxHeartbeats 1000000
namespace Lm
open PySem PySem.Spec PyProof.Rows L2
section
variable {L : Lk} {Pg : Pg} {C : Orc} {k : Nat} {W : WX} {sc : Scope} {fb : Str → Bool} {N : List Str} {X : Cx} {G F F' H H' : Hp} {ι ι' : List Addr} {env : Env} {μ μ' : Sto} {σ : L2.St} {pos pos2 apos : Pos}
theorem nameIs_eq {x y : Str} (h : nameIs x y = true) : x = y := of_decide_eq_true h
/-- a new object of the value -/
def tM (K : PySem.W.Frag) (L : Lk) (Pg : Lm.Pg) (C : Orc) (W : WX) (e : E) : TE := fun σ H Q => ∃ G F ι env μ, SR K L G F ι env μ σ H ∧ WpR (evE Pg C e env μ) (fun d μ' => (D.toO d).isSome = true ∧ okN K L G F ι env σ Q d μ') (exW K L W G F ι env σ)
theorem tM_tN {e : E} {ex : Expr} (h : PE X ex (tN X.K L Pg C W e)) : PE X ex (tM X.K L Pg C W e) := h.imp fun σ H Q q => by
  obtain ⟨G, F, ι, env, μ, sr, h⟩ := q
  exact ⟨G, F, ι, env, μ, sr, h.mono (fun _ _ z => z.2) fun _ _ z => z⟩
theorem WpR.eq {α : Type} {r : Res α} {p : α → Sto → Prop} {q : Exn → Sto → Prop} (h : WpR r p q) : WpR r (fun a μ => r = .ok a μ ∧ p a μ) q := by
  cases r with
  | ok a μ => exact ⟨rfl, h⟩
  | exn x μ => exact h
  | bad => exact h
theorem opB_lst {o : Bop} {x y d : D} (e : opB o x y = some d) (h : (D.toO d).isSome = true) : ∃ xs, d = .lst xs := by
  cases d <;> first | (cases h; done) | skip
  · exact ⟨_, rfl⟩
  all_goals
    exfalso
    cases o <;> cases x <;> cases y <;> simp only [opB, reduceCtorEq] at e <;> first | (cases e; done) | (split at e <;> cases e)
theorem bin_lst {o : Bop} {a b : E} {d : D} (e : evE Pg C (.bin o a b) env μ = .ok d μ') (h : (D.toO d).isSome = true) : ∃ xs, d = .lst xs := by
  unfold evE at e
  cases e1 : evB Pg C a env μ with
  | bad => rw [e1] at e; cases e
  | exn _ _ => rw [e1] at e; cases e
  | ok x m =>
    rw [e1] at e
    simp only [Res.bind] at e
    cases e2 : evB Pg C b env m with
    | bad => rw [e2] at e; cases e
    | exn _ _ => rw [e2] at e; cases e
    | ok y m2 =>
      rw [e2] at e
      simp only [ofO] at e
      cases e3 : opB o x y with
      | none => rw [e3] at e; cases e
      | some z => rw [e3] at e; cases e; exact opB_lst e3 h
theorem s_binM {o : Bop} {a b : E} {ax bx : Expr} (ho : o = .add ∨ o = .mul) (ha : PE X ax (tB X.K L Pg C W a)) (hb : PE X bx (tB X.K L Pg C W b)) : PE X (.BinOp ax (opOf o) bx pos) (tM X.K L Pg C W (.bin o a b)) :=
  (s_binN ho ha hb).imp fun σ H Q q => by
    obtain ⟨G, F, ι, env, μ, sr, h⟩ := q
    exact ⟨G, F, ι, env, μ, sr, h.eq.mono (fun d μ' z => ⟨bin_lst z.1 z.2.1, z.2.2⟩) fun _ _ z => z⟩
theorem all2_pes {f : E → Expr → Bool} (hf : ∀ e ex, f e ex = true → PE X ex (tE X.K L Pg C W e)) : ∀ {es : List E} {exs : List Expr}, all2 f es exs = true → PEs X L Pg C W es exs
  | [], [], _ => .nil
  | [], _ :: _, h => by cases h
  | _ :: _, [], h => by cases h
  | e :: es, ex :: exs, h => by
    unfold all2 at h
    rw [Bool.and_eq_true] at h
    exact .cons (hf e ex h.1) (all2_pes hf h.2)
theorem fps_of {f : E → Expr → Bool} (hf : ∀ e ex, f e ex = true → PE X ex (tE X.K L Pg C W e)) : ∀ {es : List E} {exs : List Expr}, all2 (fun e ex => match ex with | .FormattedValue vx cv fs _ => decide (cv = -1) && fs.isNone && f e vx | ex => isLitS e && f e ex) es exs = true → FPs X L Pg C W es exs
  | [], [], _ => .nil
  | [], _ :: _, h => by cases h
  | _ :: _, [], h => by cases h
  | e :: es, ex :: exs, h => by
    unfold all2 at h
    rw [Bool.and_eq_true] at h
    have r := fps_of hf h.2
    have h1 := h.1
    split at h1
    · simp only [Bool.and_eq_true, decide_eq_true_eq] at h1
      obtain ⟨⟨rfl, h2⟩, h3⟩ := h1
      rename_i fs _
      cases fs with
      | none => exact .fmt (hf _ _ h3) r
      | some _ => cases h2
    · rw [Bool.and_eq_true] at h1
      cases e <;> simp only [isLitS, Bool.false_eq_true, false_and] at h1
      rename_i d
      cases d <;> simp only [isLitS, Bool.false_eq_true, false_and] at h1
      exact .con (hf _ _ h1.2) r
theorem chkKs_ok : ∀ {ks : List E} {xs : List (Option Expr)}, chkKs ks xs = true → ∃ ds, ks = ds.map E.lit ∧ PKs ds xs := by
  intro ks
  induction ks with
  | nil =>
    intro xs h
    cases xs with
    | nil => exact ⟨[], rfl, .nil⟩
    | cons _ _ => simp only [chkKs] at h; cases h
  | cons e es ih =>
    intro xs h
    have key : ∀ (d : D) (c : Const) (j : Nat) (p : Pos) (xs' : List (Option Expr)), e = .lit d → xs = some (.Constant c j p) :: xs' → ∃ ds, e :: es = List.map E.lit ds ∧ PKs ds xs := by
      rintro d c j p xs' rfl rfl
      have h : (constOk d c && (keyD d).isSome && chkKs es xs') = true := h
      simp only [Bool.and_eq_true] at h
      obtain ⟨ds, rfl, hk⟩ := ih h.2
      exact ⟨d :: ds, rfl, .cons h.1.1 h.1.2 hk⟩
    cases xs with
    | nil => cases e <;> cases h
    | cons x xs =>
      cases x with
      | none => cases e <;> cases h
      | some ex =>
        cases ex with
        | Constant c j p => cases e with
          | lit d => exact key d c j p xs rfl rfl
          | _ => cases h
        | _ => cases e <;> cases h
theorem CtxE.blk {s : Shared} {scope : Scope} {cl : List (Str × Addr)} {Cc : Addr} {fp : List Addr} (c : CtxE L Pg C k W sc fb N X) : CtxE L Pg C k W0 (relS scope sc) (blkF scope) N (X.blk s H scope (compEnvC scope cl Cc X.env) fp) where
  calm := c.calm
  n := c.n
  nd := c.nd
  room := c.room
  quiet := c.quiet
  sce := by
    have := c.sce
    subst this
    rfl
  fb := fun x h => h
  tk := fun u s' x => by
    obtain ⟨_, _, _, _, _, _, _, _, _, _, _, _, _, _, _, _, no⟩ := x
    exact no.elim
  calls := c.calls
  excs := c.excs
  k1 := c.k1
  link := c.link
  lw := c.lw
theorem chkTg_ok : ∀ (n : Nat) {X : Cx} {W : WX} {sc : Scope} {fb : Str → Bool} {t : Tgt} {ex : Expr}, CtxE L Pg C k W sc fb N X → chkTg N n sc fb t ex = true → PG X ex (tG X.K L t)
  | 0, _, _, _, _, _, _, _, h => by cases h
  | n + 1, X, W, sc, fb, t, ex, c, h => by
    unfold chkTg at h
    cases t with
    | nm i =>
      dsimp only at h
      split at h
      · simp only [Bool.and_eq_true, decide_eq_true_eq] at h
        exact s_tnm c h.1.1 h.1.2 h.2
      · cases h
    | tp ts =>
      dsimp only at h
      split at h
      · rename_i es kk pos
        rw [Bool.and_eq_true] at h
        have go : ∀ {ts : List Tgt} {es : List Expr}, es.all noStarT = true → all2 (chkTg N n sc fb) ts es = true → PGs X es (tGs X.K L ts) ∧ ts.length = es.length := by
          intro ts
          induction ts with
          | nil => intro es h1 h2; cases es with | nil => exact ⟨s_tnil, rfl⟩ | cons _ _ => cases h2
          | cons t ts ih =>
            intro es h1 h2
            cases es with
            | nil => cases h2
            | cons e es =>
              unfold all2 at h2
              rw [Bool.and_eq_true] at h2
              rw [List.all_cons, Bool.and_eq_true] at h1
              obtain ⟨g1, g2⟩ := ih h1.2 h2.2
              exact ⟨s_tcons h1.1 (chkTg_ok n c h2.1) g1, congrArg (· + 1) g2⟩
        obtain ⟨g1, g2⟩ := go h.1 h.2
        exact s_ttp c.calm g2 h.1 g1
      · cases h
/-- the rules at so many steps -/
structure SndAt (L : Lk) (Pg : Lm.Pg) (C : Orc) (k : Nat) (N : List Str) (n : Nat) : Prop where
  e : ∀ {X : Cx} {W : WX} {sc : Scope} {fb : Str → Bool} {e : E} {ex : Expr}, CtxE L Pg C k W sc fb N X → chkE L Pg N n sc fb e ex = true → PE X ex (tE X.K L Pg C W e)
  m : ∀ {X : Cx} {W : WX} {sc : Scope} {fb : Str → Bool} {e : E} {ex : Expr}, CtxE L Pg C k W sc fb N X → chkM L Pg N n sc fb e ex = true → PE X ex (tM X.K L Pg C W e) ∧ (notBin e = true → PE X ex (tN X.K L Pg C W e))
  o : ∀ {X : Cx} {W : WX} {sc : Scope} {fb : Str → Bool} {e : Option E} {ex : Option Expr}, CtxE L Pg C k W sc fb N X → chkO L Pg N n sc fb e ex = true → PO X ex (tO X.K L Pg C W e)
  t : ∀ {X : Cx} {W : WX} {sc : Scope} {fb : Str → Bool} {e : E} {ex : Expr}, CtxE L Pg C k W sc fb N X → chkT L Pg N n sc fb e ex = true → PT X ex (tT X.K L Pg C W e)
  i : ∀ {X : Cx} {W : WX} {sc : Scope} {fb : Str → Bool} {it : Lm.It} {tg ex : Expr}, CtxE L Pg C k W sc fb N X → chkI L Pg N n sc fb it tg ex = true → PI X tg ex (tI X.K L Pg C W it)
theorem var_of {n : Nat} {i : Nat} {ex : Expr} (c : CtxE L Pg C k W sc fb N X) (h : chkE L Pg N n sc fb (.var i) ex = true) : PE X ex (tVar i) := by
  cases n with
  | zero => cases h
  | succ n =>
    unfold chkE at h
    dsimp only at h
    split at h
    · simp only [Bool.and_eq_true, decide_eq_true_eq] at h
      exact s_var c h.1.1 h.1.2 h.2
    · cases h
theorem SndAt.b {n : Nat} (S : SndAt L Pg C k N n) {e : E} {ex : Expr} (c : CtxE L Pg C k W sc fb N X) (h : chkE L Pg N n sc fb e ex = true) : PE X ex (tB X.K L Pg C W e) := by
  by_cases hv : ∃ i, e = .var i
  · obtain ⟨i, rfl⟩ := hv
    exact (var_of c h).imp fun σ H Q q => tB_var q
  · exact both_of (S.e c h) fun i z => hv ⟨i, z⟩
theorem SndAt.and {n : Nat} (S : SndAt L Pg C k N n) (c : CtxE L Pg C k W sc fb N X) : ∀ {es : List E} {exs : List Expr}, exs ≠ [] → all2 (chkE L Pg N n sc fb) es exs = true → PE X (.BoolOp .And exs pos) (tEand X.K L Pg C W es)
  | [], [], h, _ => absurd rfl h
  | [], _ :: _, _, h => by cases h
  | _ :: _, [], h, _ => absurd rfl h
  | [e], [ex], _, h => by
    unfold all2 at h; rw [Bool.and_eq_true] at h
    exact s_and1 (S.e c h.1)
  | [e], ex :: ex2 :: exs, _, h => by
    unfold all2 at h; rw [Bool.and_eq_true] at h; cases h.2
  | e :: e2 :: es, [ex], _, h => by
    unfold all2 at h; rw [Bool.and_eq_true] at h; cases h.2
  | e :: e2 :: es, ex :: ex2 :: exs, _, h => by
    unfold all2 at h; rw [Bool.and_eq_true] at h
    exact s_andC (S.e c h.1) (S.and c (by simp) h.2)
theorem SndAt.or {n : Nat} (S : SndAt L Pg C k N n) (c : CtxE L Pg C k W sc fb N X) : ∀ {es : List E} {exs : List Expr}, exs ≠ [] → all2 (chkE L Pg N n sc fb) es exs = true → PE X (.BoolOp .Or exs pos) (tEor X.K L Pg C W es)
  | [], [], h, _ => absurd rfl h
  | [], _ :: _, _, h => by cases h
  | _ :: _, [], h, _ => absurd rfl h
  | [e], [ex], _, h => by
    unfold all2 at h; rw [Bool.and_eq_true] at h
    exact s_or1 (S.e c h.1)
  | [e], ex :: ex2 :: exs, _, h => by
    unfold all2 at h; rw [Bool.and_eq_true] at h; cases h.2
  | e :: e2 :: es, [ex], _, h => by
    unfold all2 at h; rw [Bool.and_eq_true] at h; cases h.2
  | e :: e2 :: es, ex :: ex2 :: exs, _, h => by
    unfold all2 at h; rw [Bool.and_eq_true] at h
    exact s_orC (S.e c h.1) (S.or c (by simp) h.2)
theorem SndAt.andT {n : Nat} (S : SndAt L Pg C k N n) (c : CtxE L Pg C k W sc fb N X) : ∀ {es : List E} {exs : List Expr}, exs ≠ [] → all2 (chkT L Pg N n sc fb) es exs = true → PW X (.BoolOp .And exs pos) (tTand X.K L Pg C W es)
  | [], [], h, _ => absurd rfl h
  | [], _ :: _, _, h => by cases h
  | _ :: _, [], h, _ => absurd rfl h
  | [e], [ex], _, h => by
    unfold all2 at h; rw [Bool.and_eq_true] at h
    exact s_and1T (S.t c h.1)
  | [e], ex :: ex2 :: exs, _, h => by
    unfold all2 at h; rw [Bool.and_eq_true] at h; cases h.2
  | e :: e2 :: es, [ex], _, h => by
    unfold all2 at h; rw [Bool.and_eq_true] at h; cases h.2
  | e :: e2 :: es, ex :: ex2 :: exs, _, h => by
    unfold all2 at h; rw [Bool.and_eq_true] at h
    exact s_andCT (S.t c h.1) (S.andT c (by simp) h.2)
theorem SndAt.orT {n : Nat} (S : SndAt L Pg C k N n) (c : CtxE L Pg C k W sc fb N X) : ∀ {es : List E} {exs : List Expr}, exs ≠ [] → all2 (chkT L Pg N n sc fb) es exs = true → PW X (.BoolOp .Or exs pos) (tTor X.K L Pg C W es)
  | [], [], h, _ => absurd rfl h
  | [], _ :: _, _, h => by cases h
  | _ :: _, [], h, _ => absurd rfl h
  | [e], [ex], _, h => by
    unfold all2 at h; rw [Bool.and_eq_true] at h
    exact s_or1T (S.t c h.1)
  | [e], ex :: ex2 :: exs, _, h => by
    unfold all2 at h; rw [Bool.and_eq_true] at h; cases h.2
  | e :: e2 :: es, [ex], _, h => by
    unfold all2 at h; rw [Bool.and_eq_true] at h; cases h.2
  | e :: e2 :: es, ex :: ex2 :: exs, _, h => by
    unfold all2 at h; rw [Bool.and_eq_true] at h
    exact s_orCT (S.t c h.1) (S.orT c (by simp) h.2)
theorem nameIs_ne {x y : Str} (h : nameIs x y = false) : x ≠ y := of_decide_eq_false h
theorem isE_ne {α : Type} {l : List α} (h : (!l.isEmpty) = true) : l ≠ [] := by cases l <;> first | (cases h; done) | simp
theorem isE_nil {α : Type} {l : List α} (h : l.isEmpty = true) : l = [] := by cases l <;> first | rfl | cases h
end
end Lm
set_option Elab.async false
set_option linter.all false
set_option maxRecDepth 100000
set_option maxHeartbeats 2000000
namespace Lm
open PySem PySem.Spec PyProof.Rows L2
section
variable {L : Lk} {Pg : Pg} {C : Orc} {k : Nat} {N : List Str}
theorem tEand_tE {X : Cx} {W : WX} {es : List E} {σ : L2.St} {H : Hp} {Q : VK} (h : tE X.K L Pg C W (.and es) σ H Q) : tEand X.K L Pg C W es σ H Q := by
  obtain ⟨G, F, ι, env, μ, sr, h⟩ := h
  unfold evE at h
  exact ⟨G, F, ι, env, μ, sr, h⟩
theorem tEor_tE {X : Cx} {W : WX} {es : List E} {σ : L2.St} {H : Hp} {Q : VK} (h : tE X.K L Pg C W (.or es) σ H Q) : tEor X.K L Pg C W es σ H Q := by
  obtain ⟨G, F, ι, env, μ, sr, h⟩ := h
  unfold evE at h
  exact ⟨G, F, ι, env, μ, sr, h⟩
theorem tTand_tT {X : Cx} {W : WX} {es : List E} {σ : L2.St} {H : Hp} {Q : Bool → Hp → Prop} (h : tT X.K L Pg C W (.and es) σ H Q) : tTand X.K L Pg C W es σ H Q := by
  obtain ⟨G, F, ι, env, μ, sr, h⟩ := h
  unfold evE at h
  exact ⟨G, F, ι, env, μ, sr, h⟩
theorem tTor_tT {X : Cx} {W : WX} {es : List E} {σ : L2.St} {H : Hp} {Q : Bool → Hp → Prop} (h : tT X.K L Pg C W (.or es) σ H Q) : tTor X.K L Pg C W es σ H Q := by
  obtain ⟨G, F, ι, env, μ, sr, h⟩ := h
  unfold evE at h
  exact ⟨G, F, ι, env, μ, sr, h⟩
theorem snd_m {n : Nat} (S : SndAt L Pg C k N n) {X : Cx} {W : WX} {sc : Scope} {fb : Str → Bool} {e : E} {ex : Expr} (c : CtxE L Pg C k W sc fb N X) (h : chkM L Pg N (n + 1) sc fb e ex = true) :
    PE X ex (tM X.K L Pg C W e) ∧ (notBin e = true → PE X ex (tN X.K L Pg C W e)) := by
  have both : PE X ex (tN X.K L Pg C W e) → PE X ex (tM X.K L Pg C W e) ∧ (notBin e = true → PE X ex (tN X.K L Pg C W e)) := fun h => ⟨tM_tN h, fun _ => h⟩
  unfold chkM at h
  cases e <;> dsimp only at h <;> first | (cases h; done) | skip
  case lst es =>
    split at h
    · rw [Bool.and_eq_true] at h
      exact both (s_lstN ((all2_pes (fun e ex => S.e c) h.2).pa h.1))
    · cases h
  case dic ks vs =>
    split at h
    · simp only [Bool.and_eq_true, decide_eq_true_eq] at h
      obtain ⟨ds, rfl, hk⟩ := chkKs_ok h.1.1.1
      have h1 := h.1.2
      have h2 := h.2
      rw [List.length_map] at h1 h2
      exact both (s_dicN hk (all2_pes (fun e ex => S.e c) h.1.1.2) h1 h2)
    · cases h
  case dc1 kk v =>
    split at h
    · split at h
      · split at h
        · rw [Bool.and_eq_true] at h
          exact both (s_dc1 c (S.e c h.1) (S.e c h.2))
        · cases h
      · cases h
    · cases h
  case bin o a b =>
    cases o <;> dsimp only at h <;> first | (cases h; done) | skip
    · split at h
      · simp only [Bool.and_eq_true, decide_eq_true_eq] at h
        obtain ⟨⟨rfl, h1⟩, h2⟩ := h
        exact ⟨s_binM (o := .add) (.inl rfl) (S.b c h1) (S.b c h2), fun z => by cases z⟩
      · cases h
    · split at h
      · simp only [Bool.and_eq_true, decide_eq_true_eq] at h
        obtain ⟨⟨rfl, h1⟩, h2⟩ := h
        exact ⟨s_binM (o := .mul) (.inr rfl) (S.b c h1) (S.b c h2), fun z => by cases z⟩
      · cases h
  case comp elt t it conds =>
    split at h
    · rename_i eltx gens scope pos
      split at h
      · rename_i tg iter ifs asy
        simp only [Bool.and_eq_true, decide_eq_true_eq] at h
        obtain ⟨⟨⟨⟨⟨⟨rfl, h1⟩, h2⟩, h3⟩, h4⟩, h5⟩, h6⟩ := h
        have ok : BlkOk X.N X.env.scope scope (ownOf N (slotsT t)) := by rw [c.n, c.sce]; exact blkOk_by h2
        have hown : (ownOf N (slotsT t)).map (·.2) = slotsT t := by unfold ownOf; rw [List.map_map]; exact List.map_id _
        have hts : ∀ (s : Shared) (H : Hp) (Cc : Addr) (cl : List (Str × Addr)) (fp : List Addr), PTs (X.blk s H scope (compEnvC scope cl Cc X.env) fp) ifs (tTand X.K L Pg C W0 conds) := by
          intro s H Cc cl fp
          cases conds with
          | nil => dsimp only at h6; rw [isE_nil h6]; exact s_pts0 (X := X.blk s H scope (compEnvC scope cl Cc X.env) fp)
          | cons cd cs =>
            cases cs with
            | nil =>
              dsimp only at h6
              split at h6
              · exact s_pts1 (X := X.blk s H scope (compEnvC scope cl Cc X.env) fp) (S.t c.blk h6)
              · cases h6
            | cons _ _ => cases h6
        have pl := pe_lc (own := ownOf N (slotsT t)) (pos := pos) (g := tG X.K L t) (tt := tTand X.K L Pg C W0 conds) (te := tE X.K L Pg C W0 elt) c.calm (by rw [c.n]; exact c.nd) (S.i c h3) ok (fun s H Cc cl fp => chkTg_ok n (c.blk (s := s) (H := H) (cl := cl) (Cc := Cc) (fp := fp)) h4) hts
          (fun s H Cc cl fp => S.e (c.blk (s := s) (H := H) (cl := cl) (Cc := Cc) (fp := fp)) h5) (by intro x; cases iter <;> first | rfl | cases h1)
        rw [hown] at pl
        exact both (pl.imp fun σ H Q q => comp_go q)
      · cases h
    · cases h
theorem s_range {n : Nat} (S : SndAt L Pg C k N n) {X : Cx} {W : WX} {sc : Scope} {fb : Str → Bool} {tg : Expr} {p pos : Pos} (c : CtxE L Pg C k W sc fb N X) (hg : gloB sc "range" = true) : ∀ {es : List E} {exs : List Expr}, exs.all noStar = true → (exs.length = 1 ∨ (exs.length = 2 ∨ exs.length = 3)) → all2 (chkE L Pg N n sc fb) es exs = true → PI X tg (.Call (.Name "range" p) exs [] pos) (tI X.K L Pg C W (.range es))
  | [a], [ax], h4, h5, h6 => by
    simp only [all2, Bool.and_eq_true] at h6
    simp only [List.all_cons, Bool.and_eq_true] at h4
    exact s_range1 c hg h4.1 (S.e c h6.1)
  | [a, b], [ax, bx], h4, h5, h6 => by
    simp only [all2, Bool.and_eq_true] at h6
    simp only [List.all_cons, Bool.and_eq_true] at h4
    exact s_range2 c hg h4.1 h4.2.1 (S.e c h6.1) (S.e c h6.2.1)
  | _, [], _, h5, _ => by simp at h5
  | [a, b, d], [ax, bx, dx], h4, h5, h6 => by
    simp only [all2, Bool.and_eq_true] at h6
    simp only [List.all_cons, Bool.and_eq_true] at h4
    exact s_range3 c hg h4.1 h4.2.1 h4.2.2.1 (S.e c h6.1) (S.e c h6.2.1) (S.e c h6.2.2.1)
  | _, _ :: _ :: _ :: _ :: _, _, h5, _ => by simp at h5
  | [], [_], _, _, h6 => by cases h6
  | _ :: _ :: _, [_], _, _, h6 => by simp [all2] at h6
  | [], [_, _, _], _, _, h6 => by cases h6
  | [_], [_, _, _], _, _, h6 => by simp [all2] at h6
  | [_, _], [_, _, _], _, _, h6 => by simp [all2] at h6
  | _ :: _ :: _ :: _ :: _, [_, _, _], _, _, h6 => by simp [all2] at h6
  | [], [_, _], _, _, h6 => by cases h6
  | [_], [_, _], _, _, h6 => by simp [all2] at h6
  | _ :: _ :: _ :: _, [_, _], _, _, h6 => by simp [all2] at h6
theorem snd_i {n : Nat} (S : SndAt L Pg C k N n) {X : Cx} {W : WX} {sc : Scope} {fb : Str → Bool} {it : Lm.It} {tg ex : Expr} (c : CtxE L Pg C k W sc fb N X) (h : chkI L Pg N (n + 1) sc fb it tg ex = true) : PI X tg ex (tI X.K L Pg C W it) := by
  unfold chkI at h
  cases it <;> dsimp only at h
  case seq e => exact s_seq c.lw (S.e c h)
  case range es =>
    split at h
    · simp only [Bool.and_eq_true, Bool.or_eq_true, decide_eq_true_eq] at h
      obtain ⟨⟨⟨⟨⟨h1, h2⟩, h3⟩, h4⟩, h5⟩, h6⟩ := h
      cases nameIs_eq h1
      rw [isE_nil h3]
      exact s_range S c h2 h4 h5 h6
    · cases h
  case enum e =>
    split at h
    · split at h
      · simp only [Bool.and_eq_true] at h
        obtain ⟨⟨⟨⟨⟨h1, h2⟩, h3⟩, h4⟩, h5⟩, h6⟩ := h
        cases nameIs_eq h1
        rw [isE_nil h3]
        cases tg <;> first | (cases h5; done) | exact s_enum c h2 h4 (S.e c h6)
      · cases h
    · cases h
  case zip e e2 =>
    split at h
    · split at h
      · simp only [Bool.and_eq_true] at h
        obtain ⟨⟨⟨⟨⟨⟨⟨h1, h2⟩, h3⟩, h4⟩, h4'⟩, h5⟩, h6⟩, h7⟩ := h
        cases nameIs_eq h1
        rw [isE_nil h3]
        cases tg <;> first | (cases h5; done) | exact s_zip c h2 h4 h4' (S.e c h6) (S.e c h7)
      · cases h
    · cases h
theorem snd_t {n : Nat} (S : SndAt L Pg C k N n) {X : Cx} {W : WX} {sc : Scope} {fb : Str → Bool} {e : E} {ex : Expr} (c : CtxE L Pg C k W sc fb N X) (h : chkT L Pg N (n + 1) sc fb e ex = true) : PT X ex (tT X.K L Pg C W e) := by
  have plain : (plainT ex && chkE L Pg N n sc fb e ex) = true → PT X ex (tT X.K L Pg C W e) := fun h => by
    rw [Bool.and_eq_true] at h
    exact s_valT h.1 (S.e c h.2)
  unfold chkT at h
  cases e <;> dsimp only at h <;> first | exact plain h | skip
  case not a =>
    split at h
    · exact s_notT (S.t c h)
    · cases h
  case and es =>
    split at h
    · rw [Bool.and_eq_true] at h
      exact ((S.andT c (isE_ne h.1) h.2).pt).imp fun σ H Q q => tTand_tT q
    · cases h
  case or es =>
    split at h
    · rw [Bool.and_eq_true] at h
      exact ((S.orT c (isE_ne h.1) h.2).pt).imp fun σ H Q q => tTor_tT q
    · cases h
  case cmp o a b =>
    split at h
    · split at h
      · split at h
        · simp only [Bool.and_eq_true, decide_eq_true_eq] at h
          obtain ⟨⟨⟨rfl, h1⟩, h2⟩, h3⟩ := h
          exact s_cmpT c h1 (S.b c h2) (S.b c h3)
        · cases h
      · cases h
    · cases h
  case ocmp o a b =>
    split at h
    · split at h
      · split at h
        · simp only [Bool.and_eq_true, decide_eq_true_eq] at h
          obtain ⟨⟨⟨rfl, h1⟩, h2⟩, h3⟩ := h
          exact s_ocmpT c h1 (S.e c h2) (S.e c h3)
        · cases h
      · cases h
    · cases h
  case chain o o' a b d =>
    split at h
    · split at h
      · split at h
        · simp only [Bool.and_eq_true, decide_eq_true_eq] at h
          obtain ⟨⟨⟨⟨⟨rfl, rfl⟩, h1⟩, h2⟩, h3⟩, h4⟩ := h
          exact s_chainT c h1 (S.e c h2) (S.e c h3) (S.e c h4)
        · cases h
      · cases h
    · cases h
theorem snd_e {n : Nat} (S : SndAt L Pg C k N n) {X : Cx} {W : WX} {sc : Scope} {fb : Str → Bool} {e : E} {ex : Expr} (c : CtxE L Pg C k W sc fb N X) (h : chkE L Pg N (n + 1) sc fb e ex = true) : PE X ex (tE X.K L Pg C W e) := by
  cases e
  case var i => exact (var_of c h).imp fun σ H Q q => tE_var q
  all_goals unfold chkE at h
  all_goals dsimp only at h
  all_goals first | (cases h; done) | skip
  case lit d =>
    split at h
    · exact s_lit h
    · cases h
  case glob j =>
    split at h
    · simp only [Bool.and_eq_true, decide_eq_true_eq] at h
      exact s_glob c h.1.1 h.1.2 h.2
    · cases h
  case tup es =>
    split at h
    · rw [Bool.and_eq_true] at h
      exact s_tup ((all2_pes (fun e ex => S.e c) h.2).pa h.1)
    · cases h
  case lst es => exact pe_of_new ((S.m c h).2 rfl)
  case dic ks vs => exact pe_of_new ((S.m c h).2 rfl)
  case comp a b d e => exact pe_of_new ((S.m c h).2 rfl)
  case dc1 a b => exact pe_of_new ((S.m c h).2 rfl)
  case alloc a =>
    rw [Bool.and_eq_true] at h
    exact s_alloc ((S.m c h.2).2 h.1)
  case bin o a b =>
    split at h
    · simp only [Bool.and_eq_true, decide_eq_true_eq] at h
      obtain ⟨⟨rfl, h1⟩, h2⟩ := h
      exact s_bin (S.b c h1) (S.b c h2)
    · cases h
  case neg a =>
    split at h
    · exact s_neg (S.e c h)
    · cases h
  case not a =>
    split at h
    · exact s_not (S.e c h)
    · cases h
  case cmp o a b =>
    split at h
    · split at h
      · split at h
        · simp only [Bool.and_eq_true, decide_eq_true_eq] at h
          obtain ⟨⟨⟨rfl, h1⟩, h2⟩, h3⟩ := h
          exact s_cmp c h1 (S.b c h2) (S.b c h3)
        · cases h
      · cases h
    · cases h
  case chain o o' a b d =>
    split at h
    · split at h
      · split at h
        · simp only [Bool.and_eq_true, decide_eq_true_eq] at h
          obtain ⟨⟨⟨⟨⟨rfl, rfl⟩, h1⟩, h2⟩, h3⟩, h4⟩ := h
          exact s_chain c h1 (S.e c h2) (S.e c h3) (S.e c h4)
        · cases h
      · cases h
    · cases h
  case and es =>
    split at h
    · rw [Bool.and_eq_true] at h
      exact (S.and c (isE_ne h.1) h.2).imp fun σ H Q q => tEand_tE q
    · cases h
  case or es =>
    split at h
    · rw [Bool.and_eq_true] at h
      exact (S.or c (isE_ne h.1) h.2).imp fun σ H Q q => tEor_tE q
    · cases h
  case ite a b d =>
    split at h
    · simp only [Bool.and_eq_true] at h
      exact s_ite (S.t c h.1.1) (S.e c h.1.2) (S.e c h.2)
    · cases h
  case call f es =>
    split at h
    · simp only [Bool.and_eq_true, decide_eq_true_eq, Bool.not_eq_true'] at h
      obtain ⟨⟨⟨⟨⟨⟨h1, h2⟩, h3⟩, h4⟩, h5⟩, h6⟩, h7⟩ := h
      rw [isE_nil h6]
      have hx := nameIs_ne h2
      have ps := all2_pes (fun e ex => S.e (W := W) c) h7
      cases ps with
      | nil => exact s_call0 c h1 hx h3 h4
      | cons a b => exact s_call c h1 hx h3 h4 ((PEs.cons a b).pa h5) h5
    · cases h
  case new cn es =>
    split at h
    · split at h
      · rename_i cl hc
        split at h
        · rename_i hk
          have hX : isX Pg cn = true := by unfold isX; rw [hc]; exact hk
          simp only [Bool.and_eq_true, decide_eq_true_eq] at h
          obtain ⟨⟨⟨⟨⟨h2, h3⟩, h4⟩, h6⟩, h7⟩, h8⟩ := h
          rw [isE_nil h7]
          split at h8
          · rename_i h9
            rw [Bool.and_eq_true] at h8
            rw [isE_nil h9, isE_nil h8.1]
            exact s_newX0 c h8.2 h2 h3 h4
          · rename_i h9
            simp only [Bool.and_eq_true, Bool.not_eq_true'] at h8
            obtain ⟨fields, hf⟩ := Option.isSome_iff_exists.mp h8.1.2
            have ps := all2_pes (fun e ex => S.e (W := W) c) h8.2
            cases ps with
            | nil => exact absurd rfl h9
            | cons a b => exact s_newX c hX h8.1.1 h2 hf h3 h4 ((PEs.cons a b).pa h6) h6
        · simp only [Bool.and_eq_true, decide_eq_true_eq, Bool.not_eq_true'] at h
          obtain ⟨⟨⟨⟨⟨⟨⟨⟨h1, h2⟩, h3⟩, h4⟩, h5⟩, h6⟩, h7⟩, h8⟩, h9⟩ := h
          rw [isE_nil h7]
          obtain ⟨f, hf⟩ := Option.isSome_iff_exists.mp h1
          have ps := all2_pes (fun e ex => S.e (W := W) c) h9
          cases ps with
          | nil => cases h8
          | cons a b => exact s_new c hc hf h2 h3 h4 h5 ((PEs.cons a b).pa h6) h6
      · cases h
    · cases h
  case meth m o es =>
    split at h
    · simp only [Bool.and_eq_true, decide_eq_true_eq] at h
      obtain ⟨⟨⟨⟨⟨⟨⟨⟨⟨h1, h2⟩, h3⟩, h4⟩, h5⟩, h6⟩, h7⟩, h8⟩, h9⟩, h10⟩ := h
      rw [isE_nil h8]
      have ps := all2_pes (fun e ex => S.e (W := W) c) h10
      cases ps with
      | nil => exact s_meth0 c h1 h2 h3 (methTree h4 h5 h6 h7) (S.e c h9)
      | cons a b => exact s_meth c h1 h2 h3 (methTree h4 h5 h6 h7) (S.e c h9) ((PEs.cons a b).pa h5) h5
    · split at h
      · simp only [Bool.and_eq_true, Bool.or_eq_true, decide_eq_true_eq] at h
        obtain ⟨⟨⟨⟨⟨h1, h2⟩, h3⟩, h4⟩, h5⟩, h6⟩ := h
        rw [isE_nil h1, isE_nil h2]
        rcases h6 with ⟨h7, rfl⟩ | ⟨h7, rfl⟩ <;> cases nameIs_eq h7
        · exact s_lenO c h3 h4 (S.e c h5)
        · exact s_strO c h3 h4 (S.e c h5)
      · cases h
    · simp only [Bool.and_eq_true, decide_eq_true_eq] at h
      obtain ⟨⟨⟨rfl, h2⟩, h3⟩, h4⟩ := h
      split at h4
      · exact s_subO c h2 (S.e c h3) (S.e c h4)
      · cases h4
    · cases h
  case fstr es =>
    split at h
    · rename_i exs _
      rw [Bool.and_eq_true, decide_eq_true_eq] at h
      have ps := fps_of (fun e ex => S.e (W := W) c) h.2
      cases ps with
      | nil => simp at h
      | con h1 r =>
        cases r with
        | nil => simp at h
        | con h2 r2 => exact s_fstr (.con h1 (.con h2 r2))
        | fmt h2 r2 => exact s_fstr (.con h1 (.fmt h2 r2))
      | fmt h1 r =>
        cases r with
        | nil => simp at h
        | con h2 r2 => exact s_fstr (.fmt h1 (.con h2 r2))
        | fmt h2 r2 => exact s_fstr (.fmt h1 (.fmt h2 r2))
    · cases h
  case attr f a =>
    split at h
    · simp only [Bool.and_eq_true, decide_eq_true_eq] at h
      exact s_attr c h.1.1 h.1.2 (S.e c h.2)
    · cases h
  case isi a ts =>
    split at h
    · split at h
      · split at h
        · simp only [Bool.and_eq_true] at h
          obtain ⟨⟨⟨⟨⟨⟨h1, h2⟩, h3⟩, h4⟩, h5⟩, h6⟩, h7⟩ := h
          cases nameIs_eq h1
          rw [isE_nil h5]
          split at h6
          · simp only [Bool.and_eq_true, Bool.or_eq_true, decide_eq_true_eq] at h6
            rcases h6.1.2 with h8 | h8
            · exact s_isiO c h2 h6.1.1 h8 h3 h6.2 h4 (S.e c h7)
            · exact s_isiX c h2 h6.1.1 h8 h3 h6.2 h4 (S.e c h7)
          · exact s_isiB c h2 h6 h3 h4 (S.e c h7)
          · rw [Bool.and_eq_true] at h6
            cases nameIs_eq h6.1
            exact s_isi c h2 h3 h6.2 h4 (S.e c h7)
        · cases h
      · cases h
    · cases h
  case f1 b a =>
    split at h
    · split at h
      · simp only [Bool.and_eq_true] at h
        obtain ⟨⟨⟨⟨⟨h1, h2⟩, h3⟩, h4⟩, h5⟩, h6⟩ := h
        cases nameIs_eq h2
        rw [isE_nil h5]
        exact s_f1 c h1 h3 h4 (S.b c h6)
      · cases h
    · cases h
  case f2 b a d =>
    split at h
    · split at h
      · simp only [Bool.and_eq_true] at h
        obtain ⟨⟨⟨⟨⟨⟨⟨h1, h2⟩, h3⟩, h4⟩, h5⟩, h6⟩, h7⟩, h8⟩ := h
        cases nameIs_eq h2
        rw [isE_nil h6]
        exact s_f2 c h1 h3 h4 h5 (S.b c h7) (S.b c h8)
      · cases h
    · cases h
  case ocmp n1 a b =>
    split at h
    · split at h
      · split at h
        · simp only [Bool.and_eq_true, decide_eq_true_eq] at h
          obtain ⟨⟨⟨rfl, h1⟩, h2⟩, h3⟩ := h
          exact s_ocmp c h1 (S.e c h2) (S.e c h3)
        · cases h
      · cases h
    · cases h
  case tx b a d =>
    split at h
    · split at h
      · simp only [Bool.and_eq_true] at h
        obtain ⟨⟨⟨⟨⟨⟨⟨h1, h2⟩, h3⟩, h4⟩, h5⟩, h6⟩, h7⟩, h8⟩ := h
        cases nameIs_eq h2
        rw [isE_nil h5]
        exact s_tx h1 h3 h4 h6 (S.b c h7) (S.b c h8)
      · cases h
    · cases h
  case get1 a q =>
    split at h
    · split at h
      · simp only [Bool.and_eq_true] at h
        obtain ⟨⟨⟨⟨⟨⟨h2, h3⟩, h4⟩, h5⟩, h6⟩, h7⟩, h8⟩ := h
        cases nameIs_eq h2
        rw [isE_nil h5]
        exact s_get1 c h3 h4 h6 (S.b c h7) (S.e c h8)
      · cases h
    · cases h
  case get3 a q z =>
    split at h
    · split at h
      · simp only [Bool.and_eq_true] at h
        obtain ⟨⟨⟨⟨⟨⟨⟨⟨h2, h3⟩, h4⟩, h4'⟩, h5⟩, h6⟩, h7⟩, h8⟩, h9⟩ := h
        cases nameIs_eq h2
        rw [isE_nil h5]
        exact s_get3 c h3 h4 h4' h6 (S.b c h7) (S.e c h8) (S.e c h9)
      · cases h
    · cases h
  case idx a d =>
    split at h
    · simp only [Bool.and_eq_true] at h
      exact s_idx c h.1.1 (S.b c h.1.2) (S.e c h.2)
    · cases h
  case sli a lo hi =>
    split at h
    · simp only [Bool.and_eq_true] at h
      exact s_sli (S.b c h.1.1) (S.o c h.1.2) (S.o c h.2)
    · cases h
  case rev a =>
    split at h
    · split at h
      · simp only [Bool.and_eq_true, decide_eq_true_eq] at h
        obtain ⟨rfl, h⟩ := h
        exact s_rev (S.b c h)
      · cases h
    · cases h
theorem snd_o {n : Nat} (S : SndAt L Pg C k N n) {X : Cx} {W : WX} {sc : Scope} {fb : Str → Bool} {e : Option E} {ex : Option Expr} (c : CtxE L Pg C k W sc fb N X) (h : chkO L Pg N (n + 1) sc fb e ex = true) : PO X ex (tO X.K L Pg C W e) := by
  unfold chkO at h
  cases e <;> dsimp only at h <;> split at h <;> first | (cases h; done) | skip
  · exact s_ono
  · exact s_osome (S.e c h)
theorem sndAt : ∀ n, SndAt L Pg C k N n
  | 0 => { e := fun _ h => (by cases h), m := fun _ h => (by cases h), o := fun _ h => (by cases h), t := fun _ h => (by cases h), i := fun _ h => (by cases h) }
  | n + 1 => { e := snd_e (sndAt n), m := snd_m (sndAt n), o := snd_o (sndAt n), t := snd_t (sndAt n), i := snd_i (sndAt n) }
end
end Lm
set_option Elab.async false
set_option linter.all false
set_option maxRecDepth 100000
set_option maxHeartbeats 1000000
namespace Lm
open PySem PySem.Spec PyProof.Rows L2
def WsR (r : RS) (okP : Fl → Sto → Prop) (exP : Exn → Env → Sto → Prop) : Prop := match r with | .ok f μ => okP f μ | .exn x env μ => exP x env μ | .bad => False
theorem WsR.bind {r : RS} {f : Fl → Sto → RS} {p : Fl → Sto → Prop} {q : Exn → Env → Sto → Prop} : WsR (r.bind f) p q ↔ WsR r (fun a μ => WsR (f a μ) p q) q := by
  cases r <;> exact Iff.rfl
theorem WsR.then {α : Type} {r : Res α} {env : Env} {f : α → Sto → RS} {p : Fl → Sto → Prop} {q : Exn → Env → Sto → Prop} : WsR (r.then env f) p q ↔ WpR r (fun a μ => WsR (f a μ) p q) (fun x μ => q x env μ) := by
  cases r <;> exact Iff.rfl
theorem WsR.mono {r : RS} {p p' : Fl → Sto → Prop} {q q' : Exn → Env → Sto → Prop} (h : WsR r p q) (hp : ∀ a μ, p a μ → p' a μ) (hq : ∀ x e μ, q x e μ → q' x e μ) : WsR r p' q' := by
  cases r with
  | ok a μ => exact hp a μ h
  | exn x e μ => exact hq x e μ h
  | bad => exact h
theorem WsR.nxtO {o : Option Env} {μ : Sto} {p : Fl → Sto → Prop} {q : Exn → Env → Sto → Prop} : WsR (nxtO o μ) p q ↔ ∃ e, o = some e ∧ p (.nxt e) μ := by
  cases o with
  | none => exact ⟨fun h => h.elim, fun ⟨_, e, _⟩ => by cases e⟩
  | some a => exact ⟨fun h => ⟨a, rfl, h⟩, fun ⟨_, e, h⟩ => by cases e; exact h⟩
theorem WsR.stoO {o : Option Sto} {env : Env} {p : Fl → Sto → Prop} {q : Exn → Env → Sto → Prop} : WsR (stoO o env) p q ↔ ∃ μ, o = some μ ∧ p (.nxt env) μ := by
  cases o with
  | none => exact ⟨fun h => h.elim, fun ⟨_, e, _⟩ => by cases e⟩
  | some a => exact ⟨fun h => ⟨a, rfl, h⟩, fun ⟨_, e, h⟩ => by cases e; exact h⟩
section
variable (K : PySem.W.Frag) (L : Lk) (Pg : Pg) (C : Orc) (W : WX)
def okS (D : Ends) (G F : Hp) (ι : List Addr) : Fl → Sto → Prop
  | .nxt env', μ' => ∀ F' ι' H' σ', To F ι F' ι' → SR K L G F' ι' env' μ' σ' H' → D.nx σ' H'
  | .brk env', μ' => ∀ F' ι' H' σ', To F ι F' ι' → SR K L G F' ι' env' μ' σ' H' → D.bk σ' H'
  | .ret d, μ' => ∀ F' ι' H' env' σ' v, To F ι F' ι' → SR K L G F' ι' env' μ' σ' H' → Rep K L F' ι' d v → D.rt v H'
def exS (G F : Hp) (ι : List Addr) : Exn → Env → Sto → Prop := fun x env' μ' => ∀ F' ι' H' σ' cls dx, To F ι F' ι' → SR K L G F' ι' env' μ' σ' H' → ExR K L F' ι' H' x cls dx → W cls dx σ' H'
def tSt (s : S) : TS := fun D σ H => ∃ G F ι env μ, SR K L G F ι env μ σ H ∧ WsR (evS Pg C s env μ) (okS K L D G F ι) (exS K L W G F ι)
def tSts (ss : List S) : TS := fun D σ H => ∃ G F ι env μ, SR K L G F ι env μ σ H ∧ WsR (evSs Pg C ss env μ) (okS K L D G F ι) (exS K L W G F ι)
end
section
variable {L : Lk} {Pg : Pg} {C : Orc} {k : Nat} {W : WX} {sc : Scope} {N : List Str} {X : Cx} {G F F' H H' : Hp} {ι ι' : List Addr} {env : Env} {μ μ' : Sto} {σ : L2.St} {pos pos2 apos : Pos} {D : Ends}
theorem okS.le {K : PySem.W.Frag} {f : Fl} (t : To F ι F' ι') (h : okS K L D G F ι f μ) : okS K L D G F' ι' f μ := by
  cases f with
  | nxt e => exact fun F2 ι2 H' σ' t2 sr => h F2 ι2 H' σ' (t.trans t2) sr
  | brk e => exact fun F2 ι2 H' σ' t2 sr => h F2 ι2 H' σ' (t.trans t2) sr
  | ret d => exact fun F2 ι2 H' e σ' v t2 sr r => h F2 ι2 H' e σ' v (t.trans t2) sr r
theorem exS.le {K : PySem.W.Frag} {x : Exn} {e : Env} (t : To F ι F' ι') (h : exS K L W G F ι x e μ) : exS K L W G F' ι' x e μ := fun F2 ι2 H' σ' c d t2 sr r => h F2 ι2 H' σ' c d (t.trans t2) sr r
theorem WsR.le {K : PySem.W.Frag} {r : RS} (t : To F ι F' ι') (h : WsR r (okS K L D G F ι) (exS K L W G F ι)) : WsR r (okS K L D G F' ι') (exS K L W G F' ι') := h.mono (fun _ _ z => okS.le t z) fun _ _ _ z => exS.le t z
/-- the context of a def's statements -/
structure CtxS (L : Lk) (Pg : Lm.Pg) (C : Orc) (k : Nat) (W : WX) (sc : Scope) (N : List Str) (X : Cx) : Prop extends CtxE L Pg C k W sc (fun _ => true) N X where
  own : PassesOwn (model X.prog X.w) X.A X.env X.xe
  kind : sc.kind = .function
  stk : X.stack = X.env :: X.outer
  frm : X.env.frame = some X.env.locals
/-- an expression, then the rest of the statement -/
theorem tE_goS {a : E} {f : Lm.D → Sto → RS} {Q : VK} (sr : SR X.K L G F ι env μ σ H) (h : WsR ((evE Pg C a env μ).then env f) (okS X.K L D G F ι) (exS X.K L W G F ι))
    (k : ∀ d μ1 F1 ι1 H1 v, To F ι F1 ι1 → SR X.K L G F1 ι1 env μ1 σ H1 → Rep X.K L F1 ι1 d v → WsR (f d μ1) (okS X.K L D G F1 ι1) (exS X.K L W G F1 ι1) → Q v H1) : tE X.K L Pg C W a σ H Q :=
  ⟨G, F, ι, env, μ, sr, (WsR.then.mp h).mono (fun d μ1 z F1 ι1 H1 v t sr1 r => k d μ1 F1 ι1 H1 v t sr1 r (WsR.le t z)) fun x μ1 z F1 ι1 H1 c d t sr1 r => z F1 ι1 H1 σ c d t sr1 r⟩
theorem tB_goS {a : E} {f : Lm.D → Sto → RS} {Q : VK} (sr : SR X.K L G F ι env μ σ H) (h : WsR ((evB Pg C a env μ).then env f) (okS X.K L D G F ι) (exS X.K L W G F ι))
    (k : ∀ d μ1 F1 ι1 H1 v, To F ι F1 ι1 → SR X.K L G F1 ι1 env μ1 σ H1 → RepS X.K L F1 ι1 env σ d v → WsR (f d μ1) (okS X.K L D G F1 ι1) (exS X.K L W G F1 ι1) → Q v H1) : tB X.K L Pg C W a σ H Q :=
  ⟨G, F, ι, env, μ, sr, (WsR.then.mp h).mono (fun d μ1 z F1 ι1 H1 v t sr1 r => k d μ1 F1 ι1 H1 v t sr1 r (WsR.le t z)) fun x μ1 z F1 ι1 H1 c d t sr1 r => z F1 ι1 H1 σ c d t sr1 r⟩
theorem tT_goS {a : E} {f : Lm.D → Sto → RS} {Q : Bool → Hp → Prop} (sr : SR X.K L G F ι env μ σ H) (h : WsR ((evE Pg C a env μ).then env f) (okS X.K L D G F ι) (exS X.K L W G F ι)) (hb : ∀ d μ1, (∀ b, d ≠ .bl b) → f d μ1 = .bad)
    (k : ∀ b μ1 F1 ι1 H1, To F ι F1 ι1 → SR X.K L G F1 ι1 env μ1 σ H1 → WsR (f (.bl b) μ1) (okS X.K L D G F1 ι1) (exS X.K L W G F1 ι1) → Q b H1) : tT X.K L Pg C W a σ H Q :=
  ⟨G, F, ι, env, μ, sr, (WsR.then.mp h).mono (fun d μ1 z => by
    by_cases hd : ∃ b, d = .bl b
    · obtain ⟨b, rfl⟩ := hd
      exact ⟨b, rfl, fun F1 ι1 H1 t sr1 => k b μ1 F1 ι1 H1 t sr1 (WsR.le t z)⟩
    · rw [hb d μ1 fun b z => hd ⟨b, z⟩] at z
      exact z.elim) fun x μ1 z F1 ι1 H1 c d t sr1 r => z F1 ι1 H1 σ c d t sr1 r⟩
/-! ### small statements -/
theorem s_pass : PS X (.Pass pos) (tSt X.K L Pg C W .pass) := ps_pass.imp fun D σ H q => by
  obtain ⟨G, F, ι, env, μ, sr, h⟩ := q
  unfold evS at h
  exact (show okS X.K L D G F ι (.nxt env) μ from h) F ι H σ (To.refl _ _) sr
theorem s_break : PS X (.Break pos) (tSt X.K L Pg C W .brk) := ps_break.imp fun D σ H q => by
  obtain ⟨G, F, ι, env, μ, sr, h⟩ := q
  unfold evS at h
  exact (show okS X.K L D G F ι (.brk env) μ from h) F ι H σ (To.refl _ _) sr
theorem s_ret {e : E} {ex : Expr} (he : PE X ex (tE X.K L Pg C W e)) : PS X (.Return (some ex) pos) (tSt X.K L Pg C W (.ret (some e))) := (ps_ret he).imp fun D σ H q => by
  obtain ⟨G, F, ι, env, μ, sr, h⟩ := q
  unfold evS at h
  exact tE_goS sr h fun d μ1 F1 ι1 H1 v t sr1 r h1 => (show okS X.K L D G F1 ι1 (.ret d) μ1 from h1) F1 ι1 H1 env σ v (To.refl _ _) sr1 r
theorem s_retN : PS X (.Return none pos) (tSt X.K L Pg C W (.ret none)) := ps_retN.imp fun D σ H q => by
  obtain ⟨G, F, ι, env, μ, sr, h⟩ := q
  unfold evS at h
  exact (show okS X.K L D G F ι (.ret .non) μ from h) F ι H env σ .non (To.refl _ _) sr .non
def noComp : Expr → Bool | .ListComp _ _ _ _ => false | .SetComp _ _ _ _ => false | .DictComp _ _ _ _ _ => false | _ => true
theorem sw_no {e : Expr} {t : Option Expr} {l : Nat} {env : PySem.Env} (h : noComp e = true) : swapsWith e t l env = pure false := by
  cases e <;> first | rfl | cases h
theorem s_expr {e : E} {ex : Expr} (hc : noComp ex = true) (he : PE X ex (tE X.K L Pg C W e)) : PS X (.Expr ex pos) (tSt X.K L Pg C W (.expr e)) := (ps_expr he (sw_no hc)).imp fun D σ H q => by
  obtain ⟨G, F, ι, env, μ, sr, h⟩ := q
  unfold evS at h
  exact tE_goS sr h fun d μ1 F1 ι1 H1 v t sr1 r h1 => (show okS X.K L D G F1 ι1 (.nxt env) μ1 from h1) F1 ι1 H1 σ (To.refl _ _) sr1
theorem s_ifS {c : E} {a b : List S} {cx : Expr} {ax bx : List Stmt} (hc : PT X cx (tT X.K L Pg C W c)) (ha : PSs X ax (tSts X.K L Pg C W a)) (hb : PSs X bx (tSts X.K L Pg C W b)) : PS X (.If cx ax bx pos) (tSt X.K L Pg C W (.ite c a b)) :=
  (ps_if hc ha hb).imp fun D σ H q => by
    obtain ⟨G, F, ι, env, μ, sr, h⟩ := q
    unfold evS at h
    refine tT_goS sr h (fun d μ1 hd => ?_) fun kb μ1 F1 ι1 H1 t sr1 h1 => ?_
    · cases d <;> first | rfl | exact absurd rfl (hd _)
    · cases kb with
      | true => exact ⟨G, F1, ι1, env, μ1, sr1, h1⟩
      | false => exact ⟨G, F1, ι1, env, μ1, sr1, h1⟩
theorem s_snil : PSs X [] (tSts X.K L Pg C W []) := pss_nil.imp fun D σ H q => by
  obtain ⟨G, F, ι, env, μ, sr, h⟩ := q
  unfold evSs at h
  exact (show okS X.K L D G F ι (.nxt env) μ from h) F ι H σ (To.refl _ _) sr
theorem s_scons {s : S} {ss : List S} {st : Stmt} {sts : List Stmt} (h1 : PS X st (tSt X.K L Pg C W s)) (h2 : PSs X sts (tSts X.K L Pg C W ss)) : PSs X (st :: sts) (tSts X.K L Pg C W (s :: ss)) :=
  (pss_cons h1 h2).imp fun D σ H q => by
    obtain ⟨G, F, ι, env, μ, sr, h⟩ := q
    unfold evSs at h
    refine ⟨G, F, ι, env, μ, sr, (WsR.bind.mp h).mono (fun f μ1 z => ?_) fun _ _ _ z => z⟩
    cases f with
    | nxt e => exact fun F' ι' H' σ' t sr' => ⟨G, F', ι', e, μ1, sr', WsR.le t z⟩
    | brk e => exact z
    | ret d => exact z
/-- the pseudo-statement frz -/
theorem s_frz {i : Nat} {ss : List S} {sts : List Stmt} (h2 : PSs X sts (tSts X.K L Pg C W ss)) : PSs X sts (tSts X.K L Pg C W (.frz i :: ss)) := h2.imp fun D σ H q => by
  obtain ⟨G, F, ι, env, μ, sr, h⟩ := q
  unfold evSs evS at h
  cases e : (env[i]? : Option Sl) with
  | none => rw [e] at h; exact h.elim
  | some sl =>
    rw [e] at h
    cases sl with
    | own w =>
      have h : WsR (evSs Pg C ss (env.set i (.val w.toD)) μ) (okS X.K L D G F ι) (exS X.K L W G F ι) := h
      obtain ⟨F', t, sr'⟩ := sr.freezeOwn e
      exact ⟨G, F', ι, _, μ, sr', WsR.le t h⟩
    | val d =>
      exact ⟨G, F, ι, env, μ, sr, h⟩
    | _ => exact h.elim
/-! ### for -/
def forF (P : Lm.Pg) (C : Orc) (t : Tgt) (b : List S) : Lm.D → Env → Sto → RS := fun x env μ => match setT t x env with | some env' => evSs P C b env' μ | none => .bad
theorem s_for {t : Tgt} {it : Lm.It} {b : List S} {tg iter : Expr} {bx : List Stmt} (c : CtxS L Pg C k W sc N X) (hs : notSet iter = true) (hi : PI X tg iter (tI X.K L Pg C W it)) (hg : PG X tg (tG X.K L t)) (hb : PSs X bx (tSts X.K L Pg C W b)) :
    PS X (.For tg iter bx [] pos) (tSt X.K L Pg C W (.forr t it b)) :=
  (ps_for c.own c.calm hi hg hb (by intro x; cases iter <;> first | rfl | cases hs)).imp fun D σ H q => by
    obtain ⟨G, F, ι, env, μ, sr, h⟩ := q
    unfold evS at h
    refine ⟨G, F, ι, env, μ, sr, (WsR.then.mp h).mono (fun xs μ1 z F1 ι1 H1 J t1 sr1 dr => ?_) fun x μ1 z F1 ι1 H1 c d t sr1 r => z F1 ι1 H1 σ c d t sr1 r⟩
    have z : WsR (loopF (forF Pg C t b) xs env μ1) (okS X.K L D G F ι) (exS X.K L W G F ι) := z
    refine ⟨fun i m σ H => m = xs.length - i ∧ i ≤ xs.length ∧ ∃ F2 ι2 env2 μ2, To F1 ι1 F2 ι2 ∧ SR X.K L G F2 ι2 env2 μ2 σ H ∧ WsR (loopF (forF Pg C t b) (xs.drop i) env2 μ2) (okS X.K L D G F2 ι2) (exS X.K L W G F2 ι2),
      ⟨xs.length, by simp, Nat.zero_le _, F1, ι1, env, μ1, To.refl _ _, sr1, WsR.le t1 (by simpa using z)⟩, ?_⟩
    rintro i m σ2 H2 ⟨rfl, hi, F2, ι2, env2, μ2, t2, s2, z2⟩
    have dr2 := dr.mono t2
    by_cases hlt : i < xs.length
    · refine .inr ⟨dr2.go i H2 s2.f hlt, fun σ H => ∃ F2 ι2 env2 μ2, To F1 ι1 F2 ι2 ∧ SR X.K L G F2 ι2 env2 μ2 σ H ∧ WsR (loopF (forF Pg C t b) (xs.drop (i + 1)) env2 μ2) (okS X.K L D G F2 ι2) (exS X.K L W G F2 ι2),
        fun σ' H' h' => ⟨xs.length - (i + 1), by omega, rfl, hlt, h'⟩, fun x H3 hy => ?_⟩
      obtain ⟨d, F3, hd, t3, s3, rd⟩ := dr2.use s2 hlt hy
      have hdrop : xs.drop i = d :: xs.drop (i + 1) := by
        rw [List.drop_eq_getElem_cons hlt]
        rw [List.getElem?_eq_getElem hlt] at hd
        cases hd; rfl
      rw [hdrop] at z2
      unfold loopF at z2
      have z3 := WsR.bind.mp z2
      unfold forF at z3
      cases hset : setT t d env2 with
      | none => rw [hset] at z3; exact z3.elim
      | some env3 =>
        rw [hset] at z3
        refine ⟨G, F3, ι2, env2, μ2, d, env3, s3, rd, hset, fun σ3 s4 _ => ⟨G, F3, ι2, env3, μ2, s4, ?_⟩⟩
        refine z3.mono (fun f μ3 w => ?_) fun x e μ3 w => exS.le t3 w
        cases f with
        | nxt e4 => exact fun F' ι' H' σ' t' sr' => ⟨F', ι', e4, μ3, (t2.trans t3).trans t', sr', WsR.le (t3.trans t') w⟩
        | brk e4 => exact fun F' ι' H' σ' t' sr' => (show okS X.K L D G F2 ι2 (.nxt e4) μ3 from w) F' ι' H' σ' (t3.trans t') sr'
        | ret d4 => exact fun F' ι' H' e' σ' v t' sr' r => (show okS X.K L D G F2 ι2 (.ret d4) μ3 from w) F' ι' H' e' σ' v (t3.trans t') sr' r
    · have e : i = xs.length := by omega
      subst e
      rw [List.drop_length] at z2
      unfold loopF at z2
      exact .inl ⟨dr2.stop H2 s2.f, (show okS X.K L D G F2 ι2 (.nxt env2) μ2 from z2) F2 ι2 H2 σ2 (To.refl _ _) s2⟩
/-! ### names set -/
theorem s_setNm {i : Nat} {e : E} {ex : Expr} {x : Str} {p : Pos} (c : CtxS L Pg C k W sc N X) (h1 : N[i]? = some x) (h2 : locB sc x = true) (hs : swapsWith ex (some (.Name x p)) pos.line X.env = pure false) (he : PE X ex (tE X.K L Pg C W e)) : PS X (.Assign [.Name x p] ex pos) (tSt X.K L Pg C W (.set (.nm i) e)) :=
  (ps_set (i := i) (by rw [c.n]; exact c.nd) (by rw [c.n]; exact h1) (by rw [c.sce]; exact locB_ok h2) he hs (.inl (c.fb x rfl))).imp fun D σ H q => by
    obtain ⟨G, F, ι, env, μ, sr, h⟩ := q
    unfold evS at h
    refine tE_goS sr h fun d μ1 F1 ι1 H1 v t sr1 r h1 => ?_
    obtain ⟨e', he', hk⟩ := WsR.nxtO.mp h1
    unfold setT at he'
    cases he'
    exact hk F1 ι1 H1 _ (To.refl _ _) (sr1.setVal r)
/-- .. with an object of its own: what is wished for -/
theorem tM_goS {i : Nat} {e : E} (h : tSt X.K L Pg C W (.own i e) D σ H) : tM X.K L Pg C W e σ H fun v H1 => D.nx (σ.set i (some v)) H1 := by
  obtain ⟨G, F, ι, env, μ, sr, h⟩ := h
  unfold evS at h
  refine ⟨G, F, ι, env, μ, sr, (WsR.then.mp h).mono (fun d μ1 z => ?_) fun x μ1 z F1 ι1 H1 c d t sr1 r => z F1 ι1 H1 σ c d t sr1 r⟩
  obtain ⟨e', he', hk⟩ := WsR.nxtO.mp z
  obtain ⟨o, ho, rfl⟩ := Option.map_eq_some_iff.mp he'
  refine ⟨by rw [ho]; rfl, fun F' ι' H' o' hob p t sr' r e2 hi hp => ?_⟩
  have : o' = o := by
    subst e2
    cases o' <;> first | (cases ho; rfl) | exact hi.elim
  subst this
  have off := sr'.off hp
  exact hk F' ι' _ _ t ((sr'.upd_off (o := hob) off).setOwn off upd_same r)
theorem tM_goN {e : E} {Q : VK} (h : tM X.K L Pg C W e σ H Q) : tN X.K L Pg C W e σ H Q := by
  obtain ⟨G, F, ι, env, μ, sr, h⟩ := h
  exact ⟨G, F, ι, env, μ, sr, h.mono (fun _ _ z => z.2) fun _ _ z => z⟩
theorem s_own {i : Nat} {e : E} {ex : Expr} {x : Str} {p : Pos} (c : CtxS L Pg C k W sc N X) (h1 : N[i]? = some x) (h2 : locB sc x = true) (hs : swapsWith ex (some (.Name x p)) pos.line X.env = pure false) (he : PE X ex (tM X.K L Pg C W e)) : PS X (.Assign [.Name x p] ex pos) (tSt X.K L Pg C W (.own i e)) :=
  (ps_set (i := i) (by rw [c.n]; exact c.nd) (by rw [c.n]; exact h1) (by rw [c.sce]; exact locB_ok h2) he hs (.inl (c.fb x rfl))).imp fun D σ H q => tM_goS q
/-- a pair's targets -/
theorem s_setTp {ts : List Tgt} {es : List Expr} {kk : Nat} {tpos : Pos} {e : E} {ex : Expr} (hn : (match ex with | .Tuple _ _ _ => false | _ => true) = true) (he : PE X ex (tE X.K L Pg C W e)) (hg : PG X (.Tuple es kk tpos) (tG X.K L (.tp ts))) : PS X (.Assign [.Tuple es kk tpos] ex pos) (tSt X.K L Pg C W (.set (.tp ts) e)) :=
  (ps_asg he hg (by cases ex <;> rfl) (by cases ex <;> first | rfl | cases hn)).imp fun D σ H q => by
    obtain ⟨G, F, ι, env, μ, sr, h⟩ := q
    unfold evS at h
    refine tE_goS sr h fun d μ1 F1 ι1 H1 v t sr1 r h1 => ?_
    obtain ⟨e', he', hk⟩ := WsR.nxtO.mp h1
    exact ⟨G, F1, ι1, env, μ1, d, e', sr1, r, he', fun σ' s _ => hk F1 ι1 H1 σ' (To.refl _ _) s⟩
end
end Lm
set_option Elab.async false
set_option linter.all false
set_option maxRecDepth 100000
set_option maxHeartbeats 1000000
namespace Lm
open PySem PySem.Spec PyProof.Rows L2
section
variable {L : Lk} {Pg : Pg} {C : Orc} {k : Nat} {W : WX} {sc : Scope} {N : List Str} {X : Cx} {G F F' H H' : Hp} {ι ι' : List Addr} {env : Env} {μ μ' : Sto} {σ : L2.St} {pos pos2 apos : Pos} {D : Ends}
theorem isOwnL_of {i : Nat} (h : isOwnL env i = true) : ∃ xs, env[i]? = some (Sl.own (.lst xs)) := by
  unfold isOwnL at h
  split at h
  · rename_i xs e; exact ⟨xs, e⟩
  · cases h
theorem isOwn_of {i : Nat} (h : isOwn env i = true) : ∃ o, env[i]? = some (Sl.own o) := by
  unfold isOwn at h
  split at h
  · rename_i o e; exact ⟨o, e⟩
  · cases h
theorem ownAt_of {i : Nat} {o : O} {f : O → Option O} {e' : Env} (hi : env[i]? = some (Sl.own o)) (h : ownAt env i f = some e') : ∃ o', f o = some o' ∧ e' = env.set i (.own o') := by
  unfold ownAt at h
  rw [hi] at h
  obtain ⟨o', h1, rfl⟩ := Option.map_eq_some_iff.mp h
  exact ⟨o', h1, rfl⟩
/-! ### append, extend -/
theorem s_app {i : Nat} {e : E} {ex : Expr} {x : Str} {p ap cp : Pos} (c : CtxS L Pg C k W sc N X) (h1 : N[i]? = some x) (h2 : visB sc x = true) (h3 : notDbg x = true) (hl : (ap.endLine == cp.line) = true) (hn : noStar ex = true) (he : PE X ex (tE X.K L Pg C W e)) :
    PS X (.Expr (.Call (.Attribute (.Name x p) "append" ap) [ex] [] cp) pos) (tSt X.K L Pg C W (.app i e)) :=
  (ps_expr (pe_bm PySem.F.plainAttrs_list PySem.F.slot_list_append PySem.F.type_list_append mt_append (s_var c.toCtxE h1 h2 h3) (paC hn he (pa_nil (X := X))) rfl (by rw [starEach_cons hn]; rfl) hl (starEach_cons hn) rfl) rfl).imp fun D σ H q => by
    obtain ⟨G, F, ι, env, μ, sr, h⟩ := q
    unfold evS at h
    split at h
    · rename_i hown
      obtain ⟨xs, hx⟩ := isOwnL_of hown
      obtain ⟨a, ho, g1, g2, g3, g4, g5, g6⟩ := sr.own i _ hx
      cases g6 with
      | @lst _ vs r0 =>
      refine ⟨.ref a, g1, .inl ⟨rfl, vs, SqL.of g5⟩, ?_⟩
      refine tE_goS sr h fun d μ1 F1 ι1 H1 v t sr1 r hk => ?_
      obtain ⟨e', he', hk⟩ := WsR.nxtO.mp hk
      obtain ⟨o', ho', rfl⟩ := ownAt_of hx he'
      obtain ⟨a', ho1, e1, _, _, _, e5, e6⟩ := sr1.own i _ hx
      rw [g1] at e1; cases e1
      simp only [appO] at ho'
      split at ho'
      · rename_i hz
        cases ho'
        cases e6 with
        | @lst _ ws r1 =>
        refine ⟨a, ws, v, rfl, rfl, e5, by rw [← r1.len]; exact hz, ?_⟩
        exact hk F1 ι1 _ σ (To.refl _ _) (sr1.updOwn hx g1 (.lst (r1.append (.cons r .nil))))
      · cases ho'
    · exact h.elim
theorem s_ext {i : Nat} {e : E} {ex : Expr} {x : Str} {p ap cp : Pos} (c : CtxS L Pg C k W sc N X) (h1 : N[i]? = some x) (h2 : visB sc x = true) (h3 : notDbg x = true) (hl : (ap.endLine == cp.line) = true) (hn : noStar ex = true) (he : PE X ex (tB X.K L Pg C W e)) :
    PS X (.Expr (.Call (.Attribute (.Name x p) "extend" ap) [ex] [] cp) pos) (tSt X.K L Pg C W (.ext i e)) :=
  (ps_expr (pe_bm PySem.F.plainAttrs_list PySem.F.slot_list_extend PySem.F.type_list_extend mt_extend (s_var c.toCtxE h1 h2 h3) (paC hn he (pa_nil (X := X))) rfl (by rw [starEach_cons hn]; rfl) hl (starEach_cons hn) rfl) rfl).imp fun D σ H q => by
    obtain ⟨G, F, ι, env, μ, sr, h⟩ := q
    unfold evS at h
    split at h
    · rename_i hown
      obtain ⟨xs, hx⟩ := isOwnL_of hown
      obtain ⟨a, ho, g1, g2, g3, g4, g5, g6⟩ := sr.own i _ hx
      cases g6 with
      | @lst _ vs r0 =>
      refine ⟨.ref a, g1, .inl ⟨rfl, vs, SqL.of g5⟩, ?_⟩
      refine tB_goS sr h fun d μ1 F1 ι1 H1 v t sr1 r hk => ?_
      obtain ⟨e', he', hk⟩ := WsR.nxtO.mp hk
      obtain ⟨o', ho', rfl⟩ := ownAt_of hx he'
      obtain ⟨a', ho1, e1, _, _, _, e5, e6⟩ := sr1.own i _ hx
      rw [g1] at e1; cases e1
      have rb := r.b sr1
      cases d <;> simp only [extO, reduceCtorEq] at ho'
      split at ho'
      · rename_i hz
        cases ho'
        cases e6 with
        | @lst _ ws r1 =>
        obtain ⟨b, zs, rfl, hb, rz⟩ := rb.lst sr1
        refine ⟨a, b, ws, zs, rfl, rfl, e5, hb, by rw [← r1.len, ← rz.len]; exact hz, ?_⟩
        exact hk F1 ι1 _ σ (To.refl _ _) (sr1.updOwn hx g1 (.lst (r1.append rz)))
      · cases ho'
    · exact h.elim
/-! ### o[k] = v -/
def rSetA (X : Cx) : TSet := fun o i v H Q => (rSetL o i v H Q ∨ ∃ a H', o = .ref a ∧ DPut H a i v H' ∧ Q H') ∨ ∃ a b xs k, o = .ref a ∧ i = .ref b ∧ NAt X.K X.w H a xs ∧ NKey X.K H k (.ref b) ∧ xs.length < sizeLine ∧ ∀ ob, Q (upd H a (DN ob X.w a (putN' xs k b v)))
theorem pset_all (hu : X.A.units + 66 < cLine) : PSet X (rSetA X) := by
  intro pins s σ H o i v ov iv u Q I ro ri rv h
  rcases h with (h | ⟨a, H', rfl, g, q⟩) | ⟨a, b, xs, k, rfl, rfl, g, hk, hl, q⟩
  · exact set_list pins s σ H o i v ov iv u Q I ro ri rv h
  · cases ro
    exact d_setItem (by omega) I g ri rv fun s' I' => ⟨H', I', q⟩
  · cases ro; cases ri
    exact n_setItem (by omega) I g hk rv hl fun ob s' I' => ⟨_, I', q ob⟩
theorem putO_ok {o o' : O} {ho : HO} {a : Addr} {kd vd : Lm.D} {kv v : V} (hw : L.w = X.w) (sr : SR X.K L G F ι env μ σ H) (r : RepO X.K L F ι a o ho) (hH : H a = some ho) (rk : Rep X.K L F ι kd kv) (rv : Rep X.K L F ι vd v) (e : putO o kd vd = some o') :
    ∀ Q : Hp → Prop, (∀ ho', RepO X.K L F ι a o' ho' → Q (upd H a ho')) → rSetA X (.ref a) kv v H Q := by
  cases r with
  | @lst xs vs r =>
    cases kd <;> simp only [putO, reduceCtorEq] at e
    obtain ⟨j, e1, rfl⟩ := Option.map_eq_some_iff.mp e
    cases rk
    exact fun Q q => .inl (.inl ⟨a, vs, _, j, rfl, rfl, hH, by rw [← r.len]; exact e1, q _ (.lst (r.set rv j))⟩)
  | @dct kvs ks r =>
    simp only [putO] at e
    split at e
    · rename_i q e1
      split at e
      · rename_i hz
        cases e
        cases keyD_rep e1 rk
        have r' := r.put e1 rv
        refine fun Q hq => .inl (.inr ⟨a, _, rfl, DPut.k hH ?_, hq _ (.dct r')⟩)
        have h1 := r'.len
        have h2 : ks.length ≤ (putK ks q v).length := by
          unfold putK
          split
          · simp
          · simp
        show ks.length < line
        have : line = 16777216 := rfl
        omega
      · cases e
    · split at e
      · rename_i hn
        obtain ⟨q, e1, rfl⟩ := Option.map_eq_some_iff.mp e
        have := List.isEmpty_iff.mp hn
        subst this
        cases r
        obtain ⟨h1, h2, b, rfl⟩ := (RepB.of (H := H) rk).nkey sr e1
        refine fun Q hq => .inr ⟨a, b, [], q, rfl, rfl, NAt.empty hH, ⟨h1, h2, b, rfl⟩, by show 0 < sizeLine; decide, fun ob => ?_⟩
        rw [← hw]
        exact hq _ (.dcn (.cons e1 rk rv .nil))
      · cases e
  | @dcn ob kvs xs r =>
    obtain ⟨q, e1, e2⟩ := Option.bind_eq_some_iff.mp (show (keyT kd).bind _ = some o' from e)
    simp only at e2
    split at e2
    · rename_i hz
      cases e2
      obtain ⟨h1, h2, b, rfl⟩ := (RepB.of (H := H) rk).nkey sr e1
      have r' := r.put e1 rk rv
      refine fun Q hq => .inr ⟨a, b, xs, q, rfl, rfl, r.nat sr hw hH, ⟨h1, h2, b, rfl⟩, ?_, fun ob => ?_⟩
      · have l1 := r'.len
        have l2 : xs.length ≤ (putN' xs q b v).length := by
          unfold putN'
          split
          · simp
          · simp
        show xs.length < line
        have : line = 16777216 := rfl
        omega
      · rw [← hw]
        exact hq _ (.dcn r')
    · cases e2
  | ins c r => cases e
theorem s_putL {o kk v : E} {ox kx vx : Expr} {sp : Pos} (c : CtxS L Pg C k W sc N X) (hs : notSlice kx = true) (ho : PE X ox (tE X.K L Pg C W o)) (hk : PE X kx (tE X.K L Pg C W kk)) (hv : PE X vx (tE X.K L Pg C W v)) :
    PS X (.Assign [.Subscript ox kx sp] vx pos) (tSt X.K L Pg C W (.putL o kk v)) :=
  (ps_asg hv (pg_sub ho hk (pset_all c.u66) (by intro v; cases kx <;> first | rfl | cases hs)) (by cases vx <;> rfl) (by cases vx <;> rfl)).imp fun D σ H q => by
    obtain ⟨G, F, ι, env, μ, sr, h⟩ := q
    unfold evS at h
    refine tE_goS sr h fun vd μ1 F1 ι1 H1 vv t1 sr1 r1 h1 => tE_goS sr1 h1 fun od μ2 F2 ι2 H2 ov t2 sr2 r2 h2 => tE_goS sr2 h2 fun kd μ3 F3 ι3 H3 kv t3 sr3 r3 h3 => ?_
    obtain ⟨μ4, e, hk⟩ := WsR.stoO.mp h3
    unfold locAt at e
    cases od <;> simp only [reduceCtorEq] at e
    rename_i l
    obtain ⟨w, e1, e2⟩ := Option.bind_eq_some_iff.mp e
    obtain ⟨w', e3, rfl⟩ := Option.map_eq_some_iff.mp e2
    have r2' := r2.mono t3.f t3.i
    cases r2' with
    | @loc a _ hl =>
      obtain ⟨g1, g2, w2, ho2, g3, g4, g5⟩ := sr3.sto l a hl
      rw [e1] at g3; cases g3
      exact putO_ok c.lw sr3 g5 g4 r3 ((r1.mono t2.f t2.i).mono t3.f t3.i) e3 _ fun ho' rw' => hk F3 ι3 _ σ (To.refl _ _) (sr3.updLoc hl rw')
theorem s_put {i : Nat} {kk v : E} {x : Str} {p : Pos} {kx vx : Expr} {sp : Pos} (c : CtxS L Pg C k W sc N X) (h1 : N[i]? = some x) (h2 : visB sc x = true) (h3 : notDbg x = true) (hs : notSlice kx = true) (hk : PE X kx (tE X.K L Pg C W kk)) (hv : PE X vx (tE X.K L Pg C W v)) :
    PS X (.Assign [.Subscript (.Name x p) kx sp] vx pos) (tSt X.K L Pg C W (.put i kk v)) :=
  (ps_asg hv (pg_sub (s_var c.toCtxE h1 h2 h3) hk (pset_all c.u66) (by intro v; cases kx <;> first | rfl | cases hs)) (by cases vx <;> rfl) (by cases vx <;> rfl)).imp fun D σ H q => by
    obtain ⟨G, F, ι, env, μ, sr, h⟩ := q
    unfold evS at h
    split at h
    · rename_i hown
      obtain ⟨w, hx⟩ := isOwn_of hown
      refine tE_goS sr h fun vd μ1 F1 ι1 H1 vv t1 sr1 r1 h1 => ?_
      obtain ⟨a, _, g1, _⟩ := sr1.own i _ hx
      refine ⟨.ref a, g1, tE_goS sr1 h1 fun kd μ3 F3 ι3 H3 kv t3 sr3 r3 h3 => ?_⟩
      obtain ⟨e', he', hk⟩ := WsR.nxtO.mp h3
      obtain ⟨o', ho', rfl⟩ := ownAt_of hx he'
      obtain ⟨a', ho1, e1, _, _, _, e5, e6⟩ := sr3.own i _ hx
      rw [g1] at e1; cases e1
      exact putO_ok c.lw sr3 e6 e5 r3 (r1.mono t3.f t3.i) ho' _ fun hn rw' => hk F3 ι3 _ σ (To.refl _ _) (sr3.updOwn hx g1 rw')
    · exact h.elim
/-! ### self.f = v in __init__ -/
theorem RepF.put {K : PySem.W.Frag} (inj : ∀ (n n' : Nat) (x : Str), L.attr[n]? = some x → L.attr[n']? = some x → n = n') {f : Nat} {fx : Str} {d : Lm.D} {v : V} (hf : L.attr[f]? = some fx) (rv : Rep K L F ι d v) : ∀ {fs : List (Nat × Lm.D)} {gs : List (Str × V)}, RepF K L F ι fs gs → RepF K L F ι (putN fs f d) (putF fx v gs)
  | [], _, r => by cases r; exact .cons hf rv .nil
  | (n, d0) :: rest, _, r => by
    cases r with
    | @cons _ _ y w _ t g1 g2 g3 =>
      unfold putN putF
      by_cases h : n = f
      · subst h
        rw [hf] at g1; cases g1
        rw [if_pos rfl, if_pos rfl]
        exact .cons hf rv g3
      · rw [if_neg h, if_neg (fun z => h (inj _ _ _ g1 (by rw [z]; exact hf)))]
        exact .cons g1 g2 (RepF.put inj hf rv g3)
theorem RepF.len {K : PySem.W.Frag} : ∀ {fs : List (Nat × Lm.D)} {gs : List (Str × V)}, RepF K L F ι fs gs → fs.length = gs.length
  | _, _, .nil => rfl
  | _, _, .cons _ _ b => congrArg (· + 1) b.len
theorem s_selfF {f : Nat} {v : E} {fx x : Str} {p ap : Pos} {vx : Expr} (c : CtxS L Pg C k W sc N X) (h1 : N[0]? = some x) (h2 : visB sc x = true) (h3 : notDbg x = true) (hf : L.attr[f]? = some fx) (hv : PE X vx (tE X.K L Pg C W v)) :
    PS X (.Assign [.Attribute (.Name x p) fx ap] vx pos) (tSt X.K L Pg C W (.selfF f v)) :=
  (ps_fld (s_var c.toCtxE h1 h2 h3) hv (by cases vx <;> rfl)).imp fun D σ H q => by
    obtain ⟨G, F, ι, env, μ, sr, h⟩ := q
    unfold evS at h
    split at h
    · rename_i hown
      obtain ⟨w, hx⟩ := isOwn_of hown
      refine tE_goS sr h fun vd μ1 F1 ι1 H1 vv t1 sr1 r1 h1 => ?_
      obtain ⟨a, ho1, g1, g2, g3, g4, g5, g6⟩ := sr1.own 0 _ hx
      obtain ⟨e', he', hk⟩ := WsR.nxtO.mp h1
      obtain ⟨o', ho', rfl⟩ := ownAt_of hx he'
      refine ⟨.ref a, g1, ?_⟩
      cases g6 with
      | lst _ => cases ho'
      | dct _ => cases ho'
      | dcn _ => cases ho'
      | @ins cn Ca dx fs gs hC rf =>
        unfold insO at ho'
        dsimp only at ho'
        split at ho'
        · rename_i cl hcc
          split at ho'
          · cases ho'
          · rename_i hno
            simp only [Bool.or_eq_true, not_or, Bool.not_eq_true, decide_eq_false_iff_not, Option.isSome_eq_false_iff, Option.isNone_iff_eq_none] at hno
            cases ho'
            obtain ⟨⟨⟨n1, n2⟩, n3⟩, n4⟩ := hno
            refine ⟨a, Ca, dx, gs, rfl, g5, c.link.cls cn cl Ca hcc n1 hC, c.link.nattr cn cl Ca f fx hcc hC n2 n3 hf, by rw [← rf.len]; omega, ?_⟩
            exact hk F1 ι1 _ σ (To.refl _ _) (sr1.updOwn hx g1 (.ins hC (rf.put c.link.atInj hf r1)))
        · cases ho'
    · exact h.elim
end
end Lm
set_option linter.all false
set_option maxRecDepth 100000
namespace Lm
open PySem PySem.Spec PyProof.Rows L2
theorem swp_some {x y : Str} {px py pt pt2 : Pos} {kt k2 : Nat} {a b : Expr} {env : PySem.Env} (hk : env.scope.kind = .function) (hx : env.scope.names.lookup x = some .local) (hy : env.scope.names.lookup y = some .local) (hl : (py.line == px.line) = true) (hxy : x ≠ y)
    (ha : noStar a = true) (hb : noStar b = true) (hf : ([a, b].all (foldedForSure 8)) = false) (hc : ([a, b].all (constantsAlone 8)) = false) :
    swappedStores [.Tuple [.Name x px, .Name y py] kt pt] (.Tuple [a, b] k2 pt2) env = pure (some [x, y]) := by
  have hb2 : env.blockKind = .function := by unfold Env.blockKind; rw [hk]; rfl
  have kx : env.kindOf x = some .local := hx
  have ky : env.kindOf y = some .local := hy
  have hst : (([a, b] : List Expr).any fun | .Starred .. => true | _ => false) = false := by
    cases a <;> first | (cases ha; done) | (cases b <;> first | rfl | (cases hb; done))
  have hed : ([x, y] : List Str).eraseDups = [x, y] := by
    simp [List.eraseDups_cons, Ne.symm hxy]
  unfold swappedStores
  simp only [List.length_cons, List.length_nil, hb2, hst, hf, hc, Expr.pos, List.head?_cons, Option.map_some, Option.getD_some, List.filterMap_cons, List.filterMap_nil, kx, ky, hl, beq_self_eq_true, Bool.and_self, if_true, hed]
  clear hf hc hst
  cases a <;> first | (cases ha; done) | skip
  all_goals cases b <;> first | (cases hb; done) | rfl
theorem any3 {a b c : Expr} {p : Expr → Bool} (ha : noStar a = true) (hb : noStar b = true) (hc : noStar c = true) (hp : ∀ e, noStar e = true → p e = false) : List.any [a, b, c] p = false := by
  simp [hp a ha, hp b hb, hp c hc]
theorem swp_some3 {x y z : Str} {px py pz pt pt2 : Pos} {kt k2 : Nat} {a b c : Expr} {env : PySem.Env} (hk : env.scope.kind = .function) (hx : env.scope.names.lookup x = some .local) (hy : env.scope.names.lookup y = some .local) (hz : env.scope.names.lookup z = some .local)
    (hl : (py.line == px.line) = true) (hl2 : (pz.line == px.line) = true) (hxy : x ≠ y) (hxz : x ≠ z) (hyz : y ≠ z)
    (ha : noStar a = true) (hb : noStar b = true) (hc3 : noStar c = true) (hf : ([a, b, c].all (foldedForSure 8)) = false) (hc : ([a, b, c].all (constantsAlone 8)) = false) :
    swappedStores [.Tuple [.Name x px, .Name y py, .Name z pz] kt pt] (.Tuple [a, b, c] k2 pt2) env = pure (some [x, y, z]) := by
  have hb2 : env.blockKind = .function := by unfold Env.blockKind; rw [hk]; rfl
  have kx : env.kindOf x = some .local := hx
  have ky : env.kindOf y = some .local := hy
  have kz : env.kindOf z = some .local := hz
  have hed : ([x, y, z] : List Str).eraseDups = [x, y, z] := by
    simp [List.eraseDups_cons, Ne.symm hxy, Ne.symm hxz, Ne.symm hyz]
  unfold swappedStores
  simp only [List.length_cons, List.length_nil, hb2, hf, hc, Expr.pos, List.head?_cons, Option.map_some, Option.getD_some, List.filterMap_cons, List.filterMap_nil, kx, ky, kz, hl, hl2, beq_self_eq_true, Bool.and_self, if_true, hed]
  rw [any3 ha hb hc3]
  · rfl
  · intro e h
    cases e <;> first | rfl | (cases h; done)
/-- one of the names is no plain local: the pair is built -/
theorem swp_none {x y : Str} {px py pt pt2 : Pos} {kt k2 : Nat} {a b : Expr} {env : PySem.Env} (hk : env.scope.kind = .function) (h : (env.scope.names.lookup x ≠ some .local) ∨ (env.scope.names.lookup y ≠ some .local)) 
    (ha : noStar a = true) (hb : noStar b = true) :
    swappedStores [.Tuple [.Name x px, .Name y py] kt pt] (.Tuple [a, b] k2 pt2) env = pure none := by
  have hb2 : env.blockKind = .function := by unfold Env.blockKind; rw [hk]; rfl
  have hst : (([a, b] : List Expr).any fun | .Starred .. => true | _ => false) = false := by
    cases a <;> first | (cases ha; done) | (cases b <;> first | rfl | (cases hb; done))
  unfold swappedStores
  simp only [List.length_cons, List.length_nil, hb2, hst, Expr.pos, List.head?_cons, Option.map_some, Option.getD_some, List.filterMap_cons, List.filterMap_nil]
  rcases h with h | h
  · have : (env.kindOf x == some NameKind.local) = false := by
      rw [beq_eq_false_iff_ne]; exact h
    obtain ⟨c, hc⟩ : ∃ c, (env.kindOf y == some NameKind.local && py.line == px.line) = c := ⟨_, rfl⟩
    simp only [this, Bool.false_and, hc]
    clear hst
    cases c
    all_goals cases a <;> first | (cases ha; done) | skip
    all_goals cases b <;> first | (cases hb; done) | rfl
  · have : (env.kindOf y == some NameKind.local) = false := by
      rw [beq_eq_false_iff_ne]; exact h
    obtain ⟨c, hc⟩ : ∃ c, (env.kindOf x == some NameKind.local && px.line == px.line) = c := ⟨_, rfl⟩
    simp only [this, Bool.false_and, hc]
    clear hst
    cases c
    all_goals cases a <;> first | (cases ha; done) | skip
    all_goals cases b <;> first | (cases hb; done) | rfl
end Lm
set_option Elab.async false
set_option linter.all false
set_option maxRecDepth 100000
set_option maxHeartbeats 1000000
namespace Lm
open PySem PySem.Spec PyProof.Rows L2
section
variable {L : Lk} {Pg : Pg} {C : Orc} {k : Nat} {W : WX} {sc : Scope} {N : List Str} {X : Cx} {G F F' H H' : Hp} {ι ι' : List Addr} {env : Env} {μ μ' : Sto} {σ : L2.St} {pos pos2 apos : Pos} {D : Ends}
/-! ### two names at once -/
def tPar2 (i j : Nat) (ta : TA) : TS := fun D σ H => ta σ H fun vs H1 => ∃ v w, vs = [v, w] ∧ ∀ H2, (H2 = H1 ∨ ∃ p xs, H1 p = none ∧ H2 = upd H1 p (.tup xs)) → D.nx ((σ.set i (some v)).set j (some w)) H2
def parB (sc : Scope) (x y : Str) (px py : Pos) (a b : Expr) : Bool :=
  if sc.names.lookup x = some .local ∧ sc.names.lookup y = some .local then (py.line == px.line) && !([a, b].all (foldedForSure 8)) && !([a, b].all (constantsAlone 8)) else true
/-- a reading of an argument list that may be weakened -/
def MonoA (ta : TA) : Prop := ∀ σ H (Q Q' : List V → Hp → Prop), (∀ vs H', Q vs H' → Q' vs H') → ta σ H Q → ta σ H Q'
theorem nodup_ne {i j : Nat} {x y : Str} (hN : N.Nodup) (hi : N[i]? = some x) (hj : N[j]? = some y) (hij : i ≠ j) : x ≠ y := fun z => hij (nd_inj hN hi (by rw [z]; exact hj))
theorem ps_par2 {i j : Nat} {x y : Str} {a b : Expr} {ta : TA} {px py pt pt2 : Pos} {kt k2 : Nat} (c : CtxS L Pg C k W sc N X) (hi : N[i]? = some x) (hj : N[j]? = some y) (hij : i ≠ j) (hx : locB sc x = true) (hy : locB sc y = true) (hna : noStar a = true) (hnb : noStar b = true)
    (hp : parB sc x y px py a b = true) (ha : PA X [a, b] ta) (hm : MonoA ta) : PS X (.Assign [.Tuple [.Name x px, .Name y py] kt pt] (.Tuple [a, b] k2 pt2) pos) (tPar2 i j ta) := by
  have hN : X.N.Nodup := by rw [c.n]; exact c.nd
  have hi' : X.N[i]? = some x := by rw [c.n]; exact hi
  have hj' : X.N[j]? = some y := by rw [c.n]; exact hj
  have hkind : X.env.scope.kind = .function := by rw [c.sce]; exact c.kind
  unfold parB at hp
  split at hp
  · rename_i hl
    simp only [Bool.and_eq_true, Bool.not_eq_true'] at hp
    have l1 : X.env.scope.names.lookup x = some .local := by rw [c.sce]; exact hl.1
    have l2 : X.env.scope.names.lookup y = some .local := by rw [c.sce]; exact hl.2
    refine (ps_par c.calm hN hi' hj' hij l1 l2 ha (swp_some hkind l1 l2 hp.1.1 (nodup_ne c.nd hi hj hij) hna hnb hp.1.2 hp.2)).imp fun D σ H q => ?_
    exact hm σ H _ _ (fun vs H1 ⟨v, w, e, z⟩ => ⟨v, w, e, z H1 (.inl rfl)⟩) q
  · rename_i hl
    have hl' : X.env.scope.names.lookup x ≠ some .local ∨ X.env.scope.names.lookup y ≠ some .local := by
      rw [c.sce]
      by_cases h1 : sc.names.lookup x = some .local
      · exact .inr fun h2 => hl ⟨h1, h2⟩
      · exact .inl h1
    have pgx : PG X (.Name x px) (gName i) := pg_name hN hi' (by rw [c.sce]; exact locB_ok hx) (.inl (c.fb x rfl))
    have pgy : PG X (.Name y py) (gName j) := pg_name hN hj' (by rw [c.sce]; exact locB_ok hy) (.inl (c.fb y rfl))
    refine (ps_asg (pe_tup ha) (pg_tup (n := 2) c.calm (pgs_cons pgx (pgs_cons pgy pgs_nil))) rfl (swp_none hkind hl' hna hnb) rfl).imp fun D σ H q => ?_
    refine hm σ H _ _ (fun vs H1 ⟨v, w, e, z⟩ => ?_) q
    subst e
    exact ⟨by show 2 ≤ sizeLine; decide, fun p hp => ⟨p, [v, w], rfl, SqT.of upd_same, rfl, v, [w], rfl, w, [], rfl, rfl, z _ (.inr ⟨p, _, hp, rfl⟩)⟩⟩
theorem after_tup {o : HO} (sr : SR X.K L G F ι env μ σ H) {H2 : Hp} (h : H2 = H ∨ ∃ p xs, H p = none ∧ H2 = upd H p (.tup xs)) : SR X.K L G F ι env μ σ H2 := by
  rcases h with rfl | ⟨p, xs, hp, rfl⟩
  · exact sr
  · exact sr.upd_off (sr.off hp)
theorem mono_as {es : List E} : MonoA (tAs X.K L Pg C W es) := fun σ H Q Q' hq h => by
  obtain ⟨G, F, ι, env, μ, sr, h⟩ := h
  exact ⟨G, F, ι, env, μ, sr, h.mono (fun _ _ z F' ι' H' vs t sr' r => hq _ _ (z F' ι' H' vs t sr' r)) fun _ _ z => z⟩
theorem mono_em {e1 e2 : E} : MonoA (tCons (tE X.K L Pg C W e1) (tCons (tM X.K L Pg C W e2) tNil)) := fun σ H Q Q' hq h => by
  obtain ⟨G, F, ι, env, μ, sr, h⟩ := h
  refine ⟨G, F, ι, env, μ, sr, h.mono (fun _ _ z F' ι' H' v t sr' r => ?_) fun _ _ z => z⟩
  obtain ⟨G, F, ι, env, μ, sr, h⟩ := z F' ι' H' v t sr' r
  exact ⟨G, F, ι, env, μ, sr, h.mono (fun _ _ z => ⟨z.1, fun F' ι' H' o ho p t sr' r e hi hp => hq _ _ (z.2 F' ι' H' o ho p t sr' r e hi hp)⟩) fun _ _ z => z⟩
theorem par_ff {i j : Nat} {e1 e2 : E} (h : tSt X.K L Pg C W (.par [(i, false), (j, false)] [e1, e2]) D σ H) : tPar2 i j (tAs X.K L Pg C W [e1, e2]) D σ H := by
  obtain ⟨G, F, ι, env, μ, sr, h⟩ := h
  unfold evS at h
  refine ⟨G, F, ι, env, μ, sr, (WsR.then.mp h).mono (fun ds μ1 z F1 ι1 H1 vs t1 sr1 r => ?_) fun x μ1 z F1 ι1 H1 c d t sr1 r => z F1 ι1 H1 σ c d t sr1 r⟩
  obtain ⟨e', he, hk⟩ := WsR.nxtO.mp z
  cases r with
  | nil => simp [setPar] at he
  | cons ra rb =>
    cases rb with
    | nil => simp [setPar] at he
    | cons rc rd =>
      cases rd with
      | cons _ _ => simp [setPar] at he
      | nil =>
        simp only [setPar, Bool.false_eq_true, if_false, Option.bind_some, Option.some.injEq] at he
        subst he
        exact ⟨_, _, rfl, fun H2 h2 => hk F1 ι1 H2 _ t1 ((after_tup (o := .lst []) sr1 h2).setVal ra |>.setVal rc)⟩
theorem par_ft {i j : Nat} {e1 e2 : E} (hij : i ≠ j) (h : tSt X.K L Pg C W (.par [(i, false), (j, true)] [e1, e2]) D σ H) : tPar2 i j (tCons (tE X.K L Pg C W e1) (tCons (tM X.K L Pg C W e2) tNil)) D σ H := by
  obtain ⟨G, F, ι, env, μ, sr, h⟩ := h
  unfold evS evEs at h
  have h := WpR.bind.mp (WsR.then.mp h)
  refine ⟨G, F, ι, env, μ, sr, h.mono (fun d1 μ1 z F1 ι1 H1 v t1 sr1 r1 => ?_) fun x μ1 z F1 ι1 H1 c d t sr1 r => z F1 ι1 H1 σ c d t sr1 r⟩
  have z := WpR.bind.mp z
  unfold evEs at z
  have z := WpR.bind.mp z
  refine ⟨G, F1, ι1, env, μ1, sr1, z.mono (fun d2 μ2 z2 => ?_) fun x μ2 z F2 ι2 H2 c d t sr2 r => z F2 ι2 H2 σ c d (t1.trans t) sr2 r⟩
  unfold evEs at z2
  simp only [Res.bind] at z2
  have z2 : WsR (nxtO (setPar [(i, false), (j, true)] [d1, d2] env) μ2) (okS X.K L D G F ι) (exS X.K L W G F ι) := z2
  obtain ⟨e', he, hk⟩ := WsR.nxtO.mp z2
  simp only [setPar, Bool.false_eq_true, if_false, if_true, Option.bind_some] at he
  obtain ⟨sl, e3, e4⟩ := Option.bind_eq_some_iff.mp he
  obtain ⟨o, ho, rfl⟩ := Option.map_eq_some_iff.mp e3
  cases e4
  refine ⟨by rw [ho]; rfl, fun F2 ι2 H2 o' hob p t2 sr2 r2 e5 hi hp => ⟨v, .ref p, rfl, fun H3 h3 => ?_⟩⟩
  have : o' = o := by
    subst e5
    cases o' <;> first | (cases ho; rfl) | exact hi.elim
  subst this
  have off := sr2.off hp
  have s3 := (sr2.upd_off (o := hob) off).setOwn (i := j) off upd_same r2
  have s4 := s3.setVal (i := i) (r1.mono t2.f t2.i)
  rw [List.set_comm _ _ (Ne.symm hij), List.set_comm _ _ (Ne.symm hij)] at s4
  exact hk F2 ι2 H3 _ (t1.trans t2) (after_tup (o := .lst []) s4 h3)
/-! ### three names at once -/
theorem ps_par33 {i j l : Nat} {x y z : Str} {a b d : Expr} {ta : TA} {px py pz pt pt2 : Pos} {kt k2 : Nat} (c : CtxS L Pg C k W sc N X) (hi : N[i]? = some x) (hj : N[j]? = some y) (hl : N[l]? = some z) (hij : i ≠ j) (hil : i ≠ l) (hjl : j ≠ l)
    (hx : sc.names.lookup x = some .local) (hy : sc.names.lookup y = some .local) (hz : sc.names.lookup z = some .local) (hna : noStar a = true) (hnb : noStar b = true) (hnd : noStar d = true)
    (l1 : (py.line == px.line) = true) (l2 : (pz.line == px.line) = true) (hf : ([a, b, d].all (foldedForSure 8)) = false) (hc : ([a, b, d].all (constantsAlone 8)) = false) (ha : PA X [a, b, d] ta) :
    PS X (.Assign [.Tuple [.Name x px, .Name y py, .Name z pz] kt pt] (.Tuple [a, b, d] k2 pt2) pos) (tPar3 i j l ta) := by
  have hN : X.N.Nodup := by rw [c.n]; exact c.nd
  have hkind : X.env.scope.kind = .function := by rw [c.sce]; exact c.kind
  have lx : X.env.scope.names.lookup x = some .local := by rw [c.sce]; exact hx
  have ly : X.env.scope.names.lookup y = some .local := by rw [c.sce]; exact hy
  have lz : X.env.scope.names.lookup z = some .local := by rw [c.sce]; exact hz
  exact ps_par3 c.calm hN (by rw [c.n]; exact hi) (by rw [c.n]; exact hj) (by rw [c.n]; exact hl) hij hil hjl lx ly lz ha (swp_some3 hkind lx ly lz l1 l2 (nodup_ne c.nd hi hj hij) (nodup_ne c.nd hi hl hil) (nodup_ne c.nd hj hl hjl) hna hnb hnd hf hc)
theorem par_fff {i j l : Nat} {e1 e2 e3 : E} (h : tSt X.K L Pg C W (.par [(i, false), (j, false), (l, false)] [e1, e2, e3]) D σ H) : tPar3 i j l (tAs X.K L Pg C W [e1, e2, e3]) D σ H := by
  obtain ⟨G, F, ι, env, μ, sr, h⟩ := h
  unfold evS at h
  refine ⟨G, F, ι, env, μ, sr, (WsR.then.mp h).mono (fun ds μ1 z F1 ι1 H1 vs t1 sr1 r => ?_) fun x μ1 z F1 ι1 H1 c d t sr1 r => z F1 ι1 H1 σ c d t sr1 r⟩
  obtain ⟨e', he, hk⟩ := WsR.nxtO.mp z
  cases r with
  | nil => simp [setPar] at he
  | cons ra rb =>
    cases rb with
    | nil => simp [setPar] at he
    | cons rc rd =>
      cases rd with
      | nil => simp [setPar] at he
      | cons re rg =>
        cases rg with
        | cons _ _ => simp [setPar] at he
        | nil =>
          simp only [setPar, Bool.false_eq_true, if_false, Option.bind_some, Option.some.injEq] at he
          subst he
          exact ⟨_, _, _, rfl, hk F1 ι1 H1 _ t1 ((sr1.setVal ra |>.setVal rc).setVal re)⟩
/-! ### a name set to a comprehension on its own line -/
def swOf (sc : Scope) (x : Str) (p : Pos) : Expr → Bool
  | .ListComp _ _ scope cpos => sc.names.lookup x == some .local && p.line == cpos.line && !(scope.names.any fun (n, k) => n == x && (k == .local || k == .cell))
  | _ => false
def noOther : Expr → Bool | .SetComp _ _ _ _ => false | .DictComp _ _ _ _ _ => false | _ => true
theorem sw_eq {ex : Expr} {x : Str} {p : Pos} {l : Nat} {env : PySem.Env} (hk : env.scope.kind = .function) (h : noOther ex = true) : swapsWith ex (some (.Name x p)) l env = pure (swOf env.scope x p ex) := by
  have hb2 : env.blockKind = .function := by unfold Env.blockKind; rw [hk]; rfl
  cases ex <;> first | rfl | (cases h; done) | skip
  rename_i elt gs scope cpos
  show (pure (env.blockKind == .function && env.kindOf x == some .local && p.line == cpos.line && !(scope.names.any fun (n, k) => n == x && (k == .local || k == .cell))) : Sem Bool) = _
  rw [hb2]
  rfl
end
end Lm
set_option Elab.async false
set_option linter.all false
set_option maxRecDepth 100000
set_option maxHeartbeats 1000000
namespace Lm
open PySem PySem.Spec PyProof.Rows L2
section
variable {K : PySem.W.Frag} {L : Lk} {G F F' H H' : Hp} {ι ι' : List Addr} {env : Env} {μ μ' : Sto} {σ : L2.St} {p : Addr} {o : HO}
theorem upd_era_self (h : H p = some o) : upd (era H p) p o = H := by
  rw [upd_era]
  funext a
  by_cases ha : a = p
  · subst ha; rw [upd_same]; exact h.symm
  · rw [upd_ne ha]
theorem SR.unguard (hG : G p = none) (hs : ∃ φ, G sysModules = some (.ext φ)) (sr : SR K L (upd G p o) F ι env μ σ H) : SR K L G F ι env μ σ H ∧ Off G F ι env σ p ∧ H p = some o := by
  have hp : H p = some o := sr.g p _ upd_same
  have s2 := SR.erase hG hs sr
  have off := s2.off era_same
  have s3 := s2.upd_off (o := o) off
  rw [upd_era_self hp] at s3
  exact ⟨s3, off, hp⟩
theorem Off.slot {i : Nat} {sl : Sl} {v : V} (off : Off G F ι env σ p) (h : ∀ w, sl = .own w → v ≠ .ref p) : Off G F ι (env.set i sl) (σ.set i (some v)) p := by
  refine ⟨off.f, off.g, off.i, fun j w e z => ?_⟩
  rw [get_set] at e z
  split at e
  · rename_i hij
    rw [if_pos hij] at z
    split at e
    · rename_i hl
      cases e
      split at z
      · cases z; exact h w rfl rfl
      · cases z
    · cases e
  · rename_i hij
    rw [if_neg hij] at z
    exact off.o j w e z
end
section
variable {L : Lk} {Pg : Pg} {C : Orc} {k : Nat} {W : WX} {sc : Scope} {N : List Str} {X : Cx} {G F F' H H' : Hp} {ι ι' : List Addr} {env : Env} {μ μ' : Sto} {σ : L2.St} {pos pos2 apos : Pos} {D : Ends}
theorem toO_toD {o : O} (hi : match o with | .ins _ _ => False | _ => True) {d : Lm.D} (e : d = O.toD o) : Lm.D.toO d = some o := by
  subst e
  cases o <;> first | rfl | exact hi.elim
/-- a new own object, guarded while the rest is made -/
theorem own_step {e : E} {f : Lm.D → Sto → Prop} {Q : VK} (sr : SR X.K L G F ι env μ σ H) (h : WpR (evE Pg C e env μ) f (exW X.K L W G F ι env σ))
    (k : ∀ d μ1, f d μ1 → ∀ o, Lm.D.toO d = some o → ∀ F1 ι1 H1 ho p, To F ι F1 ι1 → G p = none → SR X.K L (upd G p ho) F1 ι1 env μ1 σ H1 → RepO X.K L F1 ι1 p o ho → Q (.ref p) H1) : tN X.K L Pg C W e σ H Q :=
  ⟨G, F, ι, env, μ, sr, h.mono (fun d μ1 z F' ι' H' o ho p t sr' r e2 hi hp => k d μ1 z o (toO_toD hi e2) F' ι' _ ho p t (sr'.gnone hp) (sr'.guard hp) r) fun _ _ z => z⟩
theorem exW_unguard {p : Addr} {ho : HO} {x : Exn} {μ1 : Sto} (hG : G p = none) (hs : ∃ φ, G sysModules = some (.ext φ)) (t : To F ι F' ι') (z : exS X.K L W G F ι x env μ1) : exW X.K L W (upd G p ho) F' ι' env σ x μ1 := fun F2 ι2 H2 c d t2 sr2 r =>
  z F2 ι2 H2 σ c d (t.trans t2) (SR.unguard hG hs sr2).1 r
theorem mono_ne {e1 e2 : E} : MonoA (tCons (tN X.K L Pg C W e1) (tCons (tE X.K L Pg C W e2) tNil)) := fun σ H Q Q' hq h => by
  obtain ⟨G, F, ι, env, μ, sr, h⟩ := h
  refine ⟨G, F, ι, env, μ, sr, h.mono (fun _ _ z F' ι' H' o ho p t sr' r e hi hp => ?_) fun _ _ z => z⟩
  obtain ⟨G, F, ι, env, μ, sr, h⟩ := z F' ι' H' o ho p t sr' r e hi hp
  exact ⟨G, F, ι, env, μ, sr, h.mono (fun _ _ z F' ι' H' v t sr' r => hq _ _ (z F' ι' H' v t sr' r)) fun _ _ z => z⟩
theorem mono_nn {e1 e2 : E} : MonoA (tCons (tN X.K L Pg C W e1) (tCons (tN X.K L Pg C W e2) tNil)) := fun σ H Q Q' hq h => by
  obtain ⟨G, F, ι, env, μ, sr, h⟩ := h
  refine ⟨G, F, ι, env, μ, sr, h.mono (fun _ _ z F' ι' H' o ho p t sr' r e hi hp => ?_) fun _ _ z => z⟩
  obtain ⟨G, F, ι, env, μ, sr, h⟩ := z F' ι' H' o ho p t sr' r e hi hp
  exact ⟨G, F, ι, env, μ, sr, h.mono (fun _ _ z F' ι' H' o ho p t sr' r e hi hp => hq _ _ (z F' ι' H' o ho p t sr' r e hi hp)) fun _ _ z => z⟩
theorem ex0 {x : Exn} {μ1 : Sto} (z : exS X.K L W G F ι x env μ1) : exW X.K L W G F ι env σ x μ1 := fun F1 ι1 H1 c d t sr1 r => z F1 ι1 H1 σ c d t sr1 r
theorem par_tf {i j : Nat} {e1 e2 : E} (h : tSt X.K L Pg C W (.par [(i, true), (j, false)] [e1, e2]) D σ H) : tPar2 i j (tCons (tN X.K L Pg C W e1) (tCons (tE X.K L Pg C W e2) tNil)) D σ H := by
  obtain ⟨G, F, ι, env, μ, sr, h⟩ := h
  unfold evS evEs at h
  have h := WpR.bind.mp (WsR.then.mp h)
  refine own_step sr (WpR.mono h (fun _ _ z => z) fun _ _ z => ex0 z) fun d1 μ1 z o ho F1 ι1 H1 hob p t1 hG sr1 ro => ?_
  have z := WpR.bind.mp z
  unfold evEs at z
  have z := WpR.bind.mp z
  refine ⟨_, F1, ι1, env, μ1, sr1, WpR.mono z (fun d2 μ2 z2 => ?_) fun x μ2 z2 => exW_unguard hG sr.sm t1 z2⟩
  unfold evEs at z2
  simp only [Res.bind] at z2
  have z2 : WsR (nxtO (setPar [(i, true), (j, false)] [d1, d2] env) μ2) (okS X.K L D G F ι) (exS X.K L W G F ι) := z2
  obtain ⟨e', he, hk⟩ := WsR.nxtO.mp z2
  simp only [setPar, Bool.false_eq_true, if_false, if_true, ho, Option.map_some, Option.bind_some, Option.some.injEq] at he
  subst he
  intro F2 ι2 H2 w t2 sr2 r2
  refine ⟨.ref p, w, rfl, fun H3 h3 => ?_⟩
  obtain ⟨s3, off, hp⟩ := SR.unguard hG sr.sm sr2
  have s4 := (s3.setOwn (i := i) off hp (ro.mono t2.f t2.i)).setVal (i := j) r2
  exact hk F2 ι2 H3 _ (t1.trans t2) (after_tup (o := .lst []) s4 h3)
theorem par_tt {i j : Nat} {e1 e2 : E} (h : tSt X.K L Pg C W (.par [(i, true), (j, true)] [e1, e2]) D σ H) : tPar2 i j (tCons (tN X.K L Pg C W e1) (tCons (tN X.K L Pg C W e2) tNil)) D σ H := by
  obtain ⟨G, F, ι, env, μ, sr, h⟩ := h
  unfold evS evEs at h
  have h := WpR.bind.mp (WsR.then.mp h)
  refine own_step sr (WpR.mono h (fun _ _ z => z) fun _ _ z => ex0 z) fun d1 μ1 z o ho F1 ι1 H1 hob p t1 hG sr1 ro => ?_
  have z := WpR.bind.mp z
  unfold evEs at z
  have z := WpR.bind.mp z
  refine own_step sr1 (WpR.mono z (fun _ _ z => z) fun x μ2 z2 => exW_unguard hG sr.sm t1 z2) fun d2 μ2 z2 o2 ho2 F2 ι2 H2 hob2 p2 t2 hG2 sr2 ro2 => ?_
  unfold evEs at z2
  simp only [Res.bind] at z2
  have z2 : WsR (nxtO (setPar [(i, true), (j, true)] [d1, d2] env) μ2) (okS X.K L D G F ι) (exS X.K L W G F ι) := z2
  obtain ⟨e', he, hk⟩ := WsR.nxtO.mp z2
  simp only [setPar, if_true, ho, ho2, Option.map_some, Option.bind_some, Option.some.injEq] at he
  subst he
  refine ⟨.ref p, .ref p2, rfl, fun H3 h3 => ?_⟩
  obtain ⟨s3, off2, hp2⟩ := SR.unguard hG2 (by obtain ⟨φ, e⟩ := sr1.sm; exact ⟨φ, e⟩) sr2
  obtain ⟨s4, off, hp⟩ := SR.unguard hG sr.sm s3
  have hne : p2 ≠ p := fun e => by rw [e, upd_same] at hG2; cases hG2
  have s5 := s4.setOwn (i := i) off hp (ro.mono t2.f t2.i)
  have off3 : Off G F2 ι2 env σ p2 := ⟨off2.f, by have := off2.g; rw [upd_ne hne] at this; exact this, off2.i, off2.o⟩
  have off4 := off3.slot (i := i) (sl := .own o) (v := .ref p) fun w _ e => hne (V.ref.inj e).symm
  have s6 := s5.setOwn (i := j) off4 hp2 ro2
  exact hk F2 ι2 H3 _ (t1.trans t2) (after_tup (o := .lst []) s6 h3)
theorem par_ftf {i j l : Nat} {e1 e2 e3 : E} (hij : i ≠ j) (h : tSt X.K L Pg C W (.par [(i, false), (j, true), (l, false)] [e1, e2, e3]) D σ H) : tPar3 i j l (tCons (tE X.K L Pg C W e1) (tCons (tN X.K L Pg C W e2) (tCons (tE X.K L Pg C W e3) tNil))) D σ H := by
  obtain ⟨G, F, ι, env, μ, sr, h⟩ := h
  unfold evS evEs at h
  have h := WpR.bind.mp (WsR.then.mp h)
  refine ⟨G, F, ι, env, μ, sr, h.mono (fun d1 μ1 z F1 ι1 H1 v1 t1 sr1 r1 => ?_) fun _ _ z => ex0 z⟩
  have z := WpR.bind.mp z
  unfold evEs at z
  have z := WpR.bind.mp z
  refine own_step sr1 (WpR.mono z (fun _ _ z => z) fun _ _ z => (ex0 (exS.le t1 z))) fun d2 μ2 z2 o ho F2 ι2 H2 hob p t2 hG sr2 ro => ?_
  have z2 := WpR.bind.mp z2
  unfold evEs at z2
  have z2 := WpR.bind.mp z2
  refine ⟨_, F2, ι2, env, μ2, sr2, WpR.mono z2 (fun d3 μ3 z3 => ?_) fun x μ2 z2 => exW_unguard hG sr.sm (t1.trans t2) z2⟩
  unfold evEs at z3
  simp only [Res.bind] at z3
  have z3 : WsR (nxtO (setPar [(i, false), (j, true), (l, false)] [d1, d2, d3] env) μ3) (okS X.K L D G F ι) (exS X.K L W G F ι) := z3
  obtain ⟨e', he, hk⟩ := WsR.nxtO.mp z3
  simp only [setPar, Bool.false_eq_true, if_false, if_true, ho, Option.map_some, Option.bind_some, Option.some.injEq] at he
  subst he
  intro F3 ι3 H3 w t3 sr3 r3
  refine ⟨v1, .ref p, w, rfl, ?_⟩
  obtain ⟨s3, off, hp⟩ := SR.unguard hG sr.sm sr3
  have s4 := s3.setVal (i := i) ((r1.mono t2.f t2.i).mono t3.f t3.i)
  have off2 := off.slot (i := i) (sl := .val d1) (v := v1) fun w e => by cases e
  have s5 := (s4.setOwn (i := j) off2 hp (ro.mono t3.f t3.i)).setVal (i := l) r3
  exact hk F3 ι3 H3 _ ((t1.trans t2).trans t3) s5
end
end Lm
set_option Elab.async false
set_option linter.all false
set_option maxRecDepth 100000
set_option maxHeartbeats 1000000
namespace Lm
open PySem PySem.Spec PyProof.Rows L2
section
variable {L : Lk} {Pg : Pg} {C : Orc} {k : Nat} {W : WX} {sc : Scope} {N : List Str} {X : Cx} {G F F' H H' : Hp} {ι ι' : List Addr} {env : Env} {μ μ' : Sto} {σ : L2.St} {pos pos2 apos : Pos} {D : Ends}
/-! ### while -/
theorem s_while {cd : E} {b : List S} {cx : Expr} {bx : List Stmt} (c : CtxS L Pg C k W sc N X) (hc : PT X cx (tT X.K L Pg C W cd)) (hb : PSs X bx (tSts X.K L Pg C W b)) : PS X (.While cx bx [] pos) (tSt X.K L Pg C W (.whil cd b)) :=
  (ps_while c.own hc hb).imp fun D σ H q => by
    obtain ⟨G, F, ι, env, μ, sr, h⟩ := q
    unfold evS at h
    refine ⟨fun m σ H => ∃ F2 ι2 env2 μ2, To F ι F2 ι2 ∧ SR X.K L G F2 ι2 env2 μ2 σ H ∧ WsR (loopW (fun env μ => evE Pg C cd env μ) (fun env μ => evSs Pg C b env μ) m env2 μ2) (okS X.K L D G F2 ι2) (exS X.K L W G F2 ι2),
      ⟨fuel, F, ι, env, μ, To.refl _ _, sr, h⟩, ?_⟩
    rintro m σ2 H2 ⟨F2, ι2, env2, μ2, t2, s2, z⟩
    cases m with
    | zero => unfold loopW at z; exact z.elim
    | succ n =>
      unfold loopW at z
      refine tT_goS s2 z (fun d μ1 hd => ?_) fun kb μ3 F3 ι3 H3 t3 s3 h3 => ?_
      · cases d <;> first | rfl | exact absurd rfl (hd _)
      · cases kb with
        | false => exact (show okS X.K L D G F3 ι3 (.nxt env2) μ3 from h3) F3 ι3 H3 σ2 (To.refl _ _) s3
        | true =>
          rw [if_pos rfl]
          refine ⟨fun σ H => ∃ F2 ι2 env2 μ2, To F ι F2 ι2 ∧ SR X.K L G F2 ι2 env2 μ2 σ H ∧ WsR (loopW (fun env μ => evE Pg C cd env μ) (fun env μ => evSs Pg C b env μ) n env2 μ2) (okS X.K L D G F2 ι2) (exS X.K L W G F2 ι2),
            fun σ' H' h' => ⟨n, Nat.lt_succ_self n, h'⟩, ?_⟩
          refine ⟨G, F3, ι3, env2, μ3, s3, (WsR.bind.mp h3).mono (fun f μ4 w => ?_) fun x e μ4 w => w⟩
          cases f with
          | nxt e4 => exact fun F' ι' H' σ' t' sr' => ⟨F', ι', e4, μ4, (t2.trans t3).trans t', sr', WsR.le t' w⟩
          | brk e4 => exact fun F' ι' H' σ' t' sr' => (show okS X.K L D G F3 ι3 (.nxt e4) μ4 from w) F' ι' H' σ' t' sr'
          | ret d4 => exact fun F' ι' H' e' σ' v t' sr' r => (show okS X.K L D G F3 ι3 (.ret d4) μ4 from w) F' ι' H' e' σ' v t' sr' r
/-! ### x = w.pop() -/
theorem Reps.dropLast {K : PySem.W.Frag} : ∀ {xs : List Lm.D} {vs : List V}, Reps K L F ι xs vs → Reps K L F ι xs.dropLast vs.dropLast
  | [], _, r => by cases r; exact .nil
  | [x], _, r => by cases r with | cons a b => cases b; exact .nil
  | x :: y :: xs, _, r => by
    cases r with
    | cons a b =>
      cases b with
      | cons b c => exact .cons a (Reps.dropLast (.cons b c))
theorem s_pop0 {i j : Nat} {x y : Str} {p px ap cp : Pos} (c : CtxS L Pg C k W sc N X) (h1 : N[j]? = some y) (h2 : locB sc y = true) (g1 : N[i]? = some x) (g2 : visB sc x = true) (g3 : notDbg x = true) (hl : (ap.endLine == cp.line) = true) :
    PS X (.Assign [.Name y p] (.Call (.Attribute (.Name x px) "pop" ap) [] [] cp) pos) (tSt X.K L Pg C W (.pop (.nm j) i none)) := by
  have he := pe_bm0 (cpos := cp) PySem.F.plainAttrs_list PySem.F.slot_list_pop PySem.F.type_list_pop (show MtR X "list.pop" rPop from mt_pop) (s_var (p := px) c.toCtxE g1 g2 g3) (attrBase rfl) hl
  refine (ps_set (i := j) (by rw [c.n]; exact c.nd) (by rw [c.n]; exact h1) (by rw [c.sce]; exact locB_ok h2) he (sw_no rfl) (.inl (c.fb y rfl))).imp fun D σ H q => ?_
  obtain ⟨G, F, ι, env, μ, sr, h⟩ := q
  unfold evS evO at h
  simp only [Res.then] at h
  split at h
  · rename_i xs hx
    obtain ⟨a, ho, e1, e2, e3, e4, e5, e6⟩ := sr.own i _ hx
    cases e6 with
    | @lst _ vs r0 =>
    split at h
    · rename_i d r hp
      obtain ⟨e', he', hk⟩ := WsR.nxtO.mp h
      unfold setT at he'
      cases he'
      unfold popL at hp
      dsimp only at hp
      split at hp
      · cases hp
      · obtain ⟨x0, hx0, e7⟩ := Option.map_eq_some_iff.mp hp
        cases e7
        rw [List.getLast?_eq_getElem?] at hx0
        obtain ⟨v, hv, rv⟩ := r0.get hx0
        rw [r0.len] at hv
        refine ⟨.ref a, e1, .inl ⟨rfl, vs, SqL.of e5⟩, a, vs, v, rfl, rfl, e5, hv, ?_⟩
        have s2 := sr.updOwn (w' := .lst xs.dropLast) (o := .lst vs.dropLast) hx e1 (.lst r0.dropLast)
        exact hk F ι _ _ (To.refl _ _) (s2.setVal (i := j) rv)
    · exact h.elim
  · exact h.elim
end
end Lm
set_option Elab.async false
set_option linter.all false
set_option maxRecDepth 100000
set_option maxHeartbeats 2000000
namespace Lm
open PySem PySem.Spec PyProof.Rows L2
section
variable {L : Lk} {Pg : Pg} {C : Orc} {k : Nat} {W : WX} {sc : Scope} {N : List Str} {X : Cx} {pos : Pos}
/-- raise C(e, ..), C an own exception -/
theorem s_raise {cn : Nat} {e : E} {es : List E} {ex : Expr} {exs : List Expr} {x : Str} {p cp : Pos} {fields : List Str} (c : CtxS L Pg C k W sc N X) (h1 : L.clN[cn]? = some x) (hx : xNames L Pg cn = some fields) (hg : gloB sc x = true) (hd : notDbg x = true)
    (ha : PA X (ex :: exs) (tAs X.K L Pg C W (e :: es))) (hn : (ex :: exs).all noStar = true) : PS X (.Raise (some (.Call (.Name x p) (ex :: exs) [] cp)) none pos) (tSt X.K L Pg C W (.raise cn (e :: es))) := by
  obtain ⟨Ca, fI, fd, ps, hC, hm, T, iC, tI, hb, hf, F1⟩ := c.excs.made cn x fields h1 hx
  refine (ps_raise c.calm c.tk (pmkG T iC tI hf (F1.mono c.k1) c.room c.quiet hb (c.toCtxE.gl hg) hm ha hn (notDbg_of hd))).imp fun D σ H q => ?_
  obtain ⟨G, F, ι, env, μ, sr, h⟩ := q
  unfold evS at h
  refine ⟨G, F, ι, env, μ, sr, (WsR.then.mp h).mono (fun ds μ1 z F1 ι1 H1 vs t sr1 r => ?_) fun y μ1 z F1 ι1 H1 cls dx t sr1 r => z F1 ι1 H1 σ cls dx t sr1 r⟩
  cases e1 : excFs Pg cn ds with
  | none => rw [e1] at z; exact z.elim
  | some fs =>
    rw [e1] at z
    unfold excFs at e1
    unfold xNames at hx
    cases e2 : Pg.cls[cn]? with
    | none => rw [e2] at e1; cases e1
    | some cl =>
      rw [e2] at e1 hx
      dsimp only at e1 hx
      cases e3 : cl.xfs with
      | none => rw [e3] at e1; cases e1
      | some ns =>
        rw [e3] at e1 hx
        dsimp only at e1 hx
        split at e1
        · rename_i hl
          cases e1
          refine ⟨by rw [← r.len, ← hl.1]; exact mapM_len hx, by rw [← r.len]; exact hl.2, fun d hd => ?_⟩
          have s2 := sr1.junk (o := .xd (fields.zip vs).reverse) hd
          exact z F1 ι1 _ σ _ _ t s2 ⟨cn, _, Ca, rfl, hC, rfl, .inr ⟨d, _, rfl, upd_same, repF_rev (repF_zip hx r hl.1)⟩⟩
        · cases e1
end
/-! ### an exception's __init__ in the written part -/
def chkX (N : List Str) (sc : Scope) (fields : List Str) (body : List Stmt) : Bool := match fields with
  | [f1] => (match body with
    | [.Assign [.Attribute (.Name x0 _) g1 _] (.Name x1 _) _] => decide (g1 = f1) && decide (N[0]? = some x0) && decide (N[1]? = some x1) && visB sc x0 && visB sc x1 && notDbg x0 && notDbg x1
    | _ => false)
  | [f1, f2] => (match body with
    | [.Assign [.Attribute (.Name x0 _) g1 _] (.Name x1 _) _, .Assign [.Attribute (.Name y0 _) g2 _] (.Name x2 _) _] => decide (g1 = f1) && decide (g2 = f2) && decide (N[0]? = some x0) && decide (N[0]? = some y0) && decide (N[1]? = some x1) && decide (N[2]? = some x2) &&
        visB sc x0 && visB sc x1 && visB sc x2 && notDbg x0 && notDbg x1 && notDbg x2 && visB sc y0 && notDbg y0
    | _ => false)
  | _ => false
end Lm
set_option Elab.async false
set_option linter.all false
set_option maxRecDepth 100000
set_option maxHeartbeats 1000000
namespace Lm
open PySem PySem.Spec PyProof.Rows L2
section
variable {P : Program} {w : World} {K : PySem.W.Frag} {mg : Str → Option Value} {base : Heap} {f : Addr}
theorem nv_pe {X : Cx} {N : List Str} {sc : Scope} {i : Nat} {x : Str} {p : Pos} (hN : X.N = N) (hs : X.env.scope = sc) (h1 : N[i]? = some x) (h2 : visB sc x = true) (h3 : notDbg x = true) : PE X (.Name x p) (tVar i) := by
  simp only [notDbg, Bool.and_eq_true, Bool.not_eq_true'] at h3
  exact pe_var (by rw [hN]; exact h1) (by rw [hs]; exact visB_ok h2) h3.1.1 h3.1.2
theorem fnX_ok {nm qual : Str} {prm : Arguments} {body : List Stmt} {scope : Scope} {dV kV doc pm cdv ct oc : Value} {an od : Option Addr} {osl : Array (Option Value)} {N ps fields : List Str}
    (lk : K.lookup f = some ⟨oc, od, .func (PySem.W.fnOf nm qual prm body scope dV kV doc pm an cdv ct), osl⟩) (hcd : PySem.W.codeIn K cdv qual = true) (S : FnScope N ps scope) (hps : ps.length = fields.length + 1) (h : chkX N scope fields body = true) :
    FnG P w K mg base 1 f (PySem.W.fnOf nm qual prm body scope dV kV doc pm an cdv ct) ps (spX K fields) := by
  refine fnG_of (k := 0) (N := N) lk hcd S (fun vs H Q E want => ?_) fun A outer s H vs Q E room quiet want => ?_
  · obtain ⟨x, Ca, ws, rfl, hl, _⟩ := want
    rw [List.length_cons, hl, hps]
  · obtain ⟨x, Ca, ws, rfl, hl, T, hf, hx, go⟩ := want
    unfold chkX at h
    split at h
    · rename_i f1
      split at h
      · simp only [Bool.and_eq_true, decide_eq_true_eq] at h
        obtain ⟨⟨⟨⟨⟨⟨rfl, h2⟩, h3⟩, h4⟩, h5⟩, h6⟩, h7⟩ := h
        match ws, hl with
        | [w1], _ => exact ⟨_, ost_one (nv_pe rfl rfl h2 h4 h6) (nv_pe rfl rfl h3 h5 h7) rfl, x, Ca, w1, rfl, rfl, T, hf _ (by simp), hx, go⟩
      · cases h
    · rename_i f1 f2
      split at h
      · simp only [Bool.and_eq_true, decide_eq_true_eq] at h
        obtain ⟨⟨⟨⟨⟨⟨⟨⟨⟨⟨⟨⟨⟨rfl, rfl⟩, h3⟩, h4⟩, h5⟩, h6⟩, h7⟩, h8⟩, h9⟩, h10⟩, h11⟩, h12⟩, hy1⟩, hy2⟩ := h
        match ws, hl with
        | [w1, w2], _ => exact ⟨_, ost_two (nv_pe rfl rfl h3 h7 h10) (nv_pe rfl rfl h4 hy1 hy2) (nv_pe rfl rfl h5 h8 h11) (nv_pe rfl rfl h6 h9 h12) rfl rfl, x, Ca, w1, w2, rfl, rfl, rfl, T, hf _ (by simp), hf _ (by simp), hx, go⟩
      · cases h
    · cases h
end
end Lm
set_option Elab.async false
set_option linter.all false
set_option maxRecDepth 100000
set_option maxHeartbeats 1000000
namespace Lm
open PySem PySem.Spec PyProof.Rows L2
/-! ## an except suite: no calls, what is flat, and lists of it -/
section
variable (K : PySem.W.Frag) (L : Lk) (Pg : Pg) (a : Addr) (cls : Value) (d : Option Addr) (ix : Option Nat)
/-- what is held: slot ix bears the exception at a -/
def HX (F : Hp) (ι : List Addr) (env : Env) (σ : L2.St) (H : Hp) : Prop := ∀ i c fs, ix = some i → env[i]? = some (Sl.hx c fs) → ∃ Ca, isX Pg c = true ∧ L.clA[c]? = some Ca ∧ cls = .ref Ca ∧ σ[i]? = some (some (V.ref a)) ∧
  ((fs = [] ∧ d = none) ∨ ∃ dx gs, d = some dx ∧ H dx = some (.xd gs) ∧ RepF K L F ι fs gs)
def tP (e : E) : TE := fun σ H Q => ∃ G F ι env μ dv, SR K L G F ι env μ σ H ∧ HX K L Pg a cls d ix F ι env σ H ∧ evH Pg e env = some dv ∧ ∀ v, Rep K L F ι dv v → Q v H
def tPs (es : List E) : TA := fun σ H Q => ∃ G F ι env μ ds, SR K L G F ι env μ σ H ∧ HX K L Pg a cls d ix F ι env σ H ∧ evHs' Pg es env = some ds ∧ ∀ vs, Reps K L F ι ds vs → Q vs H
def tPand (es : List E) : TE := fun σ H Q => ∃ G F ι env μ dv, SR K L G F ι env μ σ H ∧ HX K L Pg a cls d ix F ι env σ H ∧ evHand Pg es env = some dv ∧ ∀ v, Rep K L F ι dv v → Q v H
end
/-- isinstance(e, c), e the exception that the suite holds, with its dict -/
def rIsD (K : PySem.W.Frag) (D a : Addr) (d : Option Addr) : List V → Hp → VK → Prop := fun xs H Q => ∃ (c : V) (cv : Value) (b : Bool), xs = [.ref a, c] ∧ (∀ u, RelV c u → u = cv) ∧ PySem.W.kitOne K (.ref D) cv = some b ∧ (d = none ∨ ∃ dx gs, d = some dx ∧ H dx = some (.xd gs)) ∧ Q (.bl b) H
theorem call_isD {X : Cx} {a D : Addr} {oe : Obj} {d : Option Addr} {pn : List (Addr × Obj)} (C : ExcK X.K D) (hz : Zc (.ref D) d oe) (hf : ∃ vs, oe.data = .fields vs) : CallR (X.suite a ((a, oe) :: pn)) (.builtin "isinstance") (rIsD X.K D a d) := by
  intro pins s σ H xs us Q I r h
  obtain ⟨c, cv, b, rfl, hcv, e, hd, q⟩ := h
  obtain ⟨u1, u2, rfl, rx, rt⟩ : ∃ u1 u2, us = [u1, u2] ∧ RelV (.ref a) u1 ∧ RelV c u2 := by
    cases r with
    | cons rx rr =>
      cases rr with
      | cons rt rr => cases rr; exact ⟨_, _, rfl, rx, rt⟩
  cases rx
  obtain rfl := hcv _ rt
  obtain ⟨hget, _⟩ := I.pin (a, oe) (List.mem_append.mpr (.inl List.mem_cons_self))
  obtain ⟨vs, hv⟩ := hf
  have J : ∃ od, PySem.W.InstAt s.heap a oe D od := by
    have hn : PySem.W.notCls oe = true := by unfold PySem.W.notCls; rw [hv] <;> rfl
    rcases hd with rfl | ⟨dx, gs, rfl, hx⟩
    · exact ⟨none, hget, hz.1, hn, by rw [hz.2]; trivial⟩
    · have hx' : ObjOk X.prog X.w H s.heap dx (.xd gs) := I.hok dx _ hx
      obtain ⟨mA, hns, hr⟩ := hx'
      obtain ⟨od, ho, hl⟩ := lookIn_ns hns
      exact ⟨some od, hget, hz.1, hn, by rw [hz.2]; exact ho⟩
  obtain ⟨od, J⟩ := J
  exact PySem.W.kia_one (PySem.W.kitx_exc C.cl C.xf.ga C.xf.gg C.xf.exC C.hc C.hn C.ht C.hm) I.kIn J e (fun z => nomatch z) fun tk => ⟨.bl b, H, I.kept (t' := tk) fun _ _ z => z, rfl, q⟩
section
variable {L : Lk} {Pg : Pg} {C : Orc} {k : Nat} {W : WX} {sc : Scope} {N : List Str} {X : Cx} {pos : Pos} {a : Addr} {oe : Obj} {cls : Value} {d : Option Addr} {pn : List (Addr × Obj)} {ix : Option Nat}
theorem h_lit {dv : Lm.D} {cc : Const} {jj : Nat} (h : constOk dv cc = true) : PE (X.suite a pn) (.Constant cc jj pos) (tP X.K L Pg a cls d ix (.lit dv)) := by
  have go : ∀ {v : V}, PE (X.suite a pn) (.Constant cc jj pos) (tC v) → (∀ F ι, Rep X.K L F ι dv v) → PE (X.suite a pn) (.Constant cc jj pos) (tP X.K L Pg a cls d ix (.lit dv)) := fun {v} he r => he.imp fun σ H Q q => by
    obtain ⟨G, F, ι, env, μ, dw, sr, hx, e, kk⟩ := q
    unfold evH at e
    cases e
    exact kk v (r F ι)
  cases dv <;> cases cc <;> simp only [constOk, reduceCtorEq, decide_eq_true_eq, beq_iff_eq] at h
  · exact go pe_non fun F ι => .non
  · subst h; exact go pe_bl fun F ι => .bl _
  · subst h; exact go pe_int fun F ι => .int _
  · subst h; exact go pe_str fun F ι => .str _
theorem hN (c : CtxS L Pg C k W sc N X) {i : Nat} {x : Str} (h1 : N[i]? = some x) : (X.suite a pn).N[i]? = some x := by show X.N[i]? = _; rw [c.n]; exact h1
theorem h_nm (c : CtxS L Pg C k W sc N X) {i : Nat} {x : Str} {p : Pos} (h1 : N[i]? = some x) (h2 : visB sc x = true) (h3 : notDbg x = true) : PE (X.suite a pn) (.Name x p) (tVar i) := by
  simp only [notDbg, Bool.and_eq_true, Bool.not_eq_true'] at h3
  exact pe_var (hN c h1) (by show Vis X.env.scope x; rw [c.sce]; exact visB_ok h2) h3.1.1 h3.1.2
theorem h_var (c : CtxS L Pg C k W sc N X) {i : Nat} {x : Str} {p : Pos} (h1 : N[i]? = some x) (h2 : visB sc x = true) (h3 : notDbg x = true) : PE (X.suite a pn) (.Name x p) (tP X.K L Pg a cls d ix (.var i)) :=
  (h_nm c h1 h2 h3).imp fun σ H Q q => by
    obtain ⟨G, F, ι, env, μ, dv, sr, hx, e, kk⟩ := q
    unfold evH at e
    split at e
    · rename_i dd he
      cases e
      obtain ⟨v, h1, h2⟩ := sr.val i _ he
      exact ⟨v, h1, kk v h2⟩
    · cases e
def goodC (L : Lk) (Pg : Lm.Pg) (cls : Value) : Prop := ∃ c Ca, cls = .ref Ca ∧ isX Pg c = true ∧ L.clA[c]? = some Ca
theorem HX.good {K : PySem.W.Frag} {F : Hp} {ι : List Addr} {env : Env} {σ : L2.St} {H : Hp} {i c : Nat} {fs : List (Nat × Lm.D)} (h : HX K L Pg a cls d (some i) F ι env σ H) (e : env[i]? = some (Sl.hx c fs)) : goodC L Pg cls := by
  obtain ⟨Ca, h2, h3, h4, _⟩ := h i c fs rfl e
  exact ⟨c, Ca, h4, h2, h3⟩
theorem pe_never {X : Cx} {e : Expr} {t : TE} (h : ∀ σ H Q, ¬ t σ H Q) : PE X e t := ⟨fun pins s σ H Q I q => (h σ H Q q).elim⟩
theorem h_attr (c : CtxS L Pg C k W sc N X) {i f : Nat} {x fx : Str} {p : Pos} (h1 : N[i]? = some x) (h2 : visB sc x = true) (h3 : notDbg x = true) (h4 : L.attr[f]? = some fx) (hz : Zc cls d oe) (hf : ∃ vs, oe.data = .fields vs) :
    PE (X.suite a ((a, oe) :: pn)) (.Attribute (.Name x p) fx pos) (tP X.K L Pg a cls d (some i) (.attr f (.var i))) := by
  by_cases hg : goodC L Pg cls
  · obtain ⟨cn, Ca, rfl, g1, g2⟩ := hg
    obtain ⟨hk, hno, _⟩ := c.excs.held cn Ca g1 g2
    refine (pe_xf hk.xf (hno f fx h4) hz hf (h_nm c h1 h2 h3)).imp fun σ H Q q => ?_
    obtain ⟨G, F, ι, env, μ, dv, sr, hx, e, kk⟩ := q
    unfold evH at e
    split at e
    case h_2 => cases e
    rename_i c' fs e1
    obtain ⟨Ca', e2, e3, e4, e5, e6⟩ := hx i c' fs rfl e1
    rcases e6 with ⟨rfl, rfl⟩ | ⟨dx, gs, rfl, hdx, rf⟩
    · cases e
    · obtain ⟨v, l1, l2⟩ := RepF.look (fun n n' y => c.link.atInj n n' y) h4 rf e
      exact ⟨.ref a, e5, rfl, rfl, dx, gs, v, rfl, hdx, l1, kk v l2⟩
  · refine pe_never fun σ H Q q => ?_
    obtain ⟨G, F, ι, env, μ, dv, sr, hx, e, kk⟩ := q
    unfold evH at e
    split at e
    · rename_i e1; exact hg (hx.good e1)
    · cases e
theorem h_isi (c : CtxS L Pg C k W sc N X) {i : Nat} {t : Ty} {x y : Str} {p p1 p2 : Pos} {cv : Value} {bb : Nat → Bool} (h1 : N[i]? = some x) (h2 : visB sc x = true) (h3 : notDbg x = true) (hgi : gloB sc "isinstance" = true)
    (he : ∀ env c' fs, env[i]? = some (Sl.hx c' fs) → evH Pg (.isi (.var i) [t]) env = some (.bl (bb c'))) (hn0 : ∀ env : Env, (∀ c' fs, env[i]? ≠ some (Sl.hx c' fs)) → evH Pg (.isi (.var i) [t]) env = none)
    {cw : V} (hy : PE (X.suite a ((a, oe) :: pn)) (.Name y p2) (tC cw)) (hcw : ∀ u, RelV cw u → u = cv) (hk : ∀ c' Ca, isX Pg c' = true → L.clA[c']? = some Ca → PySem.W.kitOne X.K (.ref Ca) cv = some (bb c')) (hz : Zc cls d oe) (hf : ∃ vs, oe.data = .fields vs) :
    PE (X.suite a ((a, oe) :: pn)) (.Call (.Name "isinstance" p1) [.Name x p, .Name y p2] [] pos) (tP X.K L Pg a cls d (some i) (.isi (.var i) [t])) := by
  by_cases hg : goodC L Pg cls
  · obtain ⟨cn, Ca, rfl, g1, g2⟩ := hg
    obtain ⟨hkk, _⟩ := c.excs.held cn Ca g1 g2
    have pa := paC (X := X.suite a ((a, oe) :: pn)) (e := .Name x p) rfl (h_nm c h1 h2 h3) (paC (X := X.suite a ((a, oe) :: pn)) (e := .Name y p2) rfl hy (pa_nil (X := X.suite a ((a, oe) :: pn))))
    have hgl : Gl (X.suite a ((a, oe) :: pn)) "isinstance" := c.toCtxE.gl hgi
    refine (pe_callB (call_isD hkk hz hf) hgl (c.link.blt _ (by simp [bltNames])) (by decide +kernel) pa (by decide +kernel) (by decide +kernel) (starEach_cons rfl) (starEach_none _ (by simp [noStar]))).imp fun σ H Q q => ?_
    obtain ⟨G, F, ι, env, μ, dv, sr, hx, e, kk⟩ := q
    obtain ⟨c', fs, e1⟩ : ∃ c' fs, env[i]? = some (Sl.hx c' fs) := Classical.byContradiction fun z => by
      rw [hn0 env fun c' fs z' => z ⟨c', fs, z'⟩] at e
      cases e
    obtain ⟨Ca', e2, e3, e4, e5, e6⟩ := hx i c' fs rfl e1
    rw [he env c' fs e1] at e
    cases e
    cases e4
    refine ⟨.ref a, e5, ?_⟩
    exact ⟨cw, cv, _, rfl, hcw, hk c' _ e2 e3, e6.elim (fun z => .inl z.2) (fun ⟨dx, gs, z1, z2, _⟩ => .inr ⟨dx, gs, z1, z2⟩), kk _ (.bl _)⟩
  · refine pe_never fun σ H Q q => ?_
    obtain ⟨G, F, ι, env, μ, dv, sr, hx, e, kk⟩ := q
    obtain ⟨c', fs, e1⟩ : ∃ c' fs, env[i]? = some (Sl.hx c' fs) := Classical.byContradiction fun z => by
      rw [hn0 env fun c' fs z' => z ⟨c', fs, z'⟩] at e
      cases e
    exact hg (hx.good e1)
theorem h_not {e : E} {ex : Expr} (h : PE (X.suite a pn) ex (tP X.K L Pg a cls d ix e)) : PE (X.suite a pn) (.UnaryOp .Not ex pos) (tP X.K L Pg a cls d ix (.not e)) :=
  (pe_not h).imp fun σ H Q q => by
    obtain ⟨G, F, ι, env, μ, dv, sr, hx, e1, kk⟩ := q
    unfold evH at e1
    split at e1
    · rename_i b eb
      cases e1
      refine ⟨G, F, ι, env, μ, _, sr, hx, eb, fun v r => ?_⟩
      cases r
      exact ⟨b, rfl, kk _ (.bl _)⟩
    · cases e1
theorem h_and1 {e : E} {ex : Expr} (h : PE (X.suite a pn) ex (tP X.K L Pg a cls d ix e)) : PE (X.suite a pn) (.BoolOp .And [ex] pos) (tPand X.K L Pg a cls d ix [e]) :=
  (pe_one h).imp fun σ H Q q => by
    obtain ⟨G, F, ι, env, μ, dv, sr, hx, e1, kk⟩ := q
    unfold evHand at e1
    split at e1
    · rename_i eb
      unfold evHand at e1
      cases e1
      exact ⟨G, F, ι, env, μ, _, sr, hx, eb, kk⟩
    · rename_i eb
      cases e1
      exact ⟨G, F, ι, env, μ, _, sr, hx, eb, kk⟩
    · cases e1
theorem h_andC {e : E} {es : List E} {ex bx : Expr} {exs : List Expr} (h : PE (X.suite a pn) ex (tP X.K L Pg a cls d ix e)) (hr : PE (X.suite a pn) (.BoolOp .And (bx :: exs) pos) (tPand X.K L Pg a cls d ix es)) :
    PE (X.suite a pn) (.BoolOp .And (ex :: bx :: exs) pos) (tPand X.K L Pg a cls d ix (e :: es)) :=
  (pe_and h hr).imp fun σ H Q q => by
    obtain ⟨G, F, ι, env, μ, dv, sr, hx, e1, kk⟩ := q
    unfold evHand at e1
    split at e1
    · rename_i eb
      refine ⟨G, F, ι, env, μ, _, sr, hx, eb, fun v r => ?_⟩
      cases r
      exact ⟨true, rfl, by rw [if_pos rfl]; exact ⟨G, F, ι, env, μ, _, sr, hx, e1, kk⟩⟩
    · rename_i eb
      cases e1
      refine ⟨G, F, ι, env, μ, _, sr, hx, eb, fun v r => ?_⟩
      cases r
      exact ⟨false, rfl, by rw [if_neg Bool.false_ne_true]; exact kk _ (.bl _)⟩
    · cases e1
theorem h_nil : PA (X.suite a pn) [] (tPs X.K L Pg a cls d ix []) := (pa_nil (X := X.suite a pn)).imp fun σ H Q q => by
  obtain ⟨G, F, ι, env, μ, ds, sr, hx, e1, kk⟩ := q
  unfold evHs' at e1
  cases e1
  exact kk [] .nil
theorem h_cons {e : E} {es : List E} {ex : Expr} {exs : List Expr} (hn : noStar ex = true) (h : PE (X.suite a pn) ex (tP X.K L Pg a cls d ix e)) (hr : PA (X.suite a pn) exs (tPs X.K L Pg a cls d ix es)) : PA (X.suite a pn) (ex :: exs) (tPs X.K L Pg a cls d ix (e :: es)) :=
  (paC hn h hr).imp fun σ H Q q => by
    obtain ⟨G, F, ι, env, μ, ds, sr, hx, e1, kk⟩ := q
    unfold evHs' at e1
    obtain ⟨dv, e2, e3⟩ := Option.bind_eq_some_iff.mp e1
    obtain ⟨dvs, e4, rfl⟩ := Option.map_eq_some_iff.mp e3
    exact ⟨G, F, ι, env, μ, dv, sr, hx, e2, fun v r => ⟨G, F, ι, env, μ, dvs, sr, hx, e4, fun vs rs => kk _ (.cons r rs)⟩⟩
/-! ### the checker -/
variable (L Pg N sc ix) in
mutual
def chkH : E → Expr → Bool
  | .lit d, ex => (match ex with | .Constant cc _ _ => constOk d cc | _ => false)
  | .var i, ex => (match ex with | .Name x _ => decide (N[i]? = some x) && visB sc x && notDbg x | _ => false)
  | .attr f o, ex => (match o, ex with | .var i, .Attribute (.Name x _) fx _ => decide (ix = some i) && decide (N[i]? = some x) && visB sc x && notDbg x && decide (L.attr[f]? = some fx) | _, _ => false)
  | .isi o ts, ex => (match o, ts, ex with
    | .var i, [t], .Call (.Name fn _) [.Name x _, .Name y _] [] _ => nameIs fn "isinstance" && decide (ix = some i) && decide (N[i]? = some x) && visB sc x && notDbg x && gloB sc "isinstance" && gloB sc y && notDbg y &&
        (match t with
        | .own c => decide (L.clN[c]? = some y) && isX Pg c
        | .exc n => (nameIs y "ValueError" && decide (n = "ValueError")) || (nameIs y "LookupError" && decide (n = "LookupError"))
        | _ => false)
    | _, _, _ => false)
  | .not e, ex => (match ex with | .UnaryOp .Not ax _ => chkH e ax | _ => false)
  | .and es, ex => (match ex with | .BoolOp .And axs _ => chkHa es axs | _ => false)
  | _, _ => false
def chkHa : List E → List Expr → Bool
  | [], _ => false
  | e :: es, exs => (match exs with
    | [] => false
    | ex :: r => chkH e ex && (match es with | [] => r.isEmpty | _ :: _ => chkHa es r))
end
end
section
variable {L : Lk} {Pg : Pg} {C : Orc} {k : Nat} {W : WX} {sc : Scope} {N : List Str} {X : Cx} {a : Addr} {oe : Obj} {cls : Value} {d : Option Addr} {pn : List (Addr × Obj)} {ix : Option Nat}
variable (c : CtxS L Pg C k W sc N X) (hz : Zc cls d oe) (hf : ∃ vs, oe.data = .fields vs)
include c hz hf
mutual
theorem chkH_ok : ∀ (e : E) {ex : Expr}, chkH L Pg sc N ix e ex = true → PE (X.suite a ((a, oe) :: pn)) ex (tP X.K L Pg a cls d ix e)
  | .lit dv, ex, h => by
    unfold chkH at h
    split at h
    · exact h_lit h
    · cases h
  | .var i, ex, h => by
    unfold chkH at h
    split at h
    · simp only [Bool.and_eq_true, decide_eq_true_eq] at h
      exact h_var c h.1.1 h.1.2 h.2
    · cases h
  | .attr f o, ex, h => by
    unfold chkH at h
    split at h
    · simp only [Bool.and_eq_true, decide_eq_true_eq] at h
      obtain ⟨⟨⟨⟨rfl, h1⟩, h2⟩, h3⟩, h4⟩ := h
      exact h_attr c h1 h2 h3 h4 hz hf
    · cases h
  | .isi o ts, ex, h => by
    unfold chkH at h
    split at h
    · rename_i i t fn p1 x p y p2 cp
      simp only [Bool.and_eq_true, decide_eq_true_eq] at h
      obtain ⟨⟨⟨⟨⟨⟨⟨⟨h0, rfl⟩, h1⟩, h2⟩, h3⟩, h4⟩, h5⟩, h6⟩, h7⟩ := h
      cases nameIs_eq h0
      have gy : Gl (X.suite a ((a, oe) :: pn)) y := c.toCtxE.gl h5
      split at h7
      · rename_i t
        simp only [Bool.and_eq_true, decide_eq_true_eq] at h7
        obtain ⟨Ct, z1, z2, z3⟩ := c.excs.caught t y h7.1 h7.2
        refine h_isi c (bb := fun c' => supOf Pg c' (.inl t)) (cv := .ref Ct) (cw := .ref Ct) h1 h2 h3 h4 (fun env c' fs e => ?_) (fun env e => ?_) (pe_glob gy z2 rfl (notDbg_of h6)) (fun u r => r) (fun c' Ca g1 g2 => (z3 c' Ca g1 g2).2) hz hf
        · unfold evH; rw [e]
        · unfold evH
          split
          · rename_i c' fs e'; exact absurd e' (e c' fs)
          · rfl
      · rename_i n
        rw [Bool.or_eq_true] at h7
        rcases h7 with h7 | h7
        · simp only [Bool.and_eq_true, decide_eq_true_eq] at h7
          obtain ⟨h8, rfl⟩ := h7
          cases nameIs_eq h8
          refine h_isi c (bb := fun c' => supOf Pg c' (.inr "ValueError")) (cv := .type "ValueError") (cw := .ty "ValueError") h1 h2 h3 h4 (fun env c' fs e => ?_) (fun env e => ?_) (pe_bltn gy (c.link.blt _ (by simp [bltNames])) (u := .type "ValueError") (by decide +kernel) rfl (by decide +kernel) (by decide +kernel)) (fun u r => r) (fun c' Ca g1 g2 => (c.excs.held c' Ca g1 g2).2.2.1) hz hf
          · unfold evH; rw [e]
          · unfold evH
            split
            · rename_i c' fs e'; exact absurd e' (e c' fs)
            · rfl
        · simp only [Bool.and_eq_true, decide_eq_true_eq] at h7
          obtain ⟨h8, rfl⟩ := h7
          cases nameIs_eq h8
          refine h_isi c (bb := fun c' => supOf Pg c' (.inr "LookupError")) (cv := .type "LookupError") (cw := .ty "LookupError") h1 h2 h3 h4 (fun env c' fs e => ?_) (fun env e => ?_) (pe_bltn gy (c.link.blt _ (by simp [bltNames])) (u := .type "LookupError") (by decide +kernel) rfl (by decide +kernel) (by decide +kernel)) (fun u r => r) (fun c' Ca g1 g2 => (c.excs.held c' Ca g1 g2).2.2.2.1) hz hf
          · unfold evH; rw [e]
          · unfold evH
            split
            · rename_i c' fs e'; exact absurd e' (e c' fs)
            · rfl
      · cases h7
    · cases h
  | .not e, ex, h => by
    unfold chkH at h
    split at h
    · exact h_not (chkH_ok e h)
    · cases h
  | .and es, ex, h => by
    unfold chkH at h
    split at h
    · exact (chkHa_ok es h).imp fun σ H Q q => by
        obtain ⟨G, F, ι, env, μ, dv, sr, hx, e1, kk⟩ := q
        unfold evH at e1
        exact ⟨G, F, ι, env, μ, dv, sr, hx, e1, kk⟩
    · cases h
  | .glob _, ex, h | .tup _, ex, h | .lst _, ex, h | .dic _ _, ex, h | .bin _ _ _, ex, h | .neg _, ex, h | .cmp _ _ _, ex, h | .chain _ _ _ _ _, ex, h | .or _, ex, h | .ite _ _ _, ex, h | .call _ _, ex, h | .new _ _, ex, h | .callv _ _, ex, h
  | .meth _ _ _, ex, h | .f1 _ _, ex, h | .f2 _ _ _, ex, h | .get3 _ _ _, ex, h | .idx _ _, ex, h | .sli _ _ _, ex, h | .rev _, ex, h | .comp _ _ _ _, ex, h | .dcomp _ _ _ _, ex, h | .lam _ _, ex, h | .fstr _, ex, h | .alloc _, ex, h | .tx _ _ _, ex, h | .ocmp _ _ _, ex, h => by
    unfold chkH at h
    cases h
theorem chkHa_ok : ∀ (es : List E) {exs : List Expr}, chkHa L Pg sc N ix es exs = true → PE (X.suite a ((a, oe) :: pn)) (.BoolOp .And exs pos) (tPand X.K L Pg a cls d ix es)
  | [], exs, h => by unfold chkHa at h; cases h
  | e :: es, exs, h => by
    unfold chkHa at h
    cases exs with
    | nil => cases h
    | cons ex r =>
      dsimp only at h
      rw [Bool.and_eq_true] at h
      cases es with
      | nil =>
        rw [isE_nil h.2]
        exact h_and1 (chkH_ok e h.1)
      | cons e2 es2 =>
        have h2 := h.2
        dsimp only at h2
        cases r with
        | nil => unfold chkHa at h2; cases h2
        | cons bx exs2 => exact h_andC (chkH_ok e h.1) (chkHa_ok (e2 :: es2) h2)
end
theorem chkHs_ok : ∀ (es : List E) (exs : List Expr), all2 (chkH L Pg sc N ix) es exs = true → exs.all noStar = true → PA (X.suite a ((a, oe) :: pn)) exs (tPs X.K L Pg a cls d ix es)
  | [], [], h, hn => h_nil
  | [], _ :: _, h, hn => by cases h
  | _ :: _, [], h, hn => by cases h
  | e :: es, ex :: exs, h, hn => by
    unfold all2 at h
    rw [Bool.and_eq_true] at h
    rw [List.all_cons, Bool.and_eq_true] at hn
    exact h_cons hn.1 (chkH_ok c hz hf e h.1) (chkHs_ok es exs h.2 hn.2)
omit c hz hf
/-! ### statements -/
/-- a value, or a list of values -/
def tHV (K : PySem.W.Frag) (L : Lk) (Pg : Lm.Pg) (a : Addr) (cls : Value) (d : Option Addr) (ix : Option Nat) (e : E) : TE := fun σ H Q => ∃ G F ι env μ dv, SR K L G F ι env μ σ H ∧ HX K L Pg a cls d ix F ι env σ H ∧ evH Pg e env = some dv ∧
  ∀ F' H' v, To F ι F' ι → SR K L G F' ι env μ σ H' → Le F F' → (∀ b o, H b = some o → H' b = some o) → Rep K L F' ι dv v → Q v H'
variable (L Pg N sc ix) in
def chkHV0 (e : E) (ex : Expr) : Bool := match e, ex with
  | .lst es, .List exs _ => all2 (chkH L Pg sc N ix) es exs && exs.all noStar
  | .lst _, _ => false
  | e, ex => chkH L Pg sc N ix e ex && noComp ex
theorem tHV_flat {e : E} {σ : L2.St} {H : Hp} {Q : VK} (h : tHV X.K L Pg a cls d ix e σ H Q) : tP X.K L Pg a cls d ix e σ H Q := by
  obtain ⟨G, F, ι, env, μ, dv, sr, hx, e1, kk⟩ := h
  exact ⟨G, F, ι, env, μ, dv, sr, hx, e1, fun v r => kk F H v (To.refl _ _) sr (Le.refl _) (fun _ _ z => z) r⟩
theorem chkHV0_ok (c : CtxS L Pg C k W sc N X) (hz : Zc cls d oe) (hf : ∃ vs, oe.data = .fields vs) {e : E} {ex : Expr} (h : chkHV0 L Pg sc N ix e ex = true) : PE (X.suite a ((a, oe) :: pn)) ex (tHV X.K L Pg a cls d ix e) ∧ noComp ex = true := by
  unfold chkHV0 at h
  split at h
  · rename_i es exs p
    rw [Bool.and_eq_true] at h
    refine ⟨(pe_lst (chkHs_ok c hz hf es exs h.1 h.2)).imp fun σ H Q q => ?_, rfl⟩
    obtain ⟨G, F, ι, env, μ, dv, sr, hx, e1, kk⟩ := q
    unfold evH at e1
    obtain ⟨ds, e2, e3⟩ := Option.bind_eq_some_iff.mp e1
    split at e3
    · rename_i hl
      cases e3
      refine ⟨G, F, ι, env, μ, ds, sr, hx, e2, fun vs rs => ⟨by rw [← rs.len, ← line_eq]; exact hl, fun q hq => ?_⟩⟩
      exact kk _ _ _ (sr.to_new hq) (sr.new hq) (sr.to_new hq).f (le_upd hq) (.lst upd_same (rs.mono (le_upd (sr.fnone hq)) (List.prefix_refl ι)))
    · cases e3
  · cases h
  · rw [Bool.and_eq_true] at h
    exact ⟨(chkH_ok c hz hf _ h.1).imp fun σ H Q q => tHV_flat q, h.2⟩
variable (L Pg N sc ix) in
def chkHV (e : E) (ex : Expr) : Bool := match e, ex with
  | .ite c a b, .IfExp cx ax bx _ => plainT cx && chkH L Pg sc N ix c cx && chkHV0 L Pg sc N ix a ax && chkHV0 L Pg sc N ix b bx
  | .ite _ _ _, _ => false
  | e, ex => chkHV0 L Pg sc N ix e ex
theorem h_test (c : CtxS L Pg C k W sc N X) (hz : Zc cls d oe) (hf : ∃ vs, oe.data = .fields vs) {e : E} {ex : Expr} (hp : plainT ex = true) (h : chkH L Pg sc N ix e ex = true) : PT (X.suite a ((a, oe) :: pn)) ex (L2.tB (tP X.K L Pg a cls d ix e)) :=
  pt_val (chkH_ok c hz hf e h) (by
    intro whole
    cases ex with
    | UnaryOp op a p => cases op <;> first | rfl | cases hp
    | _ => first | rfl | cases hp)
theorem chkHV_ok (c : CtxS L Pg C k W sc N X) (hz : Zc cls d oe) (hf : ∃ vs, oe.data = .fields vs) {e : E} {ex : Expr} (h : chkHV L Pg sc N ix e ex = true) : PE (X.suite a ((a, oe) :: pn)) ex (tHV X.K L Pg a cls d ix e) ∧ noComp ex = true := by
  unfold chkHV at h
  split at h
  · rename_i ce ae be cx ax bx p
    simp only [Bool.and_eq_true] at h
    obtain ⟨⟨⟨h1, h2⟩, h3⟩, h4⟩ := h
    refine ⟨(pe_ifExp (h_test c hz hf h1 h2) (chkHV0_ok c hz hf h3).1 (chkHV0_ok c hz hf h4).1).imp fun σ H Q q => ?_, rfl⟩
    obtain ⟨G, F, ι, env, μ, dv, sr, hx, e1, kk⟩ := q
    unfold evH at e1
    split at e1
    · rename_i ec
      refine ⟨G, F, ι, env, μ, _, sr, hx, ec, fun v r => ?_⟩
      cases r
      exact ⟨true, rfl, (if_pos rfl : (if true = true then tHV X.K L Pg a cls d ix ae σ H Q else tHV X.K L Pg a cls d ix be σ H Q) = _).mpr ⟨G, F, ι, env, μ, dv, sr, hx, e1, kk⟩⟩
    · rename_i ec
      refine ⟨G, F, ι, env, μ, _, sr, hx, ec, fun v r => ?_⟩
      cases r
      exact ⟨false, rfl, (if_neg Bool.false_ne_true : (if false = true then tHV X.K L Pg a cls d ix ae σ H Q else tHV X.K L Pg a cls d ix be σ H Q) = _).mpr ⟨G, F, ι, env, μ, dv, sr, hx, e1, kk⟩⟩
    · cases e1
  · cases h
  · exact chkHV0_ok c hz hf h
/-- an except suite -/
def tHs (K : PySem.W.Frag) (L : Lk) (Pg : Lm.Pg) (a : Addr) (cls : Value) (d : Option Addr) (ix : Option Nat) (ss : List S) : TS := fun D σ H => ∃ G F ι env μ, SR K L G F ι env μ σ H ∧ HX K L Pg a cls d ix F ι env σ H ∧ WsR (evHSs Pg ss env μ) (okS K L D G F ι) (fun _ _ _ => True)
theorem iteT {P Q : Prop} (h : P) : (if true = true then P else Q) := by rw [if_pos rfl]; exact h
theorem iteF {P Q : Prop} (h : Q) : (if false = true then P else Q) := by rw [if_neg Bool.false_ne_true]; exact h
variable (L Pg N sc ix) in
def chkHSs : List S → List Stmt → Bool
  | [], sts => sts.isEmpty
  | .set (.nm j) e :: ss, sts => (match sts with
    | .Assign [.Name y _] ex _ :: r => decide (N[j]? = some y) && locB sc y && decide (ix ≠ some j) && chkHV L Pg sc N ix e ex && chkHSs ss r
    | _ => false)
  | .ret (some e) :: ss, sts => (match sts with
    | .Return (some ex) _ :: r => chkHV L Pg sc N ix e ex && chkHSs ss r
    | _ => false)
  | .ite ce [.ret (some e)] [] :: ss, sts => (match sts with
    | .If cx [.Return (some ex) _] [] _ :: r => plainT cx && chkH L Pg sc N ix ce cx && chkHV L Pg sc N ix e ex && chkHSs ss r
    | _ => false)
  | _, _ => false
theorem chkHSs_ok (c : CtxS L Pg C k W sc N X) (hz : Zc cls d oe) (hf : ∃ vs, oe.data = .fields vs) : ∀ (ss : List S) (sts : List Stmt), chkHSs L Pg sc N ix ss sts = true → PSs (X.suite a ((a, oe) :: pn)) sts (tHs X.K L Pg a cls d ix ss)
  | [], sts, h => by
    unfold chkHSs at h
    rw [isE_nil h]
    exact pss_nil.imp fun D σ H q => by
      obtain ⟨G, F, ι, env, μ, sr, hx, e⟩ := q
      unfold evHSs at e
      exact (show okS X.K L D G F ι (.nxt env) μ from e) F ι H σ (To.refl _ _) sr
  | s :: ss, sts, h => by
    unfold chkHSs at h
    split at h
    · rename_i e1; cases e1
    · rename_i j e ss' e1
      cases e1
      split at h
      · rename_i y p ex ap r
        simp only [Bool.and_eq_true, decide_eq_true_eq] at h
        obtain ⟨⟨⟨⟨h1, h2⟩, h3⟩, h4⟩, h5⟩ := h
        obtain ⟨he, hn⟩ := chkHV_ok (pn := pn) c hz hf h4
        have hNd : (X.suite a ((a, oe) :: pn)).N.Nodup := by show X.N.Nodup; rw [c.n]; exact c.nd
        have hl : L2.Loc (X.suite a ((a, oe) :: pn)).env.scope y := by show L2.Loc X.env.scope y; rw [c.sce]; exact locB_ok h2
        refine (pss_cons (ps_set (i := j) hNd (hN c h1) hl he (sw_no hn) (.inl (c.fb y rfl))) (chkHSs_ok c hz hf ss r h5)).imp fun D σ H q => ?_
        obtain ⟨G, F, ι, env, μ, sr, hx, w⟩ := q
        unfold evHSs evHS at w
        split at w
        · rename_i dv e1
          refine ⟨G, F, ι, env, μ, dv, sr, hx, e1, fun F' H' v t sr' le mono r => ?_⟩
          refine ⟨G, F', ι, env.set j (.val dv), μ, sr'.setVal r, fun i c' fs hi z1 => ?_, w.mono (fun f μ' z => okS.le t z) fun _ _ _ z => z⟩
          have hij : j ≠ i := fun z => h3 (by rw [z]; exact hi)
          rw [List.getElem?_set_ne hij] at z1
          obtain ⟨Ca, z2, z3, z4, z5, z6⟩ := hx i c' fs hi z1
          refine ⟨Ca, z2, z3, z4, by rw [List.getElem?_set_ne hij]; exact z5, z6.imp id fun ⟨dx, gs, y1, y2, y3⟩ => ⟨dx, gs, y1, mono _ _ y2, y3.mono le (List.prefix_refl ι)⟩⟩
        · exact w.elim
      · cases h
    · rename_i e ss' e1
      cases e1
      split at h
      · rename_i ex rp r
        rw [Bool.and_eq_true] at h
        obtain ⟨he, hn⟩ := chkHV_ok (pn := pn) c hz hf h.1
        refine (pss_cons (ps_ret he) (chkHSs_ok c hz hf ss r h.2)).imp fun D σ H q => ?_
        obtain ⟨G, F, ι, env, μ, sr, hx, w⟩ := q
        unfold evHSs evHS at w
        split at w
        · rename_i dv e1
          refine ⟨G, F, ι, env, μ, dv, sr, hx, e1, fun F' H' v t sr' le mono r => ?_⟩
          exact (show okS X.K L D G F ι (.ret dv) μ from w) F' ι H' env σ v t sr' r
        · exact w.elim
      · cases h
    · rename_i ce e ss' e1
      cases e1
      split at h
      · rename_i cx ex rp ip r
        simp only [Bool.and_eq_true] at h
        obtain ⟨⟨⟨h1, h2⟩, h3⟩, h4⟩ := h
        obtain ⟨he, hn⟩ := chkHV_ok (pn := pn) c hz hf h3
        refine (pss_cons (ps_if (h_test c hz hf h1 h2) (pss_one (ps_ret he)) pss_nil) (chkHSs_ok c hz hf ss r h4)).imp fun D σ H q => ?_
        obtain ⟨G, F, ι, env, μ, sr, hx, w⟩ := q
        unfold evHSs evHS at w
        split at w
        · rename_i ec
          refine ⟨G, F, ι, env, μ, _, sr, hx, ec, fun v r => ?_⟩
          cases r
          refine ⟨true, rfl, ?_⟩
          refine iteT ?_
          unfold evHSs evHS at w
          split at w
          · rename_i dv e2
            refine ⟨G, F, ι, env, μ, dv, sr, hx, e2, fun F' H' v t sr' le mono r => ?_⟩
            exact (show okS X.K L D G F ι (.ret dv) μ from w) F' ι H' env σ v t sr' r
          · exact w.elim
        · rename_i ec
          refine ⟨G, F, ι, env, μ, _, sr, hx, ec, fun v r => ?_⟩
          cases r
          refine ⟨false, rfl, ?_⟩
          refine iteF ?_
          have w0 : evHSs Pg [] env μ = .ok (.nxt env) μ := by simp only [evHSs]
          rw [w0] at w
          exact ⟨G, F, ι, env, μ, sr, hx, w⟩
        · exact w.elim
      · cases h
    · cases h
end
end Lm
set_option Elab.async false
set_option linter.all false
set_option maxRecDepth 100000
set_option maxHeartbeats 1000000
namespace Lm
open PySem PySem.Spec PyProof.Rows L2
section
variable {L : Lk} {Pg : Pg} {C : Orc} {k : Nat} {W : WX} {sc : Scope} {N : List Str} {X : Cx} {pos : Pos}
theorem CtxS.tr (c : CtxS L Pg C k W sc N X) {W' : WX} {pn : List (Addr × Obj)} {xe : Value → Shared → Prop} (tk : Takes (X.tr pn xe) W') (ow : PassesOwn (model X.prog X.w) X.A X.env xe) : CtxS L Pg C k W' sc N (X.tr pn xe) :=
  { calm := c.calm, n := c.n, nd := c.nd, room := c.room, quiet := c.quiet, sce := c.sce, fb := c.fb, tk := tk, calls := c.calls, excs := c.excs, k1 := c.k1, link := c.link, lw := c.lw, own := ow, kind := c.kind, stk := c.stk, frm := c.frm }
/-- try: .. / except t: .. -/
theorem s_try {t : Nat} {x : Str} {np hp : Pos} {b ss : List S} {bx sx : List Stmt} (c : CtxS L Pg C k W sc N X) (h1 : L.clN[t]? = some x) (hX : isX Pg t = true) (hg : gloB sc x = true) (hd : notDbg x = true)
    (hs : chkHSs L Pg sc N none ss sx = true) (hne : sx ≠ []) (hb : ∀ (W' : WX) (X' : Cx), CtxS L Pg C k W' sc N X' → PSs X' bx (tSts X'.K L Pg C W' b)) :
    PS X (.Try bx [.ExceptHandler (some (.Name x np)) none sx hp] [] [] pos) (tSt X.K L Pg C W (.tryy b [(t, none, ss)])) := by
  obtain ⟨Ct, e1, e2, e3⟩ := c.excs.caught t x h1 hX
  obtain ⟨b0, suite, rfl⟩ : ∃ b0 suite, sx = b0 :: suite := by cases sx with | nil => exact (hne rfl).elim | cons a r => exact ⟨a, r, rfl⟩
  refine (ps_try_only (c := .ref Ct) (tb := fun W' => tSts X.K L Pg C W' b) (ts := fun a cls dd => tHs X.K L Pg a cls dd none ss) (Wout := W) c.stk c.frm ⟨c.toCtxE.gl hg, notDbg_of hd, .inl e2⟩ c.tk (fun W' pn xe tk ow => hb W' (X.tr pn xe) (c.tr tk ow))
    (fun a oe cls dd pn hz hf => chkHSs_ok c hz hf ss (b0 :: suite) hs)).imp fun D σ H h => ?_
  obtain ⟨G, F, ι, env, μ, sr, h⟩ := h
  unfold evS at h
  show tSts X.K L Pg C (wOnly X.K (.ref Ct) (fun a cls dd => tHs X.K L Pg a cls dd none ss) W D) b D σ H
  refine ⟨G, F, ι, env, μ, sr, ?_⟩
  revert h
  cases evSs Pg C b env μ with
  | bad => exact fun h => h
  | ok f μ1 => exact fun h => h
  | exn z env1 μ1 =>
    cases z with
    | blt n => exact fun h => h.elim
    | own cn fs =>
      intro h
      unfold catchS at h
      dsimp only at h
      split at h
      · rename_i hx
        intro F1 ι1 H1 σ1 cls dx t1 sr1 r
        obtain ⟨c', fs', Ca, ez, hC, rfl, rr⟩ := r
        cases ez
        unfold catchL at h
        refine ⟨_, (e3 cn Ca hx hC).1, fun hb1 a na => ?_, fun hb1 => ?_⟩
        · rw [if_pos hb1] at h
          exact ⟨G, F1, ι1, env1, μ1, sr1, fun i c2 fs2 hi _ => (by cases hi), h.mono (fun f μ' z => okS.le t1 z) fun _ _ _ _ => trivial⟩
        · rw [if_neg (by rw [hb1]; simp)] at h
          unfold catchL at h
          exact (show exS X.K L W G F ι (.own cn fs) env1 μ1 from h) F1 ι1 H1 σ1 _ dx t1 sr1 ⟨cn, fs, Ca, rfl, hC, rfl, rr⟩
      · exact h.elim
/-- try: .. / except t as y: .. -/
theorem s_tryAs {t i : Nat} {x y : Str} {np hp : Pos} {b ss : List S} {bx sx : List Stmt} (c : CtxS L Pg C k W sc N X) (h1 : L.clN[t]? = some x) (hX : isX Pg t = true) (hg : gloB sc x = true) (hd : notDbg x = true)
    (hi : N[i]? = some y) (hl : sc.names.lookup y = some .local) (hs : chkHSs L Pg sc N (some i) ss sx = true) (hne : sx ≠ []) (hb : ∀ (W' : WX) (X' : Cx), CtxS L Pg C k W' sc N X' → PSs X' bx (tSts X'.K L Pg C W' b)) :
    PS X (.Try bx [.ExceptHandler (some (.Name x np)) (some y) sx hp] [] [] pos) (tSt X.K L Pg C W (.tryy b [(t, some i, ss)])) := by
  obtain ⟨Ct, e1, e2, e3⟩ := c.excs.caught t x h1 hX
  obtain ⟨b0, suite, rfl⟩ : ∃ b0 suite, sx = b0 :: suite := by cases sx with | nil => exact (hne rfl).elim | cons a r => exact ⟨a, r, rfl⟩
  refine (ps_try_as (c := .ref Ct) (i := i) (tb := fun W' => tSts X.K L Pg C W' b) (ts := fun a cls dd => tHs X.K L Pg a cls dd (some i) ss) (Wout := W) c.stk c.frm (by rw [c.n]; exact c.nd) (by rw [c.n]; exact hi) (by show X.env.scope.names.lookup y = _; rw [c.sce]; exact hl)
    ⟨c.toCtxE.gl hg, notDbg_of hd, .inl e2⟩ c.tk (fun W' pn xe tk ow => hb W' (X.tr pn xe) (c.tr tk ow)) (fun a oe cls dd pn hz hf => chkHSs_ok c hz hf ss (b0 :: suite) hs)).imp fun D σ H h => ?_
  obtain ⟨G, F, ι, env, μ, sr, h⟩ := h
  unfold evS at h
  show tSts X.K L Pg C (wAs X.K (.ref Ct) i (fun a cls dd => tHs X.K L Pg a cls dd (some i) ss) W D) b D σ H
  refine ⟨G, F, ι, env, μ, sr, ?_⟩
  revert h
  cases evSs Pg C b env μ with
  | bad => exact fun h => h
  | ok f μ1 => exact fun h => h
  | exn z env1 μ1 =>
    cases z with
    | blt n => exact fun h => h.elim
    | own cn fs =>
      intro h
      unfold catchS at h
      dsimp only at h
      split at h
      · rename_i hx
        intro F1 ι1 H1 σ1 cls dx t1 sr1 r
        obtain ⟨c', fs', Ca, ez, hC, rfl, rr⟩ := r
        cases ez
        unfold catchL at h
        refine ⟨_, (e3 cn Ca hx hC).1, fun hb1 a na => ?_, fun hb1 => ?_⟩
        · rw [if_pos hb1] at h
          dsimp only at h
          refine ⟨G, F1, ι1, env1.set i (.hx cn fs), μ1, sr1.setSl (sl := .hx cn fs) ⟨a, rfl⟩, fun i2 c2 fs2 hi2 e => ?_, ?_⟩
          · cases hi2
            have hlt : i < env1.length := by
              refine Classical.byContradiction fun z => ?_
              rw [List.getElem?_eq_none (by rw [List.length_set]; omega)] at e
              cases e
            rw [List.getElem?_set_self hlt] at e
            cases e
            exact ⟨Ca, hx, hC, rfl, List.getElem?_set_self (by rw [← sr1.len]; exact hlt), rr⟩
          · unfold unAt at h
            refine (WsR.bind.mp h).mono (fun f μ' z => ?_) fun _ _ _ _ => trivial
            cases f with
            | nxt env2 => exact fun F2 ι2 H2 σ2 t2 sr2 => (show okS X.K L D G F ι (.nxt (env2.set i .un)) μ' from z) F2 ι2 H2 _ (t1.trans t2) sr2.setUn
            | brk env2 => exact fun F2 ι2 H2 σ2 t2 sr2 => (show okS X.K L D G F ι (.brk (env2.set i .un)) μ' from z) F2 ι2 H2 _ (t1.trans t2) sr2.setUn
            | ret dv => exact fun F2 ι2 H2 env2 σ2 v t2 sr2 r2 => (show okS X.K L D G F ι (.ret dv) μ' from z) F2 ι2 H2 env2 σ2 v (t1.trans t2) sr2 r2
        · rw [if_neg (by rw [hb1]; simp)] at h
          unfold catchL at h
          exact (show exS X.K L W G F ι (.own cn fs) env1 μ1 from h) F1 ι1 H1 σ1 _ dx t1 sr1 ⟨cn, fs, Ca, rfl, hC, rfl, rr⟩
      · exact h.elim
end
end Lm
set_option Elab.async false
set_option linter.all false
set_option maxRecDepth 100000
set_option maxHeartbeats 2000000
namespace Lm
open PySem PySem.Spec PyProof.Rows L2
section
variable {L : Lk} {Pg : Pg} {C : Orc} {k : Nat} {W : WX} {sc : Scope} {N : List Str} {X : Cx} {G F F' H H' : Hp} {ι ι' : List Addr} {env : Env} {μ μ' : Sto} {σ : L2.St} {pos pos2 apos : Pos} {D : Ends}
theorem set_comp {n : Nat} (c : CtxS L Pg C k W sc N X) {i : Nat} {x : Str} {p : Pos} {elt : E} {t : Tgt} {it : Lm.It} {conds : List E} {ex : Expr} (h1 : N[i]? = some x) (hsw : swOf sc x p ex = true)
    (h : chkM L Pg N (n + 1) sc (fun _ => true) (.comp elt t it conds) ex = true) : PS X (.Assign [.Name x p] ex pos) (fun D σ H => tN X.K L Pg C W (.comp elt t it conds) σ H fun v H1 => D.nx (σ.set i (some v)) H1) := by
  have S := sndAt (L := L) (Pg := Pg) (C := C) (k := k) (N := N) n
  unfold chkM at h
  dsimp only at h
  split at h
  · rename_i eltx gens scope cpos
    split at h
    · rename_i tg iter ifs asy
      simp only [Bool.and_eq_true, decide_eq_true_eq] at h
      obtain ⟨⟨⟨⟨⟨⟨rfl, h1'⟩, h2⟩, h3⟩, h4⟩, h5⟩, h6⟩ := h
      have ok : BlkOk X.N X.env.scope scope (ownOf N (slotsT t)) := by rw [c.n, c.sce]; exact blkOk_by h2
      have hown : (ownOf N (slotsT t)).map (·.2) = slotsT t := by unfold ownOf; rw [List.map_map]; exact List.map_id _
      have hts : ∀ (s : Shared) (H : Hp) (Cc : Addr) (cl : List (Str × Addr)) (fp : List Addr), PTs (X.blk s H scope (compEnvC scope cl Cc X.env) fp) ifs (tTand X.K L Pg C W0 conds) := by
        intro s H Cc cl fp
        cases conds with
        | nil => dsimp only at h6; rw [isE_nil h6]; exact s_pts0 (X := X.blk s H scope (compEnvC scope cl Cc X.env) fp)
        | cons cd cs =>
          cases cs with
          | nil =>
            dsimp only at h6
            split at h6
            · exact s_pts1 (X := X.blk s H scope (compEnvC scope cl Cc X.env) fp) (S.t c.toCtxE.blk h6)
            · cases h6
          | cons _ _ => cases h6
      have hl : X.env.scope.names.lookup x = some .local := by
        rw [c.sce]
        simp only [swOf, Bool.and_eq_true, beq_iff_eq] at hsw
        exact hsw.1.1
      have hs2 : swapsWith (.ListComp eltx [⟨tg, iter, ifs, 0⟩] scope cpos) (some (.Name x p)) pos.line X.env = pure true := by
        rw [sw_eq (by rw [c.sce]; exact c.kind) rfl, c.sce, hsw]
      have pl := ps_setLc (i := i) (own := ownOf N (slotsT t)) (pos := cpos) (spos := pos) (py := p) (y := x) (g := tG X.K L t) (tt := tTand X.K L Pg C W0 conds) (te := tE X.K L Pg C W0 elt) c.calm (by rw [c.n]; exact c.nd) (by rw [c.n]; exact h1) hl hs2 (S.i c.toCtxE h3) ok
        (fun s H Cc cl fp => chkTg_ok n (c.toCtxE.blk (s := s) (H := H) (cl := cl) (Cc := Cc) (fp := fp)) h4) hts
        (fun s H Cc cl fp => S.e (c.toCtxE.blk (s := s) (H := H) (cl := cl) (Cc := Cc) (fp := fp)) h5) (by intro x; cases iter <;> first | rfl | cases h1')
      rw [hown] at pl
      exact pl.imp fun D σ H q => comp_go q
    · cases h
  · cases h
theorem set_go {i : Nat} {e : E} (h : tSt X.K L Pg C W (.set (.nm i) e) D σ H) : tE X.K L Pg C W e σ H fun v H1 => D.nx (σ.set i (some v)) H1 := by
  obtain ⟨G, F, ι, env, μ, sr, h⟩ := h
  unfold evS at h
  refine tE_goS sr h fun d μ1 F1 ι1 H1 v t sr1 r h1 => ?_
  obtain ⟨e', he', hk⟩ := WsR.nxtO.mp h1
  unfold setT at he'
  cases he'
  exact hk F1 ι1 H1 _ (To.refl _ _) (sr1.setVal r)
theorem tE_tN {e : E} {Q : VK} (h : tE X.K L Pg C W e σ H Q) : tN X.K L Pg C W e σ H Q := by
  obtain ⟨G, F, ι, env, μ, sr, h⟩ := h
  exact ⟨G, F, ι, env, μ, sr, h.mono (fun _ _ z => z.okN) fun _ _ z => z⟩
def isComp : E → Bool | .comp _ _ _ _ => true | _ => false
/-- three names at once, from three plain expressions -/
def chk3 (L : Lk) (Pg : Lm.Pg) (N : List Str) (n : Nat) (sc : Scope) (i j l : Nat) (es : List E) (st : Stmt) : Bool :=
  match es, st with
  | [e1, e2, e3], .Assign [.Tuple [.Name x px, .Name y py, .Name z pz] _ _] (.Tuple [a, b, d] _ _) _ =>
    decide (N[i]? = some x ∧ N[j]? = some y ∧ N[l]? = some z ∧ i ≠ j ∧ i ≠ l ∧ j ≠ l ∧ sc.names.lookup x = some .local ∧ sc.names.lookup y = some .local ∧ sc.names.lookup z = some .local) &&
    (noStar a && noStar b && noStar d && (py.line == px.line) && (pz.line == px.line) && !([a, b, d].all (foldedForSure 8)) && !([a, b, d].all (constantsAlone 8))) &&
    (chkE L Pg N n sc (fun _ => true) e1 a && chkE L Pg N n sc (fun _ => true) e2 b && chkE L Pg N n sc (fun _ => true) e3 d)
  | _, _ => false
/-- two names at once, the first one with a new object of its own -/
def chk2t (L : Lk) (Pg : Lm.Pg) (N : List Str) (n : Nat) (sc : Scope) (i j : Nat) (b2 : Bool) (es : List E) (st : Stmt) : Bool :=
  match es, st with
  | [e1, e2], .Assign [.Tuple [.Name x px, .Name y py] _ _] (.Tuple [a, b] _ _) _ =>
    decide (N[i]? = some x ∧ N[j]? = some y ∧ i ≠ j) && (locB sc x && locB sc y && noStar a && noStar b && parB sc x y px py a b) && (notBin e1 && chkM L Pg N n sc (fun _ => true) e1 a) &&
      (if b2 then notBin e2 && chkM L Pg N n sc (fun _ => true) e2 b else chkE L Pg N n sc (fun _ => true) e2 b)
  | _, _ => false
def chk3t (L : Lk) (Pg : Lm.Pg) (N : List Str) (n : Nat) (sc : Scope) (i j l : Nat) (es : List E) (st : Stmt) : Bool :=
  match es, st with
  | [e1, e2, e3], .Assign [.Tuple [.Name x px, .Name y py, .Name z pz] _ _] (.Tuple [a, b, d] _ _) _ =>
    decide (N[i]? = some x ∧ N[j]? = some y ∧ N[l]? = some z ∧ i ≠ j ∧ i ≠ l ∧ j ≠ l ∧ sc.names.lookup x = some .local ∧ sc.names.lookup y = some .local ∧ sc.names.lookup z = some .local) &&
    (noStar a && noStar b && noStar d && (py.line == px.line) && (pz.line == px.line) && !([a, b, d].all (foldedForSure 8)) && !([a, b, d].all (constantsAlone 8))) &&
    (chkE L Pg N n sc (fun _ => true) e1 a && (notBin e2 && chkM L Pg N n sc (fun _ => true) e2 b) && chkE L Pg N n sc (fun _ => true) e3 d)
  | _, _ => false
variable (L Pg N) in
mutual
def chkS : Nat → Scope → S → Stmt → Bool
  | 0, _, _, _ => false
  | n + 1, sc, s, st => match s with
    | .set t e => (match t with
      | .nm i => (match st with
        | .Assign tgs ex _ => (match tgs with
          | [.Name x p] => decide (N[i]? = some x) && locB sc x && noOther ex && (if swOf sc x p ex then isComp e && chkM L Pg N n sc (fun _ => true) e ex else chkE L Pg N n sc (fun _ => true) e ex)
          | _ => false)
        | _ => false)
      | .tp ts => (match st with
        | .Assign tgs ex _ => (match tgs with
          | [.Tuple es kk tp] => (match ex with | .Tuple _ _ _ => false | _ => true) && chkTg N n sc (fun _ => true) (.tp ts) (.Tuple es kk tp) && chkE L Pg N n sc (fun _ => true) e ex
          | _ => false)
        | _ => false))
    | .own i e => (match st with
      | .Assign tgs ex _ => (match tgs with
        | [.Name x p] => decide (N[i]? = some x) && locB sc x && noOther ex && (if swOf sc x p ex then isComp e && chkM L Pg N n sc (fun _ => true) e ex else chkM L Pg N n sc (fun _ => true) e ex)
        | _ => false)
      | _ => false)
    | .par ts es => (match ts with
      | [(i, false), (j, b)] => (match es with
        | [e1, e2] => (match st with
          | .Assign tgs ex _ => (match tgs with
            | [.Tuple nms _ _] => (match nms with
              | [.Name x px, .Name y py] => (match ex with
                | .Tuple exs _ _ => (match exs with
                  | [ax, bx] => decide (N[i]? = some x) && decide (N[j]? = some y) && decide (i ≠ j) && locB sc x && locB sc y && noStar ax && noStar bx && parB sc x y px py ax bx && chkE L Pg N n sc (fun _ => true) e1 ax &&
                      (if b then chkM L Pg N n sc (fun _ => true) e2 bx else chkE L Pg N n sc (fun _ => true) e2 bx)
                  | _ => false)
                | _ => false)
              | _ => false)
            | _ => false)
          | _ => false)
        | _ => false)
      | [(i, true), (j, b2)] => chk2t L Pg N n sc i j b2 es st
      | [(i, false), (j, false), (l, false)] => chk3 L Pg N n sc i j l es st
      | [(i, false), (j, true), (l, false)] => chk3t L Pg N n sc i j l es st
      | _ => false)
    | .app i e => (match st with
      | .Expr (.Call (.Attribute (.Name x _) m ap) exs kws cp) _ => (match exs with
        | [ex] => nameIs m "append" && kws.isEmpty && decide (N[i]? = some x) && visB sc x && notDbg x && (ap.endLine == cp.line) && noStar ex && chkE L Pg N n sc (fun _ => true) e ex
        | _ => false)
      | _ => false)
    | .ext i e => (match st with
      | .Expr (.Call (.Attribute (.Name x _) m ap) exs kws cp) _ => (match exs with
        | [ex] => nameIs m "extend" && kws.isEmpty && decide (N[i]? = some x) && visB sc x && notDbg x && (ap.endLine == cp.line) && noStar ex && chkE L Pg N n sc (fun _ => true) e ex
        | _ => false)
      | _ => false)
    | .put i kk v => (match st with
      | .Assign tgs vx _ => (match tgs with
        | [.Subscript (.Name x _) kx _] => decide (N[i]? = some x) && visB sc x && notDbg x && notSlice kx && chkE L Pg N n sc (fun _ => true) kk kx && chkE L Pg N n sc (fun _ => true) v vx
        | _ => false)
      | _ => false)
    | .putL o kk v => (match st with
      | .Assign tgs vx _ => (match tgs with
        | [.Subscript ox kx _] => notSlice kx && chkE L Pg N n sc (fun _ => true) o ox && chkE L Pg N n sc (fun _ => true) kk kx && chkE L Pg N n sc (fun _ => true) v vx
        | _ => false)
      | _ => false)
    | .selfF f v => (match st with
      | .Assign tgs vx _ => (match tgs with
        | [.Attribute (.Name x _) fx _] => decide (N[0]? = some x) && visB sc x && notDbg x && decide (L.attr[f]? = some fx) && chkE L Pg N n sc (fun _ => true) v vx
        | _ => false)
      | _ => false)
    | .expr e => (match st with | .Expr ex _ => noComp ex && chkE L Pg N n sc (fun _ => true) e ex | _ => false)
    | .ite c a b => (match st with | .If cx ax bx _ => chkT L Pg N n sc (fun _ => true) c cx && chkSs n sc a ax && chkSs n sc b bx | _ => false)
    | .forr t it b => (match st with
      | .For tg iter bx orelse _ => orelse.isEmpty && notSet iter && chkI L Pg N n sc (fun _ => true) it tg iter && chkTg N n sc (fun _ => true) t tg && chkSs n sc b bx
      | _ => false)
    | .ret e => (match e with
      | some e => (match st with | .Return (some ex) _ => chkE L Pg N n sc (fun _ => true) e ex | _ => false)
      | none => (match st with | .Return none _ => true | _ => false))
    | .raise cn es => (match st with
      | .Raise (some (.Call (.Name x _) exs kws _)) none _ => decide (L.clN[cn]? = some x) && (xNames L Pg cn).isSome && gloB sc x && notDbg x && exs.all noStar && kws.isEmpty && !exs.isEmpty && all2 (chkE L Pg N n sc (fun _ => true)) es exs
      | _ => false)
    | .tryy b hs => (match hs with
      | [(t, i, ss)] => (match st with
        | .Try bx hds orelse fin _ => orelse.isEmpty && fin.isEmpty && (match hds with
          | [.ExceptHandler (some (.Name x _)) nm sx _] => decide (L.clN[t]? = some x) && isX Pg t && gloB sc x && notDbg x && !sx.isEmpty && chkHSs L Pg sc N i ss sx && chkSs n sc b bx && (match i, nm with
            | none, none => true
            | some i, some y => decide (N[i]? = some y) && (match sc.names.lookup y with | some .local => true | _ => false)
            | _, _ => false)
          | _ => false)
        | _ => false)
      | _ => false)
    | .whil cd b => (match st with
      | .While cx bx orelse _ => orelse.isEmpty && chkT L Pg N n sc (fun _ => true) cd cx && chkSs n sc b bx
      | _ => false)
    | .pop t i k => (match t with
      | .nm j => (match k with
        | none => (match st with
          | .Assign tgs (.Call (.Attribute (.Name x _) m ap) exs kws cp) _ => (match tgs with
            | [.Name y _] => nameIs m "pop" && exs.isEmpty && kws.isEmpty && decide (N[j]? = some y) && locB sc y && decide (N[i]? = some x) && visB sc x && notDbg x && (ap.endLine == cp.line)
            | _ => false)
          | _ => false)
        | some _ => false)
      | .tp _ => false)
    | .appL _ _ => true
    | .brk => (match st with | .Break _ => true | _ => false)
    | .pass => (match st with | .Pass _ => true | _ => false)
    | _ => false
def chkSs : Nat → Scope → List S → List Stmt → Bool
  | 0, _, _, _ => false
  | n + 1, sc, ss, sts => match ss with
    | [] => sts.isEmpty
    | s :: ss' => (match s with
      | .frz _ => chkSs n sc ss' sts
      | .no => true
      | s => (match sts with
        | [] => false
        | st :: sts' => chkS n sc s st && chkSs n sc ss' sts'))
end
end
end Lm
set_option Elab.async false
set_option linter.all false
set_option maxRecDepth 100000
set_option maxHeartbeats 2000000
namespace Lm
open PySem PySem.Spec PyProof.Rows L2
section
variable {L : Lk} {Pg : Pg} {C : Orc} {k : Nat} {W : WX} {sc : Scope} {N : List Str} {X : Cx}
theorem comp_of {e : E} (h : isComp e = true) : ∃ a b d f, e = .comp a b d f := by cases e <;> first | (cases h; done) | exact ⟨_, _, _, _, rfl⟩
structure SndS (L : Lk) (Pg : Lm.Pg) (C : Orc) (k : Nat) (W : WX) (N : List Str) (X : Cx) (n : Nat) : Prop where
  s : ∀ {sc : Scope} {s : S} {st : Stmt}, CtxS L Pg C k W sc N X → chkS L Pg N n sc s st = true → PS X st (tSt X.K L Pg C W s)
  ss : ∀ {sc : Scope} {ss : List S} {sts : List Stmt}, CtxS L Pg C k W sc N X → chkSs L Pg N n sc ss sts = true → PSs X sts (tSts X.K L Pg C W ss)
theorem snds_ss {n : Nat} (Z : SndS L Pg C k W N X n) {ss : List S} {sts : List Stmt} (c : CtxS L Pg C k W sc N X) (h : chkSs L Pg N (n + 1) sc ss sts = true) : PSs X sts (tSts X.K L Pg C W ss) := by
  cases ss with
  | nil => unfold chkSs at h; rw [isE_nil h]; exact s_snil
  | cons s ss =>
    by_cases hf : ∃ i, s = .frz i
    · obtain ⟨i, rfl⟩ := hf
      unfold chkSs at h
      exact s_frz (Z.ss c h)
    · by_cases hr : s = .no
      · subst hr
        refine pss_never.imp fun D σ H q => ?_
        obtain ⟨G, F, ι, env, μ, sr, h⟩ := q
        unfold evSs evS at h
        exact h.elim
      unfold chkSs at h
      cases sts with
      | nil =>
        exfalso
        cases s
        case frz i => exact hf ⟨i, rfl⟩
        case no => exact hr rfl
        all_goals cases h
      | cons st sts =>
        have h' : (chkS L Pg N n sc s st && chkSs L Pg N n sc ss sts) = true := by
          cases s
          case frz i => exact absurd ⟨i, rfl⟩ hf
          case no => exact absurd rfl hr
          all_goals exact h
        rw [Bool.and_eq_true] at h'
        exact s_scons (Z.s c h'.1) (Z.ss c h'.2)
theorem chk3_ok {n i j l : Nat} {es : List E} {st : Stmt} (c : CtxS L Pg C k W sc N X) (h : chk3 L Pg N n sc i j l es st = true) : PS X st (tSt X.K L Pg C W (.par [(i, false), (j, false), (l, false)] es)) := by
  have SE := sndAt (L := L) (Pg := Pg) (C := C) (k := k) (N := N) n
  unfold chk3 at h
  split at h
  · simp only [Bool.and_eq_true, decide_eq_true_eq, Bool.not_eq_true'] at h
    obtain ⟨⟨⟨h1, h2, h3, h4, h5, h6, h7, h8, h9⟩, ⟨⟨⟨⟨⟨⟨g1, g2⟩, g3⟩, g4⟩, g5⟩, g6⟩, g7⟩⟩, ⟨⟨k1, k2⟩, k3⟩⟩ := h
    exact (ps_par33 c h1 h2 h3 h4 h5 h6 h7 h8 h9 g1 g2 g3 g4 g5 g6 g7 (s_cons g1 (SE.e c.toCtxE k1) (s_cons g2 (SE.e c.toCtxE k2) (s_cons g3 (SE.e c.toCtxE k3) s_nil)))).imp fun D σ H q => par_fff q
  · cases h
theorem chk2t_ok {n i j : Nat} {b2 : Bool} {es : List E} {st : Stmt} (c : CtxS L Pg C k W sc N X) (h : chk2t L Pg N n sc i j b2 es st = true) : PS X st (tSt X.K L Pg C W (.par [(i, true), (j, b2)] es)) := by
  have SE := sndAt (L := L) (Pg := Pg) (C := C) (k := k) (N := N) n
  unfold chk2t at h
  split at h
  · simp only [Bool.and_eq_true, decide_eq_true_eq] at h
    obtain ⟨⟨⟨⟨h1, h2, h3⟩, ⟨⟨⟨⟨h4, h5⟩, h6⟩, h7⟩, h8⟩⟩, ⟨k1, k2⟩⟩, k3⟩ := h
    cases b2 with
    | false => exact (ps_par2 c h1 h2 h3 h4 h5 h6 h7 h8 (paC h6 ((SE.m c.toCtxE k2).2 k1) (paC h7 (SE.e c.toCtxE (by simpa using k3)) (pa_nil (X := X)))) mono_ne).imp fun D σ H q => par_tf q
    | true =>
      simp only [if_true, Bool.and_eq_true] at k3
      exact (ps_par2 c h1 h2 h3 h4 h5 h6 h7 h8 (paC h6 ((SE.m c.toCtxE k2).2 k1) (paC h7 ((SE.m c.toCtxE k3.2).2 k3.1) (pa_nil (X := X)))) mono_nn).imp fun D σ H q => par_tt q
  · cases h
theorem chk3t_ok {n i j l : Nat} {es : List E} {st : Stmt} (c : CtxS L Pg C k W sc N X) (h : chk3t L Pg N n sc i j l es st = true) : PS X st (tSt X.K L Pg C W (.par [(i, false), (j, true), (l, false)] es)) := by
  have SE := sndAt (L := L) (Pg := Pg) (C := C) (k := k) (N := N) n
  unfold chk3t at h
  split at h
  · simp only [Bool.and_eq_true, decide_eq_true_eq, Bool.not_eq_true'] at h
    obtain ⟨⟨⟨h1, h2, h3, h4, h5, h6, h7, h8, h9⟩, ⟨⟨⟨⟨⟨⟨g1, g2⟩, g3⟩, g4⟩, g5⟩, g6⟩, g7⟩⟩, ⟨⟨k1, k0, k2⟩, k3⟩⟩ := h
    exact (ps_par33 c h1 h2 h3 h4 h5 h6 h7 h8 h9 g1 g2 g3 g4 g5 g6 g7 (paC g1 (SE.e c.toCtxE k1) (paC g2 ((SE.m c.toCtxE k2).2 k0) (paC g3 (SE.e c.toCtxE k3) (pa_nil (X := X)))))).imp fun D σ H q => par_ftf h4 q
  · cases h
theorem snds_s {n : Nat} (ZZ : ∀ (W : WX) (X : Cx), SndS L Pg C k W N X n) {s : S} {st : Stmt} (c : CtxS L Pg C k W sc N X) (h : chkS L Pg N (n + 1) sc s st = true) : PS X st (tSt X.K L Pg C W s) := by
  have Z := ZZ W X
  have SE := sndAt (L := L) (Pg := Pg) (C := C) (k := k) (N := N) n
  have never : (∀ (env : Env) (μ : Sto), evS Pg C s env μ = .bad) → PS X st (tSt X.K L Pg C W s) := fun hb => ps_never.imp fun D σ H q => by
    obtain ⟨G, F, ι, env, μ, sr, h⟩ := q
    rw [hb] at h
    exact h.elim
  have hN : N.Nodup := c.nd
  have swf : ∀ {x : Str} {p : Pos} {ex : Expr} {l : Nat}, noOther ex = true → swOf sc x p ex = false → swapsWith ex (some (.Name x p)) l X.env = pure false := fun {x p ex l} h1 h2 => by
    rw [sw_eq (by rw [c.sce]; exact c.kind) h1, c.sce, h2]
  cases s
  all_goals unfold chkS at h
  all_goals dsimp only at h
  all_goals first | (cases h; done) | skip
  case set t e =>
    cases t with
    | nm i =>
      dsimp only at h
      split at h
      · split at h
        · simp only [Bool.and_eq_true, decide_eq_true_eq] at h
          obtain ⟨⟨⟨h1, h2⟩, h3⟩, h4⟩ := h
          split at h4
          · rename_i hsw
            rw [Bool.and_eq_true] at h4
            obtain ⟨a, b, d, f, rfl⟩ := comp_of h4.1
            cases n with
            | zero => cases h4.2
            | succ n => exact (set_comp c h1 hsw h4.2).imp fun D σ H q => tE_tN (set_go q)
          · rename_i hsw
            exact s_setNm c h1 h2 (swf h3 (by simpa using hsw)) (SE.e c.toCtxE h4)
        · cases h
      · cases h
    | tp ts =>
      dsimp only at h
      split at h
      · split at h
        · simp only [Bool.and_eq_true] at h
          exact s_setTp h.1.1 (SE.e c.toCtxE h.2) (chkTg_ok n c.toCtxE h.1.2)
        · cases h
      · cases h
  case own i e =>
    split at h
    · split at h
      · simp only [Bool.and_eq_true, decide_eq_true_eq] at h
        obtain ⟨⟨⟨h1, h2⟩, h3⟩, h4⟩ := h
        split at h4
        · rename_i hsw
          rw [Bool.and_eq_true] at h4
          obtain ⟨a, b, d, f, rfl⟩ := comp_of h4.1
          cases n with
          | zero => cases h4.2
          | succ n => exact (set_comp c h1 hsw h4.2).imp fun D σ H q => tM_goN (tM_goS q)
        · rename_i hsw
          exact s_own c h1 h2 (swf h3 (by simpa using hsw)) (SE.m c.toCtxE h4).1
      · cases h
    · cases h
  case par ts es =>
    split at h
    · rename_i i j b
      split at h
      · split at h
        · split at h
          · split at h
            · split at h
              · split at h
                · simp only [Bool.and_eq_true, decide_eq_true_eq] at h
                  obtain ⟨⟨⟨⟨⟨⟨⟨⟨⟨h1, h2⟩, h3⟩, h4⟩, h5⟩, h6⟩, h7⟩, h8⟩, h9⟩, h10⟩ := h
                  cases b with
                  | false =>
                    exact (ps_par2 c h1 h2 h3 h4 h5 h6 h7 h8 (s_cons h6 (SE.e c.toCtxE h9) (s_cons h7 (SE.e c.toCtxE (by simpa using h10)) s_nil)) mono_as).imp fun D σ H q => par_ff q
                  | true =>
                    exact (ps_par2 c h1 h2 h3 h4 h5 h6 h7 h8 (paC h6 (SE.e c.toCtxE h9) (paC h7 (SE.m c.toCtxE (by simpa using h10)).1 (pa_nil (X := X)))) mono_em).imp fun D σ H q => par_ft h3 q
                · cases h
              · cases h
            · cases h
          · cases h
        · cases h
      · cases h
    · exact chk2t_ok c h
    · exact chk3_ok c h
    · exact chk3t_ok c h
    · cases h
  case app i e =>
    split at h
    · split at h
      · simp only [Bool.and_eq_true, decide_eq_true_eq] at h
        obtain ⟨⟨⟨⟨⟨⟨⟨h1, h2⟩, h3⟩, h4⟩, h5⟩, h6⟩, h7⟩, h8⟩ := h
        cases nameIs_eq h1
        rw [isE_nil h2]
        exact s_app c h3 h4 h5 h6 h7 (SE.e c.toCtxE h8)
      · cases h
    · cases h
  case ext i e =>
    split at h
    · split at h
      · simp only [Bool.and_eq_true, decide_eq_true_eq] at h
        obtain ⟨⟨⟨⟨⟨⟨⟨h1, h2⟩, h3⟩, h4⟩, h5⟩, h6⟩, h7⟩, h8⟩ := h
        cases nameIs_eq h1
        rw [isE_nil h2]
        exact s_ext c h3 h4 h5 h6 h7 (SE.b c.toCtxE h8)
      · cases h
    · cases h
  case put i kk v =>
    split at h
    · split at h
      · simp only [Bool.and_eq_true, decide_eq_true_eq] at h
        obtain ⟨⟨⟨⟨⟨h1, h2⟩, h3⟩, h4⟩, h5⟩, h6⟩ := h
        exact s_put c h1 h2 h3 h4 (SE.e c.toCtxE h5) (SE.e c.toCtxE h6)
      · cases h
    · cases h
  case putL o kk v =>
    split at h
    · split at h
      · simp only [Bool.and_eq_true] at h
        obtain ⟨⟨⟨h1, h2⟩, h3⟩, h4⟩ := h
        exact s_putL c h1 (SE.e c.toCtxE h2) (SE.e c.toCtxE h3) (SE.e c.toCtxE h4)
      · cases h
    · cases h
  case selfF f v =>
    split at h
    · split at h
      · simp only [Bool.and_eq_true, decide_eq_true_eq] at h
        obtain ⟨⟨⟨⟨h1, h2⟩, h3⟩, h4⟩, h5⟩ := h
        exact s_selfF c h1 h2 h3 h4 (SE.e c.toCtxE h5)
      · cases h
    · cases h
  case expr e =>
    split at h
    · rw [Bool.and_eq_true] at h
      exact s_expr h.1 (SE.e c.toCtxE h.2)
    · cases h
  case ite a b d =>
    split at h
    · simp only [Bool.and_eq_true] at h
      exact s_ifS (SE.t c.toCtxE h.1.1) (Z.ss c h.1.2) (Z.ss c h.2)
    · cases h
  case forr t it b =>
    split at h
    · simp only [Bool.and_eq_true] at h
      obtain ⟨⟨⟨⟨h1, h2⟩, h3⟩, h4⟩, h5⟩ := h
      rw [isE_nil h1]
      exact s_for c h2 (SE.i c.toCtxE h3) (chkTg_ok n c.toCtxE h4) (Z.ss c h5)
    · cases h
  case ret e =>
    cases e with
    | some e =>
      dsimp only at h
      split at h
      · exact s_ret (SE.e c.toCtxE h)
      · cases h
    | none =>
      dsimp only at h
      split at h
      · exact s_retN
      · cases h
  case raise cn es =>
    split at h
    · simp only [Bool.and_eq_true, decide_eq_true_eq, Bool.not_eq_true'] at h
      obtain ⟨⟨⟨⟨⟨⟨⟨h1, h2⟩, h3⟩, h4⟩, h5⟩, h6⟩, h7⟩, h8⟩ := h
      rw [isE_nil h6]
      obtain ⟨fields, hx⟩ := Option.isSome_iff_exists.mp h2
      have ps := all2_pes (fun e ex => SE.e (W := W) c.toCtxE) h8
      cases ps with
      | nil => cases h7
      | cons a b => exact s_raise c h1 hx h3 h4 ((PEs.cons a b).pa h5) h5
    · cases h
  case tryy b hs =>
    split at h
    · rename_i t i ss
      split at h
      · rw [Bool.and_eq_true, Bool.and_eq_true] at h
        obtain ⟨⟨g1, g2⟩, h⟩ := h
        rw [isE_nil g1, isE_nil g2]
        split at h
        · rename_i x np nm sx hp
          simp only [Bool.and_eq_true, decide_eq_true_eq, Bool.not_eq_true'] at h
          obtain ⟨⟨⟨⟨⟨⟨⟨h1, h2⟩, h3⟩, h4⟩, h5⟩, h6⟩, h7⟩, h8⟩ := h
          have hne : sx ≠ [] := fun z => by rw [z] at h5; cases h5
          split at h8
          · exact s_try c h1 h2 h3 h4 h6 hne fun W' X' c' => (ZZ W' X').ss c' h7
          · simp only [Bool.and_eq_true, decide_eq_true_eq] at h8
            obtain ⟨h9, h10⟩ := h8
            split at h10
            · rename_i hl
              exact s_tryAs c h1 h2 h3 h4 h9 hl h6 hne fun W' X' c' => (ZZ W' X').ss c' h7
            · cases h10
          · cases h8
        · cases h
      · cases h
    · cases h
  case whil a b =>
    split at h
    · simp only [Bool.and_eq_true] at h
      rw [isE_nil h.1.1]
      exact s_while c (SE.t c.toCtxE h.1.2) (Z.ss c h.2)
    · cases h
  case pop t i kk =>
    split at h
    · split at h
      · split at h
        · split at h
          · simp only [Bool.and_eq_true, decide_eq_true_eq] at h
            obtain ⟨⟨⟨⟨⟨⟨⟨⟨h1, h2⟩, h3⟩, h4⟩, h5⟩, h6⟩, h7⟩, h8⟩, h9⟩ := h
            cases nameIs_eq h1
            rw [isE_nil h2, isE_nil h3]
            exact s_pop0 c h4 h5 h6 h7 h8 h9
          · cases h
        · cases h
      · cases h
    · cases h
  case appL a b => exact never fun env μ => by unfold evS; rfl
  case brk =>
    split at h
    · exact s_break
    · cases h
  case pass =>
    split at h
    · exact s_pass
    · cases h
theorem sndS : ∀ (n : Nat) (W : WX) (X : Cx), SndS L Pg C k W N X n
  | 0, _, _ => { s := fun _ h => (by cases h), ss := fun _ h => (by cases h) }
  | n + 1, W, X => { s := snds_s (sndS n), ss := snds_ss (sndS n W X) }
end
end Lm
set_option Elab.async false
set_option linter.all false
set_option maxRecDepth 100000
set_option maxHeartbeats 1000000
namespace Lm
open PySem PySem.Spec PyProof.Rows L2
section
variable {K : PySem.W.Frag} {L : Lk} {G F F' H H' : Hp} {ι ι' : List Addr} {env : Env} {μ μ' : Sto} {σ : L2.St}
/-- the slots forgotten -/
theorem SR.nil (sr : SR K L G F ι env μ σ H) : SR K L G F ι [] μ [] H :=
  ⟨sr.f, sr.g, sr.gf, rfl, fun i d e => (by simp at e), sr.il, sr.nd, sr.sto, fun i w e => (by simp at e), fun i j w w' a _ e => (by simp at e), sr.sm, fun i c fs e => (by simp at e)⟩
theorem frame_get {n : Nat} {ds : List Lm.D} {i : Nat} : (frame n (ds.map Sl.val))[i]? = if i < ds.length then (ds[i]?).map Sl.val else if i < n then some Sl.un else none := by
  unfold frame
  rw [List.getElem?_append, List.length_map]
  split
  · rw [List.getElem?_map]
  · rename_i h
    rw [List.getElem?_replicate]
    by_cases h2 : i < n
    · rw [if_pos (by omega), if_pos h2]
    · rw [if_neg (by omega), if_neg h2]
/-- a def's slots at its start -/
theorem SR.frame {N : List Str} {ds : List Lm.D} {vs : List V} (sr : SR K L G F ι [] μ [] H) (r : Reps K L F ι ds vs) (hl : ds.length ≤ N.length) : SR K L G F ι (Lm.frame N.length (ds.map Sl.val)) μ (L2.start N vs) H := by
  have noown : ∀ (i : Nat) (o : O), (Lm.frame N.length (ds.map Sl.val))[i]? ≠ some (Sl.own o) := fun i o e => by
    rw [frame_get] at e
    split at e
    · obtain ⟨d, _, z⟩ := Option.map_eq_some_iff.mp e; cases z
    · split at e <;> cases e
  refine ⟨sr.f, sr.g, sr.gf, ?_, fun i d e => ?_, sr.il, sr.nd, sr.sto, fun i w e => absurd e (noown i w), fun i j w w' a _ e => absurd e (noown i w), sr.sm, fun i c fs e => ?_⟩
  · unfold Lm.frame L2.start
    rw [List.length_append, List.length_append, List.length_replicate, List.length_replicate, List.length_map, List.length_map, r.len]
  · rw [frame_get] at e
    split at e
    · obtain ⟨d', h1, h2⟩ := Option.map_eq_some_iff.mp e
      cases h2
      obtain ⟨v, h3, h4⟩ := r.get h1
      refine ⟨v, ?_, h4⟩
      unfold L2.start
      rw [List.getElem?_append_left (by rw [List.length_map]; exact (List.getElem?_eq_some_iff.mp h3).1), List.getElem?_map, h3]
      rfl
    · split at e <;> cases e
  · rw [frame_get] at e
    split at e
    · obtain ⟨d, _, z⟩ := Option.map_eq_some_iff.mp e; cases z
    · split at e <;> cases e
end
/-- how a def stands in the written part -/
structure FnLink (K : PySem.W.Frag) (L : Lk) (Pg : Pg) (n f : Nat) (a : Addr) (fd : FuncData) (fn : Fn) (N : List Str) (scope : Scope) (body : List Stmt) : Prop where
  at_ : Pg.fns[f]? = some fn
  np : fn.np = (L.fnP.getD f []).length
  nl : fn.nl = N.length
  le : fn.np ≤ N.length
  sc : FnScope N (L.fnP.getD f []) scope
  look : ∃ nm qual prm dV kV doc pm an cdv ct oc od osl, K.lookup a = some ⟨oc, od, .func (PySem.W.fnOf nm qual prm body scope dV kV doc pm an cdv ct), osl⟩ ∧ fd = PySem.W.fnOf nm qual prm body scope dV kV doc pm an cdv ct ∧ PySem.W.codeIn K cdv qual = true
  chk : chkSs L Pg N n scope fn.body body = true
section
variable {P : Program} {w : World} {K : PySem.W.Frag} {mg : Str → Option Value} {base : Heap} {L : Lk} {Pg : Pg} {C C' : Orc} {k n f : Nat} {a : Addr} {fd : FuncData} {fn : Fn} {N : List Str} {scope : Scope} {body : List Stmt}
theorem fn_step (hW : L.w = w) (hC : CallsOk P w K mg base L C k) (hX : ExcOk P w K mg base L Pg) (hk : 1 ≤ k) (hL : LinkOk K mg L Pg) (l : FnLink K L Pg n f a fd fn N scope body) (hr : ∀ ds μ, C'.call f ds μ = runFn Pg C f ds μ) : FnG P w K mg base (k + 2) a fd (L.fnP.getD f []) (spC K L C' f) := by
  obtain ⟨nm, qual, prm, dV, kV, doc, pm, an, cdv, ct, oc, od, osl, lk, rfl, hcd⟩ := l.look
  refine fnG_of (N := N) lk hcd l.sc (fun vs H Q E want => ?_) fun A outer s H vs Q E room quiet want => ?_
  · obtain ⟨G, F, ι, μ, ds, sr, r, hl, h⟩ := want
    rw [← hl, r.len]
  · obtain ⟨G, F, ι, μ, ds, sr, r, hl, h⟩ := want
    rw [hr] at h
    unfold runFn at h
    rw [l.at_] at h
    dsimp only at h
    rw [if_pos (by rw [l.np]; exact hl)] at h
    have c : CtxS L Pg C k (fun cls d _ H' => E cls d H') scope N (cxOf (L2.CX P w) P w K mg base N qual scope a cdv A outer s H E) :=
      { calm := rfl, n := rfl, nd := l.sc.nd, room := room, quiet := quiet, sce := rfl, fb := fun _ _ => rfl, tk := takes_of rfl rfl rfl rfl, calls := hC, excs := hX, k1 := hk, link := hL, lw := hW, own := passes_of rfl, kind := l.sc.kind, stk := rfl, frm := rfl }
    refine ⟨_, (sndS n _ _).ss c l.chk, G, F, ι, _, μ, sr.frame (N := N) r (by rw [hl, ← l.np]; exact l.le), ?_⟩
    rw [← l.nl]
    revert h
    cases evSs Pg C fn.body (Lm.frame fn.nl (ds.map Sl.val)) μ with
    | bad => exact fun h => h
    | exn x e m => exact fun h F' ι' H' σ' cls dx t sr' r' => h F' ι' H' cls dx t sr'.nil r'
    | ok fl m =>
      intro h
      cases fl with
      | nxt e => exact fun F' ι' H' σ' t sr' => h F' ι' H' .non t sr'.nil .non
      | brk e => exact h.elim
      | ret d => exact fun F' ι' H' e σ' v t sr' r' => h F' ι' H' v t sr'.nil r'
end
end Lm

set_option Elab.async false
set_option linter.all false
set_option maxRecDepth 100000
set_option maxHeartbeats 1000000
namespace Lm
open PySem PySem.Spec PyProof.Rows L2
section
variable {L : Lk} {Pg : Pg} {C : Orc} {k : Nat} {W : WX} {sc : Scope} {N : List Str} {X : Cx} {G F F' H H' : Hp} {ι ι' : List Addr} {env : Env} {μ μ' : Sto} {σ : L2.St} {pos : Pos}
/-- what a suite of __init__ does: self's object x is guarded, the slots never change -/
def tIn (K : PySem.W.Frag) (L : Lk) (Pg : Lm.Pg) (C : Orc) (W : WX) (c : Nat) (ss : List S) : TS := fun D σ H => ∃ (G F : Hp) (ι : List Addr) (env : Env) (μ : Sto) (x Ca dx : Addr) (gs : List (Str × V)) (fs : List (Nat × Lm.D)),
  G x = none ∧ (∃ φ, G sysModules = some (.ext φ)) ∧ SR K L (upd G x (.ins Ca dx gs)) F ι env μ σ H ∧ σ[0]? = some (some (V.ref x)) ∧ L.clA[c]? = some Ca ∧ RepF K L F ι fs gs ∧
  WpR (evI Pg C c ss env fs μ) (fun fs' μ' => ∀ F' ι' H' gs', To F ι F' ι' → SR K L (upd G x (.ins Ca dx gs')) F' ι' env μ' σ H' → RepF K L F' ι' fs' gs' → D.nx σ H')
    (fun z μ' => ∀ F' ι' H' cls dd gs', To F ι F' ι' → SR K L (upd G x (.ins Ca dx gs')) F' ι' env μ' σ H' → ExR K L F' ι' H' z cls dd → W cls dd σ H')
theorem in_nil {c : Nat} : PSs X [] (tIn X.K L Pg C W c []) := pss_nil.imp fun D σ H q => by
  obtain ⟨G, F, ι, env, μ, x, Ca, dx, gs, fs, h1, h2, sr, h4, h5, rf, h⟩ := q
  unfold evI at h
  exact (show ∀ F' ι' H' gs', To F ι F' ι' → SR X.K L (upd G x (.ins Ca dx gs')) F' ι' env μ σ H' → RepF X.K L F' ι' fs gs' → D.nx σ H' from h) F ι H gs (To.refl _ _) sr rf
theorem in_expr {c : Nat} {e : E} {ex : Expr} {ss : List S} {sts : List Stmt} (hc : noComp ex = true) (he : PE X ex (tE X.K L Pg C W e)) (hr : PSs X sts (tIn X.K L Pg C W c ss)) : PSs X (.Expr ex pos :: sts) (tIn X.K L Pg C W c (.expr e :: ss)) :=
  (pss_cons (ps_expr he (sw_no hc)) hr).imp fun D σ H q => by
    obtain ⟨G, F, ι, env, μ, x, Ca, dx, gs, fs, h1, h2, sr, h4, h5, rf, h⟩ := q
    unfold evI at h
    exact ⟨_, F, ι, env, μ, sr, (WpR.bind.mp h).mono (fun d μ1 z F1 ι1 H1 v t sr1 r => ⟨G, F1, ι1, env, μ1, x, Ca, dx, gs, fs, h1, h2, sr1, h4, h5, rf.mono t.f t.i, z.mono (fun fs' μ2 z F' ι' H' gs' t' sr' r' => z F' ι' H' gs' (t.trans t') sr' r') fun y μ2 z F' ι' H' cls dd gs' t' sr' r' => z F' ι' H' cls dd gs' (t.trans t') sr' r'⟩)
      fun y μ1 z F1 ι1 H1 cls dd t sr1 r => z F1 ι1 H1 cls dd gs t sr1 r⟩
theorem in_self {c : Nat} {f : Nat} {v : E} {fx x0 : Str} {p ap : Pos} {vx : Expr} {ss : List S} {sts : List Stmt} (ct : CtxS L Pg C k W sc N X) (h1 : N[0]? = some x0) (h2 : visB sc x0 = true) (h3 : notDbg x0 = true) (hf : L.attr[f]? = some fx) (hv : PE X vx (tE X.K L Pg C W v))
    (hr : PSs X sts (tIn X.K L Pg C W c ss)) : PSs X (.Assign [.Attribute (.Name x0 p) fx ap] vx pos :: sts) (tIn X.K L Pg C W c (.selfF f v :: ss)) :=
  (pss_cons (ps_fld (s_var ct.toCtxE h1 h2 h3) hv (by cases vx <;> rfl)) hr).imp fun D σ H q => by
    obtain ⟨G, F, ι, env, μ, x, Ca, dx, gs, fs, g1, g2, sr, g4, g5, rf, h⟩ := q
    unfold evI at h
    refine ⟨_, F, ι, env, μ, sr, (WpR.bind.mp h).mono (fun d μ1 z F1 ι1 H1 w t sr1 r => ?_) fun y μ1 z F1 ι1 H1 cls dd t sr1 r => z F1 ι1 H1 cls dd gs t sr1 r⟩
    refine ⟨.ref x, g4, x, Ca, dx, gs, rfl, sr1.g x _ upd_same, ?_⟩
    cases ho : insO Pg f d (.ins c fs) with
    | none => rw [ho] at z; exact z.elim
    | some o =>
      rw [ho] at z
      unfold insO at ho
      dsimp only at ho
      split at ho
      · rename_i cl hcc
        split at ho
        · cases ho
        · rename_i hno
          simp only [Bool.or_eq_true, not_or, Bool.not_eq_true, decide_eq_false_iff_not, Option.isSome_eq_false_iff, Option.isNone_iff_eq_none] at hno
          cases ho
          obtain ⟨⟨⟨n1, n2⟩, n3⟩, n4⟩ := hno
          refine ⟨ct.link.cls c cl Ca hcc n1 g5, ct.link.nattr c cl Ca f fx hcc g5 n2 n3 hf, by rw [← rf.len]; omega, ?_⟩
          have s3 := SR.erase g1 g2 sr1
          have s4 := s3.guard (o := .ins Ca dx (putF fx w gs)) era_same
          rw [upd_era] at s4
          exact ⟨G, F1, ι1, env, μ1, x, Ca, dx, _, _, g1, g2, s4, g4, g5, (rf.mono t.f t.i).put ct.link.atInj hf r, WpR.mono z (fun fs' μ2 z F' ι' H' gs' t' sr' r' => z F' ι' H' gs' (t.trans t') sr' r') fun y μ2 z F' ι' H' cls dd gs' t' sr' r' => z F' ι' H' cls dd gs' (t.trans t') sr' r'⟩
      · cases ho
end
end Lm
set_option Elab.async false
set_option linter.all false
set_option maxRecDepth 100000
set_option maxHeartbeats 1000000
namespace Lm
open PySem PySem.Spec PyProof.Rows L2
section
variable {K : PySem.W.Frag} {L : Lk} {G F F' H H' : Hp} {ι ι' : List Addr} {env : Env} {μ μ' : Sto} {σ : L2.St} {p : Addr} {o : HO}
theorem SR.guardAt (sr : SR K L G F ι env μ σ H) (off : Off G F ι env σ p) (hp : H p = some o) : SR K L (upd G p o) F ι env μ σ H := by
  refine ⟨sr.f, fun a u e => ?_, fun a e => ?_, sr.len, sr.val, sr.il, sr.nd, fun l a e => ?_, fun i w e => ?_, sr.owd, ?_, sr.hx⟩
  · by_cases h : a = p
    · subst h; rw [upd_same] at e; cases e; exact hp
    · rw [upd_ne h] at e; exact sr.g a u e
  · by_cases h : a = p
    · subst h; exact off.f
    · rw [upd_ne h] at e; exact sr.gf a e
  · obtain ⟨h1, h2, w, ho, h3, h4, h5⟩ := sr.sto l a e
    have : a ≠ p := fun z => off.i (by rw [← z]; exact List.mem_iff_getElem?.mpr ⟨l, e⟩)
    exact ⟨h1, by rw [upd_ne this]; exact h2, w, ho, h3, h4, h5⟩
  · obtain ⟨a, ho, h1, h2, h3, h4, h5, h6⟩ := sr.own i w e
    have : a ≠ p := fun z => off.o i w e (by rw [← z]; exact h1)
    exact ⟨a, ho, h1, h2, by rw [upd_ne this]; exact h3, h4, h5, h6⟩
  · obtain ⟨φ, h⟩ := sr.sm
    exact ⟨φ, by rw [upd_ne (fun z => by rw [z, off.g] at h; cases h)]; exact h⟩
end
section
variable (L : Lk) (Pg : Pg) (N : List Str)
def chkIn (n : Nat) (sc : Scope) : List S → List Stmt → Bool
  | [], [] => true
  | .expr e :: ss, .Expr ex _ :: sts => noComp ex && chkE L Pg N n sc (fun _ => true) e ex && chkIn n sc ss sts
  | .selfF f v :: ss, .Assign [.Attribute (.Name x _) fx _] vx _ :: sts => decide (N[0]? = some x) && visB sc x && notDbg x && decide (L.attr[f]? = some fx) && chkE L Pg N n sc (fun _ => true) v vx && chkIn n sc ss sts
  | _, _ => false
end
section
variable {L : Lk} {Pg : Pg} {C : Orc} {k : Nat} {W : WX} {sc : Scope} {N : List Str} {X : Cx}
theorem chkIn_ok {n c : Nat} (ct : CtxS L Pg C k W sc N X) : ∀ {ss : List S} {sts : List Stmt}, chkIn L Pg N n sc ss sts = true → PSs X sts (tIn X.K L Pg C W c ss) := by
  intro ss
  have SE := sndAt (L := L) (Pg := Pg) (C := C) (k := k) (N := N) n
  induction ss with
  | nil => intro sts h; cases sts with | nil => exact in_nil | cons _ _ => cases h
  | cons s ss ih =>
    intro sts h
    unfold chkIn at h
    split at h
    · rename_i z2; cases z2
    · rename_i e ss' ex pos sts' z1
      cases z1
      simp only [Bool.and_eq_true] at h
      exact in_expr h.1.1 (SE.e ct.toCtxE h.1.2) (ih h.2)
    · rename_i f v ss' x p fx ap vx pos sts' z1
      cases z1
      simp only [Bool.and_eq_true, decide_eq_true_eq] at h
      obtain ⟨⟨⟨⟨⟨h1, h2⟩, h3⟩, h4⟩, h5⟩, h6⟩ := h
      exact in_self ct h1 h2 h3 h4 (SE.e ct.toCtxE h5) (ih h6)
    · cases h
end
end Lm
set_option Elab.async false
set_option linter.all false
set_option maxRecDepth 100000
set_option maxHeartbeats 1000000
namespace Lm
open PySem PySem.Spec PyProof.Rows L2
/-- how an __init__ stands in the written part -/
structure InLink (K : PySem.W.Frag) (L : Lk) (Pg : Pg) (n f : Nat) (a : Addr) (fd : FuncData) (fn : Fn) (N : List Str) (scope : Scope) (body : List Stmt) : Prop where
  at_ : Pg.fns[f]? = some fn
  np : fn.np = (L.fnP.getD f []).length
  nl : fn.nl = N.length
  le : fn.np ≤ N.length
  sc : FnScope N (L.fnP.getD f []) scope
  look : ∃ nm qual prm dV kV doc pm an cdv ct oc od osl, K.lookup a = some ⟨oc, od, .func (PySem.W.fnOf nm qual prm body scope dV kV doc pm an cdv ct), osl⟩ ∧ fd = PySem.W.fnOf nm qual prm body scope dV kV doc pm an cdv ct ∧ PySem.W.codeIn K cdv qual = true
  chk : chkIn L Pg N n scope fn.body body = true
section
variable {P : Program} {w : World} {K : PySem.W.Frag} {mg : Str → Option Value} {base : Heap} {L : Lk} {Pg : Pg} {C C' : Orc} {k n f c : Nat} {a : Addr} {fd : FuncData} {fn : Fn} {N : List Str} {scope : Scope} {body : List Stmt}
theorem in_step (hW : L.w = w) (hC : CallsOk P w K mg base L C k) (hX : ExcOk P w K mg base L Pg) (hk : 1 ≤ k) (hL : LinkOk K mg L Pg) (l : InLink K L Pg n f a fd fn N scope body) (hr : ∀ ds μ, C'.init c f ds μ = runI Pg C c f ds μ) : FnG P w K mg base (k + 2) a fd (L.fnP.getD f []) (spI K L C' c f) := by
  obtain ⟨nm, qual, prm, dV, kV, doc, pm, an, cdv, ct, oc, od, osl, lk, rfl, hcd⟩ := l.look
  refine fnG_of (N := N) lk hcd l.sc (fun vs H Q E want => ?_) fun A outer s H vs Q E room quiet want => ?_
  · obtain ⟨G, F, ι, μ, ds, x, Ca, dx, ws, rfl, sr, r, hl, _⟩ := want
    rw [List.length_cons, ← r.len, hl]
  · obtain ⟨G, F, ι, μ, ds, x, Ca, dx, ws, rfl, sr, r, hl, hC', hx, fx, gx, ix, h⟩ := want
    rw [hr] at h
    unfold runI at h
    rw [l.at_] at h
    dsimp only at h
    rw [if_pos (by rw [l.np]; exact hl)] at h
    have c' : CtxS L Pg C k (fun cls d _ H' => E cls d H') scope N (cxOf (L2.CX P w) P w K mg base N qual scope a cdv A outer s H E) :=
      { calm := rfl, n := rfl, nd := l.sc.nd, room := room, quiet := quiet, sce := rfl, fb := fun _ _ => rfl, tk := takes_of rfl rfl rfl rfl, calls := hC, excs := hX, k1 := hk, link := hL, lw := hW, own := passes_of rfl, kind := l.sc.kind, stk := rfl, frm := rfl }
    have off0 : Off G F ι [] [] x := ⟨fx, gx, ix, fun i w e => by simp at e⟩
    have s1 := (sr.guardAt off0 hx).frame (N := N) (ds := .non :: ds) (vs := .non :: ws) (.cons .non r) (by rw [List.length_cons, hl, ← l.np]; exact l.le)
    have s2 := s1.setUn (i := 0) (ov := some (V.ref x))
    have e0 : (L2.start N (.non :: ws)).set 0 (some (V.ref x)) = L2.start N (.ref x :: ws) := by simp [L2.start]
    rw [e0] at s2
    refine ⟨_, chkIn_ok (c := c) c' l.chk, G, F, ι, _, μ, x, Ca, dx, [], [], gx, sr.sm, s2, by simp [L2.start], hC', .nil, ?_⟩
    rw [← l.nl]
    refine h.mono (fun fs μ' z F' ι' H' gs' t sr' rf => ?_) fun y μ' z F' ι' H' cls dd gs' t sr' r' => ?_
    · have s3 := SR.erase gx sr.sm sr'
      have s4 := (s3.upd_off (o := .ins Ca dx gs') (s3.off era_same)).nil
      have e5 : upd (era H' x) x (.ins Ca dx gs') = H' := by
        rw [upd_era]
        funext b
        by_cases hb : b = x
        · subst hb; rw [upd_same]; exact (sr'.g b _ upd_same).symm
        · rw [upd_ne hb]
      rw [e5] at s4
      exact z F' ι' H' gs' dx t s4 (sr'.g x _ upd_same) (s3.off era_same).f (s3.off era_same).i rf
    · have s3 := SR.erase gx sr.sm sr'
      have s4 := (s3.upd_off (o := .ins Ca dx gs') (s3.off era_same)).nil
      have e5 : upd (era H' x) x (.ins Ca dx gs') = H' := by
        rw [upd_era]
        funext b
        by_cases hb : b = x
        · subst hb; rw [upd_same]; exact (sr'.g b _ upd_same).symm
        · rw [upd_ne hb]
      rw [e5] at s4
      exact z F' ι' H' cls dd t s4 r'
end
end Lm
set_option Elab.async false
set_option linter.all false
set_option maxRecDepth 100000
set_option maxHeartbeats 1000000
namespace Lm
open PySem PySem.Spec PyProof.Rows L2
section
variable {P : Program} {w : World} {K : PySem.W.Frag} {mg : Str → Option Value} {base : Heap} {L : Lk} {Pg : Pg} {C C' : Orc} {k n f c : Nat} {a : Addr} {fd : FuncData} {fn : Fn}
/-- a def that is never done (its evaluation is bad) has any contract -/
theorem FnG.vac {sp : Sp} {ps : List Str} (h : ∀ vs H Q E, ¬ sp vs H Q E) : FnG P w K mg base k a fd ps sp :=
  ⟨fun vs H Q E s => (h vs H Q E s).elim, fun A outer s H args us vs Q E _ _ _ _ _ sp => (h vs H Q E sp).elim⟩
theorem spC_bad (hb : ∀ ds μ, C.call f ds μ = .bad) (vs : List V) (H : Hp) (Q : VK) (E : XK) : ¬ spC K L C f vs H Q E := by
  rintro ⟨G, F, ι, μ, ds, sr, r, hl, h⟩
  rw [hb] at h
  exact h
theorem spI_bad (hb : ∀ ds μ, C.init c f ds μ = .bad) (vs : List V) (H : Hp) (Q : VK) (E : XK) : ¬ spI K L C c f vs H Q E := by
  rintro ⟨G, F, ι, μ, ds, x, Ca, dx, ws, e, sr, r, hl, h1, h2, h3, h4, h5, h⟩
  rw [hb] at h
  exact h
/-- each def stands in the written part as the IR says -/
structure LinkAll (K : PySem.W.Frag) (L : Lk) (Pg : Lm.Pg) : Prop where
  fn : ∀ (f : Nat) (a : Addr) (fd : FuncData), L.fnA[f]? = some a → L.fnD[f]? = some fd → isIni Pg f = false → ∃ n fn N scope body, FnLink K L Pg n f a fd fn N scope body
  ini : ∀ (f : Nat) (a : Addr) (fd : FuncData), L.fnA[f]? = some a → L.fnD[f]? = some fd → isIni Pg f = true → ∃ n fn N scope body, InLink K L Pg n f a fd fn N scope body
  np : ∀ (f : Nat) (fn : Fn), Pg.fns[f]? = some fn → fn.np = (L.fnP.getD f []).length
theorem calls_ok (hW : L.w = w) (hL : LinkOk K mg L Pg) (hX : ExcOk P w K mg base L Pg) (hA : LinkAll K L Pg) : ∀ m, CallsOk P w K mg base L (orc3 Pg m) (2 * m + 1) := by
  intro m
  induction m with
  | zero => exact ⟨fun f a fd _ _ => .vac (spC_bad fun _ _ => rfl), fun c f a fd _ _ => .vac (spI_bad fun _ _ => rfl), fun f ds μ h => (h rfl).elim, fun c f ds μ h => (h rfl).elim⟩
  | succ m ih =>
    refine ⟨fun f a fd h1 h2 => ?_, fun c f a fd h1 h2 => ?_, fun f ds μ h => ?_, fun c f ds μ h => ?_⟩
    · cases hi : isIni Pg f with
      | true => exact .vac (spC_bad fun ds μ => by show (if isIni Pg f = true then Res.bad else _) = _; rw [if_pos hi])
      | false =>
        obtain ⟨n, fn, N, scope, body, l⟩ := hA.fn f a fd h1 h2 hi
        exact fn_step hW ih hX (Nat.le_add_left 1 _) hL l fun ds μ => by show (if isIni Pg f = true then Res.bad else _) = _; rw [if_neg (by rw [hi]; simp)]
    · cases hi : isIni Pg f with
      | false => exact .vac (spI_bad fun ds μ => by show (if isIni Pg f = true then _ else Res.bad) = _; rw [if_neg (by rw [hi]; simp)])
      | true =>
        obtain ⟨n, fn, N, scope, body, l⟩ := hA.ini f a fd h1 h2 hi
        exact in_step hW ih hX (Nat.le_add_left 1 _) hL l fun ds μ => by show (if isIni Pg f = true then _ else Res.bad) = _; rw [if_pos hi]
    · have h : (if isIni Pg f = true then Res.bad else runFn Pg (orc3 Pg m) f ds μ) ≠ .bad := h
      split at h
      · exact (h rfl).elim
      · unfold runFn at h
        cases e : Pg.fns[f]? with
        | none => rw [e] at h; exact (h rfl).elim
        | some fn =>
          rw [e] at h
          dsimp only at h
          split at h
          · rename_i e2; rw [e2, hA.np f fn e]
          · exact (h rfl).elim
    · have h : (if isIni Pg f = true then runI Pg (orc3 Pg m) c f ds μ else Res.bad) ≠ .bad := h
      split at h
      · unfold runI at h
        cases e : Pg.fns[f]? with
        | none => rw [e] at h; exact (h rfl).elim
        | some fn =>
          rw [e] at h
          dsimp only at h
          split at h
          · rename_i e2; rw [e2, hA.np f fn e]
          · exact (h rfl).elim
      · exact (h rfl).elim
end
end Lm
set_option Elab.async false
set_option linter.all false
set_option maxRecDepth 100000
set_option maxHeartbeats 1000000
namespace Lm
open PySem PySem.Spec PyProof.Rows L2
section
variable {K : PySem.W.Frag} {L : Lk}
theorem reps_ints {F : Hp} {ι : List Addr} : ∀ ns : List Int, Reps K L F ι (ns.map Lm.D.int) (ns.map V.int)
  | [] => .nil
  | n :: ns => .cons (.int n) (reps_ints ns)
/-- what is tracked at a law's entry: the module table, as it is; the script, where it is no object of the written part -/
def entryH (K : PySem.W.Frag) (o0 : Obj) (a : Addr) (o : Obj) (ns : List Int) : Hp := fun b =>
  if b = sysModules then some (.ext fun h => h.get? sysModules = some o0) else if b = a ∧ K.lookup a = none then some (.frz o (.lst (ns.map V.int))) else none
def entryG (o0 : Obj) : Hp := fun b => if b = sysModules then some (.ext fun h => h.get? sysModules = some o0) else none
def entryF (K : PySem.W.Frag) (a : Addr) (o : Obj) (ns : List Int) : Hp := fun b => if b = sysModules then none else if b = a ∧ K.lookup a = none then some (.frz o (.lst (ns.map V.int))) else none
theorem entry_sr {o0 o : Obj} {a : Addr} {ns : List Int} : SR K L (entryG o0) (entryF K a o ns) [] [] [] [] (entryH K o0 a o ns) := by
  refine ⟨fun b u e => ?_, fun b u e => ?_, fun b e => ?_, rfl, fun i d e => (by simp at e), rfl, List.nodup_nil, fun l b e => (by simp at e), fun i w e => (by simp at e), fun i j w w' b _ e => (by simp at e), ⟨_, if_pos rfl⟩, fun i c fs e => (by simp at e)⟩
  · unfold entryF at e
    split at e
    · cases e
    · rename_i hb
      unfold entryH
      rw [if_neg hb]
      exact e
  · unfold entryG at e
    split at e
    · rename_i hb
      unfold entryH
      rw [if_pos hb]
      exact e
    · cases e
  · unfold entryG at e
    split at e
    · rename_i hb
      exact if_pos hb
    · exact (e rfl).elim
/-- THE END: the law's call, from what its IR comes to -/
theorem law_end {P : Program} {w : World} {mg mb : Str → Option Value} {k f : Nat} {fa a : Addr} {fd : FuncData} {x : Str} {C : Orc} {s₁ : Shared} {vs : List Value} {ns : List Int} {o0 : Obj}
    (KX : K.In s₁.heap) (KS : K.lookup sysModules = none) (hS : s₁.heap.get? sysModules = some o0) (hSd : ∀ (vs : List Value), o0 ≠ { cls := .type "list", data := .seq vs.toArray })
    (hns : s₁.heap.Ns mainGlobals mg) (hb : s₁.heap.Ns builtinsNs mb) (hbb : ∀ x : Str, x ≠ "__name__" → mb x = bootBuiltins x) (hlim : s₁.heap.NoLimit) (hg : s₁.gens = #[])
    (ha : s₁.heap.get? a = some { cls := .type "list", data := .seq vs.toArray }) (hi : IntsAre vs ns) (hl : ns.length ≤ sizeLine) (hr : Room k callerA)
    (F : ∀ base : Heap, K.In base → base.Ns mainGlobals mg → FnG P w K mg base k fa fd [x] (spC K L C f)) (hbind : ∀ (s : Shared) (u : Value), BindsTo s fd ⟨[u], []⟩ [(x, u)])
    (hp : (L.fnP.getD f []).length = 1) (pure : ∃ μ, C.call f [.frz (ns.map Lm.D.int)] [] = .ok (.bl true) μ) :
    codeAny (model P w) callerA (.call (.ref fa) ⟨[.ref a], []⟩) (fun r s' => r = .ok (.ret (.bool true)) ∧ OldK s₁.heap s'.heap ∧ s'.os = s₁.os ∧ AllBare s'.gens) s₁ := by
  have rv := vals_ints hi
  have aS : a ≠ sysModules := fun q => by
    rw [q, hS] at ha
    exact hSd vs (Option.some.inj ha)
  generalize hoL : ({ cls := .type "list", data := .seq vs.toArray } : Obj) = oL at ha
  have hdat : oL.data = .seq vs.toArray := by rw [← hoL]
  let H : Hp := entryH K o0 a oL ns
  have hHs : H sysModules = some (.ext fun h => h.get? sysModules = some o0) := if_pos rfl
  have hHa : K.lookup a = none → H a = some (.frz oL (.lst (ns.map V.int))) := fun e => (if_neg aS).trans (if_pos ⟨rfl, e⟩)
  have hHn : ∀ b, b ≠ sysModules → ¬(b = a ∧ K.lookup a = none) → H b = none := fun b h1 h2 => (if_neg h1).trans (if_neg h2)
  have hok : HOk P w H s₁.heap := fun b u e => by
    by_cases h1 : b = sysModules
    · subst h1
      rw [hHs] at e
      cases e
      exact ⟨hS, ⟨o0, hS⟩, fun h1 h2 z k => k o0 z⟩
    · by_cases h2 : b = a ∧ K.lookup a = none
      · obtain ⟨rfl, h3⟩ := h2
        rw [hHa h3] at e
        cases e
        exact ⟨ha, by rw [List.length_map]; exact hl, vs, _, rv, by rw [ha, ← hoL]⟩
      · rw [hHn b h1 h2] at e
        cases e
  -- what the rest of the proof reads of the heap lies beside what is tracked
  have far : ∀ {b : Addr} {o : Obj}, s₁.heap.get? b = some o → b ≠ sysModules → (∀ vs n, o.data ≠ .seq vs n) → (hidT s₁.heap H).get? b = some o := fun {b o} e n1 n2 =>
    hidT_get e (hHn b n1 fun ⟨q, _⟩ => by
      rw [q, ha] at e
      cases e
      exact n2 _ _ hdat)
  have nsK : ∀ {b : Addr} {m : Str → Option Value}, b ≠ sysModules → s₁.heap.Ns b m → (hidT s₁.heap H).Ns b m := fun {b m} n1 ⟨o, es, ep, e, d, r⟩ =>
    ⟨o, es, ep, far e n1 (fun vs n z => by rw [d] at z; cases z), d, r⟩
  have hKb : K.In (hidT s₁.heap H) := fun b o e => hidT_get (KX b o e) (hHn b (fun q => by rw [q, KS] at e; cases e) fun ⟨q, z⟩ => by rw [q, z] at e; cases e)
  have gK : (hidT s₁.heap H).Ns mainGlobals mg := nsK (by decide) hns
  have hM : L2.Mod K mg (hidT s₁.heap H) := ⟨hKb, gK, ⟨mb, nsK (by decide) hb, hbb⟩, let ⟨mc, h1, h2⟩ := hlim; ⟨mc, nsK (by decide) h1, h2⟩⟩
  have e0 : Env0 P w K mg (hidT s₁.heap H) callerA [] s₁ H :=
    { frames := rfl, mod := hM, bs := fun b o e => of_hidT e, bsz := Nat.le_of_eq (hidT_size _ _), funs := trivial, frf := fun b hb => absurd (show b ∈ ([] : List Addr) from hb) (by simp), hok := hok, bare := .of_eq hg }
  obtain ⟨μ, hpure⟩ := pure
  have hq : SqL K (entryF K a oL ns) a (ns.map V.int) := by
    cases z : K.lookup a with
    | none => exact .inl (.inr ⟨oL, (if_neg aS).trans (if_pos ⟨rfl, z⟩)⟩)
    | some o2 =>
      have e2 := KX a o2 z
      rw [ha] at e2
      cases e2
      exact .inr ⟨oL, vs.toArray, _, z, by rw [← hoL], by rw [← hoL], hdat, by rw [List.size_toArray, hi.length]; exact hl, by simpa using rv⟩
  have want : spC K L C f [.ref a] H (fun v H' => v = .bl true ∧ H' sysModules = some (.ext fun h => h.get? sysModules = some o0)) fun _ _ _ => False := by
    refine ⟨entryG o0, entryF K a oL ns, [], [], [.frz (ns.map Lm.D.int)], entry_sr, .cons (.frz hq (reps_ints ns)) .nil, hp.symm, ?_⟩
    rw [hpure]
    exact fun F' ι' H' v t sr' r' => by
      cases r' with
      | bl b => exact ⟨rfl, sr'.g _ _ (if_pos rfl)⟩
  refine codeAny_mono ((F _ hKb gK).run callerA [] s₁ H ⟨[.ref a], []⟩ [.ref a] [.ref a] _ _ hr rfl e0 (hbind s₁ (.ref a)) (.cons rfl .nil) want) fun r s' h => ?_
  cases r with
  | error e =>
    obtain ⟨_, _, _, _, _, _, _, _, _, _, _, _, no⟩ := h
    exact no.elim
  | ok fl =>
    cases fl with
    | next => exact False.elim h
    | brk => exact False.elim h
    | cont => exact False.elim h
    | ret u =>
      obtain ⟨v, H', os, bare, un, hok', r', q⟩ := h
      obtain ⟨q1, q2⟩ := (show v = .bl true ∧ _ from q)
      subst q1
      obtain rfl : u = Value.bool true := r'
      refine ⟨rfl, OldK.of_keep fun b o e => ?_, os, bare⟩
      by_cases h1 : b = sysModules
      · subst h1
        rw [hS] at e
        cases e
        exact (hok' _ _ q2).1
      · by_cases h2 : b = a ∧ K.lookup a = none
        · obtain ⟨rfl, h3⟩ := h2
          obtain ⟨g1, _⟩ := hok' b _ (un.frzs b oL _ (hHa h3))
          rw [ha] at e
          cases e
          exact g1
        · exact un.keep b o e (hHn b h1 h2) (by intro z; exact absurd (show b ∈ ([] : List Addr) from z) (by simp)) (by simp)
/-- the goal that a head leaves -/
theorem walk_law {l : PySem.W.OpenLaw} {n k f : Nat} {q : Program} {loose : List Str} {XP : (Str → Option Value) → Heap → Prop} {YP : World → Heap → Prop} {d : DefRec} {x : Str} {C : Orc}
    (hn : l.most = some n) (hn2 : n ≤ sizeLine) (hdf : d.params.defaults = []) (hr : Room k callerA)
    (F : ∀ (w : World) (mg : Str → Option Value) (fa : Addr) (h : Heap), YP w h → h.Ns mainGlobals mg → mg d.name = some (.ref fa) →
      ∃ (K : PySem.W.Frag) (L : Lk) (fd : FuncData) (o0 : Obj), K.In h ∧ K.lookup sysModules = none ∧ h.get? sysModules = some o0 ∧ (∀ (vs : List Value), o0 ≠ { cls := .type "list", data := .seq vs.toArray }) ∧
        (∀ (s : Shared) (u : Value), BindsTo s fd ⟨[u], []⟩ [(x, u)]) ∧ (L.fnP.getD f []).length = 1 ∧ ∀ base : Heap, K.In base → base.Ns mainGlobals mg → FnG l.prog w K mg base k fa fd [x] (spC K L C f))
    (pure : ∀ ns : List Int, ns.length ≤ n → ∃ μ, C.call f [.frz (ns.map Lm.D.int)] [] = .ok (.bl true) μ) :
    PySem.W.WalkO q loose XP YP l.row.toRowW d [] (fun f vs => PySem.call f vs) := by
  refine Att.attach_callB hn hdf fun w s₀ s₁ mg mb fa o pm cd doc a vs ns G Y ho hd hcd hmg hobj hints hlen hbits hg => ?_
  obtain ⟨K, L, fd, o0, KX, KS, hS, hSd, hb, hp, hF⟩ := F w mg fa _ Y G.T.g hmg
  exact law_end KX KS hS hSd G.T.g G.T.b G.T.builtins G.T.nolimit hg hobj hints (Nat.le_trans hlen hn2) hr hF hb hp (pure ns hlen)
end
end Lm
set_option Elab.async false
set_option linter.all false
set_option maxRecDepth 100000
set_option maxHeartbeats 1000000
namespace Lm
open PySem PySem.Spec PyProof.Rows L2
/-! ### the text as data: one row a def, a class, a global -/
structure DR where
  cl : Option Str
  nm : Str
  pr : Bool
  name : Str
  qual : Str
  params : Arguments
  body : List Stmt
  scope : Scope
  ps : List Str
  N : List Str
  fn : Fn
structure CR' where
  name : Str
  ini : Option Nat
  cl : Cl
inductive GV where
  | int (i : Int) | str (s : Str)
def GV.d : GV → Lm.D | .int i => .int i | .str s => .str s
def GV.v : GV → V | .int i => .int i | .str s => .str s
structure Tx where
  tab : List DR
  cls : List CR'
  attrs : List Str
  globs : List (Str × GV)
def Tx.pg (T : Tx) : Pg := ⟨T.tab.map (·.fn), T.cls.map (·.cl), T.globs.map fun g => g.2.d⟩
def getterOf (K : PySem.W.Frag) (p : Addr) : Addr := match PySem.W.recIn K p "property" with
  | some (.ref g :: _) => g
  | _ => 0
def DR.adr (K : PySem.W.Frag) (d : DR) : Addr := match d.cl with
  | none => He.ga K d.nm
  | some c => if d.pr then getterOf K (He.ma K (He.ga K c) d.nm) else He.ma K (He.ga K c) d.nm
def fdAt (K : PySem.W.Frag) (a : Addr) : FuncData := match K.lookup a with
  | some ⟨_, _, .func fd, _⟩ => fd
  | _ => default
def fnOb (K : PySem.W.Frag) (a : Addr) : He.FnV := match K.lookup a with
  | some ⟨_, _, .func fd, _⟩ => some (fd.name, fd.qualname, fd.params, fd.body, fd.scope, fd.globals, fd.closure, fd.defaults, fd.builtins)
  | _ => none
def DR.val (d : DR) : He.FnV := some (d.name, d.qual, d.params, .stmts d.body, d.scope, mainGlobals, [], .none, builtinsNs)
def codeB (K : PySem.W.Frag) (a : Addr) (q : Str) : Bool := match K.lookup a with
  | some ⟨_, _, .func fd, _⟩ => PySem.W.codeIn K fd.code q
  | _ => false
theorem fnOb_ok {K : PySem.W.Frag} {a : Addr} {d : DR} (e : fnOb K a = d.val) (c : codeB K a d.qual = true) :
    ∃ oc od osl kV doc pm an cdv ct, K.lookup a = some ⟨oc, od, .func (PySem.W.fnOf d.name d.qual d.params d.body d.scope .none kV doc pm an cdv ct), osl⟩ ∧ fdAt K a = PySem.W.fnOf d.name d.qual d.params d.body d.scope .none kV doc pm an cdv ct ∧ PySem.W.codeIn K cdv d.qual = true := by
  unfold codeB at c
  unfold fnOb at e
  unfold fdAt
  cases q : K.lookup a with
  | none => rw [q] at c; cases c
  | some o =>
    obtain ⟨oc, od, dt, osl⟩ := o
    rw [q] at c e
    cases dt with
    | func fd =>
      obtain ⟨n1, n2, n3, n4, n5, n6, n7, n8, n9, n10, n11, n12, n13, n14, n15⟩ := fd
      have e2 : (some (n1, n2, n3, n4, n5, n6, n7, n8, n15) : He.FnV) = some (d.name, d.qual, d.params, .stmts d.body, d.scope, mainGlobals, [], .none, builtinsNs) := e
      simp only [Option.some.injEq, Prod.mk.injEq] at e2
      obtain ⟨h1, h2, h3, h4, h5, h6, h7, h8, h9⟩ := e2
      subst h1 h2 h3 h4 h5 h6 h7 h8 h9
      exact ⟨oc, od, osl, n9, n10, n11, n12, n13, n14, rfl, rfl, c⟩
    | _ => cases c
/-- the link: names from the text, places from the written part -/
def Tx.lk (T : Tx) (K : PySem.W.Frag) (w : World) : Lk where
  attr := T.attrs
  clN := T.cls.map (·.name)
  clA := T.cls.map fun c => He.ga K c.name
  glN := T.globs.map (·.1)
  fnN := T.tab.map fun d => match d.cl with | none => d.nm | some _ => Str.empty
  fnA := T.tab.map fun d => d.adr K
  fnD := T.tab.map fun d => fdAt K (d.adr K)
  fnP := T.tab.map (·.ps)
  w := w
/-! ### what is looked at in the written part -/
def DR.okK (K : PySem.W.Frag) (d : DR) : Bool := codeB K (d.adr K) d.qual && PySem.W.keepIn K (.ref (d.adr K)) && (match d.cl with
  | none => He.eqO (PySem.W.nsIn K mainGlobals d.nm) (some (some (.ref (d.adr K))))
  | some _ => true)
def gvB (K : PySem.W.Frag) (g : Str × GV) : Bool := match PySem.W.nsIn K mainGlobals g.1 with
  | some (some u) => He.relB g.2.v u
  | _ => false
def propB (K : PySem.W.Frag) (c x : Str) : Bool :=
  let p := He.ma K (He.ga K c) x
  He.eqO (PySem.W.findIn K (.ref (He.ga K c)) x) (some (some (.ref p))) && He.eqO (PySem.W.specialIn K (.ref p) "__get__") (some (some (.builtin "property.__get__"))) && decide (PySem.W.takesIn K (.ref p) = some true) &&
    (match PySem.W.recIn K p "property" with | some (.ref _ :: _) => true | _ => false)
/-- what isinstance asks of a class of instances -/
def insKB (K : PySem.W.Frag) (C : Addr) : Bool := He.eqO (PySem.W.findIn K (.ref C) "__class__") (some (some (.builtin "object.__class__"))) && He.eqO (PySem.W.specialIn K (.builtin "object.__class__") "__get__") (some (some (.builtin "getset_descriptor.__get__"))) &&
  decide (PySem.W.takesIn K (.builtin "object.__class__") = some true) && decide (PySem.W.mroIn K C (.type "object") = some true) &&
  ((["int", "bool", "tuple", "str", "list", "dict"] : List String).all fun t => decide (PySem.W.kitOne K (.ref C) (.type t) = some false)) &&
  ((["NoneType", "bool", "int", "str", "tuple", "list", "dict"] : List String).all fun t => decide (PySem.W.kitOne K (.type t) (.ref C) = some false))
theorem insKB_ok {K : PySem.W.Frag} {C : Addr} (h : insKB K C = true) : InsK K C := by
  simp only [insKB, Bool.and_eq_true, decide_eq_true_eq, List.all_eq_true] at h
  obtain ⟨⟨⟨⟨⟨h1, h2⟩, h3⟩, h4⟩, h5⟩, h6⟩ := h
  exact ⟨He.eqO_ok h1, He.eqO_ok h2, h3, h4, h5, h6⟩
def CR'.okK (T : Tx) (K : PySem.W.Frag) (c : CR') : Bool :=
  (c.cl.kind.isExc || ((He.Fa.cls c.name).ok K && (c.cl.init.isNone || (He.Fa.mkr c.name).ok K) && He.eqO (PySem.W.nsIn K mainGlobals c.name) (some (some (.ref (He.ga K c.name)))))) &&
  (T.attrs.zipIdx.all fun z => (lookN c.cl.props z.2).isSome || (lookN c.cl.meths z.2).isSome || He.eqO (PySem.W.findIn K (.ref (He.ga K c.name)) z.1) (some none)) &&
  (T.attrs.zipIdx.all fun z => (lookN c.cl.props z.2).isNone || propB K c.name z.1)
/-- an own exception's class, below ValueError -/
abbrev veT : List Value := [.type "ValueError", .type "Exception", .type "BaseException", .type "object"]
abbrev leT : List Value := [.type "LookupError", .type "Exception", .type "BaseException", .type "object"]
def oexB (K : PySem.W.Frag) (C : Addr) : Bool := PySem.W.hasDictIn K C && ((PySem.W.excInitIn K C veT "ValueError.__new__" && PySem.W.excOver K C veT) || (PySem.W.excInitIn K C leT "LookupError.__new__" && PySem.W.excOver K C leT))
def excKB (K : PySem.W.Frag) (C : Addr) : Bool := He.eqO (PySem.W.findIn K (.ref C) "__getattribute__") (some (some (.builtin "BaseException.__getattribute__"))) && He.eqO (PySem.W.findIn K (.ref C) "__getattr__") (some none) && decide (PySem.W.subIn K (.ref C) (.type "BaseException") = some true) && PySem.W.hasDictIn K C &&
  (PySem.W.clsIn K C).isSome && He.eqO (PySem.W.findIn K (.ref C) "__class__") (some (some (.builtin "object.__class__"))) && He.eqO (PySem.W.specialIn K (.builtin "object.__class__") "__get__") (some (some (.builtin "getset_descriptor.__get__"))) &&
  decide (PySem.W.takesIn K (.builtin "object.__class__") = some true) && decide (PySem.W.mroIn K C (.type "object") = some true)
theorem excKB_ok {K : PySem.W.Frag} {C : Addr} (h : excKB K C = true) : ExcK K C := by
  simp only [excKB, Bool.and_eq_true, decide_eq_true_eq] at h
  obtain ⟨⟨⟨⟨⟨⟨⟨⟨h1, h2⟩, h3⟩, h4⟩, h5⟩, h6⟩, h7⟩, h8⟩, h9⟩ := h
  exact ⟨⟨He.eqO_ok h1, He.eqO_ok h2, h3, h4⟩, h5, He.eqO_ok h6, He.eqO_ok h7, h8, h9⟩
def bareB (K : PySem.W.Frag) (C : Addr) : Bool := PySem.W.excIn K C veT "ValueError.__new__" || PySem.W.excIn K C leT "LookupError.__new__"
def CR'.xK (T : Tx) (K : PySem.W.Frag) (c : CR') : Bool := match c.cl.xfs with
  | none => (lookN c.cl.sps 6).isNone || (bareB K (He.ga K c.name) && PySem.W.keepIn K (.ref (He.ga K c.name)) && He.eqO (PySem.W.nsIn K mainGlobals c.name) (some (some (.ref (He.ga K c.name)))))
  | some ns =>
    let C := He.ga K c.name
    let f := He.ma K C "__init__"
    oexB K C && He.eqO (PySem.W.findIn K (.ref C) "__setattr__") (some (some (.builtin "object.__setattr__"))) && decide (PySem.W.subIn K (.ref C) (.type "BaseException") = some true) && decide (PySem.W.typeIn K (.ref C) = some (.type "type")) && PySem.W.keepIn K (.ref C) &&
      He.eqO (PySem.W.nsIn K mainGlobals c.name) (some (some (.ref C))) && He.eqO (PySem.W.findIn K (.ref C) "__init__") (some (some (.ref f))) && decide (PySem.W.typeIn K (.ref f) = some (.type "function")) &&
      ns.all fun n => match T.attrs[n]? with | some x => He.eqO (PySem.W.findIn K (.ref C) x) (some none) | none => false
def Tx.okK (T : Tx) (K : PySem.W.Frag) : Bool :=
  (T.tab.all fun d => d.okK K) && (T.cls.all fun c => c.okK T K && c.xK T K) && (T.globs.all fun g => gvB K g) && (bltNames.all fun x => He.eqO (PySem.W.nsIn K mainGlobals x) (some none)) && decide ((T.cls.map fun c => He.ga K c.name).Nodup)
/-! ### what is looked at in the text alone -/
def scB (N P : List Str) (sc : Scope) : Bool := (match sc.kind with | .function => true | _ => false) && !sc.isCoroutine && !sc.isGenerator && decide N.Nodup && decide (N.take P.length = P) &&
  (P.all fun x => match sc.names.lookup x with | some .local => true | some .cell => true | _ => false) && sc.names.all fun y => match y.2 with | .free => false | _ => true
theorem scB_ok {N P : List Str} {sc : Scope} (h : scB N P sc = true) : FnScope N P sc := by
  simp only [scB, Bool.and_eq_true, Bool.not_eq_true', decide_eq_true_eq, List.all_eq_true] at h
  obtain ⟨⟨⟨⟨⟨⟨h1, h2⟩, h3⟩, h4⟩, h5⟩, h6⟩, h7⟩ := h
  refine ⟨?_, h2, h3, h4, h5, fun x hx => ?_, fun y hy e => ?_⟩
  · split at h1
    · assumption
    · cases h1
  · have := h6 x hx
    split at this
    · rename_i e; exact .inl e
    · rename_i e; exact .inr e
    · cases this
  · have := h7 y hy
    rw [e] at this
    cases this
def DR.okT (n : Nat) (L : Lk) (Pg : Pg) (f : Nat) (d : DR) : Bool := decide (d.fn.np = d.ps.length) && decide (d.fn.nl = d.N.length) && decide (d.fn.np ≤ d.N.length) && scB d.N d.ps d.scope &&
  (if isIni Pg f then chkIn L Pg d.N n d.scope d.fn.body d.body else chkSs L Pg d.N n d.scope d.fn.body d.body)
/-- where a class' __init__ and its getters stand in the table -/
def CR'.okT (T : Tx) (c : CR') : Bool :=
  (c.cl.kind.isExc || (match c.cl.init with
    | some f => (match T.tab[f]? with | some d => decide (d.cl = some c.name) && decide (d.nm = ("__init__" : Str)) && !d.pr | none => false)
    | none => true)) &&
  c.cl.props.all fun z => match T.attrs[z.1]? with
    | some x => (match T.tab[z.2]? with | some d => decide (d.cl = some c.name) && decide (d.nm = x) && d.pr | none => false)
    | none => false
/-- an exception's __init__ -/
def CR'.xT (T : Tx) (c : CR') : Bool := match c.cl.xfs with
  | none => true
  | some ns => (lookN c.cl.sps 6).isNone && match c.ini with
    | some f => (match T.tab[f]? with
      | some d => decide (d.cl = some c.name) && decide (d.nm = ("__init__" : Str)) && !d.pr && (match ns.mapM fun n => T.attrs[n]? with
        | some fields => decide (d.ps.length = fields.length + 1) && chkX d.N d.scope fields d.body
        | none => true)
      | none => false)
    | none => false
def Tx.okT (n : Nat) (T : Tx) (L : Lk) : Bool := (T.tab.zipIdx.all fun z => z.1.okT n L T.pg z.2) && (T.cls.all fun c => c.okT T && c.xT T) && decide T.attrs.Nodup
/-- arguments are bound by place -/
def BindOk (d : DR) : Prop := ∀ (kV doc pm : Value) (an : Option Addr) (cdv ct : Value) (us : List Value), us.length = d.ps.length → bindArgs (PySem.W.fnOf d.name d.qual d.params d.body d.scope .none kV doc pm an cdv ct) ⟨us, []⟩ = pure (d.ps.zip us)
theorem lookN_mem {β : Type} {k : Nat} {v : β} : ∀ {l : List (Nat × β)}, lookN l k = some v → (k, v) ∈ l
  | [], h => by cases h
  | (a, b) :: r, h => by
    unfold lookN at h
    split at h
    · rename_i e; cases h; subst e; exact List.mem_cons_self
    · exact List.mem_cons_of_mem _ (lookN_mem h)
theorem zip_at {α : Type} {l : List α} {i : Nat} {x : α} (h : l[i]? = some x) : (x, i) ∈ l.zipIdx := by
  rw [List.mem_zipIdx_iff_getElem?]
  exact h
theorem get_mem {α : Type} {l : List α} {i : Nat} {x : α} (h : l[i]? = some x) : x ∈ l := List.mem_of_getElem? h
theorem nodup_get {α : Type} {l : List α} (h : l.Nodup) {i j : Nat} {x : α} (h1 : l[i]? = some x) (h2 : l[j]? = some x) : i = j := by
  obtain ⟨a1, a2⟩ := List.getElem?_eq_some_iff.mp h1
  obtain ⟨b1, b2⟩ := List.getElem?_eq_some_iff.mp h2
  exact (List.getElem_inj h).mp (a2.trans b2.symm)
section
variable {T : Tx} {K : PySem.W.Frag} {n : Nat} {mg : Str → Option Value} {h : Heap}
theorem at_fn {f : Nat} {a : Addr} (e : (T.lk K w).fnA[f]? = some a) : ∃ d, T.tab[f]? = some d ∧ a = d.adr K := by
  have e : (T.tab.map fun d => d.adr K)[f]? = some a := e
  rw [List.getElem?_map] at e
  obtain ⟨d, h1, h2⟩ := Option.map_eq_some_iff.mp e
  exact ⟨d, h1, h2.symm⟩
theorem fd_fn {f : Nat} {fd : FuncData} {d : DR} (hd : T.tab[f]? = some d) (e : (T.lk K w).fnD[f]? = some fd) : fd = fdAt K (d.adr K) := by
  have e : (T.tab.map fun d => fdAt K (d.adr K))[f]? = some fd := e
  rw [List.getElem?_map, hd] at e
  exact (Option.some.inj e).symm
theorem ps_fn {f : Nat} {d : DR} (hd : T.tab[f]? = some d) : (T.lk K w).fnP.getD f [] = d.ps := by
  show (T.tab.map (·.ps)).getD f [] = d.ps
  rw [List.getD_eq_getElem?_getD, List.getElem?_map, hd]
  rfl
theorem fnA_of {f : Nat} {d : DR} (hd : T.tab[f]? = some d) : (T.lk K w).fnA[f]? = some (d.adr K) := by
  show (T.tab.map fun d => d.adr K)[f]? = _
  rw [List.getElem?_map, hd]; rfl
theorem fnD_of {f : Nat} {d : DR} (hd : T.tab[f]? = some d) : (T.lk K w).fnD[f]? = some (fdAt K (d.adr K)) := by
  show (T.tab.map fun d => fdAt K (d.adr K))[f]? = _
  rw [List.getElem?_map, hd]; rfl
theorem cl_at {c : Nat} {cl : Cl} (e : T.pg.cls[c]? = some cl) : ∃ r, T.cls[c]? = some r ∧ cl = r.cl := by
  have e : (T.cls.map (·.cl))[c]? = some cl := e
  rw [List.getElem?_map] at e
  obtain ⟨d, h1, h2⟩ := Option.map_eq_some_iff.mp e
  exact ⟨d, h1, h2.symm⟩
theorem clA_at {c : Nat} {r : CR'} {C : Addr} (hr : T.cls[c]? = some r) (e : (T.lk K w).clA[c]? = some C) : C = He.ga K r.name := by
  have e : (T.cls.map fun c => He.ga K c.name)[c]? = some C := e
  rw [List.getElem?_map, hr] at e
  exact (Option.some.inj e).symm
theorem link_all (hob : T.tab.map (fun d => fnOb K (d.adr K)) = T.tab.map DR.val) (hK : T.okK K = true) (hT : T.okT n (T.lk K w) = true) : LinkAll K (T.lk K w) T.pg := by
  simp only [Tx.okK, Tx.okT, Bool.and_eq_true, List.all_eq_true] at hK hT
  have one : ∀ {f : Nat} {d : DR}, T.tab[f]? = some d → fnOb K (d.adr K) = d.val := fun {f d} hd => by
    have e2 : (T.tab.map fun d => fnOb K (d.adr K))[f]? = (T.tab.map DR.val)[f]? := by rw [hob]
    rw [List.getElem?_map, List.getElem?_map, hd] at e2
    exact Option.some.inj e2
  have fns : ∀ {f : Nat} {d : DR}, T.tab[f]? = some d → T.pg.fns[f]? = some d.fn := fun {f d} hd => by
    show (T.tab.map (·.fn))[f]? = _
    rw [List.getElem?_map, hd]; rfl
  have stat : ∀ {f : Nat} {d : DR}, T.tab[f]? = some d → d.okT n (T.lk K w) T.pg f = true := fun {f d} hd => hT.1.1 (d, f) (zip_at hd)
  refine ⟨fun f a fd h1 h2 hi => ?_, fun f a fd h1 h2 hi => ?_, fun f fn e => ?_⟩
  · obtain ⟨d, hd, rfl⟩ := at_fn h1
    obtain rfl := fd_fn hd h2
    have k1 := hK.1.1.1.1 d (get_mem hd)
    have t1 := stat hd
    simp only [DR.okK, DR.okT, Bool.and_eq_true, decide_eq_true_eq] at k1 t1
    rw [if_neg (by rw [hi]; simp)] at t1
    obtain ⟨oc, od, osl, kV, doc, pm, an, cdv, ct, l1, l2, l3⟩ := fnOb_ok (one hd) k1.1.1
    exact ⟨n, d.fn, d.N, d.scope, d.body, fns hd, by rw [ps_fn hd]; exact t1.1.1.1.1, t1.1.1.1.2, t1.1.1.2, by rw [ps_fn hd]; exact scB_ok t1.1.2, ⟨_, _, _, _, _, _, _, _, _, _, _, _, _, l1, l2, l3⟩, t1.2⟩
  · obtain ⟨d, hd, rfl⟩ := at_fn h1
    obtain rfl := fd_fn hd h2
    have k1 := hK.1.1.1.1 d (get_mem hd)
    have t1 := stat hd
    simp only [DR.okK, DR.okT, Bool.and_eq_true, decide_eq_true_eq] at k1 t1
    rw [if_pos hi] at t1
    obtain ⟨oc, od, osl, kV, doc, pm, an, cdv, ct, l1, l2, l3⟩ := fnOb_ok (one hd) k1.1.1
    exact ⟨n, d.fn, d.N, d.scope, d.body, fns hd, by rw [ps_fn hd]; exact t1.1.1.1.1, t1.1.1.1.2, t1.1.1.2, by rw [ps_fn hd]; exact scB_ok t1.1.2, ⟨_, _, _, _, _, _, _, _, _, _, _, _, _, l1, l2, l3⟩, t1.2⟩
  · have e : (T.tab.map (·.fn))[f]? = some fn := e
    rw [List.getElem?_map] at e
    obtain ⟨d, hd, rfl⟩ := Option.map_eq_some_iff.mp e
    have t1 := stat hd
    simp only [DR.okT, Bool.and_eq_true, decide_eq_true_eq] at t1
    rw [ps_fn hd]
    exact t1.1.1.1.1
theorem bind_fn {d : DR} (hob : fnOb K (d.adr K) = d.val) (k : d.okK K = true) (hb : BindOk d) : Binds K (fdAt K (d.adr K)) d.ps [] := by
  simp only [DR.okK, Bool.and_eq_true] at k
  obtain ⟨oc, od, osl, kV, doc, pm, an, cdv, ct, l1, l2, l3⟩ := fnOb_ok hob k.1.1
  rw [l2]
  exact .all (hb kV doc pm an cdv ct)
theorem ma_eq {K : PySem.W.Frag} {C f : Addr} {x : Str} (e : PySem.W.findIn K (.ref C) x = some (some (.ref f))) : He.ma K C x = f := by
  unfold He.ma
  rw [e]
/-- the classes behind except, and those in flight -/
def Tx.insA (T : Tx) (K : PySem.W.Frag) : Bool := T.cls.zipIdx.all fun z => z.1.cl.kind.isExc || (He.eqO (PySem.W.nsIn K mainGlobals z.1.name) (some (some (.ref (He.ga K z.1.name)))) && insKB K (He.ga K z.1.name) &&
  T.cls.zipIdx.all fun y => y.1.cl.kind.isExc || decide (PySem.W.kitOne K (.ref (He.ga K z.1.name)) (.ref (He.ga K y.1.name)) = some (decide (z.2 = y.2))))
/-- own == and != -/
def CR'.spB (T : Tx) (K : PySem.W.Frag) (r : CR') (b : Bool) : Bool := match lookN r.cl.sps (if b then 2 else 1) with
  | none => true
  | some f => (match T.tab[f]? with
    | some d => He.eqO (PySem.W.findIn K (.ref (He.ga K r.name)) (ocNm b)) (some (some (.ref (d.adr K)))) && PySem.W.isFn K (.ref (d.adr K))
    | none => false) && ((["NoneType", "bool", "int", "str", "tuple", "list", "dict"] : List String).all fun t => PySem.W.notFirst K (He.ga K r.name) (.type t)) && T.cls.all fun y => y.cl.kind.isExc || PySem.W.notFirst K (He.ga K r.name) (.ref (He.ga K y.name))
/-- methods; own len, str, [] -/
def CR'.mtB (T : Tx) (K : PySem.W.Frag) (r : CR') : Bool := r.cl.kind.isExc || ((r.cl.meths.all fun z => match T.attrs[z.1]? with
    | some x => (match T.tab[z.2]? with | some d => He.eqO (PySem.W.findIn K (.ref (He.ga K r.name)) x) (some (some (.ref (d.adr K)))) && PySem.W.isFn K (.ref (d.adr K)) | none => false)
    | none => false) &&
  (([3, 4, 5] : List Nat).all fun n => match lookN r.cl.sps n with
    | none => true
    | some f => (match T.tab[f]? with | some d => He.eqO (PySem.W.findIn K (.ref (He.ga K r.name)) (spNm n)) (some (some (.ref (d.adr K)))) && PySem.W.isFn K (.ref (d.adr K)) && PySem.W.fnIn K (d.adr K) | none => false)))
def Tx.insB (T : Tx) (K : PySem.W.Frag) : Bool := T.insA K && T.cls.all fun r => r.spB T K true && r.spB T K false && r.mtB T K
def Tx.excB (T : Tx) (K : PySem.W.Frag) : Bool := T.cls.zipIdx.all fun z => !z.1.cl.kind.isExc || (He.eqO (PySem.W.nsIn K mainGlobals z.1.name) (some (some (.ref (He.ga K z.1.name)))) && (excKB K (He.ga K z.1.name) && (T.attrs.all fun x => He.eqO (PySem.W.findIn K (.ref (He.ga K z.1.name)) x) (some none)) &&
    decide (PySem.W.kitOne K (.ref (He.ga K z.1.name)) (.type "ValueError") = some (supOf T.pg z.2 (.inr "ValueError"))) && decide (PySem.W.kitOne K (.ref (He.ga K z.1.name)) (.type "LookupError") = some (supOf T.pg z.2 (.inr "LookupError"))) &&
    (decide (PySem.W.kitOne K (.ref (He.ga K z.1.name)) (.type "KeyError") = some (supOf T.pg z.2 (.inr "KeyError"))) && decide (PySem.W.kitOne K (.ref (He.ga K z.1.name)) (.type "IndexError") = some (supOf T.pg z.2 (.inr "IndexError"))))) &&
  T.cls.zipIdx.all fun y => !y.1.cl.kind.isExc || (decide (PySem.W.exmOne K (.ref (He.ga K y.1.name)) (.ref (He.ga K z.1.name)) = some (supOf T.pg y.2 (.inl z.2))) && decide (PySem.W.kitOne K (.ref (He.ga K y.1.name)) (.ref (He.ga K z.1.name)) = some (supOf T.pg y.2 (.inl z.2)))))
def Tx.catB (T : Tx) (K : PySem.W.Frag) : Bool := T.excB K && T.insB K
theorem ins_at {K : PySem.W.Frag} (hI : T.insA K = true) {c : Nat} {r : CR'} (hr : T.cls[c]? = some r) (hx : r.cl.kind.isExc = false) : (He.eqO (PySem.W.nsIn K mainGlobals r.name) (some (some (.ref (He.ga K r.name)))) = true ∧ insKB K (He.ga K r.name) = true) ∧
    ∀ y ∈ T.cls.zipIdx, (y.1.cl.kind.isExc || decide (PySem.W.kitOne K (.ref (He.ga K r.name)) (.ref (He.ga K y.1.name)) = some (decide (c = y.2)))) = true := by
  unfold Tx.insA at hI
  rw [List.all_eq_true] at hI
  have k1 := hI (r, c) (zip_at hr)
  dsimp only at k1
  rw [hx, Bool.false_or, Bool.and_eq_true, Bool.and_eq_true, List.all_eq_true] at k1
  exact k1
theorem isN_at {c : Nat} (h : isN T.pg c = true) : ∃ r, T.cls[c]? = some r ∧ r.cl.kind.isExc = false := by
  unfold isN at h
  split at h
  · rename_i k hk
    obtain ⟨r, hr, rfl⟩ := cl_at hk
    exact ⟨r, hr, by simpa using h⟩
  · cases h
theorem link_ok (X : K.In h) (G : h.Ns mainGlobals mg) (hob : T.tab.map (fun d => fnOb K (d.adr K)) = T.tab.map DR.val) (hK : T.okK K = true) (hT : T.okT n (T.lk K w) = true) (hB : ∀ d ∈ T.tab, BindOk d) (hI : T.insB K = true) : LinkOk K mg (T.lk K w) T.pg := by
  have hK' := hK
  simp only [Tx.okK, Tx.okT, Bool.and_eq_true, List.all_eq_true, decide_eq_true_eq] at hK hT

  obtain ⟨⟨⟨⟨kT, kC⟩, kG⟩, kB⟩, kN⟩ := hK
  obtain ⟨⟨tT, tC⟩, tN⟩ := hT
  have one : ∀ {f : Nat} {d : DR}, T.tab[f]? = some d → fnOb K (d.adr K) = d.val := fun {f d} hd => by
    have e2 : (T.tab.map fun d => fnOb K (d.adr K))[f]? = (T.tab.map DR.val)[f]? := by rw [hob]
    rw [List.getElem?_map, List.getElem?_map, hd] at e2
    exact Option.some.inj e2
  have clOk : ∀ {c : Nat} {r : CR'}, T.cls[c]? = some r → r.okK T K = true := fun hr => (kC _ (get_mem hr)).1
  have clT : ∀ {c : Nat} {r : CR'}, T.cls[c]? = some r → r.okT T = true := fun hr => (tC _ (get_mem hr)).1
  have hI0 := hI
  unfold Tx.insB at hI0
  rw [Bool.and_eq_true, List.all_eq_true] at hI0
  have hS : ∀ {c : Nat} {r : CR'}, T.cls[c]? = some r → ∀ b : Bool, r.spB T K b = true := fun {c r} hr b => by
    have := hI0.2 r (get_mem hr)
    rw [Bool.and_eq_true] at this
    have := this.1
    rw [Bool.and_eq_true] at this
    cases b
    · exact this.2
    · exact this.1
  have hM : ∀ {c : Nat} {r : CR'}, T.cls[c]? = some r → r.cl.kind.isExc = false → (∀ m g, lookN r.cl.meths m = some g → ∃ x d, T.attrs[m]? = some x ∧ T.tab[g]? = some d ∧ PySem.W.findIn K (.ref (He.ga K r.name)) x = some (some (.ref (d.adr K))) ∧ PySem.W.isFn K (.ref (d.adr K)) = true) ∧
      ∀ n f, (n = 3 ∨ n = 4 ∨ n = 5) → lookN r.cl.sps n = some f → ∃ d, T.tab[f]? = some d ∧ PySem.W.findIn K (.ref (He.ga K r.name)) (spNm n) = some (some (.ref (d.adr K))) ∧ PySem.W.isFn K (.ref (d.adr K)) = true ∧ PySem.W.fnIn K (d.adr K) = true := fun {c r} hr hx => by
    have := hI0.2 r (get_mem hr)
    rw [Bool.and_eq_true] at this
    have := this.2
    unfold CR'.mtB at this
    rw [hx, Bool.false_or, Bool.and_eq_true, List.all_eq_true, List.all_eq_true] at this
    refine ⟨fun m g e => ?_, fun n f hn e => ?_⟩
    · have k1 := this.1 _ (lookN_mem e)
      dsimp only at k1
      split at k1
      · rename_i x hx2
        split at k1
        · rename_i d hd
          rw [Bool.and_eq_true] at k1
          exact ⟨x, d, hx2, hd, He.eqO_ok k1.1, k1.2⟩
        · cases k1
      · cases k1
    · have k1 := this.2 n (by rcases hn with rfl | rfl | rfl <;> simp)
      rw [e] at k1
      dsimp only at k1
      split at k1
      · rename_i d hd
        rw [Bool.and_eq_true, Bool.and_eq_true] at k1
        exact ⟨d, hd, He.eqO_ok k1.1.1, k1.1.2, k1.2⟩
      · cases k1
  have hI := hI0.1
  have hmeth : ∀ (c : Nat) (cl : Cl) (m g : Nat), T.pg.cls[c]? = some cl → cl.kind.isExc = false → lookN cl.meths m = some g → ∃ C x a fd, (T.lk K w).clA[c]? = some C ∧ (T.lk K w).attr[m]? = some x ∧ Meth K C x a ∧ (T.lk K w).fnA[g]? = some a ∧ (T.lk K w).fnD[g]? = some fd := by
    intro c cl m g e1 e2 e3
    obtain ⟨r, hr, rfl⟩ := cl_at e1
    obtain ⟨x, d, h1, h2, h3, h4⟩ := (hM hr e2).1 m g e3
    have k1 := kT d (get_mem h2)
    simp only [DR.okK, Bool.and_eq_true] at k1
    refine ⟨He.ga K r.name, x, d.adr K, fdAt K (d.adr K), ?_, h1, ⟨h3, h4, k1.1.2⟩, fnA_of h2, fnD_of h2⟩
    show (T.cls.map fun c => He.ga K c.name)[c]? = _
    rw [List.getElem?_map, hr]; rfl
  have hosp : ∀ (c : Nat) (cl : Cl) (C : Addr) (n f : Nat), T.pg.cls[c]? = some cl → cl.kind.isExc = false → (T.lk K w).clA[c]? = some C → (n = 3 ∨ n = 4 ∨ n = 5) → lookN cl.sps n = some f → ∃ a fd, PySem.W.findIn K (.ref C) (spNm n) = some (some (.ref a)) ∧ PySem.W.isFn K (.ref a) = true ∧ PySem.W.fnIn K a = true ∧ (T.lk K w).fnA[f]? = some a ∧ (T.lk K w).fnD[f]? = some fd := by
    intro c cl C n f e1 e2 e3 e4 e5
    obtain ⟨r, hr, rfl⟩ := cl_at e1
    obtain rfl := clA_at hr e3
    obtain ⟨d, h2, h3, h4, h5⟩ := (hM hr e2).2 n f e4 e5
    exact ⟨d.adr K, fdAt K (d.adr K), h3, h4, h5, fnA_of h2, fnD_of h2⟩
  have hsp : ∀ (c : Nat) (cl : Cl) (C : Addr) (b : Bool) (f : Nat), T.pg.cls[c]? = some cl → cl.kind.isExc = false → (T.lk K w).clA[c]? = some C → lookN cl.sps (if b then 2 else 1) = some f → ∃ a fd, PySem.W.findIn K (.ref C) (ocNm b) = some (some (.ref a)) ∧ PySem.W.isFn K (.ref a) = true ∧ (T.lk K w).fnA[f]? = some a ∧ (T.lk K w).fnD[f]? = some fd ∧
      (∀ t ∈ (["NoneType", "bool", "int", "str", "tuple", "list", "dict"] : List String), PySem.W.notFirst K C (.type t) = true) ∧ ∀ (c' : Nat) (C' : Addr), isN T.pg c' = true → (T.lk K w).clA[c']? = some C' → PySem.W.notFirst K C (.ref C') = true := by
    intro c cl C b f e1 e2 e3 e4
    obtain ⟨r, hr, rfl⟩ := cl_at e1
    obtain rfl := clA_at hr e3
    have k1 := hS hr b
    unfold CR'.spB at k1
    rw [e4] at k1
    dsimp only at k1
    rw [Bool.and_eq_true, Bool.and_eq_true, List.all_eq_true, List.all_eq_true] at k1
    obtain ⟨⟨k2, k3⟩, k4⟩ := k1
    split at k2
    · rename_i d hd
      rw [Bool.and_eq_true] at k2
      refine ⟨d.adr K, fdAt K (d.adr K), He.eqO_ok k2.1, k2.2, fnA_of hd, fnD_of hd, k3, fun c' C' n e => ?_⟩
      obtain ⟨r', hr', hx'⟩ := isN_at n
      obtain rfl := clA_at hr' e
      have := k4 r' (get_mem hr')
      rw [hx', Bool.false_or] at this
      exact this
    · cases k2
  refine { sp := hsp, meth := hmeth, osp := hosp, fnG := fun f x e ne => ?_, fnB := fun f a fd h1 h2 => ?_, glo := fun j x d e1 e2 => ?_, blt := fun x hx => ?_, new := fun c f cl x e1 e2 e3 e4 => ?_, cls := fun c cl C e1 e2 e3 => ?_, prop := fun c cl C i g e1 e2 e3 => ?_, nattr := fun c cl C i x e1 e2 e3 e4 e5 => ?_, ick := fun c cl C e1 e2 e3 => ?_, ock := fun c c' C C' e1 e2 e3 e4 => ?_, cnm := fun c cl x e1 e2 e3 => ?_, clInj := fun c c' C e1 e2 => nodup_get kN e1 e2, atInj := fun i j x e1 e2 => nodup_get tN e1 e2 }
  · have e : (T.tab.map fun d => match d.cl with | none => d.nm | some _ => Str.empty)[f]? = some x := e
    rw [List.getElem?_map] at e
    obtain ⟨d, hd, he⟩ := Option.map_eq_some_iff.mp e
    refine ⟨_, _, fnA_of hd, fnD_of hd, ?_⟩
    have k1 := kT d (get_mem hd)
    simp only [DR.okK, Bool.and_eq_true] at k1
    cases hc : d.cl with
    | some c => rw [hc] at he; exact (ne he.symm).elim
    | none =>
      rw [hc] at he k1
      rw [← he]
      exact PySem.W.mg_of X G (He.eqO_ok k1.2)
  · obtain ⟨d, hd, rfl⟩ := at_fn h1
    obtain rfl := fd_fn hd h2
    have k1 := kT d (get_mem hd)
    rw [ps_fn hd]
    refine ⟨bind_fn (one hd) k1 (hB d (get_mem hd)), ?_⟩
    simp only [DR.okK, Bool.and_eq_true] at k1
    exact k1.1.2
  · have e1 : (T.globs.map (·.1))[j]? = some x := e1
    have e2 : (T.globs.map fun g => g.2.d)[j]? = some d := e2
    rw [List.getElem?_map] at e1 e2
    obtain ⟨g, hg, rfl⟩ := Option.map_eq_some_iff.mp e1
    rw [hg] at e2
    cases e2
    have k1 := kG g (get_mem hg)
    unfold gvB at k1
    split at k1
    · rename_i u hu
      refine ⟨g.2.v, u, PySem.W.mg_of X G hu, He.relB_ok k1, fun F ι => ?_⟩
      show Rep K (T.lk K w) F ι g.2.d g.2.v
      cases g.2 with
      | int i => exact .int i
      | str s => exact .str s
    · cases k1
  · exact PySem.W.mg_none_of X G (He.eqO_ok (kB x hx))
  · obtain ⟨r, hr, rfl⟩ := cl_at e1
    have e3 : (T.cls.map (·.name))[c]? = some x := e3
    rw [List.getElem?_map, hr] at e3
    cases e3
    have k1 := clOk hr
    have t1 := clT hr
    simp only [CR'.okK, CR'.okT, e4, e2, Bool.false_or, Bool.and_eq_true, Option.isNone_some] at k1 t1
    obtain ⟨⟨⟨⟨k2, k3⟩, k4⟩, _⟩, _⟩ := k1
    obtain ⟨t2, _⟩ := t1
    split at t2
    · rename_i d hd
      simp only [Bool.and_eq_true, decide_eq_true_eq, Bool.not_eq_true'] at t2
      obtain ⟨⟨t3, t4⟩, t5⟩ := t2
      have ha : d.adr K = He.ma K (He.ga K r.name) "__init__" := by
        unfold DR.adr
        rw [t3, t4, t5]
        rfl
      refine ⟨He.ga K r.name, d.adr K, fdAt K (d.adr K), ?_, PySem.W.mg_of X G (He.eqO_ok k4), ?_, fnA_of hd, fnD_of hd⟩
      · show (T.cls.map fun c => He.ga K c.name)[c]? = _
        rw [List.getElem?_map, hr]; rfl
      · rw [ha]
        exact He.mkr_ok k3
    · cases t2
  · obtain ⟨r, hr, rfl⟩ := cl_at e1
    obtain rfl := clA_at hr e3
    have k1 := clOk hr
    simp only [CR'.okK, e2, Bool.false_or, Bool.and_eq_true] at k1
    exact He.cls_ok k1.1.1.1.1
  · obtain ⟨r, hr, rfl⟩ := cl_at e1
    obtain rfl := clA_at hr e2
    have k1 := clOk hr
    have t1 := clT hr
    simp only [CR'.okK, CR'.okT, Bool.and_eq_true, List.all_eq_true] at k1 t1
    have t2 := t1.2 _ (lookN_mem e3)
    dsimp only at t2
    split at t2
    · rename_i x hx
      split at t2
      · rename_i d hd
        simp only [Bool.and_eq_true, decide_eq_true_eq] at t2
        obtain ⟨⟨t3, t4⟩, t5⟩ := t2
        have k2 := k1.2 (x, i) (zip_at hx)
        rw [e3] at k2
        simp only [Option.isNone_some, Bool.false_or, propB, Bool.and_eq_true, decide_eq_true_eq] at k2
        obtain ⟨⟨⟨p1, p2⟩, p3⟩, p4⟩ := k2
        have ha : d.adr K = getterOf K (He.ma K (He.ga K r.name) x) := by
          unfold DR.adr
          rw [t3, t4, t5]
          rfl
        refine ⟨x, _, _, _, hx, ⟨He.eqO_ok p1, He.eqO_ok p2, p3, ?_⟩, fnA_of hd, fnD_of hd⟩
        rw [ha]
        unfold getterOf
        split at p4
        · rename_i g' rest hrec
          rw [hrec]
          exact ⟨rest, rfl⟩
        · cases p4
      · cases t2
    · cases t2
  · obtain ⟨r, hr, rfl⟩ := cl_at e1
    obtain rfl := clA_at hr e2
    have k1 := clOk hr
    simp only [CR'.okK, Bool.and_eq_true, List.all_eq_true] at k1
    have k2 := k1.1.2 (x, i) (zip_at e5)
    rw [e3, e4] at k2
    simp only [Option.isSome_none, Bool.false_or] at k2
    exact He.eqO_ok k2
  · obtain ⟨r, hr, rfl⟩ := cl_at e1
    obtain rfl := clA_at hr e3
    exact insKB_ok (ins_at hI hr e2).1.2
  · obtain ⟨r, hr, hx⟩ := isN_at e1
    obtain ⟨r', hr', hx'⟩ := isN_at e2
    obtain rfl := clA_at hr e3
    obtain rfl := clA_at hr' e4
    have k2 := (ins_at hI hr hx).2 (r', c') (zip_at hr')
    dsimp only at k2
    rw [hx', Bool.false_or] at k2
    exact of_decide_eq_true k2
  · obtain ⟨r, hr, rfl⟩ := cl_at e1
    have e3 : (T.cls.map (·.name))[c]? = some x := e3
    rw [List.getElem?_map, hr] at e3
    cases e3
    refine ⟨He.ga K r.name, ?_, PySem.W.mg_of X G (He.eqO_ok (ins_at hI hr e2).1.1)⟩
    show (T.cls.map fun c => He.ga K c.name)[c]? = _
    rw [List.getElem?_map, hr]; rfl
theorem mapM_mem {α β : Type} {f : α → Option β} : ∀ {l : List α} {r : List β}, l.mapM f = some r → ∀ y ∈ r, ∃ x ∈ l, f x = some y := by
  intro l
  induction l with
  | nil => intro r h; cases h; intro y hy; cases hy
  | cons a l ih =>
    intro r h
    rw [List.mapM_cons] at h
    cases e1 : f a with
    | none => rw [e1] at h; cases h
    | some b =>
      rw [e1] at h
      cases e2 : l.mapM f with
      | none => rw [e2] at h; cases h
      | some bs =>
        rw [e2] at h
        cases h
        intro y hy
        rcases List.mem_cons.mp hy with rfl | hy
        · exact ⟨a, List.mem_cons_self, e1⟩
        · obtain ⟨x, h1, h2⟩ := ih e2 y hy
          exact ⟨x, List.mem_cons_of_mem _ h1, h2⟩
theorem oexB_ok {C : Addr} (q : oexB K C = true) : (∃ (B newId initId : String) (bmB : List Value), ExcBaseFacts B newId initId bmB ∧ StoreFacts B bmB "object.__setattr__" "object" ∧ PySem.W.excInitIn K C bmB newId = true ∧ PySem.W.excOver K C bmB = true) ∧ PySem.W.hasDictIn K C = true := by
  unfold oexB at q
  rw [Bool.and_eq_true, Bool.or_eq_true, Bool.and_eq_true, Bool.and_eq_true] at q
  obtain ⟨hd, ⟨h1, h2⟩ | ⟨h1, h2⟩⟩ := q
  · exact ⟨⟨_, _, _, veT, PySem.F.excBase_ValueError, PySem.F.store_ValueError, h1, h2⟩, hd⟩
  · exact ⟨⟨_, _, _, leT, PySem.F.excBase_LookupError, PySem.F.store_LookupError, h1, h2⟩, hd⟩
theorem isX_at {c : Nat} {r : CR'} (hr : T.cls[c]? = some r) (h : isX T.pg c = true) : r.cl.kind.isExc = true := by
  have hpg : T.pg.cls[c]? = some r.cl := by
    show (T.cls.map (·.cl))[c]? = _
    rw [List.getElem?_map, hr]; rfl
  unfold isX at h
  rw [hpg] at h
  exact h
theorem caught_ok (X : K.In h) (G : h.Ns mainGlobals mg) (hC : T.excB K = true) (t : Nat) (x : Str) (e1 : (T.lk K w).clN[t]? = some x) (hx : isX T.pg t = true) :
    ∃ Ct, (T.lk K w).clA[t]? = some Ct ∧ mg x = some (.ref Ct) ∧ ∀ (c : Nat) (Ca : Addr), isX T.pg c = true → (T.lk K w).clA[c]? = some Ca → PySem.W.exmOne K (.ref Ca) (.ref Ct) = some (supOf T.pg c (.inl t)) ∧ PySem.W.kitOne K (.ref Ca) (.ref Ct) = some (supOf T.pg c (.inl t)) := by
  have e1 : (T.cls.map (·.name))[t]? = some x := e1
  rw [List.getElem?_map] at e1
  obtain ⟨r, hr, rfl⟩ := Option.map_eq_some_iff.mp e1
  unfold Tx.excB at hC
  rw [List.all_eq_true] at hC
  have k1 := hC (r, t) (zip_at hr)
  dsimp only at k1
  rw [isX_at hr hx] at k1
  simp only [Bool.not_true, Bool.false_or, Bool.and_eq_true, List.all_eq_true] at k1
  refine ⟨He.ga K r.name, ?_, PySem.W.mg_of X G (He.eqO_ok k1.1.1), fun c Ca hc hCa => ?_⟩
  · show (T.cls.map fun c => He.ga K c.name)[t]? = _
    rw [List.getElem?_map, hr]; rfl
  · have hCa : (T.cls.map fun c => He.ga K c.name)[c]? = some Ca := hCa
    rw [List.getElem?_map] at hCa
    obtain ⟨q, hq, rfl⟩ := Option.map_eq_some_iff.mp hCa
    have k2 := k1.2 (q, c) (zip_at hq)
    dsimp only at k2
    rw [isX_at hq hc] at k2
    simpa using k2
theorem held_ok (hC : T.excB K = true) (c : Nat) (Ca : Addr) (hx : isX T.pg c = true) (e1 : (T.lk K w).clA[c]? = some Ca) : ExcK K Ca ∧ (∀ (n : Nat) (x : Str), (T.lk K w).attr[n]? = some x → PySem.W.findIn K (.ref Ca) x = some none) ∧
    PySem.W.kitOne K (.ref Ca) (.type "ValueError") = some (supOf T.pg c (.inr "ValueError")) ∧ PySem.W.kitOne K (.ref Ca) (.type "LookupError") = some (supOf T.pg c (.inr "LookupError")) ∧
    PySem.W.kitOne K (.ref Ca) (.type "KeyError") = some (supOf T.pg c (.inr "KeyError")) ∧ PySem.W.kitOne K (.ref Ca) (.type "IndexError") = some (supOf T.pg c (.inr "IndexError")) := by
  have e1 : (T.cls.map fun c => He.ga K c.name)[c]? = some Ca := e1
  rw [List.getElem?_map] at e1
  obtain ⟨r, hr, rfl⟩ := Option.map_eq_some_iff.mp e1
  unfold Tx.excB at hC
  rw [List.all_eq_true] at hC
  have k1 := hC (r, c) (zip_at hr)
  dsimp only at k1
  rw [isX_at hr hx] at k1
  simp only [Bool.not_true, Bool.false_or, Bool.and_eq_true, List.all_eq_true, decide_eq_true_eq] at k1
  obtain ⟨⟨h0, ⟨⟨⟨h1, h2⟩, h3⟩, h4⟩, h6, h7⟩, h5⟩ := k1
  exact ⟨excKB_ok h1, fun n x hn => He.eqO_ok (h2 x (List.mem_of_getElem? hn)), h3, h4, h6, h7⟩
theorem exc_ok {P : Program} {w : World} {base : Heap} (X : K.In h) (G : h.Ns mainGlobals mg) (hob : T.tab.map (fun d => fnOb K (d.adr K)) = T.tab.map DR.val) (hK : T.okK K = true) (hT : T.okT n (T.lk K w) = true) (hB : ∀ d ∈ T.tab, BindOk d) (hC : T.catB K = true) : ExcOk P w K mg base (T.lk K w) T.pg := by
  simp only [Tx.okK, Tx.okT, Bool.and_eq_true, List.all_eq_true, decide_eq_true_eq] at hK hT
  obtain ⟨⟨⟨⟨kT, kC⟩, kG⟩, kB⟩, kN⟩ := hK
  obtain ⟨⟨tT, tC⟩, tN⟩ := hT
  have one : ∀ {f : Nat} {d : DR}, T.tab[f]? = some d → fnOb K (d.adr K) = d.val := fun {f d} hd => by
    have e2 : (T.tab.map fun d => fnOb K (d.adr K))[f]? = (T.tab.map DR.val)[f]? := by rw [hob]
    rw [List.getElem?_map, List.getElem?_map, hd] at e2
    exact Option.some.inj e2
  refine ⟨fun c x fields e1 e2 => ?_, fun t x e1 hx => caught_ok X G (Bool.and_eq_true_iff.mp hC).1 t x e1 hx, fun c Ca hx e1 => held_ok (Bool.and_eq_true_iff.mp hC).1 c Ca hx e1, fun c x e1 hx => ?_⟩
  rotate_left
  · have e1 : (T.cls.map (·.name))[c]? = some x := e1
    rw [List.getElem?_map] at e1
    obtain ⟨r, hr, rfl⟩ := Option.map_eq_some_iff.mp e1
    have hpg : T.pg.cls[c]? = some r.cl := by
      show (T.cls.map (·.cl))[c]? = _
      rw [List.getElem?_map, hr]; rfl
    have k1 := (kC _ (get_mem hr)).2
    have t1 := (tC _ (get_mem hr)).2
    unfold bareX at hx
    rw [hpg] at hx
    dsimp only at hx
    rw [Bool.and_eq_true] at hx
    have hb := hx.2
    unfold CR'.xK at k1
    unfold CR'.xT at t1
    cases ex : r.cl.xfs with
    | some ns =>
      rw [ex] at t1
      dsimp only at t1
      rw [Bool.and_eq_true] at t1
      rw [Option.isSome_iff_exists] at hb
      obtain ⟨z, hz⟩ := hb
      rw [hz] at t1
      cases t1.1
    | none =>
      rw [ex] at k1
      dsimp only at k1
      rw [show (lookN r.cl.sps 6).isNone = false by cases h9 : lookN r.cl.sps 6 with | none => rw [h9] at hb; cases hb | some _ => rfl, Bool.false_or] at k1
      simp only [Bool.and_eq_true] at k1
      refine ⟨He.ga K r.name, ?_, PySem.W.mg_of X G (He.eqO_ok k1.2), k1.1.2, ?_⟩
      · show (T.cls.map fun c => He.ga K c.name)[c]? = _
        rw [List.getElem?_map, hr]; rfl
      · have k2 := k1.1.1
        unfold bareB at k2
        rw [Bool.or_eq_true] at k2
        rcases k2 with k2 | k2
        · exact ⟨_, _, _, veT, PySem.F.excBase_ValueError, k2⟩
        · exact ⟨_, _, _, leT, PySem.F.excBase_LookupError, k2⟩
  have e1 : (T.cls.map (·.name))[c]? = some x := e1
  rw [List.getElem?_map] at e1
  obtain ⟨r, hr, rfl⟩ := Option.map_eq_some_iff.mp e1
  have hpg : T.pg.cls[c]? = some r.cl := by
    show (T.cls.map (·.cl))[c]? = _
    rw [List.getElem?_map, hr]; rfl
  unfold xNames at e2
  rw [hpg] at e2
  dsimp only at e2
  have k1 := (kC _ (get_mem hr)).2
  have t1 := (tC _ (get_mem hr)).2
  unfold CR'.xK at k1
  unfold CR'.xT at t1
  cases ex : r.cl.xfs with
  | none => rw [ex] at e2; cases e2
  | some ns =>
    rw [ex] at e2 k1 t1
    dsimp only at e2 k1 t1
    replace t1 := (Bool.and_eq_true_iff.mp t1).2
    have e2 : ns.mapM (fun n => T.attrs[n]?) = some fields := e2
    cases ef : r.ini with
    | none => rw [ef] at t1; cases t1
    | some f =>
      rw [ef] at t1
      dsimp only at t1
      cases ed : T.tab[f]? with
      | none => rw [ed] at t1; cases t1
      | some d =>
        rw [ed] at t1
        dsimp only at t1
        rw [e2] at t1
        simp only [Bool.and_eq_true, decide_eq_true_eq, Bool.not_eq_true'] at t1
        obtain ⟨⟨⟨t3, t4⟩, t5⟩, t6, t7⟩ := t1
        simp only [Bool.and_eq_true, decide_eq_true_eq, List.all_eq_true] at k1
        obtain ⟨⟨⟨⟨⟨⟨⟨⟨a1, a2⟩, a3⟩, a4⟩, a5⟩, a6⟩, a7⟩, a8⟩, a9⟩ := k1
        have ha : d.adr K = He.ma K (He.ga K r.name) "__init__" := by
          unfold DR.adr
          rw [t3, t4, t5]
          rfl
        have kd := kT d (get_mem ed)
        have td := tT (d, f) (zip_at ed)
        have bd := bind_fn (one ed) kd (hB d (get_mem ed))
        simp only [DR.okK, DR.okT, Bool.and_eq_true, decide_eq_true_eq] at kd td
        obtain ⟨oc, od, osl, kV, doc, pm, an, cdv, ct, l1, l2, l3⟩ := fnOb_ok (one ed) kd.1.1
        refine ⟨He.ga K r.name, d.adr K, fdAt K (d.adr K), d.ps, ?_, PySem.W.mg_of X G (He.eqO_ok a6), ⟨(oexB_ok a1).1, (oexB_ok a1).2, He.eqO_ok a2, a3, a4, a5⟩, ?_, ?_, bd, fun y hy => ?_, ?_⟩
        · show (T.cls.map fun c => He.ga K c.name)[c]? = _
          rw [List.getElem?_map, hr]; rfl
        · rw [ha]; exact He.eqO_ok a7
        · rw [ha]; exact a8
        · obtain ⟨m, hm, e⟩ := mapM_mem e2 y hy
          have := a9 m hm
          rw [e] at this
          exact He.eqO_ok this
        · rw [l2]
          exact fnX_ok l1 l3 (scB_ok td.1.2) t6 t7
end
end Lm
set_option Elab.async false
set_option linter.all false
set_option maxRecDepth 100000
set_option maxHeartbeats 1000000
namespace Lm
open PySem PySem.Spec PyProof.Rows L2
/-! ### the head's hook: the facts by names -/
def smB (o : Option Obj) : Bool := match o with
  | some ⟨_, _, .dict _ _, _⟩ => true
  | _ => false
def frL (g : Addr → Option Obj) (n : Nat) : PySem.W.Frag := He.frG g ((He.asD g n).filter fun a => !(a == sysModules))
abbrev AlL : Type := Bool × List He.FnV
def seeL (T : Tx) (b : Bool) (K : PySem.W.Frag) : AlL := (b && (T.okK K && T.catB K), T.tab.map fun d => fnOb K (d.adr K))
def obsL (n : Nat) (T : Tx) (g : Addr → Option Obj) : AlL := seeL T (smB (g sysModules)) (frL g n)
def SaysL (T : Tx) (h : Heap) : Prop := ∃ K : PySem.W.Frag, K.In h ∧ K.lookup sysModules = none ∧ smB (h.get? sysModules) = true ∧ T.okK K = true ∧ T.catB K = true ∧ T.tab.map (fun d => fnOb K (d.adr K)) = T.tab.map DR.val
theorem fr_not {g : Addr → Option Obj} {a : Addr} : ∀ {as : List Addr}, a ∉ as → (He.frG g as).lookup a = none
  | [], _ => rfl
  | b :: r, h => by
    have h1 : a ≠ b := fun e => h (by rw [e]; exact List.mem_cons_self)
    have h2 : a ∉ r := fun e => h (List.mem_cons_of_mem _ e)
    unfold He.frG
    rw [List.filterMap_cons]
    cases g b with
    | none => exact fr_not h2
    | some o =>
      show (match a == b with | true => some o | false => (He.frG g r).lookup a) = none
      rw [beq_eq_false_iff_ne.mpr h1]
      exact fr_not h2
theorem frL_not {g : Addr → Option Obj} {n : Nat} : (frL g n).lookup sysModules = none := by
  refine fr_not fun h => ?_
  have := (List.mem_filter.mp h).2
  simp at this
def hookL (n : Nat) (T : Tx) : PySem.W.Hook where
  α := AlL
  obs := fun s => obsL n T s.heap.get?
  val := fun _ => (true, T.tab.map DR.val)
  says := fun _ h => SaysL T h
  of := fun w s e => by
    have e : seeL T (smB (s.heap.get? sysModules)) (frL s.heap.get? n) = (true, T.tab.map DR.val) := e
    unfold seeL at e
    obtain ⟨e1, e2⟩ := Prod.mk.inj e
    obtain ⟨e3, e4⟩ := Bool.and_eq_true_iff.mp e1
    obtain ⟨e5, e6⟩ := Bool.and_eq_true_iff.mp e4
    exact ⟨_, He.frG_in, frL_not, e3, e5, e6, e2⟩
  keeps := fun w h h' ⟨K, hK, h2, h3, h4, h6, h5⟩ k => ⟨K, PySem.W.Frag.In.keeps hK k, h2, by
    cases q : h.get? sysModules with
    | none => rw [q] at h3; cases h3
    | some o => rw [k _ _ q, ← q]; exact h3, h4, h6, h5⟩
theorem obsL_eq {n : Nat} {T : Tx} {g : Addr → Option Obj} {s : Shared} (h : ∀ a, g a = s.heap.get? a) : obsL n T g = (hookL n T).obs s := by
  have e : g = s.heap.get? := funext h
  rw [e]; rfl
/-- a law, from its text's data and what its IR comes to -/
theorem law_by {l : PySem.W.OpenLaw} {n m nn f : Nat} {q : Program} {loose : List Str} {XP : (Str → Option Value) → Heap → Prop} {d : DefRec} {x : Str} {T : Tx} {dl : DR}
    (hn : l.most = some 63) (hdf : d.params.defaults = []) (hr : Room (2 * m + 1) callerA) (hT : ∀ K w, T.okT nn (T.lk K w) = true) (hB : ∀ d ∈ T.tab, BindOk d)
    (hd : T.tab[f]? = some dl) (h1 : dl.cl = none) (h2 : dl.nm = d.name) (h3 : dl.ps = [x])
    (pure : ∀ ns : List Int, ns.length ≤ 63 → ∃ μ, (orc3 T.pg m).call f [.frz (ns.map Lm.D.int)] [] = .ok (.bl true) μ) :
    PySem.W.WalkO q loose XP (hookL n T).says l.row.toRowW d [] (fun f vs => PySem.call f vs) := by
  refine walk_law (n := 63) (k := 2 * m + 1) (f := f) (x := x) (C := orc3 T.pg m) hn (by decide) hdf hr (fun w mg fa h Y G hmg => ?_) pure
  obtain ⟨K, KX, KS, hS, hK, hCt, hob⟩ := (show SaysL T h from Y)
  have LA := link_all hob hK (hT K w)
  have LO := link_ok (mg := mg) KX G hob hK (hT K w) hB (Bool.and_eq_true_iff.mp hCt).2
  have one : fnOb K (dl.adr K) = dl.val := by
    have e2 : (T.tab.map fun d => fnOb K (d.adr K))[f]? = (T.tab.map DR.val)[f]? := by rw [hob]
    rw [List.getElem?_map, List.getElem?_map, hd] at e2
    exact Option.some.inj e2
  have ok : dl.okK K = true := by
    simp only [Tx.okK, Bool.and_eq_true, List.all_eq_true] at hK
    exact hK.1.1.1.1 dl (get_mem hd)
  have hfa : fa = dl.adr K := by
    have k2 := ok
    simp only [DR.okK, Bool.and_eq_true] at k2
    rw [h1] at k2
    have e := PySem.W.mg_of KX G (He.eqO_ok k2.2)
    rw [h2, hmg] at e
    exact Value.ref.inj (Option.some.inj e)
  have sm : ∃ o0, h.get? sysModules = some o0 ∧ ∀ (vs : List Value), o0 ≠ { cls := .type "list", data := .seq vs.toArray } := by
    cases q : h.get? sysModules with
    | none => rw [q] at hS; cases hS
    | some o =>
      refine ⟨o, rfl, fun vs e => ?_⟩
      rw [q, e] at hS
      cases hS
  obtain ⟨o0, s1, s2⟩ := sm
  refine ⟨K, T.lk K w, fdAt K (dl.adr K), o0, KX, KS, s1, s2, fun s u => ?_, by rw [ps_fn hd, h3]; rfl, fun base _ _ => ?_⟩
  · have k2 := ok
    simp only [DR.okK, Bool.and_eq_true] at k2
    obtain ⟨oc, od, osl, kV, doc, pm, an, cdv, ct, l1, l2, l3⟩ := fnOb_ok one k2.1.1
    rw [l2]
    have := hB dl (get_mem hd) kV doc pm an cdv ct [u] (by rw [h3]; rfl)
    rw [h3] at this
    exact .of_eq this
  · have C := calls_ok (P := l.prog) (w := w) (base := base) rfl LO (exc_ok KX G hob hK (hT K w) hB hCt) LA m
    have F := C.fn f _ _ (fnA_of hd) (fnD_of hd)
    rw [ps_fn hd, h3] at F
    rw [hfa]
    exact F
end Lm
set_option linter.all false
set_option maxRecDepth 100000
namespace Lm
open PySem (Str)
section
variable {α β : Type} {a : α} {μ : Sto} {x : Exn} {env : Env}
theorem bind_ok {f : α → Sto → Res β} : (Res.ok a μ).bind f = f a μ := rfl
theorem bind_exn {f : α → Sto → Res β} : (Res.exn x μ : Res α).bind f = .exn x μ := rfl
theorem then_ok {f : α → Sto → RS} : (Res.ok a μ).then env f = f a μ := rfl
theorem then_exn {f : α → Sto → RS} : (Res.exn x μ : Res α).then env f = .exn x env μ := rfl
theorem rbind_ok {f : Fl → Sto → RS} {r : Fl} : (RS.ok r μ).bind f = f r μ := rfl
theorem rbind_exn {f : Fl → Sto → RS} : (RS.exn x env μ).bind f = .exn x env μ := rfl
theorem ofO_some : ofO (some a) μ = .ok a μ := rfl
theorem nxtO_some {e : Env} : nxtO (some e) μ = .ok (.nxt e) μ := rfl
theorem stoO_some {m : Sto} : stoO (some m) env = .ok (.nxt env) m := rfl
theorem endFn_ret {d : D} : endFn (.ok (.ret d) μ) = .ok d μ := rfl
theorem endFn_nxt {e : Env} : endFn (.ok (.nxt e) μ) = .ok .non μ := rfl
theorem endFn_exn : endFn (.exn x env μ) = .exn x μ := rfl
theorem noX_ok : noX (Res.ok a μ) = .ok a μ := rfl
/-- the head first: what is behind is looked at when its turn comes -/
theorem bind_head {r r' : Res α} {f : α → Sto → Res β} (h : r = r') : r.bind f = r'.bind f := by rw [h]
theorem then_head {r r' : Res α} {f : α → Sto → RS} (h : r = r') : r.then env f = r'.then env f := by rw [h]
theorem rbind_head {r r' : RS} {f : Fl → Sto → RS} (h : r = r') : r.bind f = r'.bind f := by rw [h]
end
section
variable {a b c : Int} {xs ys : List D} {s t : Str} {d e : D} {μ : Sto}
theorem op_add : opB .add (.int a) (.int b) = some (.int (a + b)) := rfl
theorem op_sub : opB .sub (.int a) (.int b) = some (.int (a - b)) := rfl
theorem op_mod (h : b ≠ 0) : opB .mod (.int a) (.int b) = some (.int (a.fmod b)) := if_pos h
theorem op_div (h : b ≠ 0) (h2 : b.natAbs < 1073741824) : opB .fdiv (.int a) (.int b) = some (.int (a.fdiv b)) := if_pos ⟨h, h2⟩
theorem op_mulL (h : small a = true) : opB .mul (.int a) (.int b) = some (.int (a * b)) := if_pos (by rw [h]; rfl)
theorem op_mulR (h : small b = true) : opB .mul (.int a) (.int b) = some (.int (a * b)) := if_pos (by rw [h, Bool.or_true])
theorem op_pow (h : 0 ≤ b) (h1 : b ≤ 1000) (h2 : a.natAbs < 2 ^ 64) : opB .pow (.int a) (.int b) = some (.int (a ^ b.toNat)) := if_pos ⟨h, h1, h2⟩
theorem op_addT (h : xs.length + ys.length ≤ line) : opB .add (.tup xs) (.tup ys) = some (.tup (xs ++ ys)) := if_pos h
theorem op_addL (h : xs.length + ys.length ≤ line) : opB .add (.lst xs) (.lst ys) = some (.lst (xs ++ ys)) := if_pos h
theorem oc_lt : opC μ .lt (.int a) (.int b) = some (.bl (decide (a < b))) := rfl
theorem oc_gt : opC μ .gt (.int a) (.int b) = some (.bl (decide (b < a))) := rfl
theorem oc_le : opC μ .le (.int a) (.int b) = some (.bl (decide (a ≤ b))) := rfl
theorem oc_ge : opC μ .ge (.int a) (.int b) = some (.bl (decide (b ≤ a))) := rfl
theorem oc_is : opC μ .isn d .non = some (.bl (isNonD d)) := by cases d <;> rfl
theorem oc_not : opC μ .notn d .non = some (.bl (!isNonD d)) := by cases d <;> rfl
theorem oc_notb {x y : Bool} : opC μ .notn (.bl x) (.bl y) = some (.bl (!decide (x = y))) := rfl
theorem oc_eqi : opC μ .eq (.int a) (.int b) = some (.bl (decide (a = b))) := by
  show (some (PySem.PyData.eqv (.int a) (.int b))).map D.bl = _
  simp [PySem.PyData.eqv]
  by_cases h : a = b <;> simp [h]
theorem oc_nei : opC μ .ne (.int a) (.int b) = some (.bl (!decide (a = b))) := by
  show (some (PySem.PyData.eqv (.int a) (.int b))).map (fun x => D.bl (!x)) = _
  simp [PySem.PyData.eqv]
  by_cases h : a = b <;> simp [h]
theorem oc_eqs : opC μ .eq (.str s) (.str t) = some (.bl (decide (s = t))) := rfl
theorem oc_nes : opC μ .ne (.str s) (.str t) = some (.bl (!decide (s = t))) := rfl
theorem der_lst : derefD μ (.lst xs) = some (.lst xs) := rfl
theorem der_tup : derefD μ (.tup xs) = some (.tup xs) := rfl
theorem der_frz : derefD μ (.frz xs) = some (.frz xs) := rfl
theorem der_int : derefD μ (.int a) = some (.int a) := rfl
theorem der_bl {x : Bool} : derefD μ (.bl x) = some (.bl x) := rfl
theorem der_non : derefD μ .non = some .non := rfl
theorem der_str : derefD μ (.str s) = some (.str s) := rfl
theorem small_of (h : -(2 ^ 64) < a) (h2 : a < 2 ^ 64) : small a = true := by unfold small; rw [decide_eq_true h, decide_eq_true h2]; rfl
end
def deck (cs : List Int) (t g : Int) : Sto := [.dct [(.str "cells", .lst (cs.map D.int)), (.str "turn", .int t), (.str "great", .int g)]]
theorem dk1 (cs : List Int) (t g : Int) : idxD (.dct [(.str "cells", .lst (cs.map D.int)), (.str "turn", .int t), (.str "great", .int g)]) (.str "turn") = some (.int t) := by rfl
theorem dk2 (cs : List Int) (t g : Int) : (derefD (deck cs t g) (.loc 0)).bind (fun a' => idxD a' (.str "great")) = some (.int g) := by rfl
theorem dk3 (cs : List Int) (t g : Int) : (derefD (deck cs t g) (.loc 0)).bind (fun a' => idxD a' (.str "cells")) = some (.lst (cs.map D.int)) := by rfl
theorem dk1' (cs : List Int) (t g : Int) : (derefD (deck cs t g) (.loc 0)).bind (fun a' => idxD a' (.str "turn")) = some (.int t) := by rfl
theorem dk4 (cs : List Int) (t g u : Int) : locAt (deck cs t g) (.loc 0) (fun o => putO o (.str "turn") (.int u)) = some (deck cs u g) := by rfl
theorem dk5 (cs : List Int) (t g u : Int) : locAt (deck cs t g) (.loc 0) (fun o => putO o (.str "great") (.int u)) = some (deck cs t u) := by rfl
end Lm
set_option linter.all false
set_option maxRecDepth 100000
namespace Lm
open PySem
/-! ### which values have a repr -/
def leafB : D → Bool
  | .non => true | .bl _ => true | .int i => decide (i.natAbs.log2 < 1920)
  | .str s => decide (s.length ≤ 190) && s.cps.toList.all fun c => decide (c < 16 ^ 8)
  | _ => false
def nvB (m : Nat) : Nat → D → Bool
  | 0, d => leafB d
  | j + 1, d => match d with
    | .tup xs => decide (xs.length ≤ m) && xs.all (nvB m j)
    | .lst xs => decide (xs.length ≤ m) && xs.all (nvB m j)
    | .dct kvs => decide (2 * kvs.length ≤ m) && kvs.all fun kv => nvB m j kv.1 && nvB m j kv.2
    | d => leafB d
def wd (m : Nat) : Nat → Nat
  | 0 => 1921
  | j + 1 => m * (wd m j + 2) + 1930
/-- what may be shown: how deep, how long -/
structure Nc (k w : Nat) (d : D) (p : PyData) : Prop where
  to : toP d = some p
  sh : p.showable = true
  dp : p.depth ≤ k
  ln : p.shown.length ≤ w
structure Ncs (k w n : Nat) (ds : List D) (ps : List PyData) : Prop where
  to : toPs ds = some ps
  sh : PyData.showableAll ps = true
  dp : PyData.depthAll ps ≤ k
  ln : ((PyData.shownAll ps).map fun t => t.length + 2).sum ≤ n * (w + 2)
  cnt : (PyData.shownAll ps).length = n
structure Nck (k w n : Nat) (ds : List (D × D)) (ps : List (PyData × PyData)) : Prop where
  to : toPk ds = some ps
  sh : PyData.showableKv ps = true
  dp : PyData.depthKv ps ≤ k
  ln : ((PyData.shownKv ps).map fun t => t.length + 2).sum ≤ n * (2 * w + 4)
theorem sl_app (a b : Str) : (a ++ b).length = a.length + b.length := by
  first | exact strLen_append a b | exact Array.size_append
theorem Ncs.of {k w : Nat} : ∀ {ds : List D}, (∀ d ∈ ds, ∃ p, Nc k w d p) → ∃ ps, Ncs k w ds.length ds ps
  | [], _ => ⟨[], rfl, by simp [PyData.showableAll], by simp [PyData.depthAll], by simp [PyData.shownAll], by simp [PyData.shownAll]⟩
  | d :: ds, h => by
    obtain ⟨p, hp⟩ := h d List.mem_cons_self
    obtain ⟨ps, hs⟩ := Ncs.of fun x hx => h x (List.mem_cons_of_mem _ hx)
    refine ⟨p :: ps, by show (match toP d, toPs ds with | some p, some ps => some (p :: ps) | _, _ => none) = _; rw [hp.to, hs.to], ?_, ?_, ?_, ?_⟩
    · simp [PyData.showableAll, hp.sh, hs.sh]
    · have h1 := hp.dp; have h2 := hs.dp
      simp only [PyData.depthAll]; omega
    · have h1 := hp.ln; have h2 := hs.ln
      simp only [PyData.shownAll, List.map_cons, List.sum_cons, List.length_cons, Nat.add_mul]
      omega
    · simp [PyData.shownAll, hs.cnt]
theorem Nck.of {k w : Nat} : ∀ {ds : List (D × D)}, (∀ d ∈ ds, (∃ p, Nc k w d.1 p) ∧ ∃ p, Nc k w d.2 p) → ∃ ps, Nck k w ds.length ds ps
  | [], _ => ⟨[], rfl, by simp [PyData.showableKv], by simp [PyData.depthKv], by simp [PyData.shownKv]⟩
  | (a, b) :: ds, h => by
    obtain ⟨⟨p, hp⟩, ⟨q, hq⟩⟩ := h (a, b) List.mem_cons_self
    obtain ⟨ps, hs⟩ := Nck.of fun x hx => h x (List.mem_cons_of_mem _ hx)
    refine ⟨(p, q) :: ps, by show (match toP a, toP b, toPk ds with | some p, some q, some ps => some ((p, q) :: ps) | _, _, _ => none) = _; rw [hp.to, hq.to, hs.to], ?_, ?_, ?_⟩
    · simp [PyData.showableKv, hp.sh, hq.sh, hs.sh]
    · have h1 := hp.dp; have h2 := hs.dp; have h3 := hq.dp
      simp only [PyData.depthKv]; omega
    · have h1 := hp.ln; have h2 := hs.ln; have h3 := hq.ln
      simp only [PyData.shownKv, List.map_cons, List.sum_cons, List.length_cons, Nat.add_mul, sl_app]
      have : (": " : Str).length = 2 := by decide
      omega
theorem textFrom_le : ∀ (ts : List Str) (k : Nat) (acc : Str), (textFrom k acc ts).length ≤ acc.length + (ts.map fun t => t.length + 2).sum
  | [], k, acc => by simp [textFrom]
  | t :: r, k, acc => by
    have h := textFrom_le r (k + 1) (acc ++ (if k > 0 then ", " else "" : String) ++ t)
    have e : (textFrom k acc (t :: r)) = textFrom (k + 1) (acc ++ (if k > 0 then ", " else "" : String) ++ t) r := rfl
    rw [e]
    simp only [sl_app, List.map_cons, List.sum_cons] at h ⊢
    have : (Str.ofString (if k > 0 then ", " else "" : String)).length ≤ 2 := by split <;> decide
    omega
theorem listText_le (ts : List Str) : (listText ts).length ≤ (ts.map fun t => t.length + 2).sum + 2 := by
  unfold listText
  rw [sl_app]
  have := textFrom_le ts 0 "["
  have h1 : ("[" : Str).length = 1 := by decide
  have h2 : ("]" : Str).length = 1 := by decide
  omega
theorem join_le : ∀ ts : List Str, (Str.join ", " ts).length ≤ (ts.map fun t => t.length + 2).sum := fun ts => by
  by_cases h : ts = []
  · subst h; decide
  · have := join_length_add ts h
    unfold piled at this
    omega
theorem tupleText_le (ts : List Str) : (tupleText ts).length ≤ (ts.map fun t => t.length + 2).sum + 3 := by
  unfold tupleText
  rw [sl_app, sl_app]
  have := join_le ts
  have h1 : ("(" : Str).length = 1 := by decide
  have h2 : (Str.ofString (if ts.length == 1 then ",)" else ")" : String)).length ≤ 2 := by split <;> decide
  omega
theorem dictText_le (ts : List Str) : (dictText ts).length ≤ (ts.map fun t => t.length + 2).sum + 2 := by
  unfold dictText
  rw [sl_app, sl_app]
  have := join_le ts
  have h1 : ("{" : Str).length = 1 := by decide
  have h2 : ("}" : Str).length = 1 := by decide
  omega
theorem nc_leaf {d : D} (h : leafB d = true) : ∃ p, Nc 1 1921 d p := by
  cases d with
  | non => exact ⟨.none, rfl, by simp [PyData.showable], by simp [PyData.depth], by show (("None" : Str)).length ≤ _; decide⟩
  | bl b => exact ⟨.bool b, rfl, by simp [PyData.showable], by simp [PyData.depth], by cases b <;> decide⟩
  | int i =>
    have h : decide (i.natAbs.log2 < 1920) = true := h
    exact ⟨.int i, rfl, by simpa [PyData.showable] using h, by simp [PyData.depth], by
      show (Str.ofString (toString i)).length ≤ _
      exact PyProof.Rows.int_text_len_1921 (of_decide_eq_true h)⟩
  | str s =>
    have h : (decide (s.length ≤ 190) && s.cps.toList.all fun c => decide (c < 16 ^ 8)) = true := h
    simp only [Bool.and_eq_true, decide_eq_true_eq, List.all_eq_true] at h
    refine ⟨.str s, rfl, by simp [PyData.showable], by simp [PyData.depth], ?_⟩
    show (reprText s).length ≤ _
    have := StrLaws.reprText_len s (fun c hc => h.2 c hc)
    omega
  | _ => cases h
theorem Nc.mono {k w k' w' : Nat} {d : D} {p : PyData} (h : Nc k w d p) (hk : k ≤ k') (hw : w ≤ w') : Nc k' w' d p := ⟨h.to, h.sh, Nat.le_trans h.dp hk, Nat.le_trans h.ln hw⟩
theorem nv_nc {m : Nat} : ∀ {j : Nat} {d : D}, nvB m j d = true → ∃ p, Nc (j + 1) (wd m j) d p
  | 0, d, h => nc_leaf h
  | j + 1, d, h => by
    have leaf : leafB d = true → ∃ p, Nc (j + 2) (wd m (j + 1)) d p := fun hl => by
      obtain ⟨p, hp⟩ := nc_leaf hl
      refine ⟨p, hp.mono (by omega) ?_⟩
      show 1921 ≤ m * (wd m j + 2) + 1930
      omega
    cases d with
    | tup xs =>
      have h : (decide (xs.length ≤ m) && xs.all (nvB m j)) = true := h
      simp only [Bool.and_eq_true, decide_eq_true_eq, List.all_eq_true] at h
      obtain ⟨ps, hs⟩ := Ncs.of (ds := xs) fun x hx => nv_nc (h.2 x hx)
      refine ⟨.tuple ps, by show (toPs xs).map PyData.tuple = _; rw [hs.to]; rfl, by simpa [PyData.showable] using hs.sh, ?_, ?_⟩
      · have := hs.dp; simp only [PyData.depth]; omega
      · show (tupleText (PyData.shownAll ps)).length ≤ m * (wd m j + 2) + 1930
        have h1 := tupleText_le (PyData.shownAll ps)
        have h2 := hs.ln
        have h3 : xs.length * (wd m j + 2) ≤ m * (wd m j + 2) := Nat.mul_le_mul_right _ h.1
        omega
    | lst xs =>
      have h : (decide (xs.length ≤ m) && xs.all (nvB m j)) = true := h
      simp only [Bool.and_eq_true, decide_eq_true_eq, List.all_eq_true] at h
      obtain ⟨ps, hs⟩ := Ncs.of (ds := xs) fun x hx => nv_nc (h.2 x hx)
      refine ⟨.list ps, by show (toPs xs).map PyData.list = _; rw [hs.to]; rfl, by simpa [PyData.showable] using hs.sh, ?_, ?_⟩
      · have := hs.dp; simp only [PyData.depth]; omega
      · show (listText (PyData.shownAll ps)).length ≤ m * (wd m j + 2) + 1930
        have h1 := listText_le (PyData.shownAll ps)
        have h2 := hs.ln
        have h3 : xs.length * (wd m j + 2) ≤ m * (wd m j + 2) := Nat.mul_le_mul_right _ h.1
        omega
    | dct kvs =>
      have h : (decide (2 * kvs.length ≤ m) && kvs.all fun kv => nvB m j kv.1 && nvB m j kv.2) = true := h
      simp only [Bool.and_eq_true, decide_eq_true_eq, List.all_eq_true] at h
      obtain ⟨ps, hs⟩ := Nck.of (ds := kvs) fun x hx => ⟨nv_nc (h.2 x hx).1, nv_nc (h.2 x hx).2⟩
      refine ⟨.dict ps, by show (toPk kvs).map PyData.dict = _; rw [hs.to]; rfl, by simpa [PyData.showable] using hs.sh, ?_, ?_⟩
      · have := hs.dp; simp only [PyData.depth]; omega
      · show (dictText (PyData.shownKv ps)).length ≤ m * (wd m j + 2) + 1930
        have h1 := dictText_le (PyData.shownKv ps)
        have h2 := hs.ln
        have h3 : (2 * kvs.length) * (wd m j + 2) ≤ m * (wd m j + 2) := Nat.mul_le_mul_right _ h.1
        have h4 : kvs.length * (2 * wd m j + 4) = (2 * kvs.length) * (wd m j + 2) := by
          rw [Nat.mul_comm 2 kvs.length, Nat.mul_assoc]; congr 1
        omega
    | non => exact leaf h
    | bl b => exact leaf h
    | int i => exact leaf h
    | str s => exact leaf h
    | _ => cases h
theorem repr_nv {m j : Nat} {d : D} (h : nvB m j d = true) (hj : j ≤ 60) (hw : wd m j ≤ line) : ∃ s, reprD d = some s := by
  obtain ⟨p, hp⟩ := nv_nc h
  refine ⟨p.shown, ?_⟩
  unfold reprD
  rw [hp.to]
  have h1 : decide (p.depth ≤ 64) = true := decide_eq_true (by have := hp.dp; omega)
  have h2 : decide (p.shown.length ≤ line) = true := decide_eq_true (Nat.le_trans hp.ln hw)
  simp only [hp.sh, h1, h2, Bool.and_self, if_true]
end Lm
set_option linter.all false
set_option maxRecDepth 100000
namespace Lm
open PySem
inductive A2 {α β : Type} (R : α → β → Prop) : List α → List β → Prop
  | nil : A2 R [] []
  | cons {a : α} {b : β} {as : List α} {bs : List β} : R a b → A2 R as bs → A2 R (a :: as) (b :: bs)
theorem A2.len {α β : Type} {R : α → β → Prop} : ∀ {as : List α} {bs : List β}, A2 R as bs → bs.length = as.length
  | _, _, .nil => rfl
  | _, _, .cons _ b => congrArg (· + 1) b.len
theorem A2.all {α β : Type} {R : α → β → Prop} {P : β → Prop} (h : ∀ a b, R a b → P b) : ∀ {as : List α} {bs : List β}, A2 R as bs → ∀ b ∈ bs, P b
  | _, _, .nil, b, hb => by cases hb
  | _, _, .cons x y, b, hb => by
    rcases List.mem_cons.mp hb with rfl | hb
    · exact h _ _ x
    · exact A2.all h y b hb
/-- what a comprehension does with an item -/
def compG (P : Pg) (C : Orc) (elt : E) (t : Tgt) (conds : List E) : D → Env → Sto → Res (Option D) := fun x env μ => match setT t x (unAll (slotsT t) env) with
  | none => .bad
  | some env' => (noX (evAnd P C conds env' μ)).bind fun c μ' => match c with
    | .bl true => (noX (evE P C elt env' μ')).bind fun y μ'' => .ok (some y) μ''
    | .bl false => .ok none μ'
    | _ => .bad
/-- .. and a loop -/
def loopB (P : Pg) (C : Orc) (t : Tgt) (b : List S) : D → Env → Sto → RS := fun x env μ => match setT t x env with | some env' => evSs P C b env' μ | none => .bad
section
variable {P : Pg} {C : Orc} {elt : E} {t : Tgt} {it : It} {conds : List E} {b : List S} {env : Env} {μ : Sto}
theorem ev_comp : evE P C (.comp elt t it conds) env μ = (evIt P C it env μ).bind fun xs μ' =>
      if (slotsT t).any (fun i => match env[i]? with | some (Sl.own _) => true | _ => false) then .bad else (mapR (compG P C elt t conds) xs env μ').bind fun ys μ'' => if ys.length ≤ line then .ok (.lst ys) μ'' else .bad := by
  simp only [evE]
  rfl
theorem ev_for : evS P C (.forr t it b) env μ = (evIt P C it env μ).then env fun xs μ' => loopF (loopB P C t b) xs env μ' := by
  simp only [evS]
  rfl
end
theorem mapR_head {f : D → Env → Sto → Res (Option D)} {xs xs' : List D} {env env' : Env} {μ μ' : Sto} (h : xs = xs') (h2 : env = env') (h3 : μ = μ') : mapR f xs env μ = mapR f xs' env' μ' := by rw [h, h2, h3]
theorem loopF_head {f : D → Env → Sto → RS} {xs xs' : List D} {env env' : Env} {μ μ' : Sto} (h : xs = xs') (h2 : env = env') (h3 : μ = μ') : loopF f xs env μ = loopF f xs' env' μ' := by rw [h, h2, h3]
/-- a comprehension that draws -/
theorem mapR_draw {f : D → Env → Sto → Res (Option D)} {env : Env} {I : Nat → Sto → Prop} {R : D → D → Prop} : ∀ {xs : List D} {k c : Nat} {μ : Sto}, I k μ → 0 < c →
    (∀ x ∈ xs, ∀ j μ, k ≤ j → j < k + c * xs.length → I j μ → ∃ y μ', f x env μ = .ok (some y) μ' ∧ I (j + c) μ' ∧ R x y) → ∃ ys μ', mapR f xs env μ = .ok ys μ' ∧ I (k + c * xs.length) μ' ∧ A2 R xs ys
  | [], k, c, μ, h, _, _ => ⟨[], μ, rfl, h, .nil⟩
  | x :: xs, k, c, μ, h, hc, hf => by
    have hpos : 0 < c * (x :: xs).length := Nat.mul_pos hc (by simp)
    obtain ⟨y, μ1, e1, h1, r1⟩ := hf x List.mem_cons_self k μ (Nat.le_refl _) (by omega) h
    have hl : c * (x :: xs).length = c * xs.length + c := by rw [List.length_cons, Nat.mul_add, Nat.mul_one]
    obtain ⟨ys, μ2, e2, h2, r2⟩ := mapR_draw (k := k + c) (c := c) h1 hc fun z hz j μ' h3 h4 => hf z (List.mem_cons_of_mem _ hz) j μ' (by omega) (by omega)
    refine ⟨y :: ys, μ2, ?_, ?_, .cons r1 r2⟩
    · show (f x env μ).bind _ = _
      rw [e1, bind_ok, e2, bind_ok]
    · rw [hl]
      have : k + (c * xs.length + c) = k + c + c * xs.length := by omega
      rw [this]
      exact h2
theorem mapR_drawE {f : D → Env → Sto → Res (Option D)} {env : Env} {xs : List D} {μ : Sto} {r : Res (List D)} (hm : mapR f xs env μ = r) (I : Nat → Sto → Prop) (R : D → D → Prop) (k c : Nat) (h : I k μ) (hc : 0 < c)
    (hf : ∀ x ∈ xs, ∀ j μ, k ≤ j → j < k + c * xs.length → I j μ → ∃ y μ', f x env μ = .ok (some y) μ' ∧ I (j + c) μ' ∧ R x y) : ∃ ys μ', r = .ok ys μ' ∧ I (k + c * xs.length) μ' ∧ A2 R xs ys := by
  rw [← hm]
  exact mapR_draw h hc hf
/-- a comprehension that draws nothing -/
theorem mapR_pure {f : D → Env → Sto → Res (Option D)} {env : Env} {μ : Sto} (g : D → D) : ∀ {xs : List D}, (∀ x ∈ xs, f x env μ = .ok (some (g x)) μ) → mapR f xs env μ = .ok (xs.map g) μ
  | [], _ => rfl
  | x :: xs, h => by
    show (f x env μ).bind _ = _
    rw [h x List.mem_cons_self, bind_ok, mapR_pure g fun z hz => h z (List.mem_cons_of_mem _ hz)]
    rfl
theorem mapR_pureE {f : D → Env → Sto → Res (Option D)} {env : Env} {μ : Sto} {xs : List D} {r : Res (List D)} (hm : mapR f xs env μ = r) (g : D → D) (h : ∀ x ∈ xs, f x env μ = .ok (some (g x)) μ) : r = .ok (xs.map g) μ := by
  rw [← hm]; exact mapR_pure g h
/-- a loop without break and return -/
theorem loopF_inv {f : D → Env → Sto → RS} {I : Nat → Env → Sto → Prop} : ∀ {xs : List D} {k c : Nat} {env : Env} {μ : Sto}, I k env μ → 0 < c →
    (∀ x ∈ xs, ∀ j env μ, k ≤ j → j < k + c * xs.length → I j env μ → ∃ env' μ', f x env μ = .ok (.nxt env') μ' ∧ I (j + c) env' μ') → ∃ env' μ', loopF f xs env μ = .ok (.nxt env') μ' ∧ I (k + c * xs.length) env' μ'
  | [], k, c, env, μ, h, _, _ => ⟨env, μ, rfl, h⟩
  | x :: xs, k, c, env, μ, h, hc, hf => by
    have hpos : 0 < c * (x :: xs).length := Nat.mul_pos hc (by simp)
    obtain ⟨env1, μ1, e1, h1⟩ := hf x List.mem_cons_self k env μ (Nat.le_refl _) (by omega) h
    have hl : c * (x :: xs).length = c * xs.length + c := by rw [List.length_cons, Nat.mul_add, Nat.mul_one]
    obtain ⟨env2, μ2, e2, h2⟩ := loopF_inv (k := k + c) (c := c) h1 hc fun z hz j env' μ' h3 h4 => hf z (List.mem_cons_of_mem _ hz) j env' μ' (by omega) (by omega)
    refine ⟨env2, μ2, ?_, ?_⟩
    · show (f x env μ).bind _ = _
      rw [e1, rbind_ok]
      exact e2
    · rw [hl]
      have : k + (c * xs.length + c) = k + c + c * xs.length := by omega
      rw [this]
      exact h2
theorem loopF_invE {f : D → Env → Sto → RS} {xs : List D} {env : Env} {μ : Sto} {r : RS} (hm : loopF f xs env μ = r) (I : Nat → Env → Sto → Prop) (k c : Nat) (h : I k env μ) (hc : 0 < c)
    (hf : ∀ x ∈ xs, ∀ j env μ, k ≤ j → j < k + c * xs.length → I j env μ → ∃ env' μ', f x env μ = .ok (.nxt env') μ' ∧ I (j + c) env' μ') : ∃ env' μ', r = .ok (.nxt env') μ' ∧ I (k + c * xs.length) env' μ' := by
  rw [← hm]
  exact loopF_inv h hc hf
theorem allB_map {α : Type} {g : α → Bool} : ∀ {xs : List α}, allB (xs.map fun x => D.bl (g x)) = some (xs.all g)
  | [] => rfl
  | x :: xs => by
    show (allB (xs.map fun x => D.bl (g x))).map (g x && ·) = _
    rw [allB_map]
    rfl
theorem f1_all {xs : List D} : opF1 .all (.lst xs) = (allB xs).map .bl := rfl
theorem f1_lenT {xs : List D} : opF1 .len (.tup xs) = some (.int xs.length) := rfl
theorem f1_lenL {xs : List D} : opF1 .len (.lst xs) = some (.int xs.length) := rfl
theorem f1_tupL {xs : List D} : opF1 .tuple (.lst xs) = some (.tup xs) := rfl
theorem f1_tupT {xs : List D} : opF1 .tuple (.tup xs) = some (.tup xs) := rfl
theorem f1_lstT {xs : List D} : opF1 .list (.tup xs) = some (.lst xs) := rfl
theorem f1_lstL {xs : List D} : opF1 .list (.lst xs) = some (.lst xs) := rfl
theorem f1_repr {d : D} : opF1 .repr d = (reprD d).map .str := by cases d <;> rfl
theorem it_tup {xs : List D} : itemsOf (.tup xs) = some xs := rfl
theorem it_lst {xs : List D} : itemsOf (.lst xs) = some xs := rfl
theorem ix_at {xs : List D} {n : Nat} : idxD (.tup xs) (.int (n : Int)) = xs[n]? := by
  simp only [idxD, ixN]
  rw [if_pos (by omega)]
  by_cases h : n < xs.length
  · rw [if_pos (by omega)]
    simp
  · rw [if_neg (by omega)]
    simp
    omega
theorem ix_t0 {x : D} {xs : List D} : idxD (.tup (x :: xs)) (.int 0) = some x := by
  show idxD _ (.int ((0 : Nat) : Int)) = _
  rw [ix_at]; rfl
theorem ix_t1 {x y : D} {xs : List D} : idxD (.tup (x :: y :: xs)) (.int 1) = some y := by
  show idxD _ (.int ((1 : Nat) : Int)) = _
  rw [ix_at]; rfl
theorem ix_t2 {x y z : D} {xs : List D} : idxD (.tup (x :: y :: z :: xs)) (.int 2) = some z := by
  show idxD _ (.int ((2 : Nat) : Int)) = _
  rw [ix_at]; rfl
theorem ix_t3 {x y z w : D} {xs : List D} : idxD (.tup (x :: y :: z :: w :: xs)) (.int 3) = some w := by
  show idxD _ (.int ((3 : Nat) : Int)) = _
  rw [ix_at]; rfl
theorem op_neg {a : Int} : (-a) = -a := rfl
theorem rng1 {b : Int} (h0 : 0 ≤ b) (h1 : b < 2 ^ 62) : rangeL [.int b] = some ((List.range b.toNat).map fun (k : Nat) => D.int (k : Int)) := if_pos ⟨by omega, h1⟩
/-- the length line, where a bound is at hand -/
theorem lineIf {α : Type} {n : Nat} {a b : α} (h : n ≤ line) : (if n ≤ line then a else b) = a := if_pos h
theorem nv_ty {m : Nat} : ∀ {j : Nat} {d : D}, nvB m j d = true → (tyOf d).isSome = true
  | 0, d, h => by cases d <;> first | rfl | cases h
  | j + 1, d, h => by cases d <;> first | rfl | cases h
theorem nv_tup {m j : Nat} {xs : List D} (h : nvB m j (.tup xs) = true) : xs.length ≤ m ∧ ∃ i, j = i + 1 ∧ ∀ x ∈ xs, nvB m i x = true := by
  cases j with
  | zero => cases h
  | succ j =>
    have h : (decide (xs.length ≤ m) && xs.all (nvB m j)) = true := h
    simp only [Bool.and_eq_true, decide_eq_true_eq, List.all_eq_true] at h
    exact ⟨h.1, j, rfl, h.2⟩
theorem nv_mk {m j : Nat} {xs : List D} (h1 : xs.length ≤ m) (h2 : ∀ x ∈ xs, nvB m j x = true) : nvB m (j + 1) (.tup xs) = true := by
  show (decide (xs.length ≤ m) && xs.all (nvB m j)) = true
  simp only [Bool.and_eq_true, decide_eq_true_eq, List.all_eq_true]
  exact ⟨h1, h2⟩
theorem nv_mkL {m j : Nat} {xs : List D} (h1 : xs.length ≤ m) (h2 : ∀ x ∈ xs, nvB m j x = true) : nvB m (j + 1) (.lst xs) = true := by
  show (decide (xs.length ≤ m) && xs.all (nvB m j)) = true
  simp only [Bool.and_eq_true, decide_eq_true_eq, List.all_eq_true]
  exact ⟨h1, h2⟩
theorem nv_leaf {m : Nat} : ∀ {j : Nat} {d : D}, leafB d = true → nvB m j d = true
  | 0, d, h => h
  | j + 1, d, h => by cases d <;> first | exact h | cases h
theorem nv_up {m : Nat} : ∀ {j : Nat} {d : D}, nvB m j d = true → nvB m (j + 1) d = true
  | 0, d, h => nv_leaf h
  | j + 1, d, h => by
    cases d with
    | tup xs =>
      obtain ⟨h1, i, hi, h2⟩ := nv_tup h
      cases hi
      exact nv_mk h1 fun x hx => nv_up (h2 x hx)
    | lst xs =>
      have h : (decide (xs.length ≤ m) && xs.all (nvB m j)) = true := h
      simp only [Bool.and_eq_true, decide_eq_true_eq, List.all_eq_true] at h
      exact nv_mkL h.1 fun x hx => nv_up (h.2 x hx)
    | dct kvs =>
      have h : (decide (2 * kvs.length ≤ m) && kvs.all fun kv => nvB m j kv.1 && nvB m j kv.2) = true := h
      show (decide (2 * kvs.length ≤ m) && kvs.all fun kv => nvB m (j + 1) kv.1 && nvB m (j + 1) kv.2) = true
      simp only [Bool.and_eq_true, decide_eq_true_eq, List.all_eq_true] at h ⊢
      exact ⟨h.1, fun x hx => ⟨nv_up (h.2 x hx).1, nv_up (h.2 x hx).2⟩⟩
    | non => exact h
    | bl b => exact h
    | int i => exact h
    | str s => exact h
    | _ => cases h
theorem nv_to {m i j : Nat} {d : D} (h : nvB m i d = true) (hl : i ≤ j) : nvB m j d = true := by
  induction hl with
  | refl => exact h
  | step _ ih => exact nv_up ih
theorem leaf_int {i : Int} (h : i.natAbs < 2 ^ 1000) : leafB (.int i) = true := by
  refine decide_eq_true ?_
  by_cases h0 : i.natAbs = 0
  · rw [h0]; decide
  · have : i.natAbs.log2 < 1000 := (Nat.log2_lt h0).mpr h
    omega
theorem mem_ints {d : D} {is : List Int} {lo hi : Int} (h : d ∈ is.map D.int) (hb : ∀ i ∈ is, lo ≤ i ∧ i ≤ hi) : ∃ i, d = .int i ∧ lo ≤ i ∧ i ≤ hi := by
  obtain ⟨i, hi', rfl⟩ := List.mem_map.mp h
  exact ⟨i, rfl, hb i hi'⟩
theorem sl_tup {xs : List D} {lo hi : Option Int} : sliD (.tup xs) lo hi = some (.tup (cutL xs lo hi)) := rfl
theorem sl_lst {xs : List D} {lo hi : Option Int} : sliD (.lst xs) lo hi = some (.lst (cutL xs lo hi)) := rfl
theorem sl_frz {xs : List D} {lo hi : Option Int} : sliD (.frz xs) lo hi = some (.lst (cutL xs lo hi)) := rfl
theorem to_lst {xs : List D} : D.toO (.lst xs) = some (.lst xs) := rfl
theorem od_lst {xs : List D} : O.toD (.lst xs) = .lst xs := rfl
theorem ix_ln {xs : List D} {n : Nat} : idxD (.tup xs) (.int (n : Int)) = xs[n]? := ix_at
theorem cut_le {α : Type} {xs : List α} {lo hi : Option Int} : (cutL xs lo hi).length ≤ xs.length := by
  unfold cutL
  simp
  omega
theorem cut_mem {α : Type} {xs : List α} {lo hi : Option Int} {x : α} (h : x ∈ cutL xs lo hi) : x ∈ xs := List.mem_of_mem_drop (List.mem_of_mem_take h)
theorem rng_nat {n : Nat} (h : n ≤ 1000) : rangeL [.int (n : Int)] = some ((List.range n).map fun (k : Nat) => D.int (k : Int)) := by
  have := rng1 (b := (n : Int)) (by omega) (by omega)
  rw [Int.toNat_natCast] at this
  exact this
theorem der_nv {m j : Nat} {d : D} {μ : Sto} (h : nvB m j d = true) : derefD μ d = some d := by
  have := nv_ty h
  cases d <;> first | rfl | cases this
end Lm
set_option linter.all false
set_option maxRecDepth 100000
namespace Lm
open PySem
/-! ### meters as numbers -/
structure Mt where
  ws : List Int
  gs : List Int
  s : Int
  l : Int
def iL (xs : List Int) : List D := xs.map D.int
def Mt.d (m : Mt) : D := .tup [.tup (iL m.ws), .tup (iL m.gs), .int m.s, .int m.l]
structure Mt.Ok (P C : Int) (m : Mt) : Prop where
  wl : (m.ws.length : Int) = P
  w : ∀ w ∈ m.ws, -2 ≤ w ∧ w ≤ 2
  gl : (m.gs.length : Int) = C
  g : ∀ g ∈ m.gs, 0 ≤ g ∧ g ≤ 6
  s0 : 0 ≤ m.s
  s1 : m.s ≤ 4
  l0 : 0 ≤ m.l
  l1 : m.l ≤ 4
theorem ints_of {xs : List D} {lo hi : Int} (h : ∀ x ∈ xs, ∃ i, x = .int i ∧ lo ≤ i ∧ i ≤ hi) : ∃ is : List Int, xs = iL is ∧ ∀ i ∈ is, lo ≤ i ∧ i ≤ hi := by
  induction xs with
  | nil => exact ⟨[], rfl, fun i h => (by cases h)⟩
  | cons x xs ih =>
    obtain ⟨i, rfl, h1, h2⟩ := h x List.mem_cons_self
    obtain ⟨is, rfl, h3⟩ := ih fun y hy => h y (List.mem_cons_of_mem _ hy)
    refine ⟨i :: is, rfl, fun j hj => ?_⟩
    rcases List.mem_cons.mp hj with rfl | hj
    · exact ⟨h1, h2⟩
    · exact h3 j hj
theorem ints_len {xs : List Int} : (iL xs).length = xs.length := List.length_map _
theorem sum_ints {xs : List Int} : sumI (iL xs) = some xs.sum := by
  induction xs with
  | nil => rfl
  | cons x xs ih =>
    show (sumI (iL xs)).map (x + ·) = _
    rw [ih]
    rfl
theorem f1_sum {xs : List D} : opF1 .sum (.lst xs) = (sumI xs).map .int := rfl
theorem zipL_map {α β : Type} {f : α → D} {g : β → D} {xs : List α} {ys : List β} : zipL (xs.map f) (ys.map g) = (xs.zip ys).map fun p => D.tup [f p.1, g p.2] := by
  unfold zipL
  rw [List.zipWith_map_left, List.zipWith_map_right]
  rw [List.zip, List.map_zipWith]
/-- a comprehension over things that stand for values -/
theorem mapR_map {α : Type} {f : D → Env → Sto → Res (Option D)} {env : Env} {μ : Sto} {e : α → D} (g : α → D) : ∀ {xs : List α}, (∀ x ∈ xs, f (e x) env μ = .ok (some (g x)) μ) → mapR f (xs.map e) env μ = .ok (xs.map g) μ
  | [], _ => rfl
  | x :: xs, h => by
    show (f (e x) env μ).bind _ = _
    rw [h x List.mem_cons_self, bind_ok, mapR_map g fun z hz => h z (List.mem_cons_of_mem _ hz)]
    rfl
theorem mapR_mapE {α : Type} {f : D → Env → Sto → Res (Option D)} {env : Env} {μ : Sto} {e : α → D} {xs : List α} {r : Res (List D)} (hm : mapR f (xs.map e) env μ = r) (g : α → D) (h : ∀ x ∈ xs, f (e x) env μ = .ok (some (g x)) μ) : r = .ok (xs.map g) μ := by
  rw [← hm]; exact mapR_map g h
/-- what a use takes of a meter -/
def tk (m : Mt) (us : List Int) : Int := ((m.ws.zip us).map fun p => p.1 * p.2).sum
/-- the gain of a day -/
def gn (m : Mt) (day : Int) : Int := m.gs.getD day.toNat 0
/-- what is left of a balance -/
def lfOne (day : Int) (us : List Int) (p : Int × Mt) : Int := p.1 + gn p.2 day - tk p.2 us
def lf (day : Int) (us : List Int) (bs : List Int) (Ms : List Mt) : List Int := (bs.zip Ms).map (lfOne day us)
def letB (xs : List Int) (Ms : List Mt) : Bool := (xs.zip Ms).all fun p => decide (0 - p.2.l ≤ p.1)
def mins (xs : List Int) (Ms : List Mt) : List Int := (xs.zip Ms).map fun p => if p.2.s < p.1 then p.2.s else p.1
def losts (xs : List Int) (Ms : List Mt) : List Int := (xs.zip Ms).map fun p => if p.1 - p.2.s > 0 then p.1 - p.2.s else 0
theorem idx_ints {xs : List Int} {i : Int} (h0 : 0 ≤ i) (h1 : i < xs.length) : idxD (.tup (iL xs)) (.int i) = some (.int (xs.getD i.toNat 0)) := by
  obtain ⟨n, rfl⟩ := Int.eq_ofNat_of_zero_le h0
  have h3 : n < xs.length := by omega
  rw [ix_at]
  unfold iL
  rw [List.getElem?_map, List.getElem?_eq_getElem h3]
  simp [List.getD, h3]
theorem zip_mem_l {α β : Type} {xs : List α} {ys : List β} {p : α × β} (h : p ∈ xs.zip ys) : p.1 ∈ xs := (List.of_mem_zip (a := p.1) (b := p.2) h).1
theorem zip_mem_r {α β : Type} {xs : List α} {ys : List β} {p : α × β} (h : p ∈ xs.zip ys) : p.2 ∈ ys := (List.of_mem_zip (a := p.1) (b := p.2) h).2
theorem f2_min {a b : Int} : opF2 .min (.int a) (.int b) = some (.int (if b < a then b else a)) := rfl
theorem f2_max {a b : Int} : opF2 .max (.int a) (.int b) = some (.int (if b > a then b else a)) := rfl
end Lm
set_option linter.all false
set_option maxRecDepth 100000
namespace Lm
open PySem
/-! ### balances, and what is more -/
def Bal (bs : List Int) (Ms : List Mt) : Prop := A2 (fun (b : Int) (m : Mt) => -m.l ≤ b ∧ b ≤ m.s) bs Ms
def Lo (xs : List Int) (Ms : List Mt) : Prop := A2 (fun (b : Int) (m : Mt) => -m.l ≤ b) xs Ms
def Le2 (xs ys : List Int) : Prop := A2 (fun (x y : Int) => x ≤ y) xs ys
theorem A2.imp {α β : Type} {R S : α → β → Prop} (h : ∀ a b, R a b → S a b) : ∀ {as : List α} {bs : List β}, A2 R as bs → A2 S as bs
  | _, _, .nil => .nil
  | _, _, .cons x y => .cons (h _ _ x) (A2.imp h y)
theorem A2.app {α β : Type} {R : α → β → Prop} : ∀ {as : List α} {bs : List β} {cs : List α} {ds : List β}, A2 R as bs → A2 R cs ds → A2 R (as ++ cs) (bs ++ ds)
  | _, _, _, _, .nil, h => h
  | _, _, _, _, .cons x y, h => .cons x (A2.app y h)
theorem Le2.refl : ∀ xs : List Int, Le2 xs xs
  | [] => .nil
  | x :: xs => .cons (Int.le_refl x) (Le2.refl xs)
theorem Lo.let_ : ∀ {xs : List Int} {Ms : List Mt}, Lo xs Ms → letB xs Ms = true
  | _, _, .nil => rfl
  | _, _, .cons (a := x) (b := m) (as := xs) (bs := Ms) h t => by
    show (decide (0 - m.l ≤ x) && letB xs Ms) = true
    rw [Lo.let_ t, decide_eq_true (show 0 - m.l ≤ x by omega)]
    rfl
theorem Lo.of_let : ∀ {xs : List Int} {Ms : List Mt}, letB xs Ms = true → xs.length = Ms.length → Lo xs Ms
  | [], [], _, _ => .nil
  | x :: xs, m :: Ms, h, hl => by
    have h : (decide (0 - m.l ≤ x) && letB xs Ms) = true := h
    rw [Bool.and_eq_true, decide_eq_true_eq] at h
    exact .cons (by omega) (Lo.of_let h.2 (by simpa using hl))
  | [], _ :: _, _, hl => by simp at hl
  | _ :: _, [], _, hl => by simp at hl
theorem Bal.lo {bs : List Int} {Ms : List Mt} (h : Bal bs Ms) : Lo bs Ms := A2.imp (fun _ _ z => z.1) h
theorem Bal.len {bs : List Int} {Ms : List Mt} (h : Bal bs Ms) : bs.length = Ms.length := (A2.len h).symm
/-- what is kept of what is left -/
theorem Lo.mins_bal {P C : Int} : ∀ {xs : List Int} {Ms : List Mt}, Lo xs Ms → (∀ m ∈ Ms, m.Ok P C) → Bal (mins xs Ms) Ms
  | _, _, .nil, _ => .nil
  | _, _, .cons (a := x) (b := m) (as := xs) (bs := Ms) h t, hm => by
    have h1 := hm m List.mem_cons_self
    have h2 := h1.s0
    have h3 := h1.l0
    refine A2.cons (b := m) ?_ (Lo.mins_bal t fun z hz => hm z (List.mem_cons_of_mem _ hz))
    show -m.l ≤ (if m.s < x then m.s else x) ∧ (if m.s < x then m.s else x) ≤ m.s
    split <;> omega
theorem lf_len {day : Int} {us bs : List Int} {Ms : List Mt} (h : bs.length = Ms.length) : (lf day us bs Ms).length = Ms.length := by
  unfold lf
  rw [List.length_map, List.length_zip]
  omega
theorem mins_len {xs : List Int} {Ms : List Mt} (h : xs.length = Ms.length) : (mins xs Ms).length = Ms.length := by
  unfold mins
  rw [List.length_map, List.length_zip]
  omega
theorem tk_zero {m : Mt} {us : List Int} (h : ∀ u ∈ us, u = 0) : tk m us = 0 := by
  unfold tk
  generalize m.ws = ws
  induction ws generalizing us with
  | nil => rfl
  | cons w ws ih =>
    cases us with
    | nil => rfl
    | cons u us =>
      have h1 := h u List.mem_cons_self
      have h2 := ih (us := us) fun x hx => h x (List.mem_cons_of_mem _ hx)
      simp only [List.zip_cons_cons, List.map_cons, List.sum_cons, h1, h2]
      omega
theorem gn_nn {P C : Int} {m : Mt} {day : Int} (h : m.Ok P C) : 0 ≤ gn m day := by
  unfold gn
  by_cases hl : day.toNat < m.gs.length
  · simp only [List.getD, List.getElem?_eq_getElem hl, Option.getD_some]
    exact (h.g _ (List.getElem_mem hl)).1
  · have h2 : m.gs[day.toNat]? = none := List.getElem?_eq_none (by omega)
    simp [List.getD, h2]
theorem zero_lo {P C day : Int} {us : List Int} (hu : ∀ u ∈ us, u = 0) : ∀ {bs : List Int} {Ms : List Mt}, Lo bs Ms → (∀ m ∈ Ms, m.Ok P C) → Lo (lf day us bs Ms) Ms
  | _, _, .nil, _ => .nil
  | _, _, .cons (a := b) (b := m) (as := bs) (bs := Ms) h t, hm => by
    refine A2.cons (b := m) ?_ (zero_lo hu t fun z hz => hm z (List.mem_cons_of_mem _ hz))
    show -m.l ≤ b + gn m day - tk m us
    have h1 := gn_nn (day := day) (hm m List.mem_cons_self)
    have h2 := tk_zero (m := m) hu
    omega
theorem lf_mono {day : Int} {us us' : List Int} : ∀ {bs bs' : List Int} {Ms : List Mt}, Le2 bs bs' → (∀ m ∈ Ms, tk m us' ≤ tk m us) → Le2 (lf day us bs Ms) (lf day us' bs' Ms)
  | _, _, [], h, _ => by
    cases h
    · exact .nil
    · exact .nil
  | _, _, m :: Ms, .nil, _ => .nil
  | _, _, m :: Ms, .cons (a := b) (b := b') (as := bs) (bs := bs') h t, hm => by
    refine A2.cons ?_ (lf_mono t fun z hz => hm z (List.mem_cons_of_mem _ hz))
    show b + gn m day - tk m us ≤ b' + gn m day - tk m us'
    have := hm m List.mem_cons_self
    omega
theorem let_mono : ∀ {xs ys : List Int} {Ms : List Mt}, Le2 xs ys → letB xs Ms = true → letB ys Ms = true
  | _, _, [], h, _ => by
    cases h
    · rfl
    · rfl
  | _, _, m :: Ms, .nil, _ => rfl
  | _, _, m :: Ms, .cons (a := x) (b := y) (as := xs) (bs := ys) h t, hx => by
    have hx : (decide (0 - m.l ≤ x) && letB xs Ms) = true := hx
    rw [Bool.and_eq_true, decide_eq_true_eq] at hx
    show (decide (0 - m.l ≤ y) && letB ys Ms) = true
    rw [let_mono t hx.2, decide_eq_true (show 0 - m.l ≤ y by omega)]
    rfl
theorem mins_mono : ∀ {xs ys : List Int} {Ms : List Mt}, Le2 xs ys → Le2 (mins xs Ms) (mins ys Ms)
  | _, _, [], h => by
    cases h
    · exact .nil
    · exact .nil
  | _, _, m :: Ms, .nil => .nil
  | _, _, m :: Ms, .cons (a := x) (b := y) (as := xs) (bs := ys) h t => by
    refine A2.cons ?_ (mins_mono t)
    show (if m.s < x then m.s else x) ≤ (if m.s < y then m.s else y)
    split <;> split <;> omega
theorem tk_mono {m : Mt} (hw : ∀ w ∈ m.ws, 0 ≤ w) {us us' : List Int} (h : Le2 us' us) : tk m us' ≤ tk m us := by
  unfold tk
  revert hw
  generalize m.ws = ws
  intro hw
  induction ws generalizing us us' with
  | nil => exact Int.le_refl _
  | cons w ws ih =>
    cases h with
    | nil => exact Int.le_refl _
    | @cons u' u as bs h1 h2 =>
      have h3 := ih h2 fun x hx => hw x (List.mem_cons_of_mem _ hx)
      have h4 : w * u' ≤ w * u := Int.mul_le_mul_of_nonneg_left h1 (hw w List.mem_cons_self)
      simp only [List.zip_cons_cons, List.map_cons, List.sum_cons]
      omega
end Lm
set_option linter.all false
set_option maxRecDepth 100000
namespace Lm
open PySem
/-! ### dicts whose keys are standings -/
abbrev Stg := Int × List Int
def stE (s : Stg) : D := .tup [.int s.1, .tup (iL s.2)]
def stK (s : Stg) : NestedKey := .tup [.num s.1, .tup (s.2.map .num)]
theorem keyNs_ints : ∀ xs : List Int, keyNs (iL xs) = some (xs.map NestedKey.num)
  | [] => rfl
  | x :: xs => by
    show (match keyN (.int x), keyNs (iL xs) with | some k, some ks => some (k :: ks) | _, _ => none) = _
    rw [keyNs_ints xs]
    rfl
theorem dep_nums : ∀ xs : List Int, NestedKey.depthAll (xs.map NestedKey.num) = 0
  | [] => rfl
  | x :: xs => by
    show max (NestedKey.depth (.num x)) (NestedKey.depthAll (xs.map NestedKey.num)) = 0
    rw [dep_nums xs]
    rfl
theorem keyT_st (s : Stg) : keyT (stE s) = some (stK s) := by
  have h1 : keyNs [D.int s.1, .tup (iL s.2)] = some [.num s.1, .tup (s.2.map .num)] := by
    simp only [keyNs, keyN, keyNs_ints, Option.map_some]
  have h2 : (stK s).depth ≤ 8 := by
    simp only [stK, NestedKey.depth, NestedKey.depthAll, dep_nums]
    decide
  unfold stE keyT
  simp only [h1, Option.bind_some]
  exact if_pos h2
theorem stK_inj {s t : Stg} (h : stK s = stK t) : s = t := by
  obtain ⟨a, b⟩ := s
  obtain ⟨c, d⟩ := t
  simp only [stK, NestedKey.tup.injEq, List.cons.injEq, NestedKey.num.injEq, and_true] at h
  obtain ⟨h1, h2⟩ := h
  have : b = d := by
    refine List.map_inj_right (f := NestedKey.num) (fun x y e => ?_) |>.mp h2
    injection e
  rw [h1, this]
theorem stE_inj {s t : Stg} (h : stE s = stE t) : s = t := by
  have := keyT_st s
  rw [h, keyT_st t] at this
  exact stK_inj (Option.some.inj this).symm
abbrev KM (W : Type) := List (Stg × W)
section
variable {W : Type}
def getM (m : KM W) (s : Stg) : Option W := match m with | [] => none | (a, v) :: r => if a = s then some v else getM r s
def putM (m : KM W) (s : Stg) (v : W) : KM W := if m.any (fun p => decide (p.1 = s)) then m.map (fun p => if p.1 = s then (p.1, v) else p) else m ++ [(s, v)]
def keysM (m : KM W) : List Stg := m.map (·.1)
def encM (e : W → D) (m : KM W) : List (D × D) := m.map fun p => (stE p.1, e p.2)
def dcD (e : W → D) (m : KM W) : D := if m.isEmpty then .dct [] else .dcn (encM e m)
def dcO (e : W → D) (m : KM W) : O := if m.isEmpty then .dct [] else .dcn (encM e m)
variable {e : W → D} {m : KM W} {s t : Stg} {v w : W}
theorem key_eq : (keyT (stE s) = some (stK t)) ↔ s = t := by
  rw [keyT_st]
  exact ⟨fun h => stK_inj (Option.some.inj h), fun h => by rw [h]⟩
theorem dgetN_enc : ∀ {m : KM W}, dgetN (encM e m) (stK s) = (getM m s).map e
  | [] => rfl
  | (a, v) :: r => by
    show (if keyT (stE a) = some (stK s) then some (e v) else dgetN (encM e r) (stK s)) = _
    unfold getM
    by_cases h : a = s
    · rw [if_pos h, if_pos (key_eq.mpr h)]; rfl
    · rw [if_neg h, if_neg fun h2 => h (key_eq.mp h2), dgetN_enc]
theorem any_enc : (encM e m).any (fun kv => decide (keyT kv.1 = some (stK s))) = m.any (fun p => decide (p.1 = s)) := by
  unfold encM
  rw [List.any_map]
  congr 1
  funext p
  show decide (keyT (stE p.1) = some (stK s)) = decide (p.1 = s)
  by_cases h : p.1 = s
  · rw [decide_eq_true h, decide_eq_true (key_eq.mpr h)]
  · rw [decide_eq_false h, decide_eq_false fun h2 => h (key_eq.mp h2)]
theorem dputN_enc : dputN (encM e m) (stK s) (stE s) (e v) = encM e (putM m s v) := by
  unfold dputN putM
  rw [any_enc]
  split
  · unfold encM
    rw [List.map_map, List.map_map]
    congr 1
    funext p
    show (if keyT (stE p.1) = some (stK s) then (stE p.1, e v) else (stE p.1, e p.2)) = _
    by_cases h : p.1 = s
    · rw [if_pos (key_eq.mpr h)]; simp [h]
    · rw [if_neg fun h2 => h (key_eq.mp h2)]; simp [h]
  · simp [encM]
theorem od_dc : (dcO e m).toD = dcD e m := by
  unfold dcO dcD
  split <;> rfl
theorem to_dc : (dcD e m).toO = some (dcO e m) := by
  unfold dcO dcD
  split <;> rfl
theorem der_dc {μ : Sto} : derefD μ (dcD e m) = some (dcD e m) := by
  unfold dcD
  split <;> rfl
theorem dcD_ne (h : m ≠ []) : dcD e m = .dcn (encM e m) := by
  unfold dcD
  cases m with
  | nil => exact absurd rfl h
  | cons a r => rfl
theorem dcO_ne (h : m ≠ []) : dcO e m = .dcn (encM e m) := by
  unfold dcO
  cases m with
  | nil => exact absurd rfl h
  | cons a r => rfl
theorem putM_ne : putM m s v ≠ [] := by
  unfold putM
  split
  · rename_i h
    cases m with
    | nil => cases h
    | cons a r => simp
  · simp
theorem put_dc (hl : (putM m s v).length ≤ 1000000) : putO (dcO e m) (stE s) (e v) = some (dcO e (putM m s v)) := by
  cases m with
  | nil =>
    show (match keyD (stE s) with
      | some q => let r := dput [] q (stE s) (e v); if r.length ≤ 1000000 then some (O.dct r) else none
      | none => if ([] : List (D × D)).isEmpty then (keyT (stE s)).map fun _ => .dcn [(stE s, e v)] else none) = _
    show (keyT (stE s)).map _ = _
    rw [keyT_st]
    rfl
  | cons a r =>
    rw [dcO_ne (by simp), dcO_ne putM_ne]
    show (keyT (stE s)).bind _ = _
    rw [keyT_st]
    show (if (dputN (encM e (a :: r)) (stK s) (stE s) (e v)).length ≤ 1000000 then some (O.dcn _) else none) = _
    rw [dputN_enc, if_pos (by unfold encM; rw [List.length_map]; exact hl)]
theorem ix_dc : idxD (dcD e m) (stE s) = (getM m s).map e := by
  cases m with
  | nil => rfl
  | cons a r =>
    rw [dcD_ne (by simp)]
    show (keyT (stE s)).bind _ = _
    rw [keyT_st]
    exact dgetN_enc
theorem look_dc : (match dcD e m with | .dct kvs => dlook kvs (stE s) | .dcn kvs => dlookN kvs (stE s) | _ => none) = some ((getM m s).map e) := by
  cases m with
  | nil =>
    show (keyT (stE s)).map _ = _
    rw [keyT_st]
    rfl
  | cons a r =>
    rw [dcD_ne (by simp)]
    show (keyT (stE s)).map _ = _
    rw [keyT_st]
    exact congrArg some dgetN_enc
theorem in_dc {μ : Sto} : opC μ .inn (stE s) (dcD e m) = some (.bl (getM m s).isSome) := by
  have h := look_dc (e := e) (m := m) (s := s)
  cases m with
  | nil =>
    show (dlook [] (stE s)).map _ = _
    have h : dlook [] (stE s) = some ((getM ([] : KM W) s).map e) := h
    rw [h]; rfl
  | cons a r =>
    rw [dcD_ne (by simp)] at h ⊢
    show (dlookN _ (stE s)).map _ = _
    have h : dlookN (encM e (a :: r)) (stE s) = _ := h
    rw [h]
    cases getM (a :: r) s <;> rfl
theorem nin_dc {μ : Sto} : opC μ .nin (stE s) (dcD e m) = some (.bl (!(getM m s).isSome)) := by
  have h := look_dc (e := e) (m := m) (s := s)
  cases m with
  | nil =>
    show (dlook [] (stE s)).map _ = _
    have h : dlook [] (stE s) = some ((getM ([] : KM W) s).map e) := h
    rw [h]; rfl
  | cons a r =>
    rw [dcD_ne (by simp)] at h ⊢
    show (dlookN _ (stE s)).map _ = _
    have h : dlookN (encM e (a :: r)) (stE s) = _ := h
    rw [h]
    cases getM (a :: r) s <;> rfl
theorem isDic_dc : isDic (dcD e m) = true := by
  unfold dcD
  split <;> rfl
theorem get_dc : opF2 .get (dcD e m) (stE s) = some (((getM m s).map e).getD .non) := by
  have h := look_dc (e := e) (m := m) (s := s)
  cases m with
  | nil =>
    show (dlook [] (stE s)).map _ = _
    have h : dlook [] (stE s) = some ((getM ([] : KM W) s).map e) := h
    rw [h]; rfl
  | cons a r =>
    rw [dcD_ne (by simp)] at h ⊢
    show (dlookN _ (stE s)).map _ = _
    have h : dlookN (encM e (a :: r)) (stE s) = _ := h
    rw [h]
    rfl
theorem get3_dc {y : D} : get3D (dcD e m) (stE s) y = some (((getM m s).map e).getD y) := by
  have h := look_dc (e := e) (m := m) (s := s)
  cases m with
  | nil =>
    show (dlook [] (stE s)).map _ = _
    have h : dlook [] (stE s) = some ((getM ([] : KM W) s).map e) := h
    rw [h]; rfl
  | cons a r =>
    rw [dcD_ne (by simp)] at h ⊢
    show (dlookN _ (stE s)).map _ = _
    have h : dlookN (encM e (a :: r)) (stE s) = _ := h
    rw [h]
    rfl
theorem len_dc : opF1 .len (dcD e m) = some (.int (m.length : Int)) := by
  cases m with
  | nil => rfl
  | cons a r => rw [dcD_ne (by simp)]; show some (D.int ((encM e (a :: r)).length : Int)) = _; unfold encM; rw [List.length_map]
theorem keys_enc : (encM e m).map (·.1) = (keysM m).map stE := by
  unfold encM keysM
  rw [List.map_map, List.map_map]
  rfl
theorem it_dc {P : Pg} {C : Orc} {x : E} {env : Env} {μ μ' : Sto} (h : evE P C x env μ = .ok (dcD e m) μ') (hm : m ≠ []) : evIt P C (.seq x) env μ = .ok ((keysM m).map stE) μ' := by
  rw [dcD_ne hm] at h
  rw [evIt, h]
  show Res.ok ((encM e m).map (·.1)) μ' = _
  rw [keys_enc]
/-! .. lookups -/
theorem getM_mem : ∀ {m : KM W}, getM m s = some v → (s, v) ∈ m
  | [], h => by cases h
  | (a, w) :: r, h => by
    unfold getM at h
    by_cases h2 : a = s
    · rw [if_pos h2] at h
      cases h
      rw [h2]
      exact List.mem_cons_self
    · rw [if_neg h2] at h
      exact List.mem_cons_of_mem _ (getM_mem h)
theorem getM_of : ∀ {m : KM W}, (keysM m).Nodup → (s, v) ∈ m → getM m s = some v
  | [], _, h => by cases h
  | (a, w) :: r, hn, h => by
    have hn : (a :: keysM r).Nodup := hn
    rw [List.nodup_cons] at hn
    unfold getM
    rcases List.mem_cons.mp h with h | h
    · cases h
      rw [if_pos rfl]
    · have hne : a ≠ s := fun e => hn.1 (by rw [e]; exact List.mem_map.mpr ⟨_, h, rfl⟩)
      rw [if_neg hne]
      exact getM_of hn.2 h
theorem getM_some : ∀ {m : KM W}, (getM m s).isSome = true ↔ s ∈ keysM m
  | [] => by simp [getM, keysM]
  | (a, w) :: r => by
    unfold getM
    by_cases h : a = s
    · rw [if_pos h]; simp [keysM, h]
    · rw [if_neg h, getM_some]
      show s ∈ keysM r ↔ s ∈ a :: keysM r
      rw [List.mem_cons]
      exact ⟨.inr, fun h2 => h2.resolve_left fun h3 => h h3.symm⟩
theorem getM_none : getM m s = none ↔ s ∉ keysM m := by
  rw [← getM_some]
  cases getM m s <;> simp
theorem any_keys : m.any (fun p => decide (p.1 = s)) = true ↔ s ∈ keysM m := by
  rw [List.any_eq_true]
  unfold keysM
  rw [List.mem_map]
  exact ⟨fun ⟨p, h, h2⟩ => ⟨p, h, of_decide_eq_true h2⟩, fun ⟨p, h, h2⟩ => ⟨p, h, decide_eq_true h2⟩⟩
theorem keys_put : keysM (putM m s v) = if s ∈ keysM m then keysM m else keysM m ++ [s] := by
  unfold putM
  by_cases h : s ∈ keysM m
  · rw [if_pos (any_keys.mpr h), if_pos h]
    unfold keysM
    rw [List.map_map]
    congr 1
    funext p
    show (if p.1 = s then (p.1, v) else p).1 = p.1
    split <;> rfl
  · rw [if_neg fun h2 => h (any_keys.mp h2), if_neg h]
    simp [keysM]
theorem nodup_put (h : (keysM m).Nodup) : (keysM (putM m s v)).Nodup := by
  rw [keys_put]
  split
  · exact h
  · rename_i h2
    rw [List.nodup_append]
    refine ⟨h, by simp, fun a ha b hb => ?_⟩
    rw [List.mem_singleton.mp hb]
    exact fun e => h2 (e ▸ ha)
theorem mem_put_self : (s, v) ∈ putM m s v := by
  unfold putM
  split
  · rename_i h
    obtain ⟨p, hp, h2⟩ := List.mem_map.mp (any_keys.mp h)
    exact List.mem_map.mpr ⟨p, hp, by rw [if_pos h2, h2]⟩
  · simp
theorem mem_put_old (h : (t, w) ∈ m) (hne : t ≠ s) : (t, w) ∈ putM m s v := by
  unfold putM
  split
  · exact List.mem_map.mpr ⟨_, h, by rw [if_neg hne]⟩
  · exact List.mem_append_left _ h
theorem of_mem_put (h : (t, w) ∈ putM m s v) : (t = s ∧ w = v) ∨ ((t, w) ∈ m ∧ t ≠ s) := by
  unfold putM at h
  split at h
  · obtain ⟨p, hp, h2⟩ := List.mem_map.mp h
    by_cases h3 : p.1 = s
    · rw [if_pos h3] at h2
      cases h2
      exact .inl ⟨h3, rfl⟩
    · rw [if_neg h3] at h2
      cases h2
      exact .inr ⟨hp, h3⟩
  · rename_i h4
    rcases List.mem_append.mp h with h | h
    · refine .inr ⟨h, fun e => h4 (any_keys.mpr ?_)⟩
      rw [← e]
      exact List.mem_map.mpr ⟨_, h, rfl⟩
    · cases List.mem_singleton.mp h
      exact .inl ⟨rfl, rfl⟩
theorem putM_same (hn : (keysM m).Nodup) (h : getM m s = some v) : putM m s v = m := by
  have hm := getM_mem h
  unfold putM
  rw [if_pos (any_keys.mpr (List.mem_map.mpr ⟨_, hm, rfl⟩))]
  have : m.map (fun p => if p.1 = s then (p.1, v) else p) = m.map id := by
    refine List.map_congr_left fun p hp => ?_
    by_cases h2 : p.1 = s
    · rw [if_pos h2]
      have h3 : getM m s = some p.2 := getM_of hn (by rw [← h2]; exact hp)
      rw [h] at h3
      cases h3
      rfl
    · rw [if_neg h2]; rfl
  rw [this, List.map_id]
/-! .. the best of many -/
def updM (c : W → W → W) (m : KM W) (p : Stg × W) : KM W := putM m p.1 (match getM m p.1 with | none => p.2 | some o => c o p.2)
theorem updM_nodup {c : W → W → W} {p : Stg × W} (h : (keysM m).Nodup) : (keysM (updM c m p)).Nodup := nodup_put h
theorem keys_upd {c : W → W → W} {p : Stg × W} : t ∈ keysM (updM c m p) ↔ t ∈ keysM m ∨ t = p.1 := by
  unfold updM
  rw [keys_put]
  split
  · rename_i h
    exact ⟨.inl, fun h2 => h2.elim id fun h3 => h3 ▸ h⟩
  · simp
theorem fold_upd {c : W → W → W} {sc : W → Int} (h0 : ∀ o v, c o v = o ∨ c o v = v) (h1 : ∀ o v, sc o ≤ sc (c o v)) (h2 : ∀ o v, sc v ≤ sc (c o v)) : ∀ (cs : List (Stg × W)) {m : KM W}, (keysM m).Nodup →
    (keysM (cs.foldl (updM c) m)).Nodup ∧ (∀ s v, (s, v) ∈ cs.foldl (updM c) m → (s, v) ∈ m ∨ (s, v) ∈ cs) ∧ (∀ s v, (s, v) ∈ m ∨ (s, v) ∈ cs → ∃ v', (s, v') ∈ cs.foldl (updM c) m ∧ sc v ≤ sc v')
  | [], m, hn => ⟨hn, fun s v h => .inl h, fun s v h => ⟨v, h.resolve_right (by simp), Int.le_refl _⟩⟩
  | p :: cs, m, hn => by
    obtain ⟨a1, a2, a3⟩ := fold_upd h0 h1 h2 cs (m := updM c m p) (updM_nodup hn)
    have k1 : ∀ s v, (s, v) ∈ updM c m p → (s, v) ∈ m ∨ (s, v) = p := fun s v h => by
      rcases of_mem_put h with ⟨rfl, rfl⟩ | ⟨h, _⟩
      · cases hg : getM m p.1 with
        | none => exact .inr rfl
        | some o =>
          rcases h0 o p.2 with e | e
          · left
            show (p.1, c o p.2) ∈ m
            rw [e]
            exact getM_mem hg
          · right
            show (p.1, c o p.2) = p
            rw [e]
      · exact .inl h
    have k2 : ∀ s v, (s, v) ∈ m ∨ (s, v) = p → ∃ v', (s, v') ∈ updM c m p ∧ sc v ≤ sc v' := fun s v h => by
      by_cases hs : s = p.1
      · subst hs
        refine ⟨_, mem_put_self, ?_⟩
        rcases h with h | h
        · rw [getM_of hn h]
          exact h1 _ _
        · cases hg : getM m p.1 with
          | none => rw [← h]; exact Int.le_refl _
          | some o => rw [← h]; exact h2 _ _
      · rcases h with h | h
        · exact ⟨v, mem_put_old h hs, Int.le_refl _⟩
        · exact absurd (by rw [← h]) hs
    refine ⟨a1, fun s v h => ?_, fun s v h => ?_⟩
    · rcases a2 s v h with h | h
      · rcases k1 s v h with h | h
        · exact .inl h
        · exact .inr (by rw [h]; exact List.mem_cons_self)
      · exact .inr (List.mem_cons_of_mem _ h)
    · have : (∃ v', (s, v') ∈ updM c m p ∧ sc v ≤ sc v') ∨ (s, v) ∈ cs := by
        rcases h with h | h
        · exact .inl (k2 s v (.inl h))
        · rcases List.mem_cons.mp h with h | h
          · exact .inl (k2 s v (.inr h))
          · exact .inr h
      rcases this with ⟨v', h, hle⟩ | h
      · obtain ⟨v'', h', hle'⟩ := a3 s v' (.inl h)
        exact ⟨v'', h', Int.le_trans hle hle'⟩
      · exact a3 s v (.inr h)
end
/-! ### loops that compute -/
theorem loopF_sim {α σ : Type} {f : D → Env → Sto → RS} {e : α → D} {R : σ → Env → Prop} {μ : Sto} (step : σ → α → σ) : ∀ {xs : List α} {s : σ} {env : Env}, R s env →
    (∀ x ∈ xs, ∀ s env, R s env → ∃ env', f (e x) env μ = .ok (.nxt env') μ ∧ R (step s x) env') → ∃ env', loopF f (xs.map e) env μ = .ok (.nxt env') μ ∧ R (xs.foldl step s) env'
  | [], s, env, h, _ => ⟨env, rfl, h⟩
  | x :: xs, s, env, h, hf => by
    obtain ⟨env1, e1, h1⟩ := hf x List.mem_cons_self s env h
    obtain ⟨env2, e2, h2⟩ := loopF_sim step h1 fun z hz => hf z (List.mem_cons_of_mem _ hz)
    refine ⟨env2, ?_, h2⟩
    show (f (e x) env μ).bind _ = _
    rw [e1, rbind_ok]
    exact e2
/-- .. with an invariant that knows what has been done -/
theorem loopF_pre {α : Type} {f : D → Env → Sto → RS} {e : α → D} {R : List α → Env → Prop} {μ : Sto} : ∀ {xs pre : List α} {env : Env}, R pre env →
    (∀ x ∈ xs, ∀ pre' env, pre'.length < pre.length + xs.length → R pre' env → ∃ env', f (e x) env μ = .ok (.nxt env') μ ∧ R (pre' ++ [x]) env') → ∃ env', loopF f (xs.map e) env μ = .ok (.nxt env') μ ∧ R (pre ++ xs) env'
  | [], pre, env, h, _ => ⟨env, rfl, by rw [List.append_nil]; exact h⟩
  | x :: xs, pre, env, h, hf => by
    obtain ⟨env1, e1, h1⟩ := hf x List.mem_cons_self pre env (by simp) h
    obtain ⟨env2, e2, h2⟩ := loopF_pre h1 fun z hz p env hl => hf z (List.mem_cons_of_mem _ hz) p env (by simp at hl ⊢; omega)
    refine ⟨env2, ?_, by rw [List.append_assoc] at h2; exact h2⟩
    show (f (e x) env μ).bind _ = _
    rw [e1, rbind_ok]
    exact e2
/-! ### a list without doubles -/
theorem nodup_nat : ∀ (n : Nat) (l : List Nat), l.Nodup → (∀ x ∈ l, x < n) → l.length ≤ n
  | 0, l, _, h => by
    cases l with
    | nil => exact Nat.le_refl _
    | cons a r => exact absurd (h a List.mem_cons_self) (by omega)
  | n + 1, l, hn, h => by
    have h2 := nodup_nat n (l.filter (· ≠ n)) (hn.filter _) fun x hx => by
      rw [List.mem_filter] at hx
      have h3 := h x hx.1
      have h4 : x ≠ n := by simpa using hx.2
      omega
    have h3 : l.length ≤ (l.filter (· ≠ n)).length + 1 := by
      by_cases hm : n ∈ l
      · have e := hn.erase_eq_filter n
        have e2 : l.filter (fun x => x != n) = l.filter (· ≠ n) := by
          congr 1
          funext x
          by_cases h : x = n <;> simp [h]
        rw [← e2, ← e, List.length_erase_of_mem hm]
        omega
      · have : l.filter (· ≠ n) = l := List.filter_eq_self.mpr fun x hx => by
          have : x ≠ n := fun e => hm (e ▸ hx)
          simp [this]
        rw [this]
        omega
    omega
theorem nodup_code {α : Type} {f : α → Nat} {n : Nat} {l : List α} (hn : l.Nodup) (hf : ∀ x ∈ l, ∀ y ∈ l, f x = f y → x = y) (hb : ∀ x ∈ l, f x < n) : l.length ≤ n := by
  have h := nodup_nat n (l.map f) (by
    rw [List.nodup_iff_pairwise_ne, List.pairwise_map]
    rw [List.nodup_iff_pairwise_ne] at hn
    exact hn.imp_of_mem fun ha hb hne e => hne (hf _ ha _ hb e)) fun x hx => by
      obtain ⟨a, ha, rfl⟩ := List.mem_map.mp hx
      exact hb a ha
  rwa [List.length_map] at h
end Lm
set_option linter.all false
set_option maxRecDepth 100000
namespace Lm
open PySem
/-! ### greatest and least of a list -/
theorem foldI_max : ∀ {xs : List Int}, xs ≠ [] → ∃ m, foldI max (iL xs) = some m ∧ m ∈ xs ∧ ∀ x ∈ xs, x ≤ m
  | [], h => absurd rfl h
  | [x], _ => ⟨x, rfl, List.mem_singleton.mpr rfl, fun y hy => by rw [List.mem_singleton.mp hy]; exact Int.le_refl _⟩
  | x :: y :: r, _ => by
    obtain ⟨m, e, h1, h2⟩ := foldI_max (xs := y :: r) (by simp)
    refine ⟨max x m, ?_, ?_, fun z hz => ?_⟩
    · show (foldI max (iL (y :: r))).map (max x) = _
      rw [e]; rfl
    · rcases Int.le_total x m with h | h
      · rw [show max x m = m by omega]; exact List.mem_cons_of_mem _ h1
      · rw [show max x m = x by omega]; exact List.mem_cons_self
    · rcases List.mem_cons.mp hz with rfl | hz
      · omega
      · have := h2 z hz; omega
theorem foldI_min : ∀ {xs : List Int}, xs ≠ [] → ∃ m, foldI min (iL xs) = some m ∧ m ∈ xs ∧ ∀ x ∈ xs, m ≤ x
  | [], h => absurd rfl h
  | [x], _ => ⟨x, rfl, List.mem_singleton.mpr rfl, fun y hy => by rw [List.mem_singleton.mp hy]; exact Int.le_refl _⟩
  | x :: y :: r, _ => by
    obtain ⟨m, e, h1, h2⟩ := foldI_min (xs := y :: r) (by simp)
    refine ⟨min x m, ?_, ?_, fun z hz => ?_⟩
    · show (foldI min (iL (y :: r))).map (min x) = _
      rw [e]; rfl
    · rcases Int.le_total x m with h | h
      · rw [show min x m = x by omega]; exact List.mem_cons_self
      · rw [show min x m = m by omega]; exact List.mem_cons_of_mem _ h1
    · rcases List.mem_cons.mp hz with rfl | hz
      · omega
      · have := h2 z hz; omega
theorem max_ints {xs : List Int} (h : xs ≠ []) : ∃ m, opF1 .max (.lst (iL xs)) = some (.int m) ∧ m ∈ xs ∧ ∀ x ∈ xs, x ≤ m := by
  obtain ⟨m, e, h1, h2⟩ := foldI_max h
  refine ⟨m, ?_, h1, h2⟩
  show ((foldI max (iL xs)).map D.int).or _ = _
  rw [e]; rfl
theorem min_ints {xs : List Int} (h : xs ≠ []) : ∃ m, opF1 .min (.lst (iL xs)) = some (.int m) ∧ m ∈ xs ∧ ∀ x ∈ xs, m ≤ x := by
  obtain ⟨m, e, h1, h2⟩ := foldI_min h
  refine ⟨m, ?_, h1, h2⟩
  show ((foldI min (iL xs)).map D.int).or _ = _
  rw [e]; rfl
theorem fold_mem {c : D → D → Bool} : ∀ {xs : List D} {x : D}, xs.foldl (fun a y => if c a y then y else a) x ∈ x :: xs
  | [], x => List.mem_singleton.mpr rfl
  | y :: ys, x => by
    show ys.foldl _ (if c x y then y else x) ∈ _
    have h := fold_mem (c := c) (xs := ys) (x := if c x y then y else x)
    rcases List.mem_cons.mp h with h | h
    · rw [h]
      split
      · simp
      · simp
    · exact List.mem_cons_of_mem _ (List.mem_cons_of_mem _ h)
theorem minL_mem {xs : List D} (hne : xs ≠ []) (ho : ordAll xs = true) : ∃ x ∈ xs, minL xs = some x := by
  cases xs with
  | nil => exact absurd rfl hne
  | cons x r => exact ⟨_, fold_mem (c := fun a y => PySem.W.dataLt (encD y) (encD a)), if_pos ho⟩
theorem min_tups {α : Type} {f : α → List D} {xs : List α} (hne : xs ≠ []) (ho : ordAll (xs.map fun a => D.tup (f a)) = true) : ∃ x ∈ xs, opF1 .min (.lst (xs.map fun a => D.tup (f a))) = some (.tup (f x)) := by
  obtain ⟨y, hy, e⟩ := minL_mem (by simpa using hne) ho
  obtain ⟨x, hx, rfl⟩ := List.mem_map.mp hy
  refine ⟨x, hx, ?_⟩
  show ((foldI min (xs.map fun a => D.tup (f a))).map D.int).or _ = _
  rw [e]
  cases xs with
  | nil => exact absurd rfl hne
  | cons a r =>
    cases r <;> rfl
/-! ### data that are rows with a number -/
theorem toPs_ints : ∀ xs : List Int, toPs (iL xs) = some (xs.map PyData.int)
  | [] => rfl
  | x :: xs => by
    show (match toP (.int x), toPs (iL xs) with | some p, some ps => some (p :: ps) | _, _ => none) = _
    rw [toPs_ints xs]
    rfl
def pU (us : List Int) : PyData := .tuple (us.map .int)
theorem toPs_us : ∀ R : List (List Int), toPs (R.map fun us => D.tup (iL us)) = some (R.map pU)
  | [] => rfl
  | us :: R => by
    show (match toP (.tup (iL us)), toPs (R.map fun us => D.tup (iL us)) with | some p, some ps => some (p :: ps) | _, _ => none) = _
    rw [toPs_us R]
    show (match (toPs (iL us)).map PyData.tuple, some (R.map pU) with | some p, some ps => some (p :: ps) | _, _ => none) = _
    rw [toPs_ints]
    rfl
def rowE (v : Int × List (List Int)) : D := .tup [.int v.1, .tup (v.2.map fun us => D.tup (iL us))]
def pR (v : Int × List (List Int)) : PyData := .tuple [.int v.1, .tuple (v.2.map pU)]
theorem toP_row (v : Int × List (List Int)) : toP (rowE v) = some (pR v) := by
  unfold rowE pR
  simp only [toP, toPs, toPs_us, Option.map_some]
theorem alike_ints : ∀ xs ys : List Int, PySem.W.alikeAll (xs.map PyData.int) (ys.map PyData.int) = true
  | [], _ => by simp [PySem.W.alikeAll]
  | _ :: _, [] => by simp [PySem.W.alikeAll]
  | x :: xs, y :: ys => by simp [PySem.W.alikeAll, PySem.W.alike, alike_ints xs ys]
theorem alike_us : ∀ R R' : List (List Int), PySem.W.alikeAll (R.map pU) (R'.map pU) = true
  | [], _ => by simp [PySem.W.alikeAll]
  | _ :: _, [] => by simp [PySem.W.alikeAll]
  | x :: xs, y :: ys => by simp [PySem.W.alikeAll, PySem.W.alike, alike_us xs ys, pU, alike_ints x y]
theorem alike_row (v w : Int × List (List Int)) : PySem.W.alike (pR v) (pR w) = true := by
  simp [pR, PySem.W.alike, PySem.W.alikeAll, alike_us]
theorem dep_ints : ∀ xs : List Int, PyData.depthAll (xs.map PyData.int) = 0
  | [] => by simp [PyData.depthAll]
  | x :: xs => by simp [PyData.depthAll, PyData.depth, dep_ints xs]
theorem dep_us : ∀ R : List (List Int), PyData.depthAll (R.map pU) ≤ 1
  | [] => by simp [PyData.depthAll]
  | x :: xs => by
    have := dep_us xs
    simp only [List.map_cons, PyData.depthAll, pU, PyData.depth, dep_ints]
    omega
theorem ord_row (v : Int × List (List Int)) : ordD (rowE v) = true := by
  unfold ordD
  rw [toP_row]
  have h : (pR v).depth ≤ 50 := by
    have := dep_us v.2
    simp only [pR, PyData.depth, PyData.depthAll]
    omega
  simp only [decide_eq_true h]
  rfl
theorem ordAll_rows (vs : List (Int × List (List Int))) : ordAll (vs.map rowE) = true := by
  unfold ordAll
  rw [Bool.and_eq_true, List.all_eq_true, List.all_eq_true]
  refine ⟨fun x hx => ?_, fun x hx => List.all_eq_true.mpr fun y hy => ?_⟩
  · obtain ⟨v, _, rfl⟩ := List.mem_map.mp hx
    exact ord_row v
  · obtain ⟨v, _, rfl⟩ := List.mem_map.mp hx
    obtain ⟨w, _, rfl⟩ := List.mem_map.mp hy
    unfold encD
    rw [toP_row, toP_row]
    exact alike_row v w
/-- a comprehension with a filter -/
theorem mapR_sel {α : Type} {f : D → Env → Sto → Res (Option D)} {env : Env} {μ : Sto} {e : α → D} (p : α → Bool) (g : α → D) : ∀ {xs : List α}, (∀ x ∈ xs, f (e x) env μ = .ok (if p x then some (g x) else none) μ) → mapR f (xs.map e) env μ = .ok ((xs.filter p).map g) μ
  | [], _ => rfl
  | x :: xs, h => by
    show (f (e x) env μ).bind _ = _
    rw [h x List.mem_cons_self, bind_ok, mapR_sel p g fun z hz => h z (List.mem_cons_of_mem _ hz), bind_ok]
    cases hp : p x <;> simp [hp]
theorem mapR_selE {α : Type} {f : D → Env → Sto → Res (Option D)} {env : Env} {μ : Sto} {e : α → D} {xs : List α} {r : Res (List D)} (hm : mapR f (xs.map e) env μ = r) (p : α → Bool) (g : α → D) (h : ∀ x ∈ xs, f (e x) env μ = .ok (if p x then some (g x) else none) μ) : r = .ok ((xs.filter p).map g) μ := by
  rw [← hm]; exact mapR_sel p g h
end Lm
set_option linter.all false
set_option maxRecDepth 100000
namespace Lm
open PySem
/-! ### while -/
theorem loopW_meas {c : Env → Sto → Res D} {f : Env → Sto → RS} {μ : Sto} {R : Nat → Env → Prop} {Q : Env → Prop}
    (h : ∀ n env, R n env → (c env μ = .ok (.bl false) μ ∧ Q env) ∨ (c env μ = .ok (.bl true) μ ∧ ∃ env' n', n' < n ∧ f env μ = .ok (.nxt env') μ ∧ R n' env')) :
    ∀ (N n : Nat) {env : Env}, n < N → R n env → ∃ env', loopW c f N env μ = .ok (.nxt env') μ ∧ Q env'
  | 0, n, env, hn, _ => absurd hn (Nat.not_lt_zero _)
  | N + 1, n, env, hn, hR => by
    rcases h n env hR with ⟨e, hq⟩ | ⟨e, env', n', hlt, e2, hR'⟩
    · refine ⟨env, ?_, hq⟩
      show (c env μ).then env _ = _
      rw [e]
      rfl
    · obtain ⟨env2, e3, hq⟩ := loopW_meas h N n' (by omega) hR'
      refine ⟨env2, ?_, hq⟩
      show (c env μ).then env _ = _
      rw [e]
      show (f env μ).bind _ = _
      rw [e2]
      exact e3
theorem ev_whil {P : Pg} {C : Orc} {c : E} {b : List S} {env : Env} {μ : Sto} : evS P C (.whil c b) env μ = loopW (fun env μ => evE P C c env μ) (fun env μ => evSs P C b env μ) fuel env μ := by
  simp only [evS]
theorem ne_nil {μ : Sto} {xs : List D} (h : xs ≠ []) : opC μ .ne (.lst xs) (.lst []) = some (.bl true) := by
  have e : (eqD (.lst xs) (.lst [])).or ((eqL (.lst xs) (.lst [])).or (eqN (.lst xs) (.lst []))) = some false := by
    have e2 : eqL (.lst xs) (.lst []) = some false := by
      show (if xs.length = 0 then none else some false) = _
      rw [if_neg (by simpa using h)]
    rw [e2]
    cases xs with
    | nil => exact absurd rfl h
    | cons x r =>
      have e3 : eqD (.lst (x :: r)) (.lst []) = none ∨ eqD (.lst (x :: r)) (.lst []) = some false := by
        unfold eqD
        have t0 : toP (.lst []) = some (.list []) := rfl
        rw [t0]
        have t1 : toP (.lst (x :: r)) = (toPs (x :: r)).map PyData.list := by simp only [toP]
        rw [t1]
        cases hx : toP x with
        | none => left; simp only [toPs, hx, Option.map_none]
        | some p =>
          cases hr : toPs r with
          | none => left; simp only [toPs, hx, hr, Option.map_none]
          | some ps =>
            simp only [toPs, hx, hr, Option.map_some]
            by_cases hs : (PySem.SeqAt.shaped (.list (p :: ps)) && PySem.SeqAt.shaped (.list [])) = true
            · right
              rw [if_pos hs]
              simp [PyData.eqv, PyData.eqvAll]
            · left
              rw [if_neg hs]
      rcases e3 with e3 | e3 <;> rw [e3] <;> rfl
  show (((eqD (.lst xs) (.lst [])).or ((eqL (.lst xs) (.lst [])).or (eqN (.lst xs) (.lst []))))).map (fun x => D.bl (!x)) = _
  rw [e]
  rfl
theorem nil_nil {μ : Sto} : opC μ .ne (.lst []) (.lst []) = some (.bl false) := by
  have e : eqD (.lst []) (.lst []) = some true := by
    have t0 : toP (.lst []) = some (.list []) := rfl
    unfold eqD
    rw [t0]
    rfl
  show (((eqD (.lst []) (.lst [])).or ((eqL (.lst []) (.lst [])).or (eqN (.lst []) (.lst []))))).map (fun x => D.bl (!x)) = _
  rw [e]
  rfl
theorem pop_snoc {xs : List D} {x : D} : popL (xs ++ [x]) none = some (x, xs) := by
  unfold popL
  simp
/-! ### data a little deep have a text -/
theorem nc_tup {k w : Nat} {ds : List D} (h : ∀ d ∈ ds, ∃ p, Nc k w d p) : ∃ p, Nc (k + 1) (ds.length * (w + 2) + 1930) (.tup ds) p := by
  obtain ⟨ps, hs⟩ := Ncs.of h
  refine ⟨.tuple ps, by show (toPs ds).map PyData.tuple = _; rw [hs.to]; rfl, by simpa [PyData.showable] using hs.sh, ?_, ?_⟩
  · have := hs.dp; simp only [PyData.depth]; omega
  · show (tupleText (PyData.shownAll ps)).length ≤ _
    have h1 := tupleText_le (PyData.shownAll ps)
    have h2 := hs.ln
    omega
theorem nc_lst {k w : Nat} {ds : List D} (h : ∀ d ∈ ds, ∃ p, Nc k w d p) : ∃ p, Nc (k + 1) (ds.length * (w + 2) + 1930) (.lst ds) p := by
  obtain ⟨ps, hs⟩ := Ncs.of h
  refine ⟨.list ps, by show (toPs ds).map PyData.list = _; rw [hs.to]; rfl, by simpa [PyData.showable] using hs.sh, ?_, ?_⟩
  · have := hs.dp; simp only [PyData.depth]; omega
  · show (listText (PyData.shownAll ps)).length ≤ _
    have h1 := listText_le (PyData.shownAll ps)
    have h2 := hs.ln
    omega
theorem nc_repr {k w : Nat} {d : D} (h : ∃ p, Nc k w d p) (hk : k ≤ 64) (hw : w ≤ line) : ∃ s, reprD d = some s := by
  obtain ⟨p, hp⟩ := h
  refine ⟨p.shown, ?_⟩
  unfold reprD
  rw [hp.to]
  have h1 : decide (p.depth ≤ 64) = true := decide_eq_true (by have := hp.dp; omega)
  have h2 : decide (p.shown.length ≤ line) = true := decide_eq_true (Nat.le_trans hp.ln hw)
  simp only [hp.sh, h1, h2, Bool.and_self, if_true]
theorem nc_mono {k w k' w' : Nat} {d : D} (h : ∃ p, Nc k w d p) (hk : k ≤ k') (hw : w ≤ w') : ∃ p, Nc k' w' d p := by
  obtain ⟨p, hp⟩ := h
  exact ⟨p, hp.mono hk hw⟩
end Lm
namespace Lm.Law
open PySem (Str)
abbrev c_MinuteError : Nat := 0
abbrev c_BadBook : Nat := 1
abbrev c_NoMeter : Nat := 2
abbrev c_Book : Nat := 3
abbrev g_MAX_CYCLE : Nat := 0
abbrev g_MAX_GAIN : Nat := 1
abbrev g_MAX_METERS : Nat := 2
abbrev g_MAX_PROGRAMS : Nat := 3
abbrev g_MAX_SAVE : Nat := 4
abbrev g_MAX_WEIGHT : Nat := 5
abbrev at_number : Nat := 0
abbrev at_programs : Nat := 1
abbrev at_cycle : Nat := 2
abbrev at_meters : Nat := 3
abbrev at_word : Nat := 4
abbrev at_parts : Nat := 5
abbrev at_check_number : Nat := 6
abbrev at_without : Nat := 7
abbrev at_with_meter : Nat := 8
abbrev f_is_integer : Nat := 0
abbrev f_are_integers : Nat := 1
abbrev f_meter_word : Nat := 2
abbrev f_check_book : Nat := 3
abbrev f_law_deck : Nat := 4
abbrev f_law_take : Nat := 5
abbrev f_law_one : Nat := 6
abbrev f_law_is_whole : Nat := 7
abbrev f_law_odd : Nat := 8
abbrev f_law_meter : Nat := 9
abbrev f_law_parts : Nat := 10
abbrev f_law_changed : Nat := 11
abbrev f_law_item : Nat := 12
abbrev f_law_shown : Nat := 13
abbrev f_law_due : Nat := 14
abbrev f_law : Nat := 15
abbrev f_BadBook_init : Nat := 16
abbrev f_NoMeter_init : Nat := 17
abbrev f_Book_init : Nat := 18
abbrev f_Book_programs : Nat := 19
abbrev f_Book_cycle : Nat := 20
abbrev f_Book_meters : Nat := 21
abbrev f_Book_check_number : Nat := 22
abbrev f_Book_without : Nat := 23
abbrev f_Book_with_meter : Nat := 24
abbrev f_Book_getitem : Nat := 25
abbrev f_Book_len : Nat := 26
abbrev f_Book_bool : Nat := 27
abbrev f_Book_eq : Nat := 28
abbrev f_Book_ne : Nat := 29
abbrev f_Book_str : Nat := 30
def b_is_integer : List S := [.ret (some (.and [(.isi (.var 0) [.int]), (.not (.isi (.var 0) [.bool])), (.chain .le .le (.var 1) (.var 0) (.var 2))]))]
def b_are_integers : List S := [.ite (.or [(.not (.isi (.var 0) [.tuple])), (.cmp .ne (.f1 .len (.var 0)) (.var 1))]) [.ret (some (.lit (.bl false)))] [], .ret (some (.f1 .all (.comp (.call f_is_integer [(.var 4), (.var 2), (.var 3)]) (.nm 4) (.seq (.var 0)) [])))]
def b_meter_word : List S := [.ite (.or [(.not (.isi (.var 2) [.tuple])), (.cmp .ne (.f1 .len (.var 2)) (.lit (.int 4)))]) [.ret (some (.lit (.str (Str.ofString "meter"))))] [], .ite (.not (.call f_are_integers [(.idx (.var 2) (.lit (.int 0))), (.var 0), (.bin .sub (.lit (.int 0)) (.glob g_MAX_WEIGHT)), (.glob g_MAX_WEIGHT)])) [.ret (some (.lit (.str (Str.ofString "weights"))))] [], .ite (.not (.call f_are_integers [(.idx (.var 2) (.lit (.int 1))), (.var 1), (.lit (.int 0)), (.glob g_MAX_GAIN)])) [.ret (some (.lit (.str (Str.ofString "gains"))))] [], .ite (.not (.call f_is_integer [(.idx (.var 2) (.lit (.int 2))), (.lit (.int 0)), (.glob g_MAX_SAVE)])) [.ret (some (.lit (.str (Str.ofString "save"))))] [], .ret (some (.ite (.call f_is_integer [(.idx (.var 2) (.lit (.int 3))), (.lit (.int 0)), (.glob g_MAX_SAVE)]) (.lit .non) (.lit (.str (Str.ofString "lend")))))]
def b_check_book : List S := [.ite (.not (.call f_is_integer [(.var 0), (.lit (.int 1)), (.glob g_MAX_PROGRAMS)])) [.raise c_BadBook [(.lit .non), (.lit (.str (Str.ofString "programs")))]] [], .ite (.not (.call f_is_integer [(.var 1), (.lit (.int 1)), (.glob g_MAX_CYCLE)])) [.raise c_BadBook [(.lit .non), (.lit (.str (Str.ofString "cycle")))]] [], .ite (.or [(.not (.isi (.var 2) [.tuple])), (.cmp .gt (.f1 .len (.var 2)) (.glob g_MAX_METERS))]) [.raise c_BadBook [(.lit .non), (.lit (.str (Str.ofString "meters")))]] [], .forr (.tp [(.nm 3), (.nm 4)]) (.enum (.var 2)) [.set (.nm 5) (.call f_meter_word [(.var 0), (.var 1), (.var 4)]), .ite (.cmp .notn (.var 5) (.lit .non)) [.raise c_BadBook [(.var 3), (.var 5)]] []]]
def b_law_deck : List S := [.set (.nm 1) (.lit (.int 0)), .forr (.nm 2) (.seq (.sli (.var 0) none (some (.lit (.int 60))))) [.ite (.cmp .ge (.f1 .abs (.var 2)) (.bin .pow (.lit (.int 10)) (.lit (.int 18)))) [.set (.nm 1) (.bin .add (.bin .mul (.var 1) (.lit (.int 67))) (.f1 .abs (.var 2)))] []], .ret (some (.alloc (.dic [(.lit (.str (Str.ofString "cells"))), (.lit (.str (Str.ofString "turn"))), (.lit (.str (Str.ofString "great")))] [(.bin .add (.f1 .list (.sli (.var 0) none (some (.lit (.int 60))))) (.lst [(.bin .add (.f1 .len (.var 0)) (.lit (.int 13)))])), (.lit (.int 0)), (.var 1)])))]
def b_law_take : List S := [.putL (.var 0) (.lit (.str (Str.ofString "turn"))) (.bin .add (.idx (.var 0) (.lit (.str (Str.ofString "turn")))) (.lit (.int 1))), .ite (.cmp .gt (.idx (.var 0) (.lit (.str (Str.ofString "great")))) (.lit (.int 0))) [.set (.nm 2) (.bin .mod (.idx (.var 0) (.lit (.str (Str.ofString "great")))) (.var 1)), .putL (.var 0) (.lit (.str (Str.ofString "great"))) (.bin .fdiv (.idx (.var 0) (.lit (.str (Str.ofString "great")))) (.var 1)), .ret (some (.var 2))] [], .par [(3, false), (4, false)] [(.idx (.var 0) (.lit (.str (Str.ofString "turn")))), (.idx (.var 0) (.lit (.str (Str.ofString "cells"))))], .set (.nm 5) (.bin .mod (.bin .pow (.bin .add (.bin .add (.bin .mod (.idx (.var 4) (.bin .mod (.var 3) (.f1 .len (.var 4)))) (.lit (.int 2147483497))) (.bin .mul (.lit (.int 80021)) (.var 3))) (.lit (.int 29))) (.lit (.int 3))) (.lit (.int 2147483563))), .ret (some (.bin .mod (.bin .fdiv (.bin .mod (.bin .add (.bin .mul (.var 5) (.lit (.int 58787))) (.bin .mul (.bin .mul (.lit (.int 5639)) (.var 3)) (.var 3))) (.lit (.int 2147483549))) (.lit (.int 3))) (.var 1)))]
def b_law_one : List S := [.ret (some (.idx (.var 1) (.call f_law_take [(.var 0), (.f1 .len (.var 1))])))]
def b_law_is_whole : List S := [.ret (some (.and [(.isi (.var 0) [.int]), (.not (.isi (.var 0) [.bool])), (.chain .le .le (.var 1) (.var 0) (.var 2))]))]
def b_law_odd : List S := [.set (.nm 1) (.lst [(.lit .non), (.lit (.bl true)), (.lit (.bl false)), (.neg (.lit (.int 1))), (.lit (.int 0)), (.lit (.int 1)), (.lit (.int 2)), (.lit (.int 3)), (.lit (.int 4)), (.lit (.int 5)), (.lit (.int 7)), (.bin .pow (.lit (.int 10)) (.lit (.int 59))), (.neg (.bin .pow (.lit (.int 10)) (.lit (.int 40)))), (.lit (.str (Str.ofString ""))), (.lit (.str (Str.ofString "0"))), (.lit (.str (Str.ofString "02"))), (.tup [])]), .set (.nm 1) (.bin .add (.var 1) (.lst [(.tup [(.lit (.int 0))]), (.tup [(.lit (.int 1)), (.lit (.int 2))]), (.tup [(.lit (.int 0)), (.tup [(.lit (.int 0))])]), (.tup [(.lit (.int 0)), (.tup [])]), (.tup [(.tup [(.lit (.int 0))])]), (.lst []), (.lst [(.lit (.int 0))]), (.dic [] []), (.dic [(.lit (.str (Str.ofString "a")))] [(.lit (.int 1))]), (.tup [(.lit (.int 0)), (.lit (.int 0)), (.lit (.int 0))]), (.tup [(.tup []), (.tup [])])])), .ret (some (.call f_law_one [(.var 0), (.bin .add (.var 1) (.lst [(.tup [(.lit .non)]), (.lit (.str (Str.ofString "meter"))), (.tup [(.lit (.bl true))]), (.tup [(.lit (.int 0)), (.lit (.bl true))]), (.tup [(.lst [])]), (.tup [(.neg (.lit (.int 1))), (.lit (.int 2))])]))]))]
def b_law_meter : List S := [.set (.nm 3) (.f1 .tuple (.comp (.call f_law_one [(.var 0), (.lst [(.lit (.int 1)), (.lit (.int 1)), (.lit (.int 1)), (.lit (.int 0)), (.lit (.int 2)), (.neg (.lit (.int 1))), (.neg (.lit (.int 2)))])]) (.nm 5) (.range [(.var 1)]) [])), .set (.nm 4) (.f1 .tuple (.comp (.call f_law_one [(.var 0), (.lst [(.lit (.int 0)), (.lit (.int 1)), (.lit (.int 1)), (.lit (.int 2)), (.lit (.int 3)), (.lit (.int 4)), (.lit (.int 5)), (.lit (.int 6))])]) (.nm 6) (.range [(.var 2)]) [])), .ret (some (.tup [(.var 3), (.var 4), (.call f_law_one [(.var 0), (.lst [(.lit (.int 0)), (.lit (.int 0)), (.lit (.int 1)), (.lit (.int 2)), (.lit (.int 3)), (.lit (.int 4))])]), (.call f_law_one [(.var 0), (.lst [(.lit (.int 0)), (.lit (.int 0)), (.lit (.int 1)), (.lit (.int 2)), (.lit (.int 3)), (.lit (.int 4))])])]))]
def b_law_parts : List S := [.set (.nm 2) (.bin .add (.lit (.int 1)) (.call f_law_take [(.var 0), (.lit (.int 3))])), .set (.nm 3) (.comp (.call f_law_meter [(.var 0), (.var 1), (.var 2)]) (.nm 4) (.range [(.call f_law_one [(.var 0), (.lst [(.lit (.int 0)), (.lit (.int 1)), (.lit (.int 1)), (.lit (.int 2)), (.lit (.int 2))])])]) []), .ret (some (.tup [(.var 1), (.var 2), (.f1 .tuple (.var 3))]))]
def b_law_changed : List S := [.set (.tp [(.nm 2), (.nm 3), (.nm 4)]) (.var 1), .ite (.cmp .eq (.var 4) (.tup [])) [.ret (some (.call f_law_parts [(.var 0), (.var 2)]))] [], .par [(5, false), (6, false)] [(.call f_law_take [(.var 0), (.f1 .len (.var 4))]), (.call f_law_take [(.var 0), (.lit (.int 6))])], .set (.tp [(.nm 7), (.nm 8), (.nm 9), (.nm 10)]) (.idx (.var 4) (.var 5)), .set (.nm 11) (.tup [(.var 7), (.var 8), (.var 9), (.f2 .max (.lit (.int 0)) (.bin .sub (.var 10) (.lit (.int 1))))]), .ite (.cmp .eq (.var 6) (.lit (.int 0))) [.set (.nm 11) (.tup [(.var 7), (.var 8), (.f2 .max (.lit (.int 0)) (.bin .sub (.var 9) (.lit (.int 1)))), (.var 10)])] [], .ite (.cmp .eq (.var 6) (.lit (.int 1))) [.set (.nm 11) (.tup [(.var 7), (.bin .add (.tup [(.f2 .min (.lit (.int 6)) (.bin .add (.idx (.var 8) (.lit (.int 0))) (.lit (.int 1))))]) (.sli (.var 8) (some (.lit (.int 1))) none)), (.var 9), (.var 10)])] [], .ite (.cmp .eq (.var 6) (.lit (.int 2))) [.ret (some (.tup [(.var 2), (.var 3), (.bin .add (.sli (.var 4) none (some (.var 5))) (.sli (.var 4) (some (.bin .add (.var 5) (.lit (.int 1)))) none))]))] [], .ite (.cmp .eq (.var 6) (.lit (.int 3))) [.ret (some (.call f_law_parts [(.var 0), (.var 2)]))] [], .ret (some (.tup [(.var 2), (.var 3), (.bin .add (.bin .add (.sli (.var 4) none (some (.var 5))) (.tup [(.var 11)])) (.sli (.var 4) (some (.bin .add (.var 5) (.lit (.int 1)))) none))]))]
def b_law_item : List S := [.tryy [.set (.nm 2) (.lst [(.lit (.str (Str.ofString "meter"))), (.meth 1000005 (.var 0) [(.var 1)])])] [(2, some 3, [.set (.nm 4) (.and [(.isi (.var 3) [.exc "LookupError"]), (.not (.isi (.var 3) [.exc "ValueError"]))]), .set (.nm 2) (.lst [(.lit (.str (Str.ofString "no"))), (.attr at_number (.var 3)), (.var 4)])])], .ret (some (.var 2))]
def b_law_shown : List S := [.ret (some (.lst [(.attr at_programs (.var 0)), (.attr at_cycle (.var 0)), (.attr at_meters (.var 0)), (.meth 1000003 (.var 0) []), (.meth 1000004 (.var 0) [])]))]
def b_law_due : List S := [.set (.tp [(.nm 1), (.nm 2), (.nm 3)]) (.var 0), .set (.nm 4) (.bin .add (.bin .add (.bin .add (.f1 .str (.var 1)) (.lit (.str (Str.ofString " programs, ")))) (.f1 .str (.var 2))) (.lit (.str (Str.ofString " days, ")))), .ret (some (.lst [(.var 1), (.var 2), (.var 3), (.f1 .len (.var 3)), (.bin .add (.bin .add (.var 4) (.f1 .str (.f1 .len (.var 3)))) (.lit (.str (Str.ofString " meters"))))]))]
def b_law : List S := [.set (.nm 1) (.call f_law_deck [(.var 0)]), .forr (.nm 2) (.range [(.lit (.int 8))]) [.set (.nm 3) (.call f_law_parts [(.var 1), (.bin .add (.lit (.int 1)) (.call f_law_take [(.var 1), (.lit (.int 3))]))]), .set (.tp [(.nm 4), (.nm 5), (.nm 6)]) (.var 3), .par [(7, false), (8, false)] [(.new c_Book [(.var 4), (.var 5), (.var 6)]), (.call f_law_due [(.var 3)])], .ite (.cmp .ne (.f1 .repr (.lst [(.call f_law_shown [(.var 7)]), (.call f_law_shown [(.new c_Book [(.var 4), (.var 5), (.var 6)])])])) (.f1 .repr (.lst [(.var 8), (.var 8)]))) [.ret (some (.lit (.bl false)))] [], .forr (.nm 9) (.seq (.lst [(.lit (.int 0)), (.lit (.int 1)), (.lit (.int 2)), (.neg (.lit (.int 1))), (.lit (.bl true)), (.lit (.bl false)), (.f1 .len (.var 6)), (.call f_law_odd [(.var 1)]), (.call f_law_odd [(.var 1)])])) [.set (.nm 10) (.lst [(.lit (.str (Str.ofString "no"))), (.var 9), (.lit (.bl true))]), .ite (.call f_law_is_whole [(.var 9), (.lit (.int 0)), (.bin .sub (.f1 .len (.var 6)) (.lit (.int 1)))]) [.set (.nm 10) (.lst [(.lit (.str (Str.ofString "meter"))), (.idx (.var 6) (.var 9))])] [], .ite (.cmp .ne (.f1 .repr (.call f_law_item [(.var 7), (.var 9)])) (.f1 .repr (.var 10))) [.ret (some (.lit (.bl false)))] []], .set (.nm 11) (.call f_law_parts [(.var 1), (.var 4)]), .set (.nm 12) (.lst [(.tup [(.var 4), (.var 5), (.tup [])]), (.tup [(.bin .add (.bin .mod (.var 4) (.lit (.int 3))) (.lit (.int 1))), (.var 5), (.tup [])]), (.tup [(.var 4), (.bin .add (.bin .mod (.var 5) (.lit (.int 3))) (.lit (.int 1))), (.tup [])])]), .forr (.nm 13) (.seq (.bin .add (.lst [(.var 3), (.tup [(.var 4), (.var 5), (.rev (.var 6))]), (.call f_law_changed [(.var 1), (.var 3)]), (.var 11)]) (.var 12))) [.set (.nm 14) (.new c_Book [(.idx (.var 13) (.lit (.int 0))), (.idx (.var 13) (.lit (.int 1))), (.idx (.var 13) (.lit (.int 2)))]), .set (.nm 10) (.lst [(.ocmp false (.var 7) (.var 14)), (.ocmp false (.var 14) (.var 7)), (.ocmp true (.var 7) (.var 14)), (.ocmp true (.var 14) (.var 7))]), .ite (.cmp .ne (.f1 .repr (.var 10)) (.f1 .repr (.bin .add (.bin .mul (.lst [(.cmp .eq (.var 13) (.var 3))]) (.lit (.int 2))) (.bin .mul (.lst [(.cmp .ne (.var 13) (.var 3))]) (.lit (.int 2)))))) [.ret (some (.lit (.bl false)))] []], .forr (.nm 15) (.seq (.lst [(.var 3), (.lit .non), (.var 6), (.meth 1000004 (.var 7) []), (.f1 .len (.var 6)), (.call f_law_odd [(.var 1)])])) [.ite (.ocmp false (.var 7) (.var 15)) [.ret (some (.lit (.bl false)))] [], .ite (.not (.ocmp true (.var 7) (.var 15))) [.ret (some (.lit (.bl false)))] []], .ite (.cmp .ne (.f1 .repr (.call f_law_shown [(.var 7)])) (.f1 .repr (.var 8))) [.ret (some (.lit (.bl false)))] []], .ret (some (.lit (.bl true)))]
def b_BadBook_init : List S := [.selfF at_number (.var 1), .selfF at_word (.var 2)]
def b_NoMeter_init : List S := [.selfF at_number (.var 1)]
def b_Book_init : List S := [.expr (.call f_check_book [(.var 1), (.var 2), (.var 3)]), .selfF at_parts (.tup [(.var 1), (.var 2), (.var 3)])]
def b_Book_programs : List S := [.ret (some (.idx (.attr at_parts (.var 0)) (.lit (.int 0))))]
def b_Book_cycle : List S := [.ret (some (.idx (.attr at_parts (.var 0)) (.lit (.int 1))))]
def b_Book_meters : List S := [.ret (some (.idx (.attr at_parts (.var 0)) (.lit (.int 2))))]
def b_Book_check_number : List S := [.ite (.not (.call f_is_integer [(.var 1), (.lit (.int 0)), (.bin .sub (.f1 .len (.attr at_meters (.var 0))) (.lit (.int 1)))])) [.raise c_NoMeter [(.var 1)]] []]
def b_Book_without : List S := [.no]
def b_Book_with_meter : List S := [.no]
def b_Book_getitem : List S := [.expr (.meth at_check_number (.var 0) [(.var 1)]), .ret (some (.idx (.attr at_meters (.var 0)) (.var 1)))]
def b_Book_len : List S := [.ret (some (.f1 .len (.idx (.attr at_parts (.var 0)) (.lit (.int 2)))))]
def b_Book_bool : List S := [.ret (some (.lit (.bl true)))]
def b_Book_eq : List S := [.ret (some (.and [(.isi (.var 1) [.own 3]), (.cmp .eq (.attr at_parts (.var 0)) (.attr at_parts (.var 1)))]))]
def b_Book_ne : List S := [.ret (some (.not (.ocmp false (.var 0) (.var 1))))]
def b_Book_str : List S := [.ret (some (.fstr [(.attr at_programs (.var 0)), (.lit (.str (Str.ofString " programs, "))), (.attr at_cycle (.var 0)), (.lit (.str (Str.ofString " days, "))), (.f1 .len (.attr at_meters (.var 0))), (.lit (.str (Str.ofString " meters")))]))]
def pg : Pg := {
  fns := [⟨3, 3, b_is_integer⟩, ⟨4, 5, b_are_integers⟩, ⟨3, 3, b_meter_word⟩, ⟨3, 6, b_check_book⟩, ⟨1, 3, b_law_deck⟩, ⟨2, 6, b_law_take⟩, ⟨2, 2, b_law_one⟩, ⟨3, 3, b_law_is_whole⟩, ⟨1, 2, b_law_odd⟩, ⟨3, 7, b_law_meter⟩, ⟨2, 5, b_law_parts⟩, ⟨2, 12, b_law_changed⟩, ⟨2, 5, b_law_item⟩, ⟨1, 1, b_law_shown⟩, ⟨1, 5, b_law_due⟩, ⟨1, 16, b_law⟩, ⟨3, 3, b_BadBook_init⟩, ⟨2, 2, b_NoMeter_init⟩, ⟨4, 4, b_Book_init⟩, ⟨1, 1, b_Book_programs⟩, ⟨1, 1, b_Book_cycle⟩, ⟨1, 1, b_Book_meters⟩, ⟨2, 2, b_Book_check_number⟩, ⟨2, 2, b_Book_without⟩, ⟨2, 2, b_Book_with_meter⟩, ⟨2, 2, b_Book_getitem⟩, ⟨1, 1, b_Book_len⟩, ⟨1, 1, b_Book_bool⟩, ⟨2, 2, b_Book_eq⟩, ⟨2, 2, b_Book_ne⟩, ⟨1, 1, b_Book_str⟩]
  cls := [⟨.exc, none, [], [], [.inl c_MinuteError, .inr "ValueError", .inr "Exception", .inr "BaseException"], none, [(6, 0)]⟩, ⟨.exc, none, [], [], [.inl c_BadBook, .inl c_MinuteError, .inr "ValueError", .inr "Exception", .inr "BaseException"], (some [at_number, at_word]), []⟩, ⟨.exc, none, [], [], [.inl c_NoMeter, .inr "LookupError", .inr "Exception", .inr "BaseException"], (some [at_number]), []⟩, ⟨.frozen, some f_Book_init, [(at_check_number, f_Book_check_number), (at_without, f_Book_without), (at_with_meter, f_Book_with_meter)], [(at_programs, f_Book_programs), (at_cycle, f_Book_cycle), (at_meters, f_Book_meters)], [.inl c_Book], none, [(5, f_Book_getitem), (3, f_Book_len), (1, f_Book_eq), (2, f_Book_ne), (4, f_Book_str)]⟩]
  globs := [(.int 3), (.int 6), (.int 2), (.int 3), (.int 4), (.int 2)] }
theorem run_is_integer (n : Nat) (a0 : D) (a1 : D) (a2 : D) (μ : Sto) : (orc3 pg (n + 1)).call f_is_integer [a0, a1, a2] μ = endFn (evSs pg (orc3 pg n) b_is_integer [.val a0, .val a1, .val a2] μ) := rfl
theorem run_are_integers (n : Nat) (a0 : D) (a1 : D) (a2 : D) (a3 : D) (μ : Sto) : (orc3 pg (n + 1)).call f_are_integers [a0, a1, a2, a3] μ = endFn (evSs pg (orc3 pg n) b_are_integers [.val a0, .val a1, .val a2, .val a3, .un] μ) := rfl
theorem run_meter_word (n : Nat) (a0 : D) (a1 : D) (a2 : D) (μ : Sto) : (orc3 pg (n + 1)).call f_meter_word [a0, a1, a2] μ = endFn (evSs pg (orc3 pg n) b_meter_word [.val a0, .val a1, .val a2] μ) := rfl
theorem run_check_book (n : Nat) (a0 : D) (a1 : D) (a2 : D) (μ : Sto) : (orc3 pg (n + 1)).call f_check_book [a0, a1, a2] μ = endFn (evSs pg (orc3 pg n) b_check_book [.val a0, .val a1, .val a2, .un, .un, .un] μ) := rfl
theorem run_law_deck (n : Nat) (a0 : D) (μ : Sto) : (orc3 pg (n + 1)).call f_law_deck [a0] μ = endFn (evSs pg (orc3 pg n) b_law_deck [.val a0, .un, .un] μ) := rfl
theorem run_law_take (n : Nat) (a0 : D) (a1 : D) (μ : Sto) : (orc3 pg (n + 1)).call f_law_take [a0, a1] μ = endFn (evSs pg (orc3 pg n) b_law_take [.val a0, .val a1, .un, .un, .un, .un] μ) := rfl
theorem run_law_one (n : Nat) (a0 : D) (a1 : D) (μ : Sto) : (orc3 pg (n + 1)).call f_law_one [a0, a1] μ = endFn (evSs pg (orc3 pg n) b_law_one [.val a0, .val a1] μ) := rfl
theorem run_law_is_whole (n : Nat) (a0 : D) (a1 : D) (a2 : D) (μ : Sto) : (orc3 pg (n + 1)).call f_law_is_whole [a0, a1, a2] μ = endFn (evSs pg (orc3 pg n) b_law_is_whole [.val a0, .val a1, .val a2] μ) := rfl
theorem run_law_odd (n : Nat) (a0 : D) (μ : Sto) : (orc3 pg (n + 1)).call f_law_odd [a0] μ = endFn (evSs pg (orc3 pg n) b_law_odd [.val a0, .un] μ) := rfl
theorem run_law_meter (n : Nat) (a0 : D) (a1 : D) (a2 : D) (μ : Sto) : (orc3 pg (n + 1)).call f_law_meter [a0, a1, a2] μ = endFn (evSs pg (orc3 pg n) b_law_meter [.val a0, .val a1, .val a2, .un, .un, .un, .un] μ) := rfl
theorem run_law_parts (n : Nat) (a0 : D) (a1 : D) (μ : Sto) : (orc3 pg (n + 1)).call f_law_parts [a0, a1] μ = endFn (evSs pg (orc3 pg n) b_law_parts [.val a0, .val a1, .un, .un, .un] μ) := rfl
theorem run_law_changed (n : Nat) (a0 : D) (a1 : D) (μ : Sto) : (orc3 pg (n + 1)).call f_law_changed [a0, a1] μ = endFn (evSs pg (orc3 pg n) b_law_changed [.val a0, .val a1, .un, .un, .un, .un, .un, .un, .un, .un, .un, .un] μ) := rfl
theorem run_law_item (n : Nat) (a0 : D) (a1 : D) (μ : Sto) : (orc3 pg (n + 1)).call f_law_item [a0, a1] μ = endFn (evSs pg (orc3 pg n) b_law_item [.val a0, .val a1, .un, .un, .un] μ) := rfl
theorem run_law_shown (n : Nat) (a0 : D) (μ : Sto) : (orc3 pg (n + 1)).call f_law_shown [a0] μ = endFn (evSs pg (orc3 pg n) b_law_shown [.val a0] μ) := rfl
theorem run_law_due (n : Nat) (a0 : D) (μ : Sto) : (orc3 pg (n + 1)).call f_law_due [a0] μ = endFn (evSs pg (orc3 pg n) b_law_due [.val a0, .un, .un, .un, .un] μ) := rfl
theorem run_law (n : Nat) (a0 : D) (μ : Sto) : (orc3 pg (n + 1)).call f_law [a0] μ = endFn (evSs pg (orc3 pg n) b_law [.val a0, .un, .un, .un, .un, .un, .un, .un, .un, .un, .un, .un, .un, .un, .un, .un] μ) := rfl
theorem run_Book_init (n c : Nat) (a0 : D) (a1 : D) (a2 : D) (μ : Sto) : (orc3 pg (n + 1)).init c f_Book_init [a0, a1, a2] μ = evI pg (orc3 pg n) c b_Book_init [.un, .val a0, .val a1, .val a2] [] μ := rfl
theorem run_Book_programs (n : Nat) (a0 : D) (μ : Sto) : (orc3 pg (n + 1)).call f_Book_programs [a0] μ = endFn (evSs pg (orc3 pg n) b_Book_programs [.val a0] μ) := rfl
theorem run_Book_cycle (n : Nat) (a0 : D) (μ : Sto) : (orc3 pg (n + 1)).call f_Book_cycle [a0] μ = endFn (evSs pg (orc3 pg n) b_Book_cycle [.val a0] μ) := rfl
theorem run_Book_meters (n : Nat) (a0 : D) (μ : Sto) : (orc3 pg (n + 1)).call f_Book_meters [a0] μ = endFn (evSs pg (orc3 pg n) b_Book_meters [.val a0] μ) := rfl
theorem run_Book_check_number (n : Nat) (a0 : D) (a1 : D) (μ : Sto) : (orc3 pg (n + 1)).call f_Book_check_number [a0, a1] μ = endFn (evSs pg (orc3 pg n) b_Book_check_number [.val a0, .val a1] μ) := rfl
theorem run_Book_without (n : Nat) (a0 : D) (a1 : D) (μ : Sto) : (orc3 pg (n + 1)).call f_Book_without [a0, a1] μ = endFn (evSs pg (orc3 pg n) b_Book_without [.val a0, .val a1] μ) := rfl
theorem run_Book_with_meter (n : Nat) (a0 : D) (a1 : D) (μ : Sto) : (orc3 pg (n + 1)).call f_Book_with_meter [a0, a1] μ = endFn (evSs pg (orc3 pg n) b_Book_with_meter [.val a0, .val a1] μ) := rfl
theorem run_Book_getitem (n : Nat) (a0 : D) (a1 : D) (μ : Sto) : (orc3 pg (n + 1)).call f_Book_getitem [a0, a1] μ = endFn (evSs pg (orc3 pg n) b_Book_getitem [.val a0, .val a1] μ) := rfl
theorem run_Book_len (n : Nat) (a0 : D) (μ : Sto) : (orc3 pg (n + 1)).call f_Book_len [a0] μ = endFn (evSs pg (orc3 pg n) b_Book_len [.val a0] μ) := rfl
theorem run_Book_bool (n : Nat) (a0 : D) (μ : Sto) : (orc3 pg (n + 1)).call f_Book_bool [a0] μ = endFn (evSs pg (orc3 pg n) b_Book_bool [.val a0] μ) := rfl
theorem run_Book_eq (n : Nat) (a0 : D) (a1 : D) (μ : Sto) : (orc3 pg (n + 1)).call f_Book_eq [a0, a1] μ = endFn (evSs pg (orc3 pg n) b_Book_eq [.val a0, .val a1] μ) := rfl
theorem run_Book_ne (n : Nat) (a0 : D) (a1 : D) (μ : Sto) : (orc3 pg (n + 1)).call f_Book_ne [a0, a1] μ = endFn (evSs pg (orc3 pg n) b_Book_ne [.val a0, .val a1] μ) := rfl
theorem run_Book_str (n : Nat) (a0 : D) (μ : Sto) : (orc3 pg (n + 1)).call f_Book_str [a0] μ = endFn (evSs pg (orc3 pg n) b_Book_str [.val a0] μ) := rfl
theorem glob_MAX_CYCLE : pg.globs[g_MAX_CYCLE]? = some (.int 3) := rfl
theorem glob_MAX_GAIN : pg.globs[g_MAX_GAIN]? = some (.int 6) := rfl
theorem glob_MAX_METERS : pg.globs[g_MAX_METERS]? = some (.int 2) := rfl
theorem glob_MAX_PROGRAMS : pg.globs[g_MAX_PROGRAMS]? = some (.int 3) := rfl
theorem glob_MAX_SAVE : pg.globs[g_MAX_SAVE]? = some (.int 4) := rfl
theorem glob_MAX_WEIGHT : pg.globs[g_MAX_WEIGHT]? = some (.int 2) := rfl
theorem cls_MinuteError : pg.cls[c_MinuteError]? = some ⟨.exc, none, [], [], [.inl c_MinuteError, .inr "ValueError", .inr "Exception", .inr "BaseException"], none, [(6, 0)]⟩ := rfl
theorem cls_BadBook : pg.cls[c_BadBook]? = some ⟨.exc, none, [], [], [.inl c_BadBook, .inl c_MinuteError, .inr "ValueError", .inr "Exception", .inr "BaseException"], (some [at_number, at_word]), []⟩ := rfl
theorem cls_NoMeter : pg.cls[c_NoMeter]? = some ⟨.exc, none, [], [], [.inl c_NoMeter, .inr "LookupError", .inr "Exception", .inr "BaseException"], (some [at_number]), []⟩ := rfl
theorem cls_Book : pg.cls[c_Book]? = some ⟨.frozen, some f_Book_init, [(at_check_number, f_Book_check_number), (at_without, f_Book_without), (at_with_meter, f_Book_with_meter)], [(at_programs, f_Book_programs), (at_cycle, f_Book_cycle), (at_meters, f_Book_meters)], [.inl c_Book], none, [(5, f_Book_getitem), (3, f_Book_len), (1, f_Book_eq), (2, f_Book_ne), (4, f_Book_str)]⟩ := rfl
end Lm.Law
set_option maxHeartbeats 400000
namespace Lm.Law
open PySem (Str)
open Lm
local macro_rules | `(tactic| walk_at "ev") => `(tactic| simp only [evSs, ↓ev_comp, ↓ev_for, evS, evE, evB, evEs, evAnd, evOr, evIt, evO, bind_ok, bind_exn, then_ok, then_exn, rbind_ok, rbind_exn, ofO_some, nxtO_some, stoO_some, endFn_ret, endFn_nxt, endFn_exn, noX_ok,
  List.getElem?_cons_zero, List.getElem?_cons_succ, List.set_cons_zero, List.set_cons_succ, setT, setTs, setPar, Option.map_some, Option.bind_some, ite_true, ite_false, reduceIte, f1D, idxE, cmpD, der_lst, der_tup, der_frz, der_int, der_str, der_bl, der_non,
  op_add, op_sub, op_mod, op_div, oc_lt, oc_gt, oc_le, oc_ge, oc_is, oc_not, oc_notb, oc_eqi, oc_nei, oc_eqs, oc_nes, Bool.false_eq_true, dk1', dk2, dk3, dk4, dk5, decide_true, decide_false, Bool.not_true, Bool.not_false, op_addL, op_addT, List.length_append, sl_tup, sl_lst, sl_frz, to_lst, od_lst, isOwnL, isOwn, ownAt, appO, ix_ln, slotsT, slotsTs, unAll, List.any_cons, List.any_nil, Bool.or_false, List.append_nil, List.cons_append, List.nil_append, f1_all, f1_sum, f2_min, f2_max, f1_lenT, f1_lenL, f1_tupL, f1_tupT, f1_lstT, f1_lstL, f1_repr, it_tup, it_lst, ix_t0, ix_t1, ix_t2, ix_t3, isNonD, rng1, List.length_cons, List.length_nil, Nat.reduceAdd, Nat.reduceLeDiff, line, Int.cast_ofNat_Int, Int.reduceEq, Int.reduceLT, Int.reduceLE, eq_self, ne_eq, not_false_eq_true, glob_MAX_CYCLE, glob_MAX_GAIN, glob_MAX_METERS, glob_MAX_PROGRAMS, glob_MAX_SAVE, glob_MAX_WEIGHT, *])
theorem take_ok {k : Nat} {cs : List Int} {t g m : Int} (hc : cs ≠ []) (ht : 0 ≤ t) (ht2 : t < 2 ^ 30) (hg : 0 ≤ g) (hm : 0 < m) (hm2 : m < 2 ^ 29) :
    ∃ r t' g', (orc3 pg (k + 1)).call f_law_take [.loc 0, .int m] (deck cs t g) = .ok (.int r) (deck cs t' g') ∧ 0 ≤ r ∧ r < m ∧ t' = t + 1 ∧ 0 ≤ g' := by
  have hm0 : m ≠ 0 := by omega
  have hm3 : m.natAbs < 1073741824 := by omega
  rw [run_law_take]
  unfold b_law_take
  by_cases h : 0 < g
  · walk_at "ev"
    exact ⟨_, _, _, rfl, Int.fmod_nonneg_of_pos _ hm, Int.fmod_lt_of_pos _ hm, rfl, by rw [Int.fdiv_eq_ediv_of_nonneg _ (by omega)]; exact Int.ediv_nonneg hg (by omega)⟩
  · have hl : 0 < cs.length := List.length_pos_iff.mpr hc
    let len : Int := cs.length
    let i := (t + 1).fmod len
    have hi0 : 0 ≤ i := Int.fmod_nonneg_of_pos _ (by omega)
    have hi1 : i < len := Int.fmod_lt_of_pos _ (by omega)
    obtain ⟨c, hcell⟩ : ∃ c, idxD (.lst (cs.map D.int)) (.int i) = some (.int c) := by
      refine ⟨cs[i.toNat]'(by omega), ?_⟩
      simp only [idxD, ixN, List.length_map]
      rw [if_pos hi0, if_pos hi1]
      simp
    have hlen : opF1 .len (.lst (cs.map D.int)) = some (.int len) := by simp [opF1, len]
    have hmodl : opB .mod (.int (t + 1)) (.int len) = some (.int i) := op_mod (by omega)
    let x := c.fmod 2147483497
    have hx0 : 0 ≤ x := Int.fmod_nonneg_of_pos _ (by decide)
    have hx1 : x < 2147483497 := Int.fmod_lt_of_pos _ (by decide)
    have hmx : opB .mod (.int c) (.int 2147483497) = some (.int x) := op_mod (by decide)
    have h1 : opB .mul (.int 80021) (.int (t + 1)) = some (.int (80021 * (t + 1))) := op_mulL (small_of (by decide) (by decide))
    let y := x + 80021 * (t + 1) + 29
    have h2 : opB .pow (.int (x + 80021 * (t + 1) + 29)) (.int 3) = some (.int (y ^ 3)) := op_pow (by decide) (by decide) (by omega)
    let z := (y ^ 3).fmod 2147483563
    have h3 : opB .mod (.int (y ^ 3)) (.int 2147483563) = some (.int z) := op_mod (by decide)
    have hz0 : 0 ≤ z := Int.fmod_nonneg_of_pos _ (by decide)
    have hz1 : z < 2147483563 := Int.fmod_lt_of_pos _ (by decide)
    have h4 : opB .mul (.int z) (.int 58787) = some (.int (z * 58787)) := op_mulR (small_of (by decide) (by decide))
    have h5 : opB .mul (.int 5639) (.int (t + 1)) = some (.int (5639 * (t + 1))) := op_mulL (small_of (by decide) (by decide))
    have h6 : opB .mul (.int (5639 * (t + 1))) (.int (t + 1)) = some (.int (5639 * (t + 1) * (t + 1))) := op_mulR (small_of (by omega) (by omega))
    have h7 : opB .mod (.int (z * 58787 + 5639 * (t + 1) * (t + 1))) (.int 2147483549) = some (.int ((z * 58787 + 5639 * (t + 1) * (t + 1)).fmod 2147483549)) := op_mod (by decide)
    have h8 : ∀ a : Int, opB .fdiv (.int a) (.int 3) = some (.int (a.fdiv 3)) := fun a => op_div (by decide) (by decide)
    walk_at "ev"
    exact ⟨_, _, _, rfl, Int.fmod_nonneg_of_pos _ hm, Int.fmod_lt_of_pos _ hm, rfl, hg⟩

/-- the deck, at most n draws from the start -/
def Dk (n : Nat) (μ : Sto) : Prop := ∃ cs t g, μ = deck cs t g ∧ cs ≠ [] ∧ 0 ≤ t ∧ t ≤ (n : Int) ∧ 0 ≤ g
theorem Dk.mono {n m : Nat} {μ : Sto} (h : Dk n μ) (hl : n ≤ m) : Dk m μ := by
  obtain ⟨cs, t, g, h1, h2, h3, h4, h5⟩ := h
  exact ⟨cs, t, g, h1, h2, h3, by omega, h5⟩
theorem take_dk {k n : Nat} {μ : Sto} {m : Int} (h : Dk n μ) (hn : n < 2 ^ 29) (hm : 0 < m) (hm2 : m < 2 ^ 29) :
    ∃ r μ', (orc3 pg (k + 1)).call f_law_take [.loc 0, .int m] μ = .ok (.int r) μ' ∧ 0 ≤ r ∧ r < m ∧ Dk (n + 1) μ' := by
  obtain ⟨cs, t, g, rfl, h2, h3, h4, h5⟩ := h
  obtain ⟨r, t', g', e, r0, r1, ht, hg⟩ := take_ok (k := k) h2 h3 (by omega) h5 hm hm2
  exact ⟨r, _, e, r0, r1, cs, t', g', rfl, h2, by omega, by omega, hg⟩
theorem one_dk {k n : Nat} {μ : Sto} {xs : List D} (h : Dk n μ) (hn : n < 2 ^ 29) (h1 : xs ≠ []) (h2 : xs.length < 2 ^ 20) :
    ∃ d μ', (orc3 pg (k + 2)).call f_law_one [.loc 0, .lst xs] μ = .ok d μ' ∧ d ∈ xs ∧ Dk (n + 1) μ' := by
  have hl : 0 < xs.length := List.length_pos_iff.mpr h1
  obtain ⟨r, μ', e, r0, r1, hd⟩ := take_dk (k := k) (m := (xs.length : Int)) h hn (by omega) (by omega)
  have hlen : opF1 .len (.lst xs) = some (.int xs.length) := rfl
  have hix : idxD (.lst xs) (.int r) = some (xs[r.toNat]'(by omega)) := by
    simp only [idxD, ixN]
    rw [if_pos r0, if_pos r1]
    simp
  refine ⟨xs[r.toNat]'(by omega), μ', ?_, List.getElem_mem _, hd⟩
  rw [run_law_one]
  unfold b_law_one
  walk_at "ev"
/-! ### integers judged -/
def isW (v : D) (lo hi : Int) : Bool := match v with
  | .int i => decide (lo ≤ i) && decide (i ≤ hi)
  | _ => false
def tyB (d : D) : Bool := (tyOf d).isSome
def tyI (d : D) : Bool := match d with | .int _ => true | .bl _ => true | _ => false
def tyBl (d : D) : Bool := match d with | .bl _ => true | _ => false
def tyTup (d : D) : Bool := match d with | .tup _ => true | _ => false
theorem isi_int {P : Pg} {μ : Sto} {d : D} (h : tyB d = true) : isTs P μ d [.int] = some (tyI d) := by
  cases d <;> first | rfl | cases h
theorem isi_bool {P : Pg} {μ : Sto} {d : D} (h : tyB d = true) : isTs P μ d [.bool] = some (tyBl d) := by
  cases d <;> first | rfl | cases h
theorem isi_tup {P : Pg} {μ : Sto} {d : D} (h : tyB d = true) : isTs P μ d [.tuple] = some (tyTup d) := by
  cases d <;> first | rfl | cases h
theorem ch_le (μ : Sto) (a b : Int) : opC μ .le (.int a) (.int b) = some (.bl (decide (a ≤ b))) := rfl
theorem is_integer_ok {k : Nat} {v : D} {lo hi : Int} {μ : Sto} (h : tyB v = true) : (orc3 pg (k + 1)).call f_is_integer [v, .int lo, .int hi] μ = .ok (.bl (isW v lo hi)) μ := by
  rw [run_is_integer]
  unfold b_is_integer
  have h1 := isi_int (P := pg) (μ := μ) h
  have h2 := isi_bool (P := pg) (μ := μ) h
  cases v with
  | int i =>
    simp only [tyI, tyBl] at h1 h2
    walk_at "ev"
    by_cases h3 : lo ≤ i
    · by_cases h4 : i ≤ hi <;> simp [isW, h3, h4, ofO, bind_ok, then_ok, endFn, rbind_ok, evAnd]
    · simp [isW, h3, ofO, bind_ok, then_ok, endFn, rbind_ok, evAnd]
  | bl b => simp only [tyI, tyBl] at h1 h2; walk_at "ev"; rfl
  | non => simp only [tyI] at h1; walk_at "ev"; rfl
  | str s => simp only [tyI] at h1; walk_at "ev"; rfl
  | tup xs => simp only [tyI] at h1; walk_at "ev"; rfl
  | lst xs => simp only [tyI] at h1; walk_at "ev"; rfl
  | dct kvs => simp only [tyI] at h1; walk_at "ev"; rfl
  | _ => cases h
def isA (v : D) (many lo hi : Int) : Bool := match v with
  | .tup xs => decide ((xs.length : Int) = many) && xs.all fun x => isW x lo hi
  | _ => false
theorem are_integers_ok {k : Nat} {v : D} {many lo hi : Int} {μ : Sto} (h : tyB v = true) (he : ∀ xs, v = .tup xs → xs.length ≤ line ∧ ∀ x ∈ xs, tyB x = true) :
    (orc3 pg (k + 2)).call f_are_integers [v, .int many, .int lo, .int hi] μ = .ok (.bl (isA v many lo hi)) μ := by
  rw [run_are_integers]
  unfold b_are_integers
  have h1 := isi_tup (P := pg) (μ := μ) h
  cases v with
  | tup xs =>
    obtain ⟨hl, hx⟩ := he xs rfl
    simp only [tyTup] at h1
    by_cases hn : (xs.length : Int) = many
    · walk_at "ev"
      generalize hm : mapR _ xs _ _ = r
      obtain rfl := mapR_pureE hm (fun x => .bl (isW x lo hi)) fun x hx' => by
        unfold compG
        have h2 := is_integer_ok (k := k) (v := x) (lo := lo) (hi := hi) (μ := μ) (hx x hx')
        walk_at "ev"
      have hl2 : (xs.map fun x => D.bl (isW x lo hi)).length ≤ line := by rw [List.length_map]; exact hl
      have h3 := allB_map (g := fun x => isW x lo hi) (xs := xs)
      walk_at "ev"
      simp [isA, hn]
    · walk_at "ev"
      simp [isA, hn]
  | non => simp only [tyTup] at h1; walk_at "ev"; rfl
  | bl b => simp only [tyTup] at h1; walk_at "ev"; rfl
  | int i => simp only [tyTup] at h1; walk_at "ev"; rfl
  | str s => simp only [tyTup] at h1; walk_at "ev"; rfl
  | lst xs => simp only [tyTup] at h1; walk_at "ev"; rfl
  | dct kvs => simp only [tyTup] at h1; walk_at "ev"; rfl
  | _ => cases h
/-! ### books -/
structure MOk (P C : Int) (d : D) : Prop where
  ex : ∃ ws gs s l, d = .tup [.tup ws, .tup gs, .int s, .int l] ∧ (ws.length : Int) = P ∧ (∀ w ∈ ws, ∃ i, w = .int i ∧ -2 ≤ i ∧ i ≤ 2) ∧ (gs.length : Int) = C ∧ (∀ g ∈ gs, ∃ i, g = .int i ∧ 0 ≤ i ∧ i ≤ 6) ∧ 0 ≤ s ∧ s ≤ 4 ∧ 0 ≤ l ∧ l ≤ 4
structure POk (P C : Int) (ms : List D) : Prop where
  p0 : 1 ≤ P
  p1 : P ≤ 3
  c0 : 1 ≤ C
  c1 : C ≤ 3
  m : ms.length ≤ 2
  ms : ∀ d ∈ ms, MOk P C d
abbrev partsD (P C : Int) (ms : List D) : D := .tup [.int P, .int C, .tup ms]
abbrev bookD (P C : Int) (ms : List D) : D := .obj c_Book [(at_parts, partsD P C ms)]
theorem isA_ints {ws : List D} {n lo hi : Int} (hl : (ws.length : Int) = n) (h : ∀ w ∈ ws, ∃ i, w = .int i ∧ lo ≤ i ∧ i ≤ hi) : isA (.tup ws) n lo hi = true := by
  simp only [isA, Bool.and_eq_true, decide_eq_true_eq, List.all_eq_true]
  refine ⟨hl, fun w hw => ?_⟩
  obtain ⟨i, rfl, h1, h2⟩ := h w hw
  simp [isW, h1, h2]
theorem ty_ints {ws : List D} {lo hi : Int} (h : ∀ w ∈ ws, ∃ i, w = .int i ∧ lo ≤ i ∧ i ≤ hi) (hl : ws.length ≤ line) : ∀ xs, D.tup ws = .tup xs → xs.length ≤ line ∧ ∀ x ∈ xs, tyB x = true := fun xs e => by
  cases e
  refine ⟨hl, fun x hx => ?_⟩
  obtain ⟨i, rfl, _⟩ := h x hx
  rfl
theorem meter_word_ok {k : Nat} {P C : Int} {d : D} {μ : Sto} (h : MOk P C d) (hp : P ≤ 1000) (hc : C ≤ 1000) : (orc3 pg (k + 3)).call f_meter_word [.int P, .int C, d] μ = .ok .non μ := by
  obtain ⟨ws, gs, s, l, rfl, h1, h2, h3, h4, h5, h6, h7, h8⟩ := h.ex
  rw [run_meter_word]
  unfold b_meter_word
  have i1 := isi_tup (P := pg) (μ := μ) (d := .tup [.tup ws, .tup gs, .int s, .int l]) rfl
  simp only [tyTup] at i1
  have e1 := are_integers_ok (k := k) (v := .tup ws) (many := P) (lo := 0 - 2) (hi := 2) (μ := μ) rfl (ty_ints h2 (by unfold line; omega))
  rw [isA_ints (lo := 0 - 2) (hi := 2) h1 fun w hw => let ⟨i, e, a, b⟩ := h2 w hw; ⟨i, e, by omega, b⟩] at e1
  have e2 := are_integers_ok (k := k) (v := .tup gs) (many := C) (lo := 0) (hi := 6) (μ := μ) rfl (ty_ints h4 (by unfold line; omega))
  rw [isA_ints h3 h4] at e2
  have e3 := is_integer_ok (k := k + 1) (v := .int s) (lo := 0) (hi := 4) (μ := μ) rfl
  have e4 := is_integer_ok (k := k + 1) (v := .int l) (lo := 0) (hi := 4) (μ := μ) rfl
  have w1 : isW (.int s) 0 4 = true := by simp [isW, h5, h6]
  have w2 : isW (.int l) 0 4 = true := by simp [isW, h7, h8]
  rw [w1] at e3
  rw [w2] at e4
  have l4 : (([.tup ws, .tup gs, .int s, .int l] : List D).length : Int) = 4 := rfl
  walk_at "ev"
theorem enum_mem {xs : List D} {x : D} (h : x ∈ enumL xs) : ∃ (i : Nat) (y : D), y ∈ xs ∧ x = .tup [.int i, y] := by
  unfold enumL at h
  obtain ⟨i, hi, e⟩ := List.mem_iff_getElem.mp h
  rw [List.getElem_zipWith] at e
  exact ⟨_, _, List.getElem_mem _, e.symm⟩
theorem check_book_ok {k : Nat} {P C : Int} {ms : List D} {μ : Sto} (h : POk P C ms) : (orc3 pg (k + 4)).call f_check_book [.int P, .int C, .tup ms] μ = .ok .non μ := by
  have h' := h
  obtain ⟨p0, p1, c0, c1, hm, hms⟩ := h'
  rw [run_check_book]
  unfold b_check_book
  have e1 := is_integer_ok (k := k + 2) (v := .int P) (lo := 1) (hi := 3) (μ := μ) rfl
  have e2 := is_integer_ok (k := k + 2) (v := .int C) (lo := 1) (hi := 3) (μ := μ) rfl
  have w1 : isW (.int P) 1 3 = true := by simp [isW, p0, p1]
  have w2 : isW (.int C) 1 3 = true := by simp [isW, c0, c1]
  rw [w1] at e1
  rw [w2] at e2
  have i1 := isi_tup (P := pg) (μ := μ) (d := .tup ms) rfl
  simp only [tyTup] at i1
  have l4 : ¬ ((2 : Int) < (ms.length : Int)) := by omega
  walk_at "ev"
  generalize hl : loopF _ (enumL ms) _ _ = r
  obtain ⟨env', μ', rfl, a, b, c, rfl, rfl⟩ := loopF_invE hl (fun _ env μ' => ∃ a b c, env = [.val (.int P), .val (.int C), .val (.tup ms), a, b, c] ∧ μ' = μ) 0 1 ⟨_, _, _, rfl, rfl⟩ (by decide) fun x hx j env μ' _ _ hI => by
    obtain ⟨a, b, c, rfl, rfl⟩ := hI
    obtain ⟨i, y, hy, rfl⟩ := enum_mem hx
    unfold loopB
    have e3 := meter_word_ok (k := k) (μ := μ') (hms y hy) (by omega) (by omega)
    walk_at "ev"
    exact ⟨_, _, rfl, _, _, _, rfl, rfl⟩
  walk_at "ev"
theorem new_book {k : Nat} {P C : Int} {ms : List D} {μ : Sto} (h : POk P C ms) : newObj pg (orc3 pg (k + 5)) c_Book [.int P, .int C, .tup ms] μ = .ok (bookD P C ms) μ := by
  unfold newObj
  rw [cls_Book]
  dsimp only
  rw [run_Book_init]
  unfold b_Book_init
  have e1 := check_book_ok (k := k) (μ := μ) h
  have e2 : insO pg at_parts (partsD P C ms) (.ins c_Book []) = some (.ins c_Book [(at_parts, partsD P C ms)]) := rfl
  have l3 : ([.int P, .int C, .tup ms] : List D).length ≤ line := show 3 ≤ line by decide
  simp only [evI, evE, evEs, List.getElem?_cons_zero, List.getElem?_cons_succ, bind_ok, e1, e2, l3, if_true]
theorem prop_programs {k : Nat} {P C : Int} {ms : List D} {μ : Sto} : attrD pg (orc3 pg (k + 1)) at_programs (bookD P C ms) μ = .ok (.int P) μ := by
  have e0 : attrD pg (orc3 pg k) at_parts (bookD P C ms) μ = .ok (partsD P C ms) μ := rfl
  have e1 : attrD pg (orc3 pg (k + 1)) at_programs (bookD P C ms) μ = match (orc3 pg (k + 1)).call f_Book_programs [bookD P C ms] μ with | .ok r μ' => .ok r μ' | _ => .bad := rfl
  rw [e1, run_Book_programs]
  unfold b_Book_programs
  walk_at "ev"
theorem prop_cycle {k : Nat} {P C : Int} {ms : List D} {μ : Sto} : attrD pg (orc3 pg (k + 1)) at_cycle (bookD P C ms) μ = .ok (.int C) μ := by
  have e0 : attrD pg (orc3 pg k) at_parts (bookD P C ms) μ = .ok (partsD P C ms) μ := rfl
  have e1 : attrD pg (orc3 pg (k + 1)) at_cycle (bookD P C ms) μ = match (orc3 pg (k + 1)).call f_Book_cycle [bookD P C ms] μ with | .ok r μ' => .ok r μ' | _ => .bad := rfl
  rw [e1, run_Book_cycle]
  unfold b_Book_cycle
  walk_at "ev"
theorem prop_meters {k : Nat} {P C : Int} {ms : List D} {μ : Sto} : attrD pg (orc3 pg (k + 1)) at_meters (bookD P C ms) μ = .ok (.tup ms) μ := by
  have e0 : attrD pg (orc3 pg k) at_parts (bookD P C ms) μ = .ok (partsD P C ms) μ := rfl
  have e1 : attrD pg (orc3 pg (k + 1)) at_meters (bookD P C ms) μ = match (orc3 pg (k + 1)).call f_Book_meters [bookD P C ms] μ with | .ok r μ' => .ok r μ' | _ => .bad := rfl
  rw [e1, run_Book_meters]
  unfold b_Book_meters
  walk_at "ev"
/-! ### draws -/
theorem a2_ints {α : Type} {is : List α} {xs : List D} {lo hi : Int} {R : α → D → Prop} (h : A2 R is xs) (hr : ∀ a d, R a d → ∃ i, d = .int i ∧ lo ≤ i ∧ i ≤ hi) : ∀ x ∈ xs, ∃ i, x = .int i ∧ lo ≤ i ∧ i ≤ hi := A2.all hr h
theorem meter_dk {k n : Nat} {μ : Sto} {P C : Int} (h : Dk n μ) (hn : n < 2 ^ 28) (p0 : 1 ≤ P) (p1 : P ≤ 3) (c0 : 1 ≤ C) (c1 : C ≤ 3) :
    ∃ d μ', (orc3 pg (k + 3)).call f_law_meter [.loc 0, .int P, .int C] μ = .ok d μ' ∧ MOk P C d ∧ Dk (n + 8) μ' := by
  rw [run_law_meter]
  unfold b_law_meter
  have r1 : rangeL [.int P] = some ((List.range P.toNat).map fun (k : Nat) => D.int (k : Int)) := rng1 (by omega) (by omega)
  have r2 : rangeL [.int C] = some ((List.range C.toNat).map fun (k : Nat) => D.int (k : Int)) := rng1 (by omega) (by omega)
  have lP : ((List.range P.toNat).map fun (k : Nat) => D.int (k : Int)).length ≤ 3 := by simp; omega
  have lC : ((List.range C.toNat).map fun (k : Nat) => D.int (k : Int)).length ≤ 3 := by simp; omega
  walk_at "ev"
  generalize hm : mapR _ _ _ μ = r
  obtain ⟨ws, μ1, rfl, d1, a1⟩ := mapR_drawE hm Dk (fun _ d => ∃ i, d = .int i ∧ -2 ≤ i ∧ i ≤ 2) n 1 h (by decide) fun x hx j μ' h1 h2 hI => by
    obtain ⟨d, μ2, e, hd, h3⟩ := one_dk (k := k) (xs := [.int 1, .int 1, .int 1, .int 0, .int 2, .int (-1), .int (-2)]) hI (by omega) (by simp) (by decide)
    unfold compG
    walk_at "ev"
    exact ⟨_, _, rfl, h3, mem_ints (is := [1, 1, 1, 0, 2, -1, -2]) hd (by decide)⟩
  have wl2 : ws.length ≤ 16777216 := by have := a1.len; simp at this; omega
  walk_at "ev"
  generalize hm2 : mapR _ _ _ μ1 = r
  obtain ⟨gs, μ2, rfl, d2, a2⟩ := mapR_drawE hm2 Dk (fun _ d => ∃ i, d = .int i ∧ 0 ≤ i ∧ i ≤ 6) _ 1 d1 (by decide) fun x hx j μ' h1 h2 hI => by
    obtain ⟨d, μ2, e, hd, h3⟩ := one_dk (k := k) (xs := [.int 0, .int 1, .int 1, .int 2, .int 3, .int 4, .int 5, .int 6]) hI (by omega) (by simp) (by decide)
    unfold compG
    walk_at "ev"
    exact ⟨_, _, rfl, h3, mem_ints (is := [0, 1, 1, 2, 3, 4, 5, 6]) hd (by decide)⟩
  have gl2 : gs.length ≤ 16777216 := by have := a2.len; simp at this; omega
  obtain ⟨s, μ3, e3, hs, d3⟩ := one_dk (k := k) (xs := [.int 0, .int 0, .int 1, .int 2, .int 3, .int 4]) d2 (by omega) (by simp) (by decide)
  obtain ⟨l, μ4, e4, hl, d4⟩ := one_dk (k := k) (xs := [.int 0, .int 0, .int 1, .int 2, .int 3, .int 4]) d3 (by omega) (by simp) (by decide)
  obtain ⟨s', rfl, s0, s1⟩ := mem_ints (is := [0, 0, 1, 2, 3, 4]) (lo := 0) (hi := 4) hs (by decide)
  obtain ⟨l', rfl, l0, l1⟩ := mem_ints (is := [0, 0, 1, 2, 3, 4]) (lo := 0) (hi := 4) hl (by decide)
  walk_at "ev"
  have wl : ws.length = P.toNat := by rw [a1.len]; simp
  have gl : gs.length = C.toNat := by rw [a2.len]; simp
  exact ⟨_, _, rfl, ⟨_, _, _, _, rfl, by omega, a2_ints a1 fun _ _ z => z, by omega, a2_ints a2 fun _ _ z => z, s0, s1, l0, l1⟩, d4.mono (by omega)⟩
theorem parts_dk {k n : Nat} {μ : Sto} {P : Int} (h : Dk n μ) (hn : n < 2 ^ 27) (p0 : 1 ≤ P) (p1 : P ≤ 3) :
    ∃ C ms μ', (orc3 pg (k + 4)).call f_law_parts [.loc 0, .int P] μ = .ok (partsD P C ms) μ' ∧ POk P C ms ∧ Dk (n + 18) μ' := by
  rw [run_law_parts]
  unfold b_law_parts
  obtain ⟨c, μ1, e1, c0, c1, d1⟩ := take_dk (k := k + 2) (m := 3) h (by omega) (by decide) (by decide)
  obtain ⟨x, μ2, e2, hx, d2⟩ := one_dk (k := k + 1) (xs := [.int 0, .int 1, .int 1, .int 2, .int 2]) d1 (by omega) (by simp) (by decide)
  obtain ⟨m, rfl, m0, m1⟩ := mem_ints (is := [0, 1, 1, 2, 2]) (lo := 0) (hi := 2) hx (by decide)
  have r1 : rangeL [.int m] = some ((List.range m.toNat).map fun (k : Nat) => D.int (k : Int)) := rng1 (by omega) (by omega)
  walk_at "ev"
  generalize hm : mapR _ _ _ μ2 = r
  have lm : ((List.range m.toNat).map fun (k : Nat) => D.int (k : Int)).length ≤ 2 := by simp; omega
  obtain ⟨ms, μ3, rfl, d3, a3⟩ := mapR_drawE hm Dk (fun _ d => MOk P (1 + c) d) _ 8 d2 (by decide) fun x hx j μ' h1 h2 hI => by
    obtain ⟨d, μ4, e, hd, h3⟩ := meter_dk (k := k) hI (by omega) p0 p1 (show 1 ≤ 1 + c by omega) (show 1 + c ≤ 3 by omega)
    unfold compG
    walk_at "ev"
    exact ⟨_, _, rfl, h3, hd⟩
  have ml : ms.length ≤ 2 := by rw [a3.len]; exact lm
  have ml2 : ms.length ≤ 16777216 := by omega
  walk_at "ev"
  exact ⟨_, _, _, rfl, ⟨p0, p1, by omega, by omega, ml, A2.all (P := fun d => MOk P (1 + c) d) (fun _ _ z => z) a3⟩, d3.mono (by omega)⟩
def oddD : List D := [.non, .bl true, .bl false, .int (-1), .int 0, .int 1, .int 2, .int 3, .int 4, .int 5, .int 7, .int 100000000000000000000000000000000000000000000000000000000000, .int (-10000000000000000000000000000000000000000), .str (Str.ofString ""), .str (Str.ofString "0"), .str (Str.ofString "02"), .tup [],
  .tup [.int 0], .tup [.int 1, .int 2], .tup [.int 0, .tup [.int 0]], .tup [.int 0, .tup []], .tup [.tup [.int 0]], .lst [], .lst [.int 0], .dct [], .dct [(.str (Str.ofString "a"), .int 1)], .tup [.int 0, .int 0, .int 0], .tup [.tup [], .tup []],
  .tup [.non], .str (Str.ofString "meter"), .tup [.bl true], .tup [.int 0, .bl true], .tup [.lst []], .tup [.int (-1), .int 2]]
theorem odd_nv : ∀ d ∈ oddD, nvB 8 3 d = true := List.all_eq_true.mp (by decide +kernel)
theorem odd_mem_dk {k n : Nat} {μ : Sto} (h : Dk n μ) (hn : n < 2 ^ 28) :
    ∃ d μ', (orc3 pg (k + 3)).call f_law_odd [.loc 0] μ = .ok d μ' ∧ d ∈ oddD ∧ Dk (n + 1) μ' := by
  obtain ⟨d, μ', e, hd, h2⟩ := one_dk (k := k) (xs := oddD) h (by omega) (by simp [oddD]) (by decide)
  refine ⟨d, μ', ?_, hd, h2⟩
  rw [run_law_odd]
  unfold b_law_odd
  have p1 : opB .pow (.int 10) (.int 59) = some (.int 100000000000000000000000000000000000000000000000000000000000) := by rfl
  have p2 : opB .pow (.int 10) (.int 40) = some (.int 10000000000000000000000000000000000000000) := by rfl
  have d1 : ∀ env μ, evE pg (orc3 pg (k + 2)) (.dic [] []) env μ = .ok (.dct []) μ := fun env μ => by simp only [evE, evEs, bind_ok]; rfl
  have d2 : ∀ env μ, evE pg (orc3 pg (k + 2)) (.dic [(.lit (.str (Str.ofString "a")))] [(.lit (.int 1))]) env μ = .ok (.dct [(.str (Str.ofString "a"), .int 1)]) μ := fun env μ => by simp only [evE, evEs, bind_ok]; rfl
  unfold oddD at e
  walk_at "ev"
theorem odd_dk {k n : Nat} {μ : Sto} (h : Dk n μ) (hn : n < 2 ^ 28) :
    ∃ d μ', (orc3 pg (k + 3)).call f_law_odd [.loc 0] μ = .ok d μ' ∧ nvB 8 3 d = true ∧ Dk (n + 1) μ' := by
  obtain ⟨d, μ', e, hd, h2⟩ := odd_mem_dk (k := k) h hn
  exact ⟨d, μ', e, odd_nv d hd, h2⟩
/-! ### the deck -/
theorem cut_map {α β : Type} {f : α → β} {xs : List α} {lo hi : Option Int} : cutL (xs.map f) lo hi = (cutL xs lo hi).map f := by
  unfold cutL
  rw [List.length_map, List.map_take, List.map_drop]
theorem f1_lenF {xs : List D} : opF1 .len (.frz xs) = some (.int xs.length) := rfl
theorem f1_abs {i : Int} : ∃ a, opF1 .abs (.int i) = some (.int a) ∧ 0 ≤ a := by
  refine ⟨_, rfl, ?_⟩
  split <;> omega
theorem to_dct {kvs : List (D × D)} : D.toO (.dct kvs) = some (.dct kvs) := rfl
theorem ev_dic3 {C : Orc} {vs : List E} {env : Env} {μ μ' : Sto} {a b c : D} (h : evEs pg C vs env μ = .ok [a, b, c] μ') :
    evE pg C (.dic [(.lit (.str (Str.ofString "cells"))), (.lit (.str (Str.ofString "turn"))), (.lit (.str (Str.ofString "great")))] vs) env μ = .ok (.dct [(.str "cells", a), (.str "turn", b), (.str "great", c)]) μ' := by
  simp only [evE, evEs, bind_ok, h]
  rfl
def deckB : List S := [.ite (.cmp .ge (.f1 .abs (.var 2)) (.bin .pow (.lit (.int 10)) (.lit (.int 18)))) [.set (.nm 1) (.bin .add (.bin .mul (.var 1) (.lit (.int 67))) (.f1 .abs (.var 2)))] []]
theorem deck_body : b_law_deck = [.set (.nm 1) (.lit (.int 0)), .forr (.nm 2) (.seq (.sli (.var 0) none (some (.lit (.int 60))))) deckB, .ret (some (.alloc (.dic [(.lit (.str (Str.ofString "cells"))), (.lit (.str (Str.ofString "turn"))), (.lit (.str (Str.ofString "great")))] [(.bin .add (.f1 .list (.sli (.var 0) none (some (.lit (.int 60))))) (.lst [(.bin .add (.f1 .len (.var 0)) (.lit (.int 13)))])), (.lit (.int 0)), (.var 1)])))] := rfl
theorem deck_ok {k : Nat} {ns : List Int} (hn : ns.length ≤ 63) : ∃ μ', (orc3 pg (k + 1)).call f_law_deck [.frz (ns.map D.int)] [] = .ok (.loc 0) μ' ∧ Dk 0 μ' := by
  rw [run_law_deck, deck_body]
  have cm : cutL (ns.map D.int) none (some 60) = (cutL ns none (some 60)).map D.int := cut_map
  obtain ⟨env', μ', el, g, c, rfl, rfl, hg⟩ := loopF_inv (f := loopB pg (orc3 pg k) (.nm 2) deckB) (xs := (cutL ns none (some 60)).map D.int) (I := fun _ env μ' => ∃ g c, env = [.val (.frz (ns.map D.int)), .val (.int g), c] ∧ μ' = [] ∧ 0 ≤ g) (k := 0) (c := 1)
    (env := [.val (.frz (ns.map D.int)), .val (.int 0), .un]) (μ := []) ⟨0, _, rfl, rfl, by decide⟩ (by decide) fun x hx j env μ' _ _ hI => by
    obtain ⟨g, c, rfl, rfl, hg⟩ := hI
    obtain ⟨i, _, rfl⟩ := List.mem_map.mp hx
    obtain ⟨a, ea, ha⟩ := f1_abs (i := i)
    have p1 : opB .pow (.int 10) (.int 18) = some (.int 1000000000000000000) := by rfl
    have p2 : opB .mul (.int g) (.int 67) = some (.int (g * 67)) := op_mulR (small_of (by decide) (by decide))
    unfold loopB deckB
    clear cm
    by_cases h : (1000000000000000000 : Int) ≤ a
    · walk_at "ev"
      exact ⟨_, _, rfl, _, _, rfl, rfl, by omega⟩
    · walk_at "ev"
      exact ⟨_, _, rfl, _, _, rfl, rfl, hg⟩
  have t1 : evS pg (orc3 pg k) (.set (.nm 1) (.lit (.int 0))) [.val (.frz (ns.map D.int)), .un, .un] [] = .ok (.nxt [.val (.frz (ns.map D.int)), .val (.int 0), .un]) [] := by
    clear el cm
    walk_at "ev"
  have t2 : evS pg (orc3 pg k) (.forr (.nm 2) (.seq (.sli (.var 0) none (some (.lit (.int 60))))) deckB) [.val (.frz (ns.map D.int)), .val (.int 0), .un] [] = .ok (.nxt [.val (.frz (ns.map D.int)), .val (.int g), c]) [] := by
    have e0 : evIt pg (orc3 pg k) (.seq (.sli (.var 0) none (some (.lit (.int 60))))) [.val (.frz (ns.map D.int)), .val (.int 0), .un] [] = .ok ((cutL ns none (some 60)).map D.int) [] := by
      clear el t1
      walk_at "ev"
    rw [ev_for, e0, then_ok, el]
  have l1 : ((cutL ns none (some 60)).map D.int).length ≤ 63 := by rw [List.length_map]; exact Nat.le_trans cut_le hn
  obtain ⟨N, hN⟩ : ∃ N : Int, N = (ns.map D.int).length := ⟨_, rfl⟩
  have e1 : opF1 .len (.frz (ns.map D.int)) = some (.int N) := by rw [hN]; rfl
  have e2 : opB .add (.lst ((cutL ns none (some 60)).map D.int)) (.lst [.int (N + 13)]) = some (.lst ((cutL ns none (some 60) ++ [N + 13]).map D.int)) := by
    rw [op_addL (by simp [line] at l1 ⊢; omega), List.map_append]
    rfl
  have e3 : evEs pg (orc3 pg k) [(.bin .add (.f1 .list (.sli (.var 0) none (some (.lit (.int 60))))) (.lst [(.bin .add (.f1 .len (.var 0)) (.lit (.int 13)))])), (.lit (.int 0)), (.var 1)] [.val (.frz (ns.map D.int)), .val (.int g), c] [] =
      .ok [.lst ((cutL ns none (some 60) ++ [N + 13]).map D.int), .int 0, .int g] [] := by
    clear l1 hN hn hg el t1 t2
    walk_at "ev"
  have e4 := ev_dic3 e3
  have t3 : evS pg (orc3 pg k) (.ret (some (.alloc (.dic [(.lit (.str (Str.ofString "cells"))), (.lit (.str (Str.ofString "turn"))), (.lit (.str (Str.ofString "great")))] [(.bin .add (.f1 .list (.sli (.var 0) none (some (.lit (.int 60))))) (.lst [(.bin .add (.f1 .len (.var 0)) (.lit (.int 13)))])), (.lit (.int 0)), (.var 1)]))))
      [.val (.frz (ns.map D.int)), .val (.int g), c] [] = .ok (.ret (.loc 0)) (deck (cutL ns none (some 60) ++ [N + 13]) 0 g) := by
    rw [evS]
    rw [evE, e4]
    rfl
  exact ⟨_, by simp only [evSs, t1, t2, t3, rbind_ok, endFn_ret], cutL ns none (some 60) ++ [N + 13], 0, g, rfl, by simp, by decide, by decide, hg⟩
theorem nv_repr {d : D} (h : nvB 8 4 d = true) : ∃ s, reprD d = some s := repr_nv (m := 8) (j := 4) h (by decide) (by decide)
theorem bl_repr (b : Bool) : ∃ s, reprD (.bl b) = some s := repr_nv (m := 8) (j := 0) (d := .bl b) rfl (by decide) (by decide)
/-! ### values without dicts -/
def ndL : D → Bool
  | .non => true | .bl _ => true | .int _ => true | .str s => (PySem.PyData.str s).canLay0 | _ => false
def ndB : Nat → D → Bool
  | 0, d => ndL d
  | j + 1, d => match d with
    | .tup xs => xs.all (ndB j)
    | .lst xs => xs.all (ndB j)
    | d => ndL d
theorem nd_leaf {d : D} (h : ndL d = true) : ∃ p, toP d = some p ∧ p.canLay0 = true ∧ p.depth ≤ 1 := by
  cases d with
  | non => exact ⟨.none, rfl, rfl, by decide⟩
  | bl b => exact ⟨.bool b, rfl, rfl, by simp [PySem.PyData.depth]⟩
  | int i => exact ⟨.int i, rfl, rfl, by simp [PySem.PyData.depth]⟩
  | str s => exact ⟨.str s, rfl, h, by simp [PySem.PyData.depth]⟩
  | _ => cases h
theorem nd_all {k : Nat} : ∀ {xs : List D}, (∀ x ∈ xs, ∃ p, toP x = some p ∧ p.canLay0 = true ∧ p.depth ≤ k) → ∃ ps, toPs xs = some ps ∧ PySem.PyData.canLayAll0 ps = true ∧ PySem.PyData.depthAll ps ≤ k
  | [], _ => ⟨[], rfl, rfl, by simp [PySem.PyData.depthAll]⟩
  | x :: xs, h => by
    obtain ⟨p, h1, h2, h3⟩ := h x List.mem_cons_self
    obtain ⟨ps, h4, h5, h6⟩ := nd_all fun y hy => h y (List.mem_cons_of_mem _ hy)
    refine ⟨p :: ps, by show (match toP x, toPs xs with | some p, some ps => some (p :: ps) | _, _ => none) = _; rw [h1, h4], ?_, ?_⟩
    · simp [PySem.PyData.canLayAll0, h2, h5]
    · simp only [PySem.PyData.depthAll]; omega
theorem nd_sh : ∀ {j : Nat} {d : D}, ndB j d = true → ∃ p, toP d = some p ∧ p.canLay0 = true ∧ p.depth ≤ j + 1
  | 0, d, h => nd_leaf h
  | j + 1, d, h => by
    have leaf : ndL d = true → ∃ p, toP d = some p ∧ p.canLay0 = true ∧ p.depth ≤ j + 1 + 1 := fun hl => by
      obtain ⟨p, h1, h2, h3⟩ := nd_leaf hl
      exact ⟨p, h1, h2, by omega⟩
    cases d with
    | tup xs =>
      have h : xs.all (ndB j) = true := h
      rw [List.all_eq_true] at h
      obtain ⟨ps, h1, h2, h3⟩ := nd_all fun x hx => nd_sh (h x hx)
      exact ⟨.tuple ps, by show (toPs xs).map PySem.PyData.tuple = _; rw [h1]; rfl, by simpa [PySem.PyData.canLay0] using h2, by simp only [PySem.PyData.depth]; omega⟩
    | lst xs =>
      have h : xs.all (ndB j) = true := h
      rw [List.all_eq_true] at h
      obtain ⟨ps, h1, h2, h3⟩ := nd_all fun x hx => nd_sh (h x hx)
      exact ⟨.list ps, by show (toPs xs).map PySem.PyData.list = _; rw [h1]; rfl, by simpa [PySem.PyData.canLay0] using h2, by simp only [PySem.PyData.depth]; omega⟩
    | non => exact leaf h
    | bl b => exact leaf h
    | int i => exact leaf h
    | str s => exact leaf h
    | _ => cases h
theorem shaped_of {p : PySem.PyData} (h1 : p.canLay0 = true) (h2 : p.depth ≤ 64) : PySem.SeqAt.shaped p = true := by
  unfold PySem.SeqAt.shaped
  rw [h1, decide_eq_true h2]
  rfl
/-! ### almost meters -/
structure WM (d : D) : Prop where
  ex : ∃ ws gs s l, d = .tup [.tup ws, .tup gs, s, l] ∧ ws.length ≤ 3 ∧ gs.length ≤ 3 ∧ (∀ x ∈ ws, leafB x = true ∧ ndL x = true) ∧ (∀ x ∈ gs, leafB x = true ∧ ndL x = true) ∧ (leafB s = true ∧ ndL s = true) ∧ leafB l = true ∧ ndL l = true
theorem eqD_nd {a b : D} {i j : Nat} (hi : i ≤ 60) (hj : j ≤ 60) (ha : ndB i a = true) (hb : ndB j b = true) : ∃ p q, toP a = some p ∧ toP b = some q ∧ eqD a b = some (PySem.PyData.eqv p q) := by
  obtain ⟨p, h1, h2, h3⟩ := nd_sh ha
  obtain ⟨q, h4, h5, h6⟩ := nd_sh hb
  refine ⟨p, q, h1, h4, ?_⟩
  unfold eqD
  rw [h1, h4]
  dsimp only
  rw [shaped_of h2 (by omega), shaped_of h5 (by omega)]
  rfl
/-! ### books compared -/
theorem parts_nd {P C : Int} {ms : List D} (h : POk P C ms) : ndB 4 (partsD P C ms) = true := by
  have a : ms.all (ndB 2) = true := List.all_eq_true.mpr fun x hx => by
    have := h.ms x hx
    obtain ⟨ws, gs, s, l, rfl, h1, h2, h3, h4, h5, h6, h7, h8⟩ := this.ex
    show ([D.tup ws, .tup gs, .int s, .int l].all (ndB 1)) = true
    have a : ws.all (ndB 0) = true := List.all_eq_true.mpr fun x hx => by obtain ⟨i, rfl, _⟩ := h2 x hx; rfl
    have b : gs.all (ndB 0) = true := List.all_eq_true.mpr fun x hx => by obtain ⟨i, rfl, _⟩ := h4 x hx; rfl
    have a' : ndB 1 (.tup ws) = true := a
    have b' : ndB 1 (.tup gs) = true := b
    simp only [List.all_cons, List.all_nil, a', b', Bool.and_true]
    rfl
  have b : ndB 3 (.tup ms) = true := a
  show ([D.int P, .int C, .tup ms].all (ndB 3)) = true
  simp only [List.all_cons, List.all_nil, b, Bool.and_true]
  rfl
theorem parts_cmp {P C P' C' : Int} {ms ms' : List D} (h : POk P C ms) (h' : POk P' C' ms') : ∃ b, eqD (partsD P C ms) (partsD P' C' ms') = some b ∧ eqD (partsD P' C' ms') (partsD P C ms) = some b := by
  obtain ⟨p, q, g1, g2, g3⟩ := eqD_nd (i := 4) (j := 4) (by decide) (by decide) (parts_nd h) (parts_nd h')
  obtain ⟨q', p', k1, k2, k3⟩ := eqD_nd (i := 4) (j := 4) (by decide) (by decide) (parts_nd h') (parts_nd h)
  rw [g1] at k2; rw [g2] at k1
  cases k1; cases k2
  exact ⟨_, g3, by rw [k3, PySem.W.eqv_comm]⟩
theorem oc_eqP {a b : List D} {r : Bool} {μ : Sto} (h : eqD (.tup a) (.tup b) = some r) : opC μ .eq (.tup a) (.tup b) = some (.bl r) := by
  have z : opC μ .eq (.tup a) (.tup b) = ((eqD (.tup a) (.tup b)).or ((eqL (.tup a) (.tup b)).or (eqN (.tup a) (.tup b)))).map D.bl := rfl
  rw [z, h]; rfl
theorem oc_neP {a b : List D} {r : Bool} {μ : Sto} (h : eqD (.tup a) (.tup b) = some r) : opC μ .ne (.tup a) (.tup b) = some (.bl (!r)) := by
  have z : opC μ .ne (.tup a) (.tup b) = ((eqD (.tup a) (.tup b)).or ((eqL (.tup a) (.tup b)).or (eqN (.tup a) (.tup b)))).map (fun x => D.bl (!x)) := rfl
  rw [z, h]; rfl
theorem book_eqs {k : Nat} {P C P' C' : Int} {ms ms' : List D} {b : Bool} {μ : Sto} (h : eqD (partsD P C ms) (partsD P' C' ms') = some b) : (orc3 pg (k + 1)).call f_Book_eq [bookD P C ms, bookD P' C' ms'] μ = .ok (.bl b) μ := by
  rw [run_Book_eq]
  unfold b_Book_eq
  have i1 : isTs pg μ (bookD P' C' ms') [.own 3] = some true := by rfl
  have a1 : attrD pg (orc3 pg k) at_parts (bookD P C ms) μ = .ok (partsD P C ms) μ := by rfl
  have a2 : attrD pg (orc3 pg k) at_parts (bookD P' C' ms') μ = .ok (partsD P' C' ms') μ := by rfl
  have e1 : opC μ .eq (partsD P C ms) (partsD P' C' ms') = some (.bl b) := oc_eqP h
  generalize bookD P C ms = B at *
  generalize partsD P C ms = T at *
  generalize bookD P' C' ms' = B' at *
  generalize partsD P' C' ms' = T' at *
  simp only [evSs, evS, evE, evB, evAnd, List.getElem?_cons_succ, List.getElem?_cons_zero, bind_ok, i1, Option.map_some, ofO_some, a1, a2, cmpD, e1, then_ok, rbind_ok, endFn_ret]
  cases b <;> rfl
theorem book_eq0 {k : Nat} {P C : Int} {ms : List D} {v : D} {μ : Sto} (h : tyB v = true) : (orc3 pg (k + 1)).call f_Book_eq [bookD P C ms, v] μ = .ok (.bl false) μ := by
  rw [run_Book_eq]
  unfold b_Book_eq
  have i1 : isTs pg μ v [.own 3] = some false := by cases v <;> first | rfl | cases h
  generalize bookD P C ms = B at *
  simp only [evSs, evS, evE, evB, evAnd, List.getElem?_cons_succ, List.getElem?_cons_zero, bind_ok, i1, Option.map_some, ofO_some, then_ok, rbind_ok, endFn_ret]
theorem own_eqs {k : Nat} {P C : Int} {ms : List D} {v : D} {b : Bool} {μ : Sto} (hk : knownD pg μ v = true) (e : (orc3 pg k).call f_Book_eq [bookD P C ms, v] μ = .ok (.bl b) μ) : ownC pg (orc3 pg k) false (bookD P C ms) v μ = .ok (.bl b) μ := by
  have hc : clsOf μ (bookD P C ms) = some c_Book := rfl
  unfold ownC
  rw [hc]
  dsimp only
  rw [cls_Book]
  simp only [ClK.isExc, Bool.false_eq_true, if_false, lookN, hk, if_true]
  simp
  rw [e]
theorem book_ne {k : Nat} {P C : Int} {ms : List D} {v : D} {b : Bool} {μ : Sto} (hk : knownD pg μ v = true) (e : (orc3 pg k).call f_Book_eq [bookD P C ms, v] μ = .ok (.bl b) μ) : (orc3 pg (k + 1)).call f_Book_ne [bookD P C ms, v] μ = .ok (.bl (!b)) μ := by
  rw [run_Book_ne]
  unfold b_Book_ne
  have e1 := own_eqs hk e
  generalize bookD P C ms = B at *
  simp only [evSs, evS, evE, evB, List.getElem?_cons_succ, List.getElem?_cons_zero, bind_ok, e1, then_ok, rbind_ok, endFn_ret]
theorem own_nes {k : Nat} {P C : Int} {ms : List D} {v : D} {b : Bool} {μ : Sto} (hk : knownD pg μ v = true) (e : (orc3 pg k).call f_Book_eq [bookD P C ms, v] μ = .ok (.bl b) μ) : ownC pg (orc3 pg (k + 1)) true (bookD P C ms) v μ = .ok (.bl (!b)) μ := by
  have e := book_ne hk e
  have hc : clsOf μ (bookD P C ms) = some c_Book := rfl
  unfold ownC
  rw [hc]
  dsimp only
  rw [cls_Book]
  simp only [ClK.isExc, Bool.false_eq_true, if_false, lookN, hk, if_true]
  simp
  rw [e]
/-! ### [] -/
theorem law_is_whole_ok {k : Nat} {v : D} {lo hi : Int} {μ : Sto} (h : tyB v = true) : (orc3 pg (k + 1)).call f_law_is_whole [v, .int lo, .int hi] μ = .ok (.bl (isW v lo hi)) μ := by
  have e := is_integer_ok (k := k) (v := v) (lo := lo) (hi := hi) (μ := μ) h
  rw [run_is_integer] at e
  rw [run_law_is_whole]
  exact e
theorem check_ok {k : Nat} {P C : Int} {ms : List D} {v : D} {μ : Sto} (h : tyB v = true) : (orc3 pg (k + 2)).call f_Book_check_number [bookD P C ms, v] μ = if isW v 0 ((ms.length : Int) - 1) then .ok .non μ else .exn (.own c_NoMeter [(at_number, v)]) μ := by
  rw [run_Book_check_number]
  unfold b_Book_check_number
  have e1 := prop_meters (k := k) (P := P) (C := C) (ms := ms) (μ := μ)
  have e2 : opF1 .len (.tup ms) = some (.int ms.length) := rfl
  have e3 := is_integer_ok (k := k) (v := v) (lo := 0) (hi := (ms.length : Int) - 1) (μ := μ) h
  have x1 : excFs pg c_NoMeter [v] = some [(at_number, v)] := rfl
  generalize (ms.length : Int) = N at *
  generalize bookD P C ms = B at *
  cases hw : isW v 0 (N - 1) with
  | true =>
    rw [hw] at e3
    simp only [evSs, evS, evE, evB, evEs, List.getElem?_cons_succ, List.getElem?_cons_zero, bind_ok, e1, f1D, der_tup, Option.bind_some, e2, ofO_some, op_sub, e3, Bool.not_true, then_ok, rbind_ok, endFn_nxt, if_true]
  | false =>
    rw [hw] at e3
    simp only [evSs, evS, evE, evB, evEs, List.getElem?_cons_succ, List.getElem?_cons_zero, bind_ok, e1, f1D, der_tup, Option.bind_some, e2, ofO_some, op_sub, e3, Bool.not_false, then_ok, rbind_ok, x1, Bool.false_eq_true, if_false]
    rfl
theorem get_ok {k : Nat} {P C : Int} {ms : List D} {v : D} {μ : Sto} (h : tyB v = true) : (orc3 pg (k + 3)).call f_Book_getitem [bookD P C ms, v] μ = if isW v 0 ((ms.length : Int) - 1) then ofO (idxD (.tup ms) v) μ else .exn (.own c_NoMeter [(at_number, v)]) μ := by
  have e0 := check_ok (k := k) (P := P) (C := C) (ms := ms) (μ := μ) h
  have e1 := prop_meters (k := k + 1) (P := P) (C := C) (ms := ms) (μ := μ)
  have m1 : methC pg at_check_number = some (c_Book, f_Book_check_number) := by rfl
  have m2 : decide (clsOf μ (bookD P C ms) = some c_Book) = true := by rfl
  have m3 : noFld μ (bookD P C ms) at_check_number = true := by rfl
  have m4 : at_check_number < 1000000 := by decide
  rw [run_Book_getitem]
  unfold b_Book_getitem
  generalize bookD P C ms = B at *
  generalize at_check_number = ck at *
  cases hw : isW v 0 ((ms.length : Int) - 1) with
  | true =>
    rw [hw, if_pos rfl] at e0
    have t1 : evS pg (orc3 pg (k + 2)) (.expr (.meth ck (.var 0) [(.var 1)])) [.val B, .val v] μ = .ok (.nxt [.val B, .val v]) μ := by
      simp only [evS, evE, evEs, List.getElem?_cons_succ, List.getElem?_cons_zero, bind_ok, if_pos m4, m1, m2, m3, Bool.and_self, if_true, e0, then_ok]
    have t2 : evS pg (orc3 pg (k + 2)) (.ret (some (.idx (.attr at_meters (.var 0)) (.var 1)))) [.val B, .val v] μ = (ofO (idxD (.tup ms) v) μ).then [.val B, .val v] fun d μ' => .ok (.ret d) μ' := by
      simp only [evS, evE, evB, List.getElem?_cons_succ, List.getElem?_cons_zero, bind_ok, e1, idxE, der_tup, Option.bind_some]
    simp only [evSs, t1, t2, rbind_ok, if_true]
    cases idxD (.tup ms) v <;> rfl
  | false =>
    rw [hw, if_neg Bool.false_ne_true] at e0
    have t1 : evS pg (orc3 pg (k + 2)) (.expr (.meth ck (.var 0) [(.var 1)])) [.val B, .val v] μ = .exn (.own c_NoMeter [(at_number, v)]) [.val B, .val v] μ := by
      simp only [evS, evE, evEs, List.getElem?_cons_succ, List.getElem?_cons_zero, bind_ok, if_pos m4, m1, m2, m3, Bool.and_self, if_true, e0, then_exn]
    simp only [evSs, t1, rbind_exn, Bool.false_eq_true, if_false]
    rfl
/-- what is told of a number -/
def itemD (ms : List D) (v : D) : Option D := if isW v 0 ((ms.length : Int) - 1) then (idxD (.tup ms) v).map fun y => .lst [.str (Str.ofString "meter"), y] else some (.lst [.str (Str.ofString "no"), v, .bl true])
theorem isW_at {ms : List D} {v : D} (h : isW v 0 ((ms.length : Int) - 1) = true) : ∃ y, idxD (.tup ms) v = some y ∧ y ∈ ms := by
  cases v <;> simp only [isW, Bool.false_eq_true, Bool.and_eq_true, decide_eq_true_eq] at h
  rename_i i
  obtain ⟨h0, h1⟩ := h
  refine ⟨ms[i.toNat]'(by omega), ?_, List.getElem_mem _⟩
  simp only [idxD, ixN]
  rw [if_pos h0, if_pos (by omega)]
  simp
theorem sp5 {C : Orc} {P C' : Int} {ms : List D} {v : D} {μ : Sto} : spD pg C (1000005 - 1000000) (bookD P C' ms) [v] μ = C.call f_Book_getitem [bookD P C' ms, v] μ := by
  have hc : clsOf μ (bookD P C' ms) = some c_Book := rfl
  unfold spD
  rw [hc]
  dsimp only
  rw [cls_Book]
  rfl
theorem item_ok {k : Nat} {P C : Int} {ms : List D} {v : D} {μ : Sto} (h : tyB v = true) : ∃ r, itemD ms v = some r ∧ (orc3 pg (k + 4)).call f_law_item [bookD P C ms, v] μ = .ok r μ := by
  have e0 := get_ok (k := k) (P := P) (C := C) (ms := ms) (μ := μ) h
  have s5 := sp5 (C := orc3 pg (k + 3)) (P := P) (C' := C) (ms := ms) (v := v) (μ := μ)
  rw [e0] at s5
  have m4 : ¬ (1000005 < 1000000) := by decide
  have x1 : isX pg c_NoMeter = true := rfl
  have x2 : supOf pg c_NoMeter (.inl 2) = true := rfl
  have x3 : supOf pg c_NoMeter (.inr "LookupError") = true := rfl
  have x4 : supOf pg c_NoMeter (.inr "ValueError") = false := by decide +kernel
  have x5 : lookN [(at_number, v)] at_number = some v := rfl
  rw [run_law_item]
  unfold b_law_item itemD
  generalize bookD P C ms = B at *
  cases hw : isW v 0 ((ms.length : Int) - 1) with
  | true =>
    obtain ⟨y, ey, _⟩ := isW_at hw
    rw [hw, if_pos rfl, ey] at s5
    refine ⟨_, by rw [if_pos rfl, ey]; rfl, ?_⟩
    have s5 : spD pg (orc3 pg (k + 3)) (1000005 - 1000000) B [v] μ = .ok y μ := s5
    simp only [evSs, evS, evE, evEs, List.getElem?_cons_succ, List.getElem?_cons_zero, bind_ok, if_neg m4, s5, List.length_cons, List.length_nil, Nat.reduceAdd, line, Nat.reduceLeDiff, if_true, then_ok, setT, nxtO_some, List.set_cons_succ, List.set_cons_zero, rbind_ok, catchS, endFn_ret]
  | false =>
    rw [hw, if_neg Bool.false_ne_true] at s5
    refine ⟨_, by rw [if_neg Bool.false_ne_true], ?_⟩
    simp only [evSs, evS, evE, evEs, List.getElem?_cons_succ, List.getElem?_cons_zero, bind_ok, if_neg m4, s5, bind_exn, then_exn, rbind_exn, catchS, x1, x2, x3, x4, x5, if_true, catchL, evHSs, evHS, evH, evHs', evHand, Option.bind_some, Option.map_some, Bool.not_false, rbind_ok, then_ok, unAt, List.set_cons_succ, List.set_cons_zero, endFn_ret, List.length_cons, List.length_nil, Nat.reduceAdd, line, Nat.reduceLeDiff]
/-! ### texts of books -/
def txt (a b c : Str) : Str := a ++ Str.ofString " programs, " ++ b ++ Str.ofString " days, " ++ c ++ Str.ofString " meters"
theorem dig {i : Int} (h0 : 0 ≤ i) (h1 : i ≤ 3) : ∃ a, digitsI i = some a ∧ a.length ≤ 2 := by
  have : i = 0 ∨ i = 1 ∨ i = 2 ∨ i = 3 := by omega
  rcases this with rfl | rfl | rfl | rfl
  · exact ⟨_, rfl, by decide +kernel⟩
  · exact ⟨_, rfl, by decide +kernel⟩
  · exact ⟨_, rfl, by decide +kernel⟩
  · exact ⟨_, rfl, by decide +kernel⟩
theorem fm_int {i : Int} : fmtD (.int i) = digitsI i := rfl
theorem fm_str {s : Str} (h : s.length ≤ 1000) : fmtD (.str s) = some s := if_pos (by simp only [line]; omega)
theorem emp_app (a : Str) : Str.empty ++ a = a := by
  obtain ⟨c⟩ := a
  have e : (Str.empty ++ (⟨c⟩ : Str)).cps = c := by
    rw [PySem.Str.cps_append]
    show #[] ++ c = c
    simp
  show (⟨(Str.empty ++ (⟨c⟩ : Str)).cps⟩ : Str) = ⟨c⟩
  rw [e]
theorem op_adds {a b : Str} (h : a.length + b.length ≤ 1000) : opB .add (.str a) (.str b) = some (.str (a ++ b)) := if_pos (by simp only [line]; omega)
section
variable {P C : Int} {ms : List D} {a b c : Str} {μ : Sto}
theorem str_ok {k : Nat} (ea : digitsI P = some a) (eb : digitsI C = some b) (ec : digitsI (ms.length : Int) = some c) (la : a.length ≤ 2) (lb : b.length ≤ 2) (lc : c.length ≤ 2) :
    (orc3 pg (k + 2)).call f_Book_str [bookD P C ms] μ = .ok (.str (txt a b c)) μ := by
  have e1 := prop_programs (k := k) (P := P) (C := C) (ms := ms) (μ := μ)
  have e2 := prop_cycle (k := k) (P := P) (C := C) (ms := ms) (μ := μ)
  have e3 := prop_meters (k := k) (P := P) (C := C) (ms := ms) (μ := μ)
  have e4 : opF1 .len (.tup ms) = some (.int ms.length) := rfl
  have l1 : (Str.ofString " programs, ").length = 11 := by decide +kernel
  have l2 : (Str.ofString " days, ").length = 7 := by decide +kernel
  have l3 : (Str.ofString " meters").length = 7 := by decide +kernel
  have f1 := fm_str (s := Str.ofString " programs, ") (by omega)
  have f2 := fm_str (s := Str.ofString " days, ") (by omega)
  have f3 := fm_str (s := Str.ofString " meters") (by omega)
  rw [run_Book_str]
  unfold b_Book_str txt
  generalize Str.ofString " programs, " = p at *
  generalize Str.ofString " days, " = q at *
  generalize Str.ofString " meters" = m at *
  generalize (ms.length : Int) = N at *
  have z1 : a.length ≤ 16777216 := by omega
  have z2 : (a ++ p).length ≤ 16777216 := by rw [sl_app]; omega
  have z3 : (a ++ p ++ b).length ≤ 16777216 := by rw [sl_app, sl_app]; omega
  have z4 : (a ++ p ++ b ++ q).length ≤ 16777216 := by rw [sl_app, sl_app, sl_app]; omega
  have z5 : (a ++ p ++ b ++ q ++ c).length ≤ 16777216 := by rw [sl_app, sl_app, sl_app, sl_app]; omega
  have z6 : (a ++ p ++ b ++ q ++ c ++ m).length ≤ 16777216 := by rw [sl_app, sl_app, sl_app, sl_app, sl_app]; omega
  generalize bookD P C ms = B at *
  simp only [evSs, evS, evE, evFs, evB, List.getElem?_cons_succ, List.getElem?_cons_zero, bind_ok, e1, e2, e3, f1D, der_tup, Option.bind_some, e4, ofO_some, fm_int, ea, eb, ec, f1, f2, f3, emp_app, line, if_pos z1, if_pos z2, if_pos z3, if_pos z4, if_pos z5, if_pos z6, then_ok, rbind_ok, endFn_ret]
theorem len_ok {k : Nat} : (orc3 pg (k + 1)).call f_Book_len [bookD P C ms] μ = .ok (.int ms.length) μ := by
  rw [run_Book_len]
  unfold b_Book_len
  have a1 : attrD pg (orc3 pg k) at_parts (bookD P C ms) μ = .ok (partsD P C ms) μ := by rfl
  have e4 : opF1 .len (.tup ms) = some (.int ms.length) := rfl
  have i2 : idxD (partsD P C ms) (.int 2) = some (.tup ms) := rfl
  have d2 : derefD μ (partsD P C ms) = some (partsD P C ms) := rfl
  generalize bookD P C ms = B at *
  generalize partsD P C ms = T at *
  simp only [evSs, evS, evE, evB, List.getElem?_cons_succ, List.getElem?_cons_zero, bind_ok, a1, idxE, d2, Option.bind_some, i2, ofO_some, f1D, der_tup, e4, then_ok, rbind_ok, endFn_ret]
theorem sp3 {C0 : Orc} {n : Int} (h0 : 0 ≤ n) (h1 : n < 2 ^ 63) (h : C0.call f_Book_len [bookD P C ms] μ = .ok (.int n) μ) : spD pg C0 (1000003 - 1000000) (bookD P C ms) [] μ = .ok (.int n) μ := by
  have hc : clsOf μ (bookD P C ms) = some c_Book := rfl
  have e : spD pg C0 (1000003 - 1000000) (bookD P C ms) [] μ = (match C0.call f_Book_len [bookD P C ms] μ with | .ok (.int n) μ' => if 0 ≤ n ∧ n < 2 ^ 63 then .ok (.int n) μ' else .bad | _ => .bad) := by
    unfold spD
    rw [hc]
    dsimp only
    rw [cls_Book]
    rfl
  rw [e, h]
  exact if_pos ⟨h0, h1⟩
theorem sp4 {C0 : Orc} {n : Str} (h : C0.call f_Book_str [bookD P C ms] μ = .ok (.str n) μ) : spD pg C0 (1000004 - 1000000) (bookD P C ms) [] μ = .ok (.str n) μ := by
  have hc : clsOf μ (bookD P C ms) = some c_Book := rfl
  have e : spD pg C0 (1000004 - 1000000) (bookD P C ms) [] μ = (match C0.call f_Book_str [bookD P C ms] μ with | .ok (.str n) μ' => .ok (.str n) μ' | _ => .bad) := by
    unfold spD
    rw [hc]
    dsimp only
    rw [cls_Book]
    rfl
  rw [e, h]
/-- what a book shows -/
def shD (P C : Int) (ms : List D) (t : Str) : D := .lst [.int P, .int C, .tup ms, .int ms.length, .str t]
theorem shown_ok {k : Nat} {t : Str} (hm : ms.length ≤ 2) (h : (orc3 pg (k + 2)).call f_Book_str [bookD P C ms] μ = .ok (.str t) μ) : (orc3 pg (k + 3)).call f_law_shown [bookD P C ms] μ = .ok (shD P C ms t) μ := by
  have e1 := prop_programs (k := k + 1) (P := P) (C := C) (ms := ms) (μ := μ)
  have e2 := prop_cycle (k := k + 1) (P := P) (C := C) (ms := ms) (μ := μ)
  have e3 := prop_meters (k := k + 1) (P := P) (C := C) (ms := ms) (μ := μ)
  have s3 := sp3 (n := (ms.length : Int)) (by omega) (by omega) (len_ok (k := k + 1) (P := P) (C := C) (ms := ms) (μ := μ))
  have s4 := sp4 h
  have m3 : ¬ (1000003 < 1000000) := by decide
  have m4 : ¬ (1000004 < 1000000) := by decide
  rw [run_law_shown]
  unfold b_law_shown shD
  generalize (ms.length : Int) = N at *
  generalize bookD P C ms = B at *
  simp only [evSs, evS, evE, evEs, List.getElem?_cons_succ, List.getElem?_cons_zero, bind_ok, e1, e2, e3, if_neg m3, if_neg m4, s3, s4, List.length_cons, List.length_nil, Nat.reduceAdd, line, Nat.reduceLeDiff, if_true, then_ok, rbind_ok, endFn_ret]
theorem due_ok {k : Nat} (ea : digitsI P = some a) (eb : digitsI C = some b) (ec : digitsI (ms.length : Int) = some c) (la : a.length ≤ 2) (lb : b.length ≤ 2) (lc : c.length ≤ 2) :
    (orc3 pg (k + 1)).call f_law_due [partsD P C ms] μ = .ok (shD P C ms (txt a b c)) μ := by
  have e4 : opF1 .len (.tup ms) = some (.int ms.length) := rfl
  have l1 : (Str.ofString " programs, ").length = 11 := by decide +kernel
  have l2 : (Str.ofString " days, ").length = 7 := by decide +kernel
  have l3 : (Str.ofString " meters").length = 7 := by decide +kernel
  rw [run_law_due]
  unfold b_law_due txt shD
  generalize Str.ofString " programs, " = p at *
  generalize Str.ofString " days, " = q at *
  generalize Str.ofString " meters" = m at *
  have g1 : opF1 .str (.int P) = some (.str a) := by show (digitsI P).map _ = _; rw [ea]; rfl
  have g2 : opF1 .str (.int C) = some (.str b) := by show (digitsI C).map _ = _; rw [eb]; rfl
  have g3 : opF1 .str (.int ms.length) = some (.str c) := by show (digitsI _).map _ = _; rw [ec]; rfl
  generalize (ms.length : Int) = N at *
  have z2 := op_adds (a := a) (b := p) (by omega)
  have z3 := op_adds (a := a ++ p) (b := b) (by rw [sl_app]; omega)
  have z4 := op_adds (a := a ++ p ++ b) (b := q) (by rw [sl_app, sl_app]; omega)
  have z5 := op_adds (a := a ++ p ++ b ++ q) (b := c) (by rw [sl_app, sl_app, sl_app]; omega)
  have z6 := op_adds (a := a ++ p ++ b ++ q ++ c) (b := m) (by rw [sl_app, sl_app, sl_app, sl_app]; omega)
  simp only [evSs, evS, evE, evEs, evB, List.getElem?_cons_succ, List.getElem?_cons_zero, bind_ok, setT, setTs, Option.bind_some, nxtO_some, then_ok, List.set_cons_succ, List.set_cons_zero, rbind_ok, f1D, der_int, der_tup, g1, g2, g3, e4, ofO_some, z2, z3, z4, z5, z6, List.length_cons, List.length_nil, Nat.reduceAdd, line, Nat.reduceLeDiff, if_true, endFn_ret]
end
/-! ### books changed -/
def g0 : S := .set (.tp [(.nm 2), (.nm 3), (.nm 4)]) (.var 1)
def g1 : S := .ite (.cmp .eq (.var 4) (.tup [])) [.ret (some (.call f_law_parts [(.var 0), (.var 2)]))] []
def g2 : S := .par [(5, false), (6, false)] [(.call f_law_take [(.var 0), (.f1 .len (.var 4))]), (.call f_law_take [(.var 0), (.lit (.int 6))])]
def g3 : S := .set (.tp [(.nm 7), (.nm 8), (.nm 9), (.nm 10)]) (.idx (.var 4) (.var 5))
def g4 : S := .set (.nm 11) (.tup [(.var 7), (.var 8), (.var 9), (.f2 .max (.lit (.int 0)) (.bin .sub (.var 10) (.lit (.int 1))))])
def g5 : S := .ite (.cmp .eq (.var 6) (.lit (.int 0))) [.set (.nm 11) (.tup [(.var 7), (.var 8), (.f2 .max (.lit (.int 0)) (.bin .sub (.var 9) (.lit (.int 1)))), (.var 10)])] []
def g6 : S := .ite (.cmp .eq (.var 6) (.lit (.int 1))) [.set (.nm 11) (.tup [(.var 7), (.bin .add (.tup [(.f2 .min (.lit (.int 6)) (.bin .add (.idx (.var 8) (.lit (.int 0))) (.lit (.int 1))))]) (.sli (.var 8) (some (.lit (.int 1))) none)), (.var 9), (.var 10)])] []
def g7 : S := .ite (.cmp .eq (.var 6) (.lit (.int 2))) [.ret (some (.tup [(.var 2), (.var 3), (.bin .add (.sli (.var 4) none (some (.var 5))) (.sli (.var 4) (some (.bin .add (.var 5) (.lit (.int 1)))) none))]))] []
def g8 : S := .ite (.cmp .eq (.var 6) (.lit (.int 3))) [.ret (some (.call f_law_parts [(.var 0), (.var 2)]))] []
def g9 : S := .ret (some (.tup [(.var 2), (.var 3), (.bin .add (.bin .add (.sli (.var 4) none (some (.var 5))) (.tup [(.var 11)])) (.sli (.var 4) (some (.bin .add (.var 5) (.lit (.int 1)))) none))]))
theorem changed_body : b_law_changed = [g0, g1, g2, g3, g4, g5, g6, g7, g8, g9] := rfl
theorem mx (i : Int) (h : i ≤ 4) : ∃ v, opF2 .max (.int 0) (.int (i - 1)) = some (.int v) ∧ 0 ≤ v ∧ v ≤ 4 := ⟨_, rfl, by split <;> omega, by split <;> omega⟩
theorem mn (i : Int) (h : 0 ≤ i) : ∃ v, opF2 .min (.int 6) (.int (i + 1)) = some (.int v) ∧ 0 ≤ v ∧ v ≤ 6 := ⟨_, rfl, by split <;> omega, by split <;> omega⟩
section
variable {C0 : Orc} {P C s l sp w : Int} {ws gs : List D} {T : D} {ms pre post : List D} {m : D} {a11 : Sl} {μ : Sto}
def eC (T : D) (P C : Int) (ms : List D) (sp w : Int) (ws gs : List D) (s l : Int) (a11 : Sl) : Env := [.val (.loc 0), .val T, .val (.int P), .val (.int C), .val (.tup ms), .val (.int sp), .val (.int w), .val (.tup ws), .val (.tup gs), .val (.int s), .val (.int l), a11]
structure MP (P C : Int) (ws gs : List D) (s l : Int) : Prop where
  h1 : (ws.length : Int) = P
  h2 : ∀ w ∈ ws, ∃ i, w = .int i ∧ -2 ≤ i ∧ i ≤ 2
  h3 : (gs.length : Int) = C
  h4 : ∀ g ∈ gs, ∃ i, g = .int i ∧ 0 ≤ i ∧ i ≤ 6
  h5 : 0 ≤ s
  h6 : s ≤ 4
  h7 : 0 ≤ l
  h8 : l ≤ 4
theorem MP.ok (h : MP P C ws gs s l) : MOk P C (.tup [.tup ws, .tup gs, .int s, .int l]) := ⟨ws, gs, s, l, rfl, h.h1, h.h2, h.h3, h.h4, h.h5, h.h6, h.h7, h.h8⟩
theorem g4_ok (h : MP P C ws gs s l) : ∃ m, evS pg C0 g4 (eC T P C ms sp w ws gs s l a11) μ = .ok (.nxt (eC T P C ms sp w ws gs s l (.val m))) μ ∧ MOk P C m := by
  obtain ⟨v, ev, v0, v1⟩ := mx l h.h8
  refine ⟨.tup [.tup ws, .tup gs, .int s, .int v], ?_, MP.ok ⟨h.h1, h.h2, h.h3, h.h4, h.h5, h.h6, v0, v1⟩⟩
  have z4 : (4 : Nat) ≤ 16777216 := by decide
  unfold g4 eC
  simp only [evS, evE, evB, evEs, List.getElem?_cons_succ, List.getElem?_cons_zero, bind_ok, op_sub, der_int, Option.bind_some, ofO_some, ev, List.length_cons, List.length_nil, Nat.reduceAdd, line, z4, if_true, then_ok, setT, nxtO_some, List.set_cons_succ, List.set_cons_zero]
theorem g5_ok {m0 : D} (h : MP P C ws gs s l) : ∃ m, evS pg C0 g5 (eC T P C ms sp w ws gs s l (.val m0)) μ = .ok (.nxt (eC T P C ms sp w ws gs s l (.val m))) μ ∧ (m = m0 ∨ MOk P C m) := by
  have z4 : (4 : Nat) ≤ 16777216 := by decide
  cases hw : decide (w = 0) with
  | true =>
    obtain ⟨v, ev, v0, v1⟩ := mx s h.h6
    refine ⟨.tup [.tup ws, .tup gs, .int v, .int l], ?_, .inr (MP.ok ⟨h.h1, h.h2, h.h3, h.h4, v0, v1, h.h7, h.h8⟩)⟩
    unfold g5 eC
    simp only [evS, evSs, evE, evB, evEs, List.getElem?_cons_succ, List.getElem?_cons_zero, bind_ok, cmpD, oc_eqi, hw, op_sub, der_int, Option.bind_some, ofO_some, ev, List.length_cons, List.length_nil, Nat.reduceAdd, line, z4, if_true, then_ok, setT, nxtO_some, List.set_cons_succ, List.set_cons_zero, rbind_ok]
  | false =>
    refine ⟨m0, ?_, .inl rfl⟩
    unfold g5 eC
    simp only [evS, evSs, evE, evB, List.getElem?_cons_succ, List.getElem?_cons_zero, bind_ok, cmpD, oc_eqi, hw, ofO_some, then_ok]
theorem g6_ok {m0 : D} (h : MP P C ws gs s l) (hC : 1 ≤ C) (hC3 : C ≤ 3) : ∃ m, evS pg C0 g6 (eC T P C ms sp w ws gs s l (.val m0)) μ = .ok (.nxt (eC T P C ms sp w ws gs s l (.val m))) μ ∧ (m = m0 ∨ MOk P C m) := by
  have z4 : (4 : Nat) ≤ 16777216 := by decide
  have z1 : (1 : Nat) ≤ 16777216 := by decide
  cases hw : decide (w = 1) with
  | true =>
    cases gs with
    | nil => have := h.h3; simp at this; omega
    | cons g r =>
      obtain ⟨i, rfl, i0, i1⟩ := h.h4 g List.mem_cons_self
      obtain ⟨v, ev, v0, v1⟩ := mn i i0
      have e0 : idxD (.tup (.int i :: r)) (.int 0) = some (.int i) := by simp [idxD, ixN]
      have e1 : sliD (.tup (.int i :: r)) (some 1) none = some (.tup r) := by
        show some (D.tup (cutL (.int i :: r) (some 1) none)) = _
        unfold cutL
        congr 2
        simp only [cutN]
        rw [if_neg (by decide)]
        have : min (1 : Int).toNat (D.int i :: r).length = 1 := by simp
        rw [this]
        show (List.drop 1 (D.int i :: r)).take _ = r
        simp
      have e2 : opB .add (.tup [.int v]) (.tup r) = some (.tup (.int v :: r)) := by
        have hl := h.h3
        simp only [List.length_cons] at hl
        exact if_pos (by simp only [line, List.length_cons, List.length_nil]; omega)
      refine ⟨.tup [.tup ws, .tup (.int v :: r), .int s, .int l], ?_, .inr (MP.ok ⟨h.h1, h.h2, by have := h.h3; simpa using this, fun x hx => ?_, h.h5, h.h6, h.h7, h.h8⟩)⟩
      · unfold g6 eC
        simp only [evS, evSs, evE, evB, evO, evEs, List.getElem?_cons_succ, List.getElem?_cons_zero, bind_ok, cmpD, oc_eqi, hw, idxE, der_tup, der_int, Option.bind_some, e0, e1, e2, op_add, ofO_some, ev, List.length_cons, List.length_nil, Nat.reduceAdd, line, z4, z1, if_true, then_ok, setT, nxtO_some, List.set_cons_succ, List.set_cons_zero, rbind_ok]
      · rcases List.mem_cons.mp hx with rfl | hx
        · exact ⟨v, rfl, v0, v1⟩
        · exact h.h4 x (List.mem_cons_of_mem _ hx)
  | false =>
    refine ⟨m0, ?_, .inl rfl⟩
    unfold g6 eC
    simp only [evS, evSs, evE, evB, List.getElem?_cons_succ, List.getElem?_cons_zero, bind_ok, cmpD, oc_eqi, hw, ofO_some, then_ok]
theorem g79_ok {k n : Nat} (h : Dk n μ) (hn : n < 2 ^ 26) (hp : POk P C ms) (hm : MOk P C m) (hs1 : sliD (.tup ms) none (some sp) = some (.tup pre)) (hs2 : sliD (.tup ms) (some (sp + 1)) none = some (.tup post)) (hl : pre.length + post.length + 1 ≤ 2) (h1 : ∀ x ∈ pre, x ∈ ms) (h2 : ∀ x ∈ post, x ∈ ms) :
    ∃ C' ms' μ', endFn (evSs pg (orc3 pg (k + 4)) [g7, g8, g9] (eC T P C ms sp w ws gs s l (.val m)) μ) = .ok (partsD P C' ms') μ' ∧ POk P C' ms' ∧ Dk (n + 18) μ' := by
  have z3 : (3 : Nat) ≤ 16777216 := by decide
  have z1 : (1 : Nat) ≤ 16777216 := by decide
  have s1 : derefD μ (.tup ms) = some (.tup ms) := rfl
  have b1 : opB .add (.tup pre) (.tup post) = some (.tup (pre ++ post)) := if_pos (by simp only [line]; omega)
  have b2 : opB .add (.tup pre) (.tup [m]) = some (.tup (pre ++ [m])) := if_pos (by simp only [line, List.length_cons, List.length_nil]; omega)
  have b3 : opB .add (.tup (pre ++ [m])) (.tup post) = some (.tup (pre ++ [m] ++ post)) := if_pos (by simp only [line, List.length_append, List.length_cons, List.length_nil]; omega)
  cases hw2 : decide (w = 2) with
  | true =>
    refine ⟨C, pre ++ post, μ, ?_, ⟨hp.p0, hp.p1, hp.c0, hp.c1, by simp only [List.length_append]; omega, fun x hx => ?_⟩, h.mono (by omega)⟩
    · have t7 : evS pg (orc3 pg (k + 4)) g7 (eC T P C ms sp w ws gs s l (.val m)) μ = .ok (.ret (partsD P C (pre ++ post))) μ := by
        unfold g7 eC
        simp only [evS, evSs, evE, evB, evO, evEs, List.getElem?_cons_succ, List.getElem?_cons_zero, bind_ok, cmpD, oc_eqi, hw2, s1, Option.bind_some, hs1, hs2, b1, op_add, ofO_some, List.length_cons, List.length_nil, Nat.reduceAdd, line, z3, if_true, then_ok, rbind_ok]
      simp only [evSs, t7, rbind_ok, endFn_ret]
    · rcases List.mem_append.mp hx with hx | hx
      · exact hp.ms x (h1 x hx)
      · exact hp.ms x (h2 x hx)
  | false =>
    have t7 : evS pg (orc3 pg (k + 4)) g7 (eC T P C ms sp w ws gs s l (.val m)) μ = .ok (.nxt (eC T P C ms sp w ws gs s l (.val m))) μ := by
      unfold g7 eC
      simp only [evS, evSs, evE, evB, List.getElem?_cons_succ, List.getElem?_cons_zero, bind_ok, cmpD, oc_eqi, hw2, ofO_some, then_ok]
    cases hw3 : decide (w = 3) with
    | true =>
      obtain ⟨C', ms', μ', e, hp', d⟩ := parts_dk (k := k) h (by omega) hp.p0 hp.p1
      refine ⟨C', ms', μ', ?_, hp', d⟩
      have t8 : evS pg (orc3 pg (k + 4)) g8 (eC T P C ms sp w ws gs s l (.val m)) μ = .ok (.ret (partsD P C' ms')) μ' := by
        unfold g8 eC
        simp only [evS, evSs, evE, evB, evEs, List.getElem?_cons_succ, List.getElem?_cons_zero, bind_ok, cmpD, oc_eqi, hw3, e, ofO_some, then_ok, rbind_ok]
      simp only [evSs, t7, t8, rbind_ok, endFn_ret]
    | false =>
      have t8 : evS pg (orc3 pg (k + 4)) g8 (eC T P C ms sp w ws gs s l (.val m)) μ = .ok (.nxt (eC T P C ms sp w ws gs s l (.val m))) μ := by
        unfold g8 eC
        simp only [evS, evSs, evE, evB, List.getElem?_cons_succ, List.getElem?_cons_zero, bind_ok, cmpD, oc_eqi, hw3, ofO_some, then_ok]
      refine ⟨C, pre ++ [m] ++ post, μ, ?_, ⟨hp.p0, hp.p1, hp.c0, hp.c1, by simp only [List.length_append, List.length_cons, List.length_nil]; omega, fun x hx => ?_⟩, h.mono (by omega)⟩
      · have t9 : evS pg (orc3 pg (k + 4)) g9 (eC T P C ms sp w ws gs s l (.val m)) μ = .ok (.ret (partsD P C (pre ++ [m] ++ post))) μ := by
          unfold g9 eC
          simp only [evS, evSs, evE, evB, evO, evEs, List.getElem?_cons_succ, List.getElem?_cons_zero, bind_ok, s1, Option.bind_some, hs1, hs2, b2, b3, op_add, ofO_some, List.length_cons, List.length_nil, Nat.reduceAdd, line, z3, z1, if_true, then_ok, rbind_ok]
        simp only [evSs, t7, t8, t9, rbind_ok, endFn_ret]
      · rcases List.mem_append.mp hx with hx | hx
        · rcases List.mem_append.mp hx with hx | hx
          · exact hp.ms x (h1 x hx)
          · rw [List.mem_singleton.mp hx]; exact hm
        · exact hp.ms x (h2 x hx)
theorem cut_ok {i : Int} (h0 : 0 ≤ i) (h1 : i < ms.length) (h2 : ms.length ≤ 2) : ∃ x pre post, idxD (.tup ms) (.int i) = some x ∧ x ∈ ms ∧ sliD (.tup ms) none (some i) = some (.tup pre) ∧ sliD (.tup ms) (some (i + 1)) none = some (.tup post) ∧ pre.length + post.length + 1 ≤ 2 ∧ (∀ x ∈ pre, x ∈ ms) ∧ ∀ x ∈ post, x ∈ ms := by
  match ms, h1, h2 with
  | [], h1, _ => simp at h1; exact absurd h0 (by omega)
  | [a], h1, _ =>
    have : i = 0 := by simp at h1; omega
    subst this
    exact ⟨a, [], [], rfl, by simp, rfl, rfl, by simp, by simp, by simp⟩
  | [a, b], h1, _ =>
    have : i = 0 ∨ i = 1 := by simp at h1; omega
    rcases this with rfl | rfl
    · exact ⟨a, [], [b], rfl, by simp, rfl, rfl, by simp, by simp, by simp⟩
    · exact ⟨b, [a], [], rfl, by simp, rfl, rfl, by simp, by simp, by simp⟩
  | _ :: _ :: _ :: _, _, h2 => simp at h2
end
theorem eq_nilT {m : D} {r : List D} {μ : Sto} (h : ndB 3 (.tup (m :: r)) = true) : opC μ .eq (.tup (m :: r)) (.tup []) = some (.bl false) := by
  obtain ⟨p, q, g1, g2, g3⟩ := eqD_nd (a := .tup (m :: r)) (b := .tup []) (i := 3) (j := 1) (by decide) (by decide) h rfl
  have e2 : toP (.tup []) = some (.tuple []) := rfl
  rw [e2] at g2
  cases g2
  refine oc_eqP ?_
  rw [g3]
  have e1 : toP (.tup (m :: r)) = (toPs (m :: r)).map .tuple := rfl
  rw [e1] at g1
  obtain ⟨ps, h1, rfl⟩ := Option.map_eq_some_iff.mp g1
  unfold toPs at h1
  split at h1
  · cases h1
    simp [PySem.PyData.eqv, PySem.PyData.eqvAll]
  · cases h1
theorem ms_nd {P C : Int} {ms : List D} (h : POk P C ms) : ndB 3 (.tup ms) = true := by
  have : ms.all (ndB 2) = true := List.all_eq_true.mpr fun x hx => by
    have := h.ms x hx
    obtain ⟨ws, gs, s, l, rfl, h1, h2, h3, h4, h5, h6, h7, h8⟩ := this.ex
    show ([D.tup ws, .tup gs, .int s, .int l].all (ndB 1)) = true
    have a : ws.all (ndB 0) = true := List.all_eq_true.mpr fun x hx => by obtain ⟨i, rfl, _⟩ := h2 x hx; rfl
    have b : gs.all (ndB 0) = true := List.all_eq_true.mpr fun x hx => by obtain ⟨i, rfl, _⟩ := h4 x hx; rfl
    have a' : ndB 1 (.tup ws) = true := a
    have b' : ndB 1 (.tup gs) = true := b
    simp only [List.all_cons, List.all_nil, a', b', Bool.and_true]
    rfl
  exact this
theorem changed_ok {k n : Nat} {P C : Int} {ms : List D} {μ : Sto} (h : Dk n μ) (hn : n < 2 ^ 25) (hp : POk P C ms) : ∃ C' ms' μ', (orc3 pg (k + 5)).call f_law_changed [.loc 0, partsD P C ms] μ = .ok (partsD P C' ms') μ' ∧ POk P C' ms' ∧ Dk (n + 20) μ' := by
  rw [run_law_changed, changed_body]
  have t0 : evS pg (orc3 pg (k + 4)) g0 [.val (.loc 0), .val (partsD P C ms), .un, .un, .un, .un, .un, .un, .un, .un, .un, .un] μ = .ok (.nxt [.val (.loc 0), .val (partsD P C ms), .val (.int P), .val (.int C), .val (.tup ms), .un, .un, .un, .un, .un, .un, .un]) μ := by
    unfold g0
    simp only [evS, evE, List.getElem?_cons_succ, List.getElem?_cons_zero, bind_ok, setT, setTs, Option.bind_some, nxtO_some, then_ok, List.set_cons_succ, List.set_cons_zero]
  obtain ⟨T, hT⟩ : ∃ T : D, T = partsD P C ms := ⟨_, rfl⟩
  rw [← hT] at t0 ⊢
  have z0 : (0 : Nat) ≤ 16777216 := by decide
  cases hms : ms with
  | nil =>
    obtain ⟨C', ms', μ', e, hp', d⟩ := parts_dk (k := k) h (by omega) hp.p0 hp.p1
    refine ⟨C', ms', μ', ?_, hp', d.mono (by omega)⟩
    have q : opC μ .eq (.tup []) (.tup []) = some (.bl true) := by rfl
    have t1 : evS pg (orc3 pg (k + 4)) g1 [.val (.loc 0), .val T, .val (.int P), .val (.int C), .val (.tup ms), .un, .un, .un, .un, .un, .un, .un] μ = .ok (.ret (partsD P C' ms')) μ' := by
      rw [hms]
      unfold g1
      simp only [evS, evSs, evE, evB, evEs, List.getElem?_cons_succ, List.getElem?_cons_zero, bind_ok, List.length_nil, line, z0, if_true, cmpD, q, ofO_some, e, then_ok, rbind_ok]
    simp only [evSs, t0, t1, rbind_ok, endFn_ret]
  | cons m r =>
    have q : opC μ .eq (.tup ms) (.tup []) = some (.bl false) := by rw [hms]; exact eq_nilT (by rw [← hms]; exact ms_nd hp)
    have t1 : evS pg (orc3 pg (k + 4)) g1 [.val (.loc 0), .val T, .val (.int P), .val (.int C), .val (.tup ms), .un, .un, .un, .un, .un, .un, .un] μ = .ok (.nxt [.val (.loc 0), .val T, .val (.int P), .val (.int C), .val (.tup ms), .un, .un, .un, .un, .un, .un, .un]) μ := by
      unfold g1
      simp only [evS, evSs, evE, evB, evEs, List.getElem?_cons_succ, List.getElem?_cons_zero, bind_ok, List.length_nil, line, z0, if_true, cmpD, q, ofO_some, then_ok, rbind_ok]
    have hl : 0 < ms.length := by rw [hms]; simp
    have hm2 := hp.m
    obtain ⟨sp, μ1, e1, s0, s1, d1⟩ := take_dk (k := k + 3) (m := (ms.length : Int)) h (by omega) (by omega) (by omega)
    obtain ⟨w, μ2, e2, w0, w1, d2⟩ := take_dk (k := k + 3) (m := 6) d1 (by omega) (by decide) (by decide)
    have e4 : opF1 .len (.tup ms) = some (.int ms.length) := rfl
    have t2 : evS pg (orc3 pg (k + 4)) g2 [.val (.loc 0), .val T, .val (.int P), .val (.int C), .val (.tup ms), .un, .un, .un, .un, .un, .un, .un] μ = .ok (.nxt [.val (.loc 0), .val T, .val (.int P), .val (.int C), .val (.tup ms), .val (.int sp), .val (.int w), .un, .un, .un, .un, .un]) μ2 := by
      unfold g2
      generalize (ms.length : Int) = N at *
      simp only [evS, evE, evB, evEs, List.getElem?_cons_succ, List.getElem?_cons_zero, bind_ok, f1D, der_tup, Option.bind_some, e4, ofO_some, e1, e2, then_ok, setPar, Bool.false_eq_true, if_false, nxtO_some, List.set_cons_succ, List.set_cons_zero]
      try rfl
    obtain ⟨x, pre, post, ix, hx, hs1, hs2, hl2, h1, h2⟩ := cut_ok s0 s1 hp.m
    obtain ⟨ws, gs, s, l, rfl, q1, q2, q3, q4, q5, q6, q7, q8⟩ := (hp.ms x hx).ex
    have mp : MP P C ws gs s l := ⟨q1, q2, q3, q4, q5, q6, q7, q8⟩
    have t3 : evS pg (orc3 pg (k + 4)) g3 [.val (.loc 0), .val T, .val (.int P), .val (.int C), .val (.tup ms), .val (.int sp), .val (.int w), .un, .un, .un, .un, .un] μ2 = .ok (.nxt (eC T P C ms sp w ws gs s l .un)) μ2 := by
      unfold g3 eC
      simp only [evS, evE, evB, List.getElem?_cons_succ, List.getElem?_cons_zero, bind_ok, idxE, der_tup, Option.bind_some, ix, ofO_some, setT, setTs, nxtO_some, then_ok, List.set_cons_succ, List.set_cons_zero]
    obtain ⟨m4, t4, k4⟩ := g4_ok (C0 := orc3 pg (k + 4)) (T := T) (ms := ms) (sp := sp) (w := w) (a11 := .un) (μ := μ2) mp
    obtain ⟨m5, t5, k5⟩ := g5_ok (C0 := orc3 pg (k + 4)) (T := T) (ms := ms) (sp := sp) (w := w) (m0 := m4) (μ := μ2) mp
    obtain ⟨m6, t6, k6⟩ := g6_ok (C0 := orc3 pg (k + 4)) (T := T) (ms := ms) (sp := sp) (w := w) (m0 := m5) (μ := μ2) mp hp.c0 hp.c1
    have k5 : MOk P C m5 := by rcases k5 with rfl | k5 <;> assumption
    have k6 : MOk P C m6 := by rcases k6 with rfl | k6 <;> assumption
    obtain ⟨C', ms', μ', e, hp', d⟩ := g79_ok (k := k) (T := T) (w := w) (ws := ws) (gs := gs) (s := s) (l := l) d2 (by omega) hp k6 hs1 hs2 hl2 h1 h2
    refine ⟨C', ms', μ', ?_, hp', d.mono (by omega)⟩
    rw [← e]
    simp only [evSs, t0, t1, t2, t3, t4, t5, t6, rbind_ok]
/-! ### shown texts -/
theorem mok_nv {P C : Int} {d : D} {m : Nat} (hm : 5 ≤ m) (hP : P ≤ 3) (hC : C ≤ 3) (h : MOk P C d) : nvB m 2 d = true := by
  obtain ⟨ws, gs, s, l, rfl, h1, h2, h3, h4, h5, h6, h7, h8⟩ := h.ex
  have i0 : ∀ {i : Int}, -10 ≤ i → i ≤ 10 → leafB (.int i) = true := fun a b => leaf_int (by omega)
  have a : nvB m 1 (.tup ws) = true := by
    show (decide (ws.length ≤ m) && ws.all (nvB m 0)) = true
    rw [Bool.and_eq_true, decide_eq_true_eq, List.all_eq_true]
    exact ⟨by omega, fun x hx => by obtain ⟨i, rfl, z1, z2⟩ := h2 x hx; exact i0 (by omega) (by omega)⟩
  have b : nvB m 1 (.tup gs) = true := by
    show (decide (gs.length ≤ m) && gs.all (nvB m 0)) = true
    rw [Bool.and_eq_true, decide_eq_true_eq, List.all_eq_true]
    exact ⟨by omega, fun x hx => by obtain ⟨i, rfl, z1, z2⟩ := h4 x hx; exact i0 (by omega) (by omega)⟩
  have c : nvB m 1 (.int s) = true := i0 (by omega) (by omega)
  have d : nvB m 1 (.int l) = true := i0 (by omega) (by omega)
  show (decide ((4 : Nat) ≤ m) && [D.tup ws, .tup gs, .int s, .int l].all (nvB m 1)) = true
  simp only [List.all_cons, List.all_nil, a, b, c, d, Bool.and_true, decide_eq_true_eq]
  omega
theorem ms_nv {P C : Int} {ms : List D} {m : Nat} (hm : 5 ≤ m) (h : POk P C ms) : nvB m 3 (.tup ms) = true := by
  show (decide (ms.length ≤ m) && ms.all (nvB m 2)) = true
  rw [Bool.and_eq_true, decide_eq_true_eq, List.all_eq_true]
  have := h.m
  exact ⟨by omega, fun x hx => mok_nv hm h.p1 h.c1 (h.ms x hx)⟩
def cpB (s : Str) : Bool := s.cps.toList.all fun c => decide (c < 16 ^ 8)
theorem cp_app {s t : Str} (hs : cpB s = true) (ht : cpB t = true) : cpB (s ++ t) = true := by
  unfold cpB at *
  rw [PySem.Str.cps_append, Array.toList_append, List.all_append, hs, ht]; rfl
theorem dig2 {i : Int} {a : Str} (h0 : 0 ≤ i) (h1 : i ≤ 3) (h : digitsI i = some a) : a.length ≤ 2 ∧ cpB a = true := by
  have : i = 0 ∨ i = 1 ∨ i = 2 ∨ i = 3 := by omega
  rcases this with rfl | rfl | rfl | rfl <;> (cases h; exact ⟨by decide +kernel, by decide +kernel⟩)
theorem txt_leaf {a b c : Str} (ha : a.length ≤ 2 ∧ cpB a = true) (hb : b.length ≤ 2 ∧ cpB b = true) (hc : c.length ≤ 2 ∧ cpB c = true) : leafB (.str (txt a b c)) = true := by
  have l1 : (Str.ofString " programs, ").length = 11 := by decide +kernel
  have l2 : (Str.ofString " days, ").length = 7 := by decide +kernel
  have l3 : (Str.ofString " meters").length = 7 := by decide +kernel
  have c1 : cpB (Str.ofString " programs, ") = true := by decide +kernel
  have c2 : cpB (Str.ofString " days, ") = true := by decide +kernel
  have c3 : cpB (Str.ofString " meters") = true := by decide +kernel
  have hl : (txt a b c).length ≤ 190 := by
    unfold txt
    simp only [sl_app]
    omega
  have hcp : cpB (txt a b c) = true := cp_app (cp_app (cp_app (cp_app (cp_app ha.2 c1) hb.2) c2) hc.2) c3
  show (decide ((txt a b c).length ≤ 190) && cpB (txt a b c)) = true
  rw [hcp, decide_eq_true hl]; rfl
theorem sh_nv {P C : Int} {ms : List D} {t : Str} (h : POk P C ms) (ht : leafB (.str t) = true) : nvB 5 4 (shD P C ms t) = true := by
  have i0 : ∀ {i : Int}, -10 ≤ i → i ≤ 10 → nvB 5 3 (.int i) = true := fun a b => nv_leaf (leaf_int (by omega))
  have h' := h
  obtain ⟨p0, p1, c0, c1, hm, hms⟩ := h'
  have a := ms_nv (m := 5) (by decide) h
  have b : nvB 5 3 (.int P) = true := i0 (by omega) (by omega)
  have c : nvB 5 3 (.int C) = true := i0 (by omega) (by omega)
  have d : nvB 5 3 (.int (ms.length : Int)) = true := i0 (by omega) (by omega)
  have e : nvB 5 3 (.str t) = true := nv_leaf ht
  show (decide ((5 : Nat) ≤ 5) && [D.int P, .int C, .tup ms, .int ms.length, .str t].all (nvB 5 3)) = true
  simp only [List.all_cons, List.all_nil, a, b, c, d, e, Bool.and_true]
  rfl
theorem nv5_repr {d : D} (h : nvB 5 5 d = true) : ∃ s, reprD d = some s := repr_nv (m := 5) (j := 5) h (by decide) (by decide)
theorem tn_of {P C : Int} {ms : List D} (h : POk P C ms) : ∃ t, leafB (.str t) = true ∧ (∀ μ k, (orc3 pg (k + 2)).call f_Book_str [bookD P C ms] μ = .ok (.str t) μ) ∧ ∀ μ k, (orc3 pg (k + 1)).call f_law_due [partsD P C ms] μ = .ok (shD P C ms t) μ := by
  have h' := h
  obtain ⟨p0, p1, c0, c1, hm, hms⟩ := h'
  obtain ⟨a, ea, _⟩ := dig (i := P) (by omega) p1
  obtain ⟨b, eb, _⟩ := dig (i := C) (by omega) c1
  obtain ⟨c, ec, _⟩ := dig (i := (ms.length : Int)) (by omega) (by omega)
  have ha := dig2 (by omega) p1 ea
  have hb := dig2 (by omega) c1 eb
  have hc := dig2 (by omega) (by omega) ec
  exact ⟨txt a b c, txt_leaf ha hb hc, fun μ k => str_ok ea eb ec ha.1 hb.1 hc.1, fun μ k => due_ok ea eb ec ha.1 hb.1 hc.1⟩
/-! ### the law -/
def eL (sc a2 a3 a4 a5 a6 a7 a8 a9 a10 a11 a12 a13 a14 a15 : Sl) : Env := [sc, .val (.loc 0), a2, a3, a4, a5, a6, a7, a8, a9, a10, a11, a12, a13, a14, a15]
def m1 : S := .set (.nm 3) (.call f_law_parts [(.var 1), (.bin .add (.lit (.int 1)) (.call f_law_take [(.var 1), (.lit (.int 3))]))])
def m2 : S := .set (.tp [(.nm 4), (.nm 5), (.nm 6)]) (.var 3)
def m3 : S := .par [(7, false), (8, false)] [(.new c_Book [(.var 4), (.var 5), (.var 6)]), (.call f_law_due [(.var 3)])]
def m4 : S := .ite (.cmp .ne (.f1 .repr (.lst [(.call f_law_shown [(.var 7)]), (.call f_law_shown [(.new c_Book [(.var 4), (.var 5), (.var 6)])])])) (.f1 .repr (.lst [(.var 8), (.var 8)]))) [.ret (some (.lit (.bl false)))] []
def n1 : S := .set (.nm 10) (.lst [(.lit (.str (Str.ofString "no"))), (.var 9), (.lit (.bl true))])
def n2 : S := .ite (.call f_law_is_whole [(.var 9), (.lit (.int 0)), (.bin .sub (.f1 .len (.var 6)) (.lit (.int 1)))]) [.set (.nm 10) (.lst [(.lit (.str (Str.ofString "meter"))), (.idx (.var 6) (.var 9))])] []
def n3 : S := .ite (.cmp .ne (.f1 .repr (.call f_law_item [(.var 7), (.var 9)])) (.f1 .repr (.var 10))) [.ret (some (.lit (.bl false)))] []
def m5E : E := .lst [(.lit (.int 0)), (.lit (.int 1)), (.lit (.int 2)), (.neg (.lit (.int 1))), (.lit (.bl true)), (.lit (.bl false)), (.f1 .len (.var 6)), (.call f_law_odd [(.var 1)]), (.call f_law_odd [(.var 1)])]
def m6 : S := .set (.nm 11) (.call f_law_parts [(.var 1), (.var 4)])
def m7 : S := .set (.nm 12) (.lst [(.tup [(.var 4), (.var 5), (.tup [])]), (.tup [(.bin .add (.bin .mod (.var 4) (.lit (.int 3))) (.lit (.int 1))), (.var 5), (.tup [])]), (.tup [(.var 4), (.bin .add (.bin .mod (.var 5) (.lit (.int 3))) (.lit (.int 1))), (.tup [])])])
def m8E : E := .bin .add (.lst [(.var 3), (.tup [(.var 4), (.var 5), (.rev (.var 6))]), (.call f_law_changed [(.var 1), (.var 3)]), (.var 11)]) (.var 12)
def s1 : S := .set (.nm 14) (.new c_Book [(.idx (.var 13) (.lit (.int 0))), (.idx (.var 13) (.lit (.int 1))), (.idx (.var 13) (.lit (.int 2)))])
def s2 : S := .set (.nm 10) (.lst [(.ocmp false (.var 7) (.var 14)), (.ocmp false (.var 14) (.var 7)), (.ocmp true (.var 7) (.var 14)), (.ocmp true (.var 14) (.var 7))])
def s3 : S := .ite (.cmp .ne (.f1 .repr (.var 10)) (.f1 .repr (.bin .add (.bin .mul (.lst [(.cmp .eq (.var 13) (.var 3))]) (.lit (.int 2))) (.bin .mul (.lst [(.cmp .ne (.var 13) (.var 3))]) (.lit (.int 2)))))) [.ret (some (.lit (.bl false)))] []
def m9E : E := .lst [(.var 3), (.lit .non), (.var 6), (.meth 1000004 (.var 7) []), (.f1 .len (.var 6)), (.call f_law_odd [(.var 1)])]
def v1 : S := .ite (.ocmp false (.var 7) (.var 15)) [.ret (some (.lit (.bl false)))] []
def v2 : S := .ite (.not (.ocmp true (.var 7) (.var 15))) [.ret (some (.lit (.bl false)))] []
def m10 : S := .ite (.cmp .ne (.f1 .repr (.call f_law_shown [(.var 7)])) (.f1 .repr (.var 8))) [.ret (some (.lit (.bl false)))] []
def turnB : List S := [m1, m2, m3, m4, .forr (.nm 9) (.seq m5E) [n1, n2, n3], m6, m7, .forr (.nm 13) (.seq m8E) [s1, s2, s3], .forr (.nm 15) (.seq m9E) [v1, v2], m10]
theorem law_body : b_law = [.set (.nm 1) (.call f_law_deck [(.var 0)]), .forr (.nm 2) (.range [(.lit (.int 8))]) turnB, .ret (some (.lit (.bl true)))] := rfl
section
variable {k : Nat} {P C : Int} {ms : List D} {t : Str} {sc a2 a3 a4 a5 a6 a7 a8 a9 a10 a11 a12 a13 a14 a15 : Sl} {μ : Sto}
theorem m123_ok {n : Nat} (h : Dk n μ) (hn : n < 2 ^ 20) : ∃ P C ms t μ', evSs pg (orc3 pg (k + 6)) [m1, m2, m3] (eL sc a2 a3 a4 a5 a6 a7 a8 a9 a10 a11 a12 a13 a14 a15) μ = .ok (.nxt (eL sc a2 (.val (partsD P C ms)) (.val (.int P)) (.val (.int C)) (.val (.tup ms)) (.val (bookD P C ms)) (.val (shD P C ms t)) a9 a10 a11 a12 a13 a14 a15)) μ' ∧ POk P C ms ∧ leafB (.str t) = true ∧
    (∀ μ k, (orc3 pg (k + 2)).call f_Book_str [bookD P C ms] μ = .ok (.str t) μ) ∧ Dk (n + 19) μ' := by
  obtain ⟨z, μ1, e1, z0, z1, d1⟩ := take_dk (k := k + 5) (m := 3) h (by omega) (by decide) (by decide)
  obtain ⟨C, ms, μ2, e2, hp, d2⟩ := parts_dk (k := k + 2) (P := 1 + z) d1 (by omega) (by omega) (by omega)
  obtain ⟨t, lf, hs, hd⟩ := tn_of hp
  refine ⟨1 + z, C, ms, t, μ2, ?_, hp, lf, hs, d2.mono (by omega)⟩
  have e3 := new_book (k := k + 1) (μ := μ2) hp
  have e4 := hd μ2 (k + 5)
  obtain ⟨p, hpz⟩ : ∃ p : Int, p = 1 + z := ⟨_, rfl⟩
  rw [← hpz] at e2 e3 e4 ⊢
  have ea : opB .add (.int 1) (.int z) = some (.int p) := by rw [hpz]; rfl
  have t1 : evS pg (orc3 pg (k + 6)) m1 (eL sc a2 a3 a4 a5 a6 a7 a8 a9 a10 a11 a12 a13 a14 a15) μ = .ok (.nxt (eL sc a2 (.val (partsD p C ms)) a4 a5 a6 a7 a8 a9 a10 a11 a12 a13 a14 a15)) μ2 := by
    unfold m1 eL
    simp only [evS, evE, evB, evEs, List.getElem?_cons_succ, List.getElem?_cons_zero, bind_ok, e1, ea, ofO_some, e2, then_ok, setT, nxtO_some, List.set_cons_succ, List.set_cons_zero]
  have t2 : evS pg (orc3 pg (k + 6)) m2 (eL sc a2 (.val (partsD p C ms)) a4 a5 a6 a7 a8 a9 a10 a11 a12 a13 a14 a15) μ2 = .ok (.nxt (eL sc a2 (.val (partsD p C ms)) (.val (.int p)) (.val (.int C)) (.val (.tup ms)) a7 a8 a9 a10 a11 a12 a13 a14 a15)) μ2 := by
    unfold m2 eL
    simp only [evS, evE, List.getElem?_cons_succ, List.getElem?_cons_zero, bind_ok, setT, setTs, Option.bind_some, nxtO_some, then_ok, List.set_cons_succ, List.set_cons_zero]
  have t3 : evS pg (orc3 pg (k + 6)) m3 (eL sc a2 (.val (partsD p C ms)) (.val (.int p)) (.val (.int C)) (.val (.tup ms)) a7 a8 a9 a10 a11 a12 a13 a14 a15) μ2 = .ok (.nxt (eL sc a2 (.val (partsD p C ms)) (.val (.int p)) (.val (.int C)) (.val (.tup ms)) (.val (bookD p C ms)) (.val (shD p C ms t)) a9 a10 a11 a12 a13 a14 a15)) μ2 := by
    unfold m3 eL
    generalize partsD p C ms = T at *
    generalize bookD p C ms = B at *
    generalize shD p C ms t = U at *
    simp only [evS, evE, evEs, List.getElem?_cons_succ, List.getElem?_cons_zero, bind_ok, e3, e4, then_ok, setPar, Bool.false_eq_true, if_false, nxtO_some, List.set_cons_succ, List.set_cons_zero]
    try rfl
  simp only [evSs, t1, t2, t3, rbind_ok]
theorem m4_ok (hp : POk P C ms) (lf : leafB (.str t) = true) (hs : ∀ μ k, (orc3 pg (k + 2)).call f_Book_str [bookD P C ms] μ = .ok (.str t) μ) {T : D} :
    evS pg (orc3 pg (k + 6)) m4 (eL sc a2 (.val T) (.val (.int P)) (.val (.int C)) (.val (.tup ms)) (.val (bookD P C ms)) (.val (shD P C ms t)) a9 a10 a11 a12 a13 a14 a15) μ = .ok (.nxt (eL sc a2 (.val T) (.val (.int P)) (.val (.int C)) (.val (.tup ms)) (.val (bookD P C ms)) (.val (shD P C ms t)) a9 a10 a11 a12 a13 a14 a15)) μ := by
  have e3 := new_book (k := k + 1) (μ := μ) hp
  have e4 := shown_ok (k := k + 3) (μ := μ) hp.m (hs μ (k + 3))
  obtain ⟨s, hr⟩ := nv5_repr (d := .lst [shD P C ms t, shD P C ms t]) (by
    show (decide ((2 : Nat) ≤ 5) && [shD P C ms t, shD P C ms t].all (nvB 5 4)) = true
    simp only [List.all_cons, List.all_nil, sh_nv hp lf, Bool.and_true]
    rfl)
  have er : opF1 .repr (.lst [shD P C ms t, shD P C ms t]) = some (.str s) := by rw [f1_repr, hr]; rfl
  have z2 : (2 : Nat) ≤ 16777216 := by decide
  unfold m4 eL
  generalize bookD P C ms = B at *
  generalize shD P C ms t = U at *
  simp only [evS, evE, evB, evEs, List.getElem?_cons_succ, List.getElem?_cons_zero, bind_ok, e3, e4, List.length_cons, List.length_nil, Nat.reduceAdd, line, z2, if_true, f1D, der_lst, Option.bind_some, er, ofO_some, cmpD, oc_nes, decide_true, Bool.not_true, then_ok, evSs]
theorem m10_ok (hp : POk P C ms) (lf : leafB (.str t) = true) (hs : ∀ μ k, (orc3 pg (k + 2)).call f_Book_str [bookD P C ms] μ = .ok (.str t) μ) :
    evS pg (orc3 pg (k + 6)) m10 (eL sc a2 a3 a4 a5 a6 (.val (bookD P C ms)) (.val (shD P C ms t)) a9 a10 a11 a12 a13 a14 a15) μ = .ok (.nxt (eL sc a2 a3 a4 a5 a6 (.val (bookD P C ms)) (.val (shD P C ms t)) a9 a10 a11 a12 a13 a14 a15)) μ := by
  have e4 := shown_ok (k := k + 3) (μ := μ) hp.m (hs μ (k + 3))
  obtain ⟨s, hr⟩ := nv5_repr (nv_to (sh_nv hp lf) (by decide : 4 ≤ 5))
  have er : opF1 .repr (shD P C ms t) = some (.str s) := by rw [f1_repr, hr]; rfl
  have ed : derefD μ (shD P C ms t) = some (shD P C ms t) := rfl
  unfold m10 eL
  generalize bookD P C ms = B at *
  generalize shD P C ms t = U at *
  simp only [evS, evE, evB, evEs, List.getElem?_cons_succ, List.getElem?_cons_zero, bind_ok, e4, f1D, ed, Option.bind_some, er, ofO_some, cmpD, oc_nes, decide_true, Bool.not_true, then_ok, evSs]
/-! numbers -/
theorem n_ok (hp : POk P C ms) {v : D} (hv : tyB v = true) (nv : nvB 8 3 v = true) {a3 a4 a5 a8 : Sl} :
    ∃ b10, evSs pg (orc3 pg (k + 6)) [n1, n2, n3] (eL sc a2 a3 a4 a5 (.val (.tup ms)) (.val (bookD P C ms)) a8 (.val v) a10 a11 a12 a13 a14 a15) μ = .ok (.nxt (eL sc a2 a3 a4 a5 (.val (.tup ms)) (.val (bookD P C ms)) a8 (.val v) b10 a11 a12 a13 a14 a15)) μ := by
  obtain ⟨r, hr, e⟩ := item_ok (k := k + 2) (P := P) (C := C) (ms := ms) (μ := μ) hv
  have e2 := law_is_whole_ok (k := k + 5) (v := v) (lo := 0) (hi := (ms.length : Int) - 1) (μ := μ) hv
  have e4 : opF1 .len (.tup ms) = some (.int ms.length) := rfl
  have z3 : (3 : Nat) ≤ 16777216 := by decide
  have z2 : (2 : Nat) ≤ 16777216 := by decide
  have nr : nvB 8 4 r = true := by
    unfold itemD at hr
    split at hr
    · rename_i hw
      obtain ⟨y, ey, hy⟩ := isW_at hw
      rw [ey] at hr
      cases hr
      have ny : nvB 8 3 y = true := nv_to (mok_nv (m := 8) (by decide) hp.p1 hp.c1 (hp.ms y hy)) (by decide)
      show (decide ((2 : Nat) ≤ 8) && [D.str (Str.ofString "meter"), y].all (nvB 8 3)) = true
      have nm : nvB 8 3 (.str (Str.ofString "meter")) = true := nv_leaf (by decide +kernel)
      simp only [List.all_cons, List.all_nil, ny, nm, Bool.and_true]
      rfl
    · cases hr
      show (decide ((3 : Nat) ≤ 8) && [D.str (Str.ofString "no"), v, .bl true].all (nvB 8 3)) = true
      have nm : nvB 8 3 (.str (Str.ofString "no")) = true := nv_leaf (by decide +kernel)
      have nb : nvB 8 3 (.bl true) = true := rfl
      simp only [List.all_cons, List.all_nil, nv, nm, nb, Bool.and_true]
      rfl
  obtain ⟨s, hs⟩ := nv_repr nr
  have er : opF1 .repr r = some (.str s) := by rw [f1_repr, hs]; rfl
  have dr : derefD μ r = some r := by
    unfold itemD at hr
    split at hr
    · obtain ⟨y, ey, h⟩ := Option.map_eq_some_iff.mp hr; rw [← h]; rfl
    · cases hr; rfl
  have t1 : evS pg (orc3 pg (k + 6)) n1 (eL sc a2 a3 a4 a5 (.val (.tup ms)) (.val (bookD P C ms)) a8 (.val v) a10 a11 a12 a13 a14 a15) μ = .ok (.nxt (eL sc a2 a3 a4 a5 (.val (.tup ms)) (.val (bookD P C ms)) a8 (.val v) (.val (.lst [.str (Str.ofString "no"), v, .bl true])) a11 a12 a13 a14 a15)) μ := by
    unfold n1 eL
    simp only [evS, evE, evEs, List.getElem?_cons_succ, List.getElem?_cons_zero, bind_ok, List.length_cons, List.length_nil, Nat.reduceAdd, line, z3, if_true, then_ok, setT, nxtO_some, List.set_cons_succ, List.set_cons_zero]
  have t2 : evS pg (orc3 pg (k + 6)) n2 (eL sc a2 a3 a4 a5 (.val (.tup ms)) (.val (bookD P C ms)) a8 (.val v) (.val (.lst [.str (Str.ofString "no"), v, .bl true])) a11 a12 a13 a14 a15) μ = .ok (.nxt (eL sc a2 a3 a4 a5 (.val (.tup ms)) (.val (bookD P C ms)) a8 (.val v) (.val r) a11 a12 a13 a14 a15)) μ := by
    unfold itemD at hr
    unfold n2 eL
    generalize bookD P C ms = B at *
    cases hw : isW v 0 ((ms.length : Int) - 1) with
    | true =>
      obtain ⟨y, ey, hy⟩ := isW_at hw
      rw [hw, if_pos rfl, ey] at hr
      cases hr
      rw [hw] at e2
      generalize (ms.length : Int) = N at *
      simp only [evS, evSs, evE, evB, evEs, List.getElem?_cons_succ, List.getElem?_cons_zero, bind_ok, f1D, der_tup, Option.bind_some, e4, ofO_some, op_sub, e2, idxE, ey, List.length_cons, List.length_nil, Nat.reduceAdd, line, z2, if_true, then_ok, setT, nxtO_some, List.set_cons_succ, List.set_cons_zero, rbind_ok]
    | false =>
      rw [hw, if_neg Bool.false_ne_true] at hr
      cases hr
      rw [hw] at e2
      generalize (ms.length : Int) = N at *
      simp only [evS, evSs, evE, evB, evEs, List.getElem?_cons_succ, List.getElem?_cons_zero, bind_ok, f1D, der_tup, Option.bind_some, e4, ofO_some, op_sub, e2, then_ok]
  have t3 : evS pg (orc3 pg (k + 6)) n3 (eL sc a2 a3 a4 a5 (.val (.tup ms)) (.val (bookD P C ms)) a8 (.val v) (.val r) a11 a12 a13 a14 a15) μ = .ok (.nxt (eL sc a2 a3 a4 a5 (.val (.tup ms)) (.val (bookD P C ms)) a8 (.val v) (.val r) a11 a12 a13 a14 a15)) μ := by
    unfold n3 eL
    generalize bookD P C ms = B at *
    simp only [evS, evSs, evE, evB, evEs, List.getElem?_cons_succ, List.getElem?_cons_zero, bind_ok, e, f1D, dr, Option.bind_some, er, ofO_some, cmpD, oc_nes, decide_true, Bool.not_true, then_ok]
  exact ⟨.val r, by simp only [evSs, t1, t2, t3, rbind_ok]⟩
/-! other books -/
def IsP (d : D) : Prop := ∃ P C ms, d = partsD P C ms ∧ POk P C ms
theorem kn_book {P C : Int} {ms : List D} {μ : Sto} : knownD pg μ (bookD P C ms) = true := rfl
theorem s_ok (hp : POk P C ms) {d : D} (hd : IsP d) {a4 a5 a6 a8 a9 : Sl} :
    ∃ b10 b14, evSs pg (orc3 pg (k + 6)) [s1, s2, s3] (eL sc a2 (.val (partsD P C ms)) a4 a5 a6 (.val (bookD P C ms)) a8 a9 a10 a11 a12 (.val d) a14 a15) μ = .ok (.nxt (eL sc a2 (.val (partsD P C ms)) a4 a5 a6 (.val (bookD P C ms)) a8 a9 b10 a11 a12 (.val d) b14 a15)) μ := by
  obtain ⟨P', C', ms', rfl, hp'⟩ := hd
  obtain ⟨b, c1, c2⟩ := parts_cmp hp hp'
  have e3 := new_book (k := k + 1) (μ := μ) hp'
  have o1 := own_eqs (μ := μ) kn_book (book_eqs (k := k + 5) (μ := μ) c1)
  have o2 := own_eqs (μ := μ) kn_book (book_eqs (k := k + 5) (μ := μ) c2)
  have o3 := own_nes (μ := μ) kn_book (book_eqs (k := k + 4) (μ := μ) c1)
  have o4 := own_nes (μ := μ) kn_book (book_eqs (k := k + 4) (μ := μ) c2)
  have q1 : opC μ .eq (partsD P' C' ms') (partsD P C ms) = some (.bl b) := oc_eqP c2
  have q2 : opC μ .ne (partsD P' C' ms') (partsD P C ms) = some (.bl (!b)) := oc_neP c2
  have i0 : idxD (partsD P' C' ms') (.int 0) = some (.int P') := rfl
  have i1 : idxD (partsD P' C' ms') (.int 1) = some (.int C') := rfl
  have i2 : idxD (partsD P' C' ms') (.int 2) = some (.tup ms') := rfl
  have dd : derefD μ (partsD P' C' ms') = some (partsD P' C' ms') := rfl
  have z4 : (4 : Nat) ≤ 16777216 := by decide
  have z1 : (1 : Nat) ≤ 16777216 := by decide
  have ml : ∀ x : Bool, opB .mul (.lst [.bl x]) (.int 2) = some (.lst [.bl x, .bl x]) := fun x => rfl
  have ad : opB .add (.lst [.bl b, .bl b]) (.lst [.bl (!b), .bl (!b)]) = some (.lst [.bl b, .bl b, .bl (!b), .bl (!b)]) := rfl
  obtain ⟨s, hs⟩ := nv_repr (d := .lst [.bl b, .bl b, .bl (!b), .bl (!b)]) rfl
  have er : opF1 .repr (.lst [.bl b, .bl b, .bl (!b), .bl (!b)]) = some (.str s) := by rw [f1_repr, hs]; rfl
  have t1 : evS pg (orc3 pg (k + 6)) s1 (eL sc a2 (.val (partsD P C ms)) a4 a5 a6 (.val (bookD P C ms)) a8 a9 a10 a11 a12 (.val (partsD P' C' ms')) a14 a15) μ = .ok (.nxt (eL sc a2 (.val (partsD P C ms)) a4 a5 a6 (.val (bookD P C ms)) a8 a9 a10 a11 a12 (.val (partsD P' C' ms')) (.val (bookD P' C' ms')) a15)) μ := by
    unfold s1 eL
    generalize bookD P C ms = B at *
    generalize bookD P' C' ms' = B' at *
    generalize partsD P' C' ms' = T' at *
    simp only [evS, evE, evB, evEs, List.getElem?_cons_succ, List.getElem?_cons_zero, bind_ok, idxE, dd, Option.bind_some, i0, i1, i2, ofO_some, e3, then_ok, setT, nxtO_some, List.set_cons_succ, List.set_cons_zero]
  have t2 : evS pg (orc3 pg (k + 6)) s2 (eL sc a2 (.val (partsD P C ms)) a4 a5 a6 (.val (bookD P C ms)) a8 a9 a10 a11 a12 (.val (partsD P' C' ms')) (.val (bookD P' C' ms')) a15) μ = .ok (.nxt (eL sc a2 (.val (partsD P C ms)) a4 a5 a6 (.val (bookD P C ms)) a8 a9 (.val (.lst [.bl b, .bl b, .bl (!b), .bl (!b)])) a11 a12 (.val (partsD P' C' ms')) (.val (bookD P' C' ms')) a15)) μ := by
    unfold s2 eL
    generalize bookD P C ms = B at *
    generalize bookD P' C' ms' = B' at *
    simp only [evS, evE, evB, evEs, List.getElem?_cons_succ, List.getElem?_cons_zero, bind_ok, o1, o2, o3, o4, List.length_cons, List.length_nil, Nat.reduceAdd, line, z4, if_true, then_ok, setT, nxtO_some, List.set_cons_succ, List.set_cons_zero]
  have t3 : evS pg (orc3 pg (k + 6)) s3 (eL sc a2 (.val (partsD P C ms)) a4 a5 a6 (.val (bookD P C ms)) a8 a9 (.val (.lst [.bl b, .bl b, .bl (!b), .bl (!b)])) a11 a12 (.val (partsD P' C' ms')) (.val (bookD P' C' ms')) a15) μ = .ok (.nxt (eL sc a2 (.val (partsD P C ms)) a4 a5 a6 (.val (bookD P C ms)) a8 a9 (.val (.lst [.bl b, .bl b, .bl (!b), .bl (!b)])) a11 a12 (.val (partsD P' C' ms')) (.val (bookD P' C' ms')) a15)) μ := by
    unfold s3 eL
    generalize bookD P C ms = B at *
    generalize bookD P' C' ms' = B' at *
    generalize partsD P' C' ms' = T' at *
    generalize partsD P C ms = T at *
    simp only [evS, evSs, evE, evB, evEs, List.getElem?_cons_succ, List.getElem?_cons_zero, bind_ok, cmpD, q1, q2, ofO_some, List.length_cons, List.length_nil, Nat.reduceAdd, line, z1, if_true, ml, ad, f1D, der_lst, Option.bind_some, er, oc_nes, decide_true, Bool.not_true, then_ok]
  exact ⟨.val (.lst [.bl b, .bl b, .bl (!b), .bl (!b)]), .val (bookD P' C' ms'), by simp only [evSs, t1, t2, t3, rbind_ok]⟩
/-! values -/
theorem v_ok {v : D} (hv : tyB v = true) {a3 a4 a5 a6 a8 a9 : Sl} :
    evSs pg (orc3 pg (k + 6)) [v1, v2] (eL sc a2 a3 a4 a5 a6 (.val (bookD P C ms)) a8 a9 a10 a11 a12 a13 a14 (.val v)) μ = .ok (.nxt (eL sc a2 a3 a4 a5 a6 (.val (bookD P C ms)) a8 a9 a10 a11 a12 a13 a14 (.val v))) μ := by
  have hk : knownD pg μ v = true := by unfold knownD; rw [show (tyOf v).isSome = true from hv]; rfl
  have o1 := own_eqs (μ := μ) hk (book_eq0 (k := k + 5) (P := P) (C := C) (ms := ms) (μ := μ) hv)
  have o2 := own_nes (μ := μ) hk (book_eq0 (k := k + 4) (P := P) (C := C) (ms := ms) (μ := μ) hv)
  unfold v1 v2 eL
  generalize bookD P C ms = B at *
  simp only [evS, evSs, evE, evB, List.getElem?_cons_succ, List.getElem?_cons_zero, bind_ok, o1, o2, Bool.not_false, Bool.not_true, then_ok, rbind_ok]
end
/-! ### the law's loops -/
theorem odd_ty : ∀ d ∈ oddD, tyB d = true := List.all_eq_true.mp (by decide +kernel)
section
variable {k : Nat} {P C : Int} {ms : List D} {t : Str} {sc a2 a3 a4 a5 a6 a7 a8 a9 a10 a11 a12 a13 a14 a15 : Sl} {μ : Sto}
def Odd (v : D) : Prop := tyB v = true ∧ nvB 8 3 v = true
theorem odd_i {i : Int} (h0 : -100 ≤ i) (h1 : i ≤ 100) : Odd (.int i) := ⟨rfl, nv_leaf (leaf_int (by omega))⟩
theorem m5_ok {n : Nat} (h : Dk n μ) (hn : n < 2 ^ 20) (hp : POk P C ms) {a3 a4 a5 a8 : Sl} :
    ∃ b9 b10 μ', evS pg (orc3 pg (k + 6)) (.forr (.nm 9) (.seq m5E) [n1, n2, n3]) (eL sc a2 a3 a4 a5 (.val (.tup ms)) (.val (bookD P C ms)) a8 a9 a10 a11 a12 a13 a14 a15) μ = .ok (.nxt (eL sc a2 a3 a4 a5 (.val (.tup ms)) (.val (bookD P C ms)) a8 b9 b10 a11 a12 a13 a14 a15)) μ' ∧ Dk (n + 2) μ' := by
  obtain ⟨o1, μ1, e1, h1, d1⟩ := odd_mem_dk (k := k + 3) h (by omega)
  obtain ⟨o2, μ2, e2, h2, d2⟩ := odd_mem_dk (k := k + 3) d1 (by omega)
  have hm := hp.m
  have e4 : opF1 .len (.tup ms) = some (.int ms.length) := rfl
  have it : ∀ xs : List D, itemsOf (.lst xs) = some xs := fun _ => rfl
  have e0 : evIt pg (orc3 pg (k + 6)) (.seq m5E) (eL sc a2 a3 a4 a5 (.val (.tup ms)) (.val (bookD P C ms)) a8 a9 a10 a11 a12 a13 a14 a15) μ = .ok [.int 0, .int 1, .int 2, .int (-1), .bl true, .bl false, .int ms.length, o1, o2] μ2 := by
    have z9 : (9 : Nat) ≤ 16777216 := by decide
    unfold m5E eL
    generalize (ms.length : Int) = N at *
    generalize bookD P C ms = B at *
    simp only [evIt, evE, evB, evEs, List.getElem?_cons_succ, List.getElem?_cons_zero, bind_ok, f1D, der_tup, Option.bind_some, e4, ofO_some, e1, e2, List.length_cons, List.length_nil, Nat.reduceAdd, line, z9, if_true, it]
    try rfl
  have hall : ∀ x ∈ ([.int 0, .int 1, .int 2, .int (-1), .bl true, .bl false, .int ms.length, o1, o2] : List D), Odd x := by
    intro x hx
    simp only [List.mem_cons, List.not_mem_nil, or_false] at hx
    rcases hx with rfl | rfl | rfl | rfl | rfl | rfl | rfl | rfl | rfl
    · exact odd_i (by decide) (by decide)
    · exact odd_i (by decide) (by decide)
    · exact odd_i (by decide) (by decide)
    · exact odd_i (by decide) (by decide)
    · exact ⟨rfl, rfl⟩
    · exact ⟨rfl, rfl⟩
    · exact odd_i (by omega) (by omega)
    · exact ⟨odd_ty _ h1, odd_nv _ h1⟩
    · exact ⟨odd_ty _ h2, odd_nv _ h2⟩
  obtain ⟨env', μ', el, b9, b10, rfl, rfl⟩ := loopF_inv (f := loopB pg (orc3 pg (k + 6)) (.nm 9) [n1, n2, n3]) (xs := [.int 0, .int 1, .int 2, .int (-1), .bl true, .bl false, .int ms.length, o1, o2]) (I := fun j env μ' => ∃ b9 b10, env = eL sc a2 a3 a4 a5 (.val (.tup ms)) (.val (bookD P C ms)) a8 b9 b10 a11 a12 a13 a14 a15 ∧ μ' = μ2) (k := 0) (c := 1)
    (env := eL sc a2 a3 a4 a5 (.val (.tup ms)) (.val (bookD P C ms)) a8 a9 a10 a11 a12 a13 a14 a15) (μ := μ2) ⟨_, _, rfl, rfl⟩ (by decide) fun x hx j env μ' h0 h1 hI => by
      obtain ⟨b9, b10, rfl, rfl⟩ := hI
      obtain ⟨hv, nv⟩ := hall x hx
      obtain ⟨c10, e⟩ := n_ok (k := k) (sc := sc) (a2 := a2) (a10 := b10) (a11 := a11) (a12 := a12) (a13 := a13) (a14 := a14) (a15 := a15) (μ := μ') hp hv nv (a3 := a3) (a4 := a4) (a5 := a5) (a8 := a8)
      exact ⟨_, _, e, _, _, rfl, rfl⟩
  exact ⟨b9, b10, _, by rw [ev_for, e0, then_ok, el], d2⟩
theorem m67_ok {n : Nat} (h : Dk n μ) (hn : n < 2 ^ 20) (hp : POk P C ms) {a3 a6 a7 a8 : Sl} :
    ∃ d1 xs μ', evSs pg (orc3 pg (k + 6)) [m6, m7] (eL sc a2 a3 (.val (.int P)) (.val (.int C)) a6 a7 a8 a9 a10 a11 a12 a13 a14 a15) μ = .ok (.nxt (eL sc a2 a3 (.val (.int P)) (.val (.int C)) a6 a7 a8 a9 a10 (.val d1) (.val (.lst xs)) a13 a14 a15)) μ' ∧ IsP d1 ∧ (∀ x ∈ xs, IsP x) ∧ xs.length = 3 ∧ Dk (n + 18) μ' := by
  obtain ⟨C', ms', μ1, e1, hp', d1⟩ := parts_dk (k := k + 2) h (by omega) hp.p0 hp.p1
  have h' := hp
  obtain ⟨p0, p1, c0, c1, hm, hms⟩ := h'
  obtain ⟨r, hr, r0, r1⟩ : ∃ r, opB .mod (.int P) (.int 3) = some (.int r) ∧ 0 ≤ r ∧ r < 3 := ⟨_, op_mod (by decide), Int.fmod_nonneg_of_pos _ (by decide), Int.fmod_lt_of_pos _ (by decide)⟩
  obtain ⟨q, hq, q0, q1⟩ : ∃ q, opB .mod (.int C) (.int 3) = some (.int q) ∧ 0 ≤ q ∧ q < 3 := ⟨_, op_mod (by decide), Int.fmod_nonneg_of_pos _ (by decide), Int.fmod_lt_of_pos _ (by decide)⟩
  refine ⟨partsD P C' ms', [partsD P C [], partsD (r + 1) C [], partsD P (q + 1) []], μ1, ?_, ⟨_, _, _, rfl, hp'⟩, fun x hx => ?_, rfl, d1⟩
  · have z3 : (3 : Nat) ≤ 16777216 := by decide
    have z0 : (0 : Nat) ≤ 16777216 := by decide
    have t1 : evS pg (orc3 pg (k + 6)) m6 (eL sc a2 a3 (.val (.int P)) (.val (.int C)) a6 a7 a8 a9 a10 a11 a12 a13 a14 a15) μ = .ok (.nxt (eL sc a2 a3 (.val (.int P)) (.val (.int C)) a6 a7 a8 a9 a10 (.val (partsD P C' ms')) a12 a13 a14 a15)) μ1 := by
      unfold m6 eL
      simp only [evS, evE, evEs, List.getElem?_cons_succ, List.getElem?_cons_zero, bind_ok, e1, then_ok, setT, nxtO_some, List.set_cons_succ, List.set_cons_zero]
    have t2 : evS pg (orc3 pg (k + 6)) m7 (eL sc a2 a3 (.val (.int P)) (.val (.int C)) a6 a7 a8 a9 a10 (.val (partsD P C' ms')) a12 a13 a14 a15) μ1 = .ok (.nxt (eL sc a2 a3 (.val (.int P)) (.val (.int C)) a6 a7 a8 a9 a10 (.val (partsD P C' ms')) (.val (.lst [partsD P C [], partsD (r + 1) C [], partsD P (q + 1) []])) a13 a14 a15)) μ1 := by
      unfold m7 eL
      simp only [evS, evE, evB, evEs, List.getElem?_cons_succ, List.getElem?_cons_zero, bind_ok, hr, hq, op_add, ofO_some, List.length_cons, List.length_nil, Nat.reduceAdd, line, z3, z0, if_true, then_ok, setT, nxtO_some, List.set_cons_succ, List.set_cons_zero]
    simp only [evSs, t1, t2, rbind_ok]
  · simp only [List.mem_cons, List.not_mem_nil, or_false] at hx
    rcases hx with rfl | rfl | rfl
    · exact ⟨P, C, [], rfl, p0, p1, c0, c1, by simp, by simp⟩
    · exact ⟨r + 1, C, [], rfl, by omega, by omega, c0, c1, by simp, by simp⟩
    · exact ⟨P, q + 1, [], rfl, p0, p1, by omega, by omega, by simp, by simp⟩
theorem m8_ok {n : Nat} (h : Dk n μ) (hn : n < 2 ^ 20) (hp : POk P C ms) {d1 : D} {xs : List D} (hd : IsP d1) (hx : ∀ x ∈ xs, IsP x) (hl : xs.length = 3) {a8 a9 : Sl} :
    ∃ b10 b13 b14 μ', evS pg (orc3 pg (k + 6)) (.forr (.nm 13) (.seq m8E) [s1, s2, s3]) (eL sc a2 (.val (partsD P C ms)) (.val (.int P)) (.val (.int C)) (.val (.tup ms)) (.val (bookD P C ms)) a8 a9 a10 (.val d1) (.val (.lst xs)) a13 a14 a15) μ =
      .ok (.nxt (eL sc a2 (.val (partsD P C ms)) (.val (.int P)) (.val (.int C)) (.val (.tup ms)) (.val (bookD P C ms)) a8 a9 b10 (.val d1) (.val (.lst xs)) b13 b14 a15)) μ' ∧ Dk (n + 20) μ' := by
  obtain ⟨C', ms', μ1, e1, hp', d2⟩ := changed_ok (k := k + 1) h (by omega) hp
  have rv : revD (.tup ms) = some (.tup ms.reverse) := rfl
  have it : ∀ xs : List D, itemsOf (.lst xs) = some xs := fun _ => rfl
  have h3 : POk P C ms.reverse := ⟨hp.p0, hp.p1, hp.c0, hp.c1, by rw [List.length_reverse]; exact hp.m, fun d hd => hp.ms d (List.mem_reverse.mp hd)⟩
  have ad : opB .add (.lst [partsD P C ms, partsD P C ms.reverse, partsD P C' ms', d1]) (.lst xs) = some (.lst ([partsD P C ms, partsD P C ms.reverse, partsD P C' ms', d1] ++ xs)) := if_pos (by simp only [line, List.length_cons, List.length_nil]; omega)
  have e0 : evIt pg (orc3 pg (k + 6)) (.seq m8E) (eL sc a2 (.val (partsD P C ms)) (.val (.int P)) (.val (.int C)) (.val (.tup ms)) (.val (bookD P C ms)) a8 a9 a10 (.val d1) (.val (.lst xs)) a13 a14 a15) μ = .ok ([partsD P C ms, partsD P C ms.reverse, partsD P C' ms', d1] ++ xs) μ1 := by
    have z4 : (4 : Nat) ≤ 16777216 := by decide
    have z3 : (3 : Nat) ≤ 16777216 := by decide
    obtain ⟨T, hT⟩ : ∃ T : D, T = partsD P C ms := ⟨_, rfl⟩
    rw [← hT] at e1 ad ⊢
    unfold m8E eL
    generalize bookD P C ms = B at *
    simp only [evIt, evE, evB, evEs, List.getElem?_cons_succ, List.getElem?_cons_zero, bind_ok, der_tup, Option.bind_some, rv, ofO_some, e1, List.length_cons, List.length_nil, Nat.reduceAdd, line, z4, z3, if_true, ad, it]
  have hall : ∀ x ∈ [partsD P C ms, partsD P C ms.reverse, partsD P C' ms', d1] ++ xs, IsP x := by
    intro x hx'
    rcases List.mem_append.mp hx' with hx' | hx'
    · simp only [List.mem_cons, List.not_mem_nil, or_false] at hx'
      rcases hx' with rfl | rfl | rfl | rfl
      · exact ⟨_, _, _, rfl, hp⟩
      · exact ⟨_, _, _, rfl, h3⟩
      · exact ⟨_, _, _, rfl, hp'⟩
      · exact hd
    · exact hx x hx'
  generalize [partsD P C ms, partsD P C ms.reverse, partsD P C' ms', d1] ++ xs = ys at *
  obtain ⟨env', μ', el, b10, b13, b14, rfl, rfl⟩ := loopF_inv (f := loopB pg (orc3 pg (k + 6)) (.nm 13) [s1, s2, s3]) (xs := ys) (I := fun j env μ' => ∃ b10 b13 b14, env = eL sc a2 (.val (partsD P C ms)) (.val (.int P)) (.val (.int C)) (.val (.tup ms)) (.val (bookD P C ms)) a8 a9 b10 (.val d1) (.val (.lst xs)) b13 b14 a15 ∧ μ' = μ1) (k := 0) (c := 1)
    (env := eL sc a2 (.val (partsD P C ms)) (.val (.int P)) (.val (.int C)) (.val (.tup ms)) (.val (bookD P C ms)) a8 a9 a10 (.val d1) (.val (.lst xs)) a13 a14 a15) (μ := μ1) ⟨_, _, _, rfl, rfl⟩ (by decide) fun x hx j env μ' h0 h1 hI => by
      obtain ⟨b10, b13, b14, rfl, rfl⟩ := hI
      obtain ⟨c10, c14, e⟩ := s_ok (k := k) (sc := sc) (a2 := a2) (a10 := b10) (a11 := .val d1) (a12 := .val (.lst xs)) (a14 := b14) (a15 := a15) (μ := μ') hp (hall x hx) (a4 := .val (.int P)) (a5 := .val (.int C)) (a6 := .val (.tup ms)) (a8 := a8) (a9 := a9)
      exact ⟨_, _, e, _, _, _, rfl, rfl⟩
  exact ⟨b10, b13, b14, _, by rw [ev_for, e0, then_ok, el], d2⟩
theorem m9_ok {n : Nat} (h : Dk n μ) (hn : n < 2 ^ 20) (hs : ∀ μ k, (orc3 pg (k + 2)).call f_Book_str [bookD P C ms] μ = .ok (.str t) μ) {a4 a5 a8 a9 : Sl} :
    ∃ b15 μ', evS pg (orc3 pg (k + 6)) (.forr (.nm 15) (.seq m9E) [v1, v2]) (eL sc a2 (.val (partsD P C ms)) a4 a5 (.val (.tup ms)) (.val (bookD P C ms)) a8 a9 a10 a11 a12 a13 a14 a15) μ = .ok (.nxt (eL sc a2 (.val (partsD P C ms)) a4 a5 (.val (.tup ms)) (.val (bookD P C ms)) a8 a9 a10 a11 a12 a13 a14 b15)) μ' ∧ Dk (n + 1) μ' := by
  obtain ⟨o1, μ1, e1, h1, d1⟩ := odd_mem_dk (k := k + 3) h (by omega)
  have e4 : opF1 .len (.tup ms) = some (.int ms.length) := rfl
  have it : ∀ xs : List D, itemsOf (.lst xs) = some xs := fun _ => rfl
  have s4 := sp4 (hs μ (k + 4))
  have m4 : ¬ (1000004 < 1000000) := by decide
  have e0 : evIt pg (orc3 pg (k + 6)) (.seq m9E) (eL sc a2 (.val (partsD P C ms)) a4 a5 (.val (.tup ms)) (.val (bookD P C ms)) a8 a9 a10 a11 a12 a13 a14 a15) μ = .ok [partsD P C ms, .non, .tup ms, .str t, .int ms.length, o1] μ1 := by
    have z6 : (6 : Nat) ≤ 16777216 := by decide
    unfold m9E eL
    generalize (ms.length : Int) = N at *
    generalize bookD P C ms = B at *
    generalize partsD P C ms = T at *
    simp only [evIt, evE, evB, evEs, List.getElem?_cons_succ, List.getElem?_cons_zero, bind_ok, if_neg m4, s4, f1D, der_tup, Option.bind_some, e4, ofO_some, e1, List.length_cons, List.length_nil, Nat.reduceAdd, line, z6, if_true, it]
  have hall : ∀ x ∈ ([partsD P C ms, .non, .tup ms, .str t, .int ms.length, o1] : List D), tyB x = true := by
    intro x hx
    simp only [List.mem_cons, List.not_mem_nil, or_false] at hx
    rcases hx with rfl | rfl | rfl | rfl | rfl | rfl
    · rfl
    · rfl
    · rfl
    · rfl
    · rfl
    · exact odd_ty _ h1
  generalize ([partsD P C ms, .non, .tup ms, .str t, .int ms.length, o1] : List D) = ys at *
  obtain ⟨env', μ', el, b15, rfl, rfl⟩ := loopF_inv (f := loopB pg (orc3 pg (k + 6)) (.nm 15) [v1, v2]) (xs := ys) (I := fun j env μ' => ∃ b15, env = eL sc a2 (.val (partsD P C ms)) a4 a5 (.val (.tup ms)) (.val (bookD P C ms)) a8 a9 a10 a11 a12 a13 a14 b15 ∧ μ' = μ1) (k := 0) (c := 1)
    (env := eL sc a2 (.val (partsD P C ms)) a4 a5 (.val (.tup ms)) (.val (bookD P C ms)) a8 a9 a10 a11 a12 a13 a14 a15) (μ := μ1) ⟨_, rfl, rfl⟩ (by decide) fun x hx j env μ' h0 h1 hI => by
      obtain ⟨b15, rfl, rfl⟩ := hI
      have e := v_ok (k := k) (P := P) (C := C) (ms := ms) (sc := sc) (a2 := a2) (a10 := a10) (a11 := a11) (a12 := a12) (a13 := a13) (a14 := a14) (μ := μ') (hall x hx) (a3 := .val (partsD P C ms)) (a4 := a4) (a5 := a5) (a6 := .val (.tup ms)) (a8 := a8) (a9 := a9)
      exact ⟨_, _, e, _, rfl, rfl⟩
  exact ⟨b15, _, by rw [ev_for, e0, then_ok, el], d1⟩
theorem evSs_app {C0 : Orc} {a b : List S} {env env' : Env} {μ μ' : Sto} (h : evSs pg C0 a env μ = .ok (.nxt env') μ') : evSs pg C0 (a ++ b) env μ = evSs pg C0 b env' μ' := by
  induction a generalizing env μ with
  | nil => unfold evSs at h; cases h; rfl
  | cons s r ih =>
    simp only [List.cons_append, evSs] at h ⊢
    cases e : evS pg C0 s env μ with
    | ok f μ1 =>
      rw [e] at h
      cases f with
      | nxt env1 => exact ih h
      | brk e1 => cases h
      | ret d => cases h
    | exn x e1 μ1 => rw [e] at h; cases h
    | bad => rw [e] at h; cases h
theorem turn_ok {n : Nat} (h : Dk n μ) (hn : n < 2 ^ 18) : ∃ b3 b4 b5 b6 b7 b8 b9 b10 b11 b12 b13 b14 b15 μ', evSs pg (orc3 pg (k + 6)) turnB (eL sc a2 a3 a4 a5 a6 a7 a8 a9 a10 a11 a12 a13 a14 a15) μ = .ok (.nxt (eL sc a2 b3 b4 b5 b6 b7 b8 b9 b10 b11 b12 b13 b14 b15)) μ' ∧ Dk (n + 60) μ' := by
  obtain ⟨P, C, ms, t, μ1, t1, hp, lf, hs, d1⟩ := m123_ok (k := k) (sc := sc) (a2 := a2) (a3 := a3) (a4 := a4) (a5 := a5) (a6 := a6) (a7 := a7) (a8 := a8) (a9 := a9) (a10 := a10) (a11 := a11) (a12 := a12) (a13 := a13) (a14 := a14) (a15 := a15) h (by omega)
  have t4 := m4_ok (k := k) (sc := sc) (a2 := a2) (a9 := a9) (a10 := a10) (a11 := a11) (a12 := a12) (a13 := a13) (a14 := a14) (a15 := a15) (μ := μ1) hp lf hs (T := partsD P C ms)
  obtain ⟨b9, b10, μ2, t5, d2⟩ := m5_ok (k := k) (sc := sc) (a2 := a2) (a9 := a9) (a10 := a10) (a11 := a11) (a12 := a12) (a13 := a13) (a14 := a14) (a15 := a15) d1 (by omega) hp (a3 := .val (partsD P C ms)) (a4 := .val (.int P)) (a5 := .val (.int C)) (a8 := .val (shD P C ms t))
  obtain ⟨dd, xs, μ3, t6, hd, hx, hl, d3⟩ := m67_ok (k := k) (sc := sc) (a2 := a2) (a9 := b9) (a10 := b10) (a11 := a11) (a12 := a12) (a13 := a13) (a14 := a14) (a15 := a15) d2 (by omega) hp (a3 := .val (partsD P C ms)) (a6 := .val (.tup ms)) (a7 := .val (bookD P C ms)) (a8 := .val (shD P C ms t))
  obtain ⟨c10, c13, c14, μ4, t8, d4⟩ := m8_ok (k := k) (sc := sc) (a2 := a2) (a10 := b10) (a13 := a13) (a14 := a14) (a15 := a15) d3 (by omega) hp hd hx hl (a8 := .val (shD P C ms t)) (a9 := b9)
  obtain ⟨c15, μ5, t9, d5⟩ := m9_ok (k := k) (sc := sc) (a2 := a2) (a10 := c10) (a11 := .val dd) (a12 := .val (.lst xs)) (a13 := c13) (a14 := c14) (a15 := a15) d4 (by omega) hs (a4 := .val (.int P)) (a5 := .val (.int C)) (a8 := .val (shD P C ms t)) (a9 := b9)
  have t10 := m10_ok (k := k) (sc := sc) (a2 := a2) (a3 := .val (partsD P C ms)) (a4 := .val (.int P)) (a5 := .val (.int C)) (a6 := .val (.tup ms)) (a9 := b9) (a10 := c10) (a11 := .val dd) (a12 := .val (.lst xs)) (a13 := c13) (a14 := c14) (a15 := c15) (μ := μ5) hp lf hs
  refine ⟨.val (partsD P C ms), .val (.int P), .val (.int C), .val (.tup ms), .val (bookD P C ms), .val (shD P C ms t), b9, c10, .val dd, .val (.lst xs), c13, c14, c15, μ5, ?_, d5.mono (by omega)⟩
  have e1 : turnB = [m1, m2, m3] ++ (m4 :: .forr (.nm 9) (.seq m5E) [n1, n2, n3] :: ([m6, m7] ++ [.forr (.nm 13) (.seq m8E) [s1, s2, s3], .forr (.nm 15) (.seq m9E) [v1, v2], m10])) := rfl
  rw [e1, evSs_app t1]
  simp only [evSs, t4, t5, rbind_ok]
  rw [evSs_app t6]
  simp only [evSs, t8, t9, t10, rbind_ok]
end
theorem law_ok {k : Nat} {ns : List Int} (hn : ns.length ≤ 63) : ∃ μ, (orc3 pg (k + 7)).call f_law [.frz (ns.map D.int)] [] = .ok (.bl true) μ := by
  obtain ⟨μ1, e1, d1⟩ := deck_ok (k := k + 5) hn
  rw [run_law, law_body]
  obtain ⟨x, hx⟩ : ∃ x : D, x = .frz (ns.map D.int) := ⟨_, rfl⟩
  rw [← hx] at e1 ⊢
  have r8 : rangeL [.int 8] = some ((List.range 8).map fun (k : Nat) => D.int (k : Int)) := rng_nat (n := 8) (by decide)
  have t1 : evS pg (orc3 pg (k + 6)) (.set (.nm 1) (.call f_law_deck [(.var 0)])) [.val x, .un, .un, .un, .un, .un, .un, .un, .un, .un, .un, .un, .un, .un, .un, .un] [] = .ok (.nxt (eL (.val x) .un .un .un .un .un .un .un .un .un .un .un .un .un .un)) μ1 := by
    unfold eL
    simp only [evS, evE, evEs, List.getElem?_cons_zero, bind_ok, e1, then_ok, setT, nxtO_some, List.set_cons_succ, List.set_cons_zero]
  obtain ⟨env', μ2, e2, b2, b3, b4, b5, b6, b7, b8, b9, b10, b11, b12, b13, b14, b15, rfl, d2⟩ := loopF_inv (f := loopB pg (orc3 pg (k + 6)) (.nm 2) turnB) (xs := (List.range 8).map fun (k : Nat) => D.int (k : Int)) (I := fun j env μ => ∃ b2 b3 b4 b5 b6 b7 b8 b9 b10 b11 b12 b13 b14 b15, env = eL (.val x) b2 b3 b4 b5 b6 b7 b8 b9 b10 b11 b12 b13 b14 b15 ∧ Dk j μ) (k := 0) (c := 60)
    (env := eL (.val x) .un .un .un .un .un .un .un .un .un .un .un .un .un .un) (μ := μ1) ⟨_, _, _, _, _, _, _, _, _, _, _, _, _, _, rfl, d1⟩ (by decide) fun y hy j env μ h0 h1 ⟨b2, b3, b4, b5, b6, b7, b8, b9, b10, b11, b12, b13, b14, b15, hE, d⟩ => by
      subst hE
      simp only [List.length_map, List.length_range] at h1
      obtain ⟨c3, c4, c5, c6, c7, c8, c9, c10, c11, c12, c13, c14, c15, μ', e, d'⟩ := turn_ok (k := k) (sc := .val x) (a2 := .val y) (a3 := b3) (a4 := b4) (a5 := b5) (a6 := b6) (a7 := b7) (a8 := b8) (a9 := b9) (a10 := b10) (a11 := b11) (a12 := b12) (a13 := b13) (a14 := b14) (a15 := b15) d (by omega)
      exact ⟨_, _, e, _, _, _, _, _, _, _, _, _, _, _, _, _, _, rfl, d'⟩
  have t4 : evIt pg (orc3 pg (k + 6)) (.range [(.lit (.int 8))]) (eL (.val x) .un .un .un .un .un .un .un .un .un .un .un .un .un .un) μ1 = .ok ((List.range 8).map fun (k : Nat) => D.int (k : Int)) μ1 := by
    simp only [evIt, evEs, evE, bind_ok, r8, ofO_some]
  have t5 : evS pg (orc3 pg (k + 6)) (.forr (.nm 2) (.range [(.lit (.int 8))]) turnB) (eL (.val x) .un .un .un .un .un .un .un .un .un .un .un .un .un .un) μ1 = .ok (.nxt (eL (.val x) b2 b3 b4 b5 b6 b7 b8 b9 b10 b11 b12 b13 b14 b15)) μ2 := by
    rw [ev_for, t4, then_ok, e2]
  have t6 : ∀ env, evS pg (orc3 pg (k + 6)) (.ret (some (.lit (.bl true)))) env μ2 = .ok (.ret (.bl true)) μ2 := fun env => by simp only [evS, evE, then_ok]
  exact ⟨μ2, by simp only [evSs, t1, t5, t6, rbind_ok, endFn_ret]⟩
abbrev depth : Nat := 7
end Lm.Law
set_option maxHeartbeats 0
namespace Lm.Law
open PySem L2
def top (i : Nat) : Stmt := PySem.Challenge.pw_lentminutes_k01_books_made.main.body.getD i (.Pass ⟨0, 0, 0, 0⟩)
def dr_is_integer : DR := ⟨none, "is_integer", false, "is_integer", "is_integer", defArgs (top 12), defBody (top 12), defScope (top 12), ["value", "low", "high"], ["value", "low", "high"], ⟨3, 3, b_is_integer⟩⟩
theorem bk_is_integer : BindOk dr_is_integer := fun _ _ _ _ _ _ us hl => match us, hl with | [_, _, _], _ => rfl
def dr_are_integers : DR := ⟨none, "are_integers", false, "are_integers", "are_integers", defArgs (top 13), defBody (top 13), defScope (top 13), ["value", "many", "low", "high"], ["value", "many", "low", "high", "one"], ⟨4, 5, b_are_integers⟩⟩
theorem bk_are_integers : BindOk dr_are_integers := fun _ _ _ _ _ _ us hl => match us, hl with | [_, _, _, _], _ => rfl
def dr_meter_word : DR := ⟨none, "meter_word", false, "meter_word", "meter_word", defArgs (top 14), defBody (top 14), defScope (top 14), ["programs", "cycle", "value"], ["programs", "cycle", "value"], ⟨3, 3, b_meter_word⟩⟩
theorem bk_meter_word : BindOk dr_meter_word := fun _ _ _ _ _ _ us hl => match us, hl with | [_, _, _], _ => rfl
def dr_check_book : DR := ⟨none, "check_book", false, "check_book", "check_book", defArgs (top 15), defBody (top 15), defScope (top 15), ["programs", "cycle", "meters"], ["programs", "cycle", "meters", "number", "meter", "word"], ⟨3, 6, b_check_book⟩⟩
theorem bk_check_book : BindOk dr_check_book := fun _ _ _ _ _ _ us hl => match us, hl with | [_, _, _], _ => rfl
def dr_law_deck : DR := ⟨none, "_law_deck", false, "_law_deck", "_law_deck", defArgs (top 18), defBody (top 18), defScope (top 18), ["_law_script"], ["_law_script", "_law_great", "_law_cell"], ⟨1, 3, b_law_deck⟩⟩
theorem bk_law_deck : BindOk dr_law_deck := fun _ _ _ _ _ _ us hl => match us, hl with | [_], _ => rfl
def dr_law_take : DR := ⟨none, "_law_take", false, "_law_take", "_law_take", defArgs (top 19), defBody (top 19), defScope (top 19), ["_law_deck_here", "_law_many"], ["_law_deck_here", "_law_many", "_law_digit", "_law_turn", "_law_cells", "_law_mixed"], ⟨2, 6, b_law_take⟩⟩
theorem bk_law_take : BindOk dr_law_take := fun _ _ _ _ _ _ us hl => match us, hl with | [_, _], _ => rfl
def dr_law_one : DR := ⟨none, "_law_one", false, "_law_one", "_law_one", defArgs (top 20), defBody (top 20), defScope (top 20), ["_law_deck_here", "_law_items"], ["_law_deck_here", "_law_items"], ⟨2, 2, b_law_one⟩⟩
theorem bk_law_one : BindOk dr_law_one := fun _ _ _ _ _ _ us hl => match us, hl with | [_, _], _ => rfl
def dr_law_is_whole : DR := ⟨none, "_law_is_whole", false, "_law_is_whole", "_law_is_whole", defArgs (top 21), defBody (top 21), defScope (top 21), ["_law_value", "_law_low", "_law_high"], ["_law_value", "_law_low", "_law_high"], ⟨3, 3, b_law_is_whole⟩⟩
theorem bk_law_is_whole : BindOk dr_law_is_whole := fun _ _ _ _ _ _ us hl => match us, hl with | [_, _, _], _ => rfl
def dr_law_odd : DR := ⟨none, "_law_odd", false, "_law_odd", "_law_odd", defArgs (top 22), defBody (top 22), defScope (top 22), ["_law_deck_here"], ["_law_deck_here", "_law_some"], ⟨1, 2, b_law_odd⟩⟩
theorem bk_law_odd : BindOk dr_law_odd := fun _ _ _ _ _ _ us hl => match us, hl with | [_], _ => rfl
def dr_law_meter : DR := ⟨none, "_law_meter", false, "_law_meter", "_law_meter", defArgs (top 23), defBody (top 23), defScope (top 23), ["_law_deck_here", "_law_programs", "_law_cycle"], ["_law_deck_here", "_law_programs", "_law_cycle", "_law_weights", "_law_gains", "_law_program", "_law_day"], ⟨3, 7, b_law_meter⟩⟩
theorem bk_law_meter : BindOk dr_law_meter := fun _ _ _ _ _ _ us hl => match us, hl with | [_, _, _], _ => rfl
def dr_law_parts : DR := ⟨none, "_law_parts", false, "_law_parts", "_law_parts", defArgs (top 24), defBody (top 24), defScope (top 24), ["_law_deck_here", "_law_programs"], ["_law_deck_here", "_law_programs", "_law_cycle", "_law_meters", "_law_turn"], ⟨2, 5, b_law_parts⟩⟩
theorem bk_law_parts : BindOk dr_law_parts := fun _ _ _ _ _ _ us hl => match us, hl with | [_, _], _ => rfl
def dr_law_changed : DR := ⟨none, "_law_changed", false, "_law_changed", "_law_changed", defArgs (top 25), defBody (top 25), defScope (top 25), ["_law_deck_here", "_law_parts_here"], ["_law_deck_here", "_law_parts_here", "_law_programs", "_law_cycle", "_law_meters", "_law_spot", "_law_way", "_law_weights", "_law_gains", "_law_save", "_law_lend", "_law_meter_here"], ⟨2, 12, b_law_changed⟩⟩
theorem bk_law_changed : BindOk dr_law_changed := fun _ _ _ _ _ _ us hl => match us, hl with | [_, _], _ => rfl
def dr_law_item : DR := ⟨none, "_law_item", false, "_law_item", "_law_item", defArgs (top 26), defBody (top 26), defScope (top 26), ["_law_book", "_law_number"], ["_law_book", "_law_number", "_law_found", "error", "_law_is_so"], ⟨2, 5, b_law_item⟩⟩
theorem bk_law_item : BindOk dr_law_item := fun _ _ _ _ _ _ us hl => match us, hl with | [_, _], _ => rfl
def dr_law_shown : DR := ⟨none, "_law_shown", false, "_law_shown", "_law_shown", defArgs (top 27), defBody (top 27), defScope (top 27), ["_law_book"], ["_law_book"], ⟨1, 1, b_law_shown⟩⟩
theorem bk_law_shown : BindOk dr_law_shown := fun _ _ _ _ _ _ us hl => match us, hl with | [_], _ => rfl
def dr_law_due : DR := ⟨none, "_law_due", false, "_law_due", "_law_due", defArgs (top 28), defBody (top 28), defScope (top 28), ["_law_parts_here"], ["_law_parts_here", "_law_programs", "_law_cycle", "_law_meters", "_law_text"], ⟨1, 5, b_law_due⟩⟩
theorem bk_law_due : BindOk dr_law_due := fun _ _ _ _ _ _ us hl => match us, hl with | [_], _ => rfl
def dr_law : DR := ⟨none, "law", false, "law", "law", defArgs (top 29), defBody (top 29), defScope (top 29), ["_law_script"], ["_law_script", "_law_deck_here", "_law_turn", "_law_parts_here", "_law_programs", "_law_cycle", "_law_meters", "_law_book", "_law_due_here", "_law_number", "_law_told", "_law_more", "_law_bare", "_law_other", "_law_twin", "_law_value"], ⟨1, 16, b_law⟩⟩
theorem bk_law : BindOk dr_law := fun _ _ _ _ _ _ us hl => match us, hl with | [_], _ => rfl
def dr_BadBook_init : DR := ⟨some "BadBook", "__init__", false, "__init__", "BadBook.__init__", defArgs (inClass (top 9) 0), defBody (inClass (top 9) 0), defScope (inClass (top 9) 0), ["self", "number", "word"], ["self", "number", "word"], ⟨3, 3, b_BadBook_init⟩⟩
theorem bk_BadBook_init : BindOk dr_BadBook_init := fun _ _ _ _ _ _ us hl => match us, hl with | [_, _, _], _ => rfl
def dr_NoMeter_init : DR := ⟨some "NoMeter", "__init__", false, "__init__", "NoMeter.__init__", defArgs (inClass (top 10) 0), defBody (inClass (top 10) 0), defScope (inClass (top 10) 0), ["self", "number"], ["self", "number"], ⟨2, 2, b_NoMeter_init⟩⟩
theorem bk_NoMeter_init : BindOk dr_NoMeter_init := fun _ _ _ _ _ _ us hl => match us, hl with | [_, _], _ => rfl
def dr_Book_init : DR := ⟨some "Book", "__init__", false, "__init__", "Book.__init__", defArgs (inClass (top 16) 0), defBody (inClass (top 16) 0), defScope (inClass (top 16) 0), ["self", "programs", "cycle", "meters"], ["self", "programs", "cycle", "meters"], ⟨4, 4, b_Book_init⟩⟩
theorem bk_Book_init : BindOk dr_Book_init := fun _ _ _ _ _ _ us hl => match us, hl with | [_, _, _, _], _ => rfl
def dr_Book_programs : DR := ⟨some "Book", "programs", true, "programs", "Book.programs", defArgs (inClass (top 16) 1), defBody (inClass (top 16) 1), defScope (inClass (top 16) 1), ["self"], ["self"], ⟨1, 1, b_Book_programs⟩⟩
theorem bk_Book_programs : BindOk dr_Book_programs := fun _ _ _ _ _ _ us hl => match us, hl with | [_], _ => rfl
def dr_Book_cycle : DR := ⟨some "Book", "cycle", true, "cycle", "Book.cycle", defArgs (inClass (top 16) 2), defBody (inClass (top 16) 2), defScope (inClass (top 16) 2), ["self"], ["self"], ⟨1, 1, b_Book_cycle⟩⟩
theorem bk_Book_cycle : BindOk dr_Book_cycle := fun _ _ _ _ _ _ us hl => match us, hl with | [_], _ => rfl
def dr_Book_meters : DR := ⟨some "Book", "meters", true, "meters", "Book.meters", defArgs (inClass (top 16) 3), defBody (inClass (top 16) 3), defScope (inClass (top 16) 3), ["self"], ["self"], ⟨1, 1, b_Book_meters⟩⟩
theorem bk_Book_meters : BindOk dr_Book_meters := fun _ _ _ _ _ _ us hl => match us, hl with | [_], _ => rfl
def dr_Book_check_number : DR := ⟨some "Book", "check_number", false, "check_number", "Book.check_number", defArgs (inClass (top 16) 4), defBody (inClass (top 16) 4), defScope (inClass (top 16) 4), ["self", "number"], ["self", "number"], ⟨2, 2, b_Book_check_number⟩⟩
theorem bk_Book_check_number : BindOk dr_Book_check_number := fun _ _ _ _ _ _ us hl => match us, hl with | [_, _], _ => rfl
def dr_Book_without : DR := ⟨some "Book", "without", false, "without", "Book.without", defArgs (inClass (top 16) 5), defBody (inClass (top 16) 5), defScope (inClass (top 16) 5), ["self", "number"], ["self", "number"], ⟨2, 2, b_Book_without⟩⟩
theorem bk_Book_without : BindOk dr_Book_without := fun _ _ _ _ _ _ us hl => match us, hl with | [_, _], _ => rfl
def dr_Book_with_meter : DR := ⟨some "Book", "with_meter", false, "with_meter", "Book.with_meter", defArgs (inClass (top 16) 6), defBody (inClass (top 16) 6), defScope (inClass (top 16) 6), ["self", "value"], ["self", "value"], ⟨2, 2, b_Book_with_meter⟩⟩
theorem bk_Book_with_meter : BindOk dr_Book_with_meter := fun _ _ _ _ _ _ us hl => match us, hl with | [_, _], _ => rfl
def dr_Book_getitem : DR := ⟨some "Book", "__getitem__", false, "__getitem__", "Book.__getitem__", defArgs (inClass (top 16) 7), defBody (inClass (top 16) 7), defScope (inClass (top 16) 7), ["self", "number"], ["self", "number"], ⟨2, 2, b_Book_getitem⟩⟩
theorem bk_Book_getitem : BindOk dr_Book_getitem := fun _ _ _ _ _ _ us hl => match us, hl with | [_, _], _ => rfl
def dr_Book_len : DR := ⟨some "Book", "__len__", false, "__len__", "Book.__len__", defArgs (inClass (top 16) 9), defBody (inClass (top 16) 9), defScope (inClass (top 16) 9), ["self"], ["self"], ⟨1, 1, b_Book_len⟩⟩
theorem bk_Book_len : BindOk dr_Book_len := fun _ _ _ _ _ _ us hl => match us, hl with | [_], _ => rfl
def dr_Book_bool : DR := ⟨some "Book", "__bool__", false, "__bool__", "Book.__bool__", defArgs (inClass (top 16) 10), defBody (inClass (top 16) 10), defScope (inClass (top 16) 10), ["self"], ["self"], ⟨1, 1, b_Book_bool⟩⟩
theorem bk_Book_bool : BindOk dr_Book_bool := fun _ _ _ _ _ _ us hl => match us, hl with | [_], _ => rfl
def dr_Book_eq : DR := ⟨some "Book", "__eq__", false, "__eq__", "Book.__eq__", defArgs (inClass (top 16) 11), defBody (inClass (top 16) 11), defScope (inClass (top 16) 11), ["self", "other"], ["self", "other"], ⟨2, 2, b_Book_eq⟩⟩
theorem bk_Book_eq : BindOk dr_Book_eq := fun _ _ _ _ _ _ us hl => match us, hl with | [_, _], _ => rfl
def dr_Book_ne : DR := ⟨some "Book", "__ne__", false, "__ne__", "Book.__ne__", defArgs (inClass (top 16) 12), defBody (inClass (top 16) 12), defScope (inClass (top 16) 12), ["self", "other"], ["self", "other"], ⟨2, 2, b_Book_ne⟩⟩
theorem bk_Book_ne : BindOk dr_Book_ne := fun _ _ _ _ _ _ us hl => match us, hl with | [_, _], _ => rfl
def dr_Book_str : DR := ⟨some "Book", "__str__", false, "__str__", "Book.__str__", defArgs (inClass (top 16) 13), defBody (inClass (top 16) 13), defScope (inClass (top 16) 13), ["self"], ["self"], ⟨1, 1, b_Book_str⟩⟩
theorem bk_Book_str : BindOk dr_Book_str := fun _ _ _ _ _ _ us hl => match us, hl with | [_], _ => rfl
def tx : Tx := {
  tab := [dr_is_integer, dr_are_integers, dr_meter_word, dr_check_book, dr_law_deck, dr_law_take, dr_law_one, dr_law_is_whole, dr_law_odd, dr_law_meter, dr_law_parts, dr_law_changed, dr_law_item, dr_law_shown, dr_law_due, dr_law, dr_BadBook_init, dr_NoMeter_init, dr_Book_init, dr_Book_programs, dr_Book_cycle, dr_Book_meters, dr_Book_check_number, dr_Book_without, dr_Book_with_meter, dr_Book_getitem, dr_Book_len, dr_Book_bool, dr_Book_eq, dr_Book_ne, dr_Book_str]
  cls := [⟨"MinuteError", none, ⟨.exc, none, [], [], [.inl c_MinuteError, .inr "ValueError", .inr "Exception", .inr "BaseException"], none, [(6, 0)]⟩⟩, ⟨"BadBook", some f_BadBook_init, ⟨.exc, none, [], [], [.inl c_BadBook, .inl c_MinuteError, .inr "ValueError", .inr "Exception", .inr "BaseException"], (some [at_number, at_word]), []⟩⟩, ⟨"NoMeter", some f_NoMeter_init, ⟨.exc, none, [], [], [.inl c_NoMeter, .inr "LookupError", .inr "Exception", .inr "BaseException"], (some [at_number]), []⟩⟩, ⟨"Book", none, ⟨.frozen, some f_Book_init, [(at_check_number, f_Book_check_number), (at_without, f_Book_without), (at_with_meter, f_Book_with_meter)], [(at_programs, f_Book_programs), (at_cycle, f_Book_cycle), (at_meters, f_Book_meters)], [.inl c_Book], none, [(5, f_Book_getitem), (3, f_Book_len), (1, f_Book_eq), (2, f_Book_ne), (4, f_Book_str)]⟩⟩]
  attrs := ["number", "programs", "cycle", "meters", "word", "parts", "check_number", "without", "with_meter"]
  globs := [("MAX_CYCLE", (.int 3)), ("MAX_GAIN", (.int 6)), ("MAX_METERS", (.int 2)), ("MAX_PROGRAMS", (.int 3)), ("MAX_SAVE", (.int 4)), ("MAX_WEIGHT", (.int 2))] }
theorem tx_pg : tx.pg = pg := rfl
theorem binds : ∀ d ∈ tx.tab, BindOk d := by
  intro d hd
  simp only [tx, List.mem_cons, List.not_mem_nil, or_false] at hd
  rcases hd with rfl | rfl | rfl | rfl | rfl | rfl | rfl | rfl | rfl | rfl | rfl | rfl | rfl | rfl | rfl | rfl | rfl | rfl | rfl | rfl | rfl | rfl | rfl | rfl | rfl | rfl | rfl | rfl | rfl | rfl | rfl
  · exact bk_is_integer
  · exact bk_are_integers
  · exact bk_meter_word
  · exact bk_check_book
  · exact bk_law_deck
  · exact bk_law_take
  · exact bk_law_one
  · exact bk_law_is_whole
  · exact bk_law_odd
  · exact bk_law_meter
  · exact bk_law_parts
  · exact bk_law_changed
  · exact bk_law_item
  · exact bk_law_shown
  · exact bk_law_due
  · exact bk_law
  · exact bk_BadBook_init
  · exact bk_NoMeter_init
  · exact bk_Book_init
  · exact bk_Book_programs
  · exact bk_Book_cycle
  · exact bk_Book_meters
  · exact bk_Book_check_number
  · exact bk_Book_without
  · exact bk_Book_with_meter
  · exact bk_Book_getitem
  · exact bk_Book_len
  · exact bk_Book_bool
  · exact bk_Book_eq
  · exact bk_Book_ne
  · exact bk_Book_str
theorem okT (K : PySem.W.Frag) (w : World) : tx.okT 200 (tx.lk K w) = true := by kernel_rfl
def loose : List Str := (["_wall", "MAX_CYCLE", "MAX_GAIN", "MAX_METERS", "MAX_PROGRAMS", "MAX_SAVE", "MAX_WEIGHT", "__name__", "MinuteError", "BadBook", "NoMeter", "is_integer", "are_integers", "meter_word", "check_book", "Book", "_law_deck", "_law_take", "_law_one", "_law_is_whole"] : List Str) ++ (["_law_odd", "_law_meter", "_law_parts", "_law_changed", "_law_item", "_law_shown", "_law_due"] : List Str)
abbrev R : PySem.W.OpenRow := PySem.W.OpenLaw.row PySem.Challenge.rw_lentminutes_k01_books_made
abbrev hk : PySem.W.Hook := hookL 5 tx
def ob (s : PySem.W.SharedT) : AlL := obsL 5 tx (HandSHeadRun.getT s)
theorem ob_eq (s : PySem.W.SharedT) : ob s = hk.obs s.abs := obsL_eq (HandSHeadRun.getT_eq s)
theorem run (w : World) : HandSHeadRun.RunEq R (PySem.W.view R.prog [29]) hk ob 8000 loose w := by
  intro os
  kernel_rfl
end Lm.Law
namespace Lm.Law
open PySem
theorem law_true (ns : List Int) (h : ns.length ≤ 63) : ∃ μ, (orc3 tx.pg depth).call f_law [.frz (ns.map Lm.D.int)] [] = .ok (.bl true) μ := by
  rw [tx_pg]
  exact law_ok (k := 0) h
end Lm.Law
open PySem PySem.W PySem.Calls PyProof.Rows
set_option maxRecDepth 100000 in
set_option maxHeartbeats 0 in
theorem PySem.Challenge.cw_lentminutes_k01_books_made_holds : PySem.Challenge.rw_lentminutes_k01_books_made.Holds := by
  w_on; o_law
  refine HandSHeadRun.head_any (r := OpenLaw.row PySem.Challenge.rw_lentminutes_k01_books_made) (q := view (OpenLaw.row PySem.Challenge.rw_lentminutes_k01_books_made).prog [29]) (H := Lm.Law.hk) (ob := Lm.Law.ob) (M := 8000) (loose := Lm.Law.loose) (d := HandSHeadRun.topDef (OpenLaw.row PySem.Challenge.rw_lentminutes_k01_books_made).prog 29) (kwd := []) Lm.Law.ob_eq
    (by kernel_rfl) (fun s => by kernel_rfl) Lm.Law.run (by kernel_rfl) (by kernel_rfl) (by kernel_rfl) (by rfl) (by first | assumption | decide +kernel) (by decide +kernel) ⟨rfl, rfl, rfl, rfl, rfl, by decide +kernel⟩ ?hw ?hc
  case hw => w_witness2
  case hc => exact Lm.law_by (m := Lm.Law.depth) (nn := 200) (f := Lm.Law.f_law) (x := "_law_script") (T := Lm.Law.tx) (dl := Lm.Law.dr_law) rfl (by kernel_rfl) ⟨rfl, by decide, by decide⟩ Lm.Law.okT Lm.Law.binds rfl rfl (by kernel_rfl) rfl Lm.Law.law_true
