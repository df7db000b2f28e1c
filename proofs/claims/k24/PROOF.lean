import PyProof.Rows.All
import Wide.All
import OpenK.AllK
import Wide.FinOn
import HandS.ForMost
import HandS.Wide
import HandS.TupAny
import HandS.Style
import HandS.Deep
import HandS.Zip
import HandS.ForExc
import HandS.TryMany
import HandS.ExcInit
import HandS.ExcField
import HandS.IsInst
import HandS.CallSlots
import HandS.TupMul
import HandS.Iter
import KE.KDictKeyed
import KE.KDictWalk
import KE.SortData
import KE.KDictCopyH
import KE.KDictSum
import KE.GoesMore
import KE.GoesEnum
import KE.KSuper
import KE.KExcSuper
import HandS.Conv
import HandS.More
import KE.KDictZip
import PySem.Challenge.RW_limbwright_k24_gaps_and_rests_of_tests
set_option Elab.async false
set_option linter.all false
set_option maxRecDepth 100000
/-! Mini, part A: plain data, a small language, its evaluator. No machine in sight. -/
namespace Mini
open PySem
abbrev PD := PyData
/-- a value: plain data, a thing of the store, a def -/
inductive W where
  | d (x : PD) | ref (n : Nat) | fn (i : Nat) | err (c : Nat) (xs : List PD)
/-- a thing of the store: a list, a dict (n: its keys are tuples; fz: it is walked, and changes no more) -/
inductive Ob where
  | lst (xs : List PD) | dct (n fz : Bool) (kvs : List (PD × PD)) | gone
abbrev Sto := List Ob
abbrev En := List (Option W)
inductive Rs (α : Type) where
  | ok (a : α) (s : Sto) | exc (c : Nat) (xs : List PD) (s : Sto) | stuck
def Rs.bind {α β : Type} (r : Rs α) (f : α → Sto → Rs β) : Rs β :=
  match r with
  | .ok a s => f a s
  | .exc c xs s => .exc c xs s
  | .stuck => .stuck
/-- an answer that may lack -/
def Rs.of {α : Type} (o : Option α) (s : Sto) : Rs α :=
  match o with
  | some a => .ok a s
  | none => .stuck
def LIM : Nat := 16777216
def view (s : Sto) : W → Option PD
  | .d x => some x
  | .ref n =>
    match s[n]? with
    | some (.lst xs) => some (.list xs)
    | some (.dct _ _ _) => none
    | some .gone => none
    | none => none
  | .fn _ => none
  | .err _ _ => none
inductive O2 where
  | add | sub | mul | fdiv | mod | pow
  deriving DecidableEq
def bin2 (o : O2) (x y : PD) : Option PD :=
  match o, x, y with
  | .add, .int i, .int j => some (.int (i + j))
  | .add, .str a, .str b => if a.length + b.length ≤ LIM then some (.str (a ++ b)) else none
  | .add, .list a, .list b => if a.length + b.length ≤ LIM then some (.list (a ++ b)) else none
  | .add, .tuple a, .tuple b => if a.length + b.length ≤ LIM then some (.tuple (a ++ b)) else none
  | .sub, .int i, .int j => some (.int (i - j))
  | .mul, .int i, .int j => if i.natAbs.log2 + j.natAbs.log2 < 1000000 then some (.int (i * j)) else none
  | .mul, .tuple a, .int k => if 0 ≤ k ∧ k ≤ 1000 ∧ a.length ≤ 1000 then some (.tuple (List.replicate k.toNat a).flatten) else none
  | .mul, .list a, .int k => if 0 ≤ k ∧ k ≤ 1000 ∧ a.length ≤ 1000 then some (.list (List.replicate k.toNat a).flatten) else none
  | .fdiv, .int i, .int j => if 0 < j ∧ j.natAbs.log2 < 9000 then some (.int (i / j)) else none
  | .mod, .int i, .int j => if j = 0 then none else some (.int (i.fmod j))
  | .pow, .int i, .int j => if 0 ≤ j ∧ j ≤ 1000000 ∧ i.natAbs < 2 ^ 64 then some (.int (i ^ j.toNat)) else none
  | _, _, _ => none
inductive Cm where
  | eq | ne | lt | le | gt | ge | is | isnot | mem | nmem
  deriving DecidableEq
def eqD (x y : PD) : Option Bool :=
  match x, y with
  | .int i, .int j => some (decide (i = j))
  | .str i, .str j => some (decide (i = j))
  | x, y => if SeqAt.shaped x && SeqAt.shaped y then some (PyData.eqv x y) else none
def memD (x y : PD) : Option Bool :=
  match y with
  | .list ys => if SeqAt.shaped x && SeqAt.shaped (.list ys) then some (ys.any fun z => PyData.eqv z x) else none
  | .tuple ys => if SeqAt.shaped x && SeqAt.shaped (.tuple ys) then some (ys.any fun z => PyData.eqv z x) else none
  | _ => none
def cmp2 (o : Cm) (x y : PD) : Option Bool :=
  match o with
  | .eq => eqD x y
  | .ne => (eqD x y).map (!·)
  | .lt => match x, y with | .int i, .int j => some (decide (i < j)) | _, _ => none
  | .le => match x, y with | .int i, .int j => some (decide (i ≤ j)) | _, _ => none
  | .gt => match x, y with | .int i, .int j => some (decide (j < i)) | _, _ => none
  | .ge => match x, y with | .int i, .int j => some (decide (j ≤ i)) | _, _ => none
  | .is => match x, y with | .bool a, .bool b => some (decide (a = b)) | .none, .none => some true | .bool _, .none | .int _, .none | .str _, .none | .list _, .none | .tuple _, .none => some false | _, _ => none
  | .isnot => match x, y with | .bool a, .bool b => some (!decide (a = b)) | .none, .none => some false | .bool _, .none | .int _, .none | .str _, .none | .list _, .none | .tuple _, .none => some true | _, _ => none
  | .mem => memD x y
  | .nmem => (memD x y).map (!·)
/-- the intsD of a list of intsD -/
def intsD : List PD → Option (List Int)
  | [] => some []
  | .int i :: r => (intsD r).map (i :: ·)
  | _ :: _ => none
def boolsD : List PD → Option (List Bool)
  | [] => some []
  | .bool i :: r => (boolsD r).map (i :: ·)
  | _ :: _ => none
def listsD : List PD → Option (List (List PD))
  | [] => some []
  | .list l :: r => (listsD r).map (l :: ·)
  | _ :: _ => none
/-- lists put behind a list, some item there is -/
def sumL (l z : List PD) : Option PD := (listsD l).bind fun ls => if ls.flatten = [] then none else if z.length + ls.flatten.length ≤ LIM then some (.list (z ++ ls.flatten)) else none
def maxI : Int → List Int → Int
  | m, [] => m
  | m, x :: r => maxI (if x > m then x else m) r
def minI : Int → List Int → Int
  | m, [] => m
  | m, x :: r => minI (if x < m then x else m) r
inductive Bi where
  | len | abs | int | sum | all | any | tuple | list | max | min | repr
  deriving DecidableEq
def bi (b : Bi) (xs : List PD) : Option PD :=
  match b, xs with
  | .len, [.list l] => some (.int l.length)
  | .len, [.tuple l] => some (.int l.length)
  | .len, [.str z] => if z.length ≤ LIM then some (.int z.length) else none
  | .abs, [.int i] => some (.int (if i < 0 then -i else i))
  | .int, [.int i] => some (.int i)
  | .int, [.bool k] => some (.int (if k then 1 else 0))
  | .sum, [.list l] => (intsD l).map fun ns => .int ns.sum
  | .sum, [.list l, .list z] => sumL l z
  | .all, [.list l] => (boolsD l).map fun bs => .bool (bs.all id)
  | .any, [.list l] => (boolsD l).map fun bs => .bool (bs.any id)
  | .tuple, [.list l] => some (.tuple l)
  | .tuple, [.tuple l] => some (.tuple l)
  | .list, [.list l] => some (.list l)
  | .list, [.tuple l] => some (.list l)
  | .max, [.int i, .int j] => some (.int (if j > i then j else i))
  | .max, [.list l] => (intsD l).bind fun ns => match ns with | [] => none | n :: r => some (.int (maxI n r))
  | .min, [.list l] => (intsD l).bind fun ns => match ns with | [] => none | n :: r => some (.int (minI n r))
  | .min, [.int i, .int j] => some (.int (if j < i then j else i))
  | .repr, [x] => if x.showable && SeqAt.shaped x && decide (x.shown.length ≤ LIM) then some (.str x.shown) else none
  | _, _ => none
/-- an item by its place, from behind if below 0 -/
def ixD (x i : PD) : Option PD :=
  match x, i with
  | .list l, .int i => L2.atI l i
  | .tuple l, .int i => L2.atI l i
  | _, _ => none
def cutL {α : Type} (xs : List α) (lo hi : Option Int) : List α := (xs.drop (HT.sIx xs.length 0 lo)).take (HT.sIx xs.length xs.length hi - HT.sIx xs.length 0 lo)
def slD (x : PD) (lo hi : Option Int) : Option PD :=
  match x with
  | .list l => some (.list (cutL l lo hi))
  | .tuple l => some (.tuple (cutL l lo hi))
  | _ => none
def revD (x : PD) : Option PD :=
  match x with
  | .list l => some (.list l.reverse)
  | .tuple l => some (.tuple l.reverse)
  | _ => none
inductive Ty where
  | int | bool | str | tuple | list
  deriving DecidableEq
def isD (t : Ty) (x : PD) : Option Bool :=
  match t, x with
  | .int, .int _ | .int, .bool _ | .bool, .bool _ | .str, .str _ | .tuple, .tuple _ | .list, .list _ => some true
  | _, .dict _ => none
  | _, _ => some false
/-- what a for walks -/
def itemsD : PD → Option (List PD)
  | .list l => some l
  | .tuple l => some l
  | _ => none
def rangeD (lo hi : Int) : Option (List PD) :=
  if -(2 ^ 62) ≤ lo ∧ lo < 2 ^ 62 ∧ -(2 ^ 62) ≤ hi ∧ hi < 2 ^ 62 then some ((List.range (hi - lo).toNat).map fun (i : Nat) => .int (lo + i)) else none
/-- the items of a side of a zip -/
def itemsZ : PD → Option (List PD)
  | .list l => some l
  | .tuple l => some l
  | .str x => some (x.cps.toList.map fun c => .str ⟨#[c]⟩)
  | _ => none
def zipD (x y : PD) : Option (List PD) := (itemsZ x).bind fun a => (itemsZ y).map fun b => List.zipWith (fun u v => .tuple [u, v]) a b
mutual
def sameD : PD → PD → Bool
  | .none, .none => true
  | .bool a, .bool b => a == b
  | .int a, .int b => a == b
  | .str a, .str b => a == b
  | .list a, .list b => sameL a b
  | .tuple a, .tuple b => sameL a b
  | _, _ => false
def sameL : List PD → List PD → Bool
  | [], [] => true
  | a :: r, b :: t => sameD a b && sameL r t
  | _, _ => false
end
/-! ### dicts -/
mutual
/-- plain keys: ints, texts, None, and tuples of these, d deep -/
def nkOk : Nat → PD → Bool
  | _, .none => true
  | _, .int _ => true
  | _, .str _ => true
  | d, .tuple xs => Nat.blt 0 d && nkOkL (d - 1) xs
  | _, _ => false
def nkOkL : Nat → List PD → Bool
  | _, [] => true
  | d, x :: xs => nkOk d x && nkOkL d xs
end
def okKey (n : Bool) (k : PD) : Bool :=
  match k with
  | .tuple _ => n && nkOk 8 k
  | .int _ | .str _ => !n
  | _ => false
def lookD (kvs : List (PD × PD)) (k : PD) : Option PD := (kvs.find? fun p => sameD p.1 k).map (·.2)
def putD (kvs : List (PD × PD)) (k v : PD) : List (PD × PD) := if (lookD kvs k).isSome then kvs.map (fun p => if sameD p.1 k then (p.1, v) else p) else kvs ++ [(k, v)]
/-- the dict that a value is -/
def dictAt (s : Sto) : W → Option (Bool × List (PD × PD))
  | .ref n => match s[n]? with | some (.dct m _ kvs) => some (m, kvs) | _ => none
  | _ => none
/-- walked, it changes no more -/
def freeze (s : Sto) : W → Sto
  | .ref n => match s[n]? with | some (.dct m _ kvs) => s.set n (.dct m true kvs) | _ => s
  | _ => s
/-- d[k] -/
def dixD (s : Sto) (x y : W) : Option PD := (dictAt s x).bind fun p => (view s y).bind fun k => if okKey p.1 k then lookD p.2 k else none
/-- k in d -/
def dinD (s : Sto) (x y : W) : Option Bool := (dictAt s y).bind fun p => (view s x).bind fun k => if okKey p.1 k then some (lookD p.2 k).isSome else none
/-- d.get(k, z) -/
def getR (s : Sto) (x y z : W) : Option W := (dictAt s x).bind fun p => (view s y).bind fun k => if okKey p.1 k then (match lookD p.2 k, z with | some v, _ => some (.d v) | none, .d v => some (.d v) | _, _ => none) else none
/-- what sorted walks -/
def srcD (s : Sto) (x : W) : Option (List PD) :=
  match dictAt s x with
  | some p => some (p.2.map (·.1))
  | none => (view s x).bind fun p => match p with | .list l => some l | _ => none
def sortD (l : List PD) : Option (List PD) :=
  if (l.length ≤ 1000000 ∧ (l.all fun x => l.all fun y => PySem.W.alike x y) = true) ∧ ((l.all fun x => match x with | .tuple (_ :: _) => true | _ => false) || (l.all fun x => match x with | .none | .tuple _ => false | _ => true)) = true ∧ (l.all fun x => decide (x.depth ≤ 50)) = true then some (l.mergeSort (PySem.W.dataLe false fun x => x)) else none
/-- a walked list of the store stands as it did -/
def kept (g : List (Nat × List PD)) (s : Sto) : Bool :=
  g.all fun p => match s[p.1]? with | some (.lst xs) => sameL xs p.2 | _ => false
def guardOf (w : W) (s : Sto) : List (Nat × List PD) :=
  match w with
  | .ref n => match s[n]? with | some (.lst xs) => [(n, xs)] | _ => []
  | _ => []
/-- targets -/
inductive Tg where
  | nm (i : Nat) | tp (is : List Nat) | pr (a : Nat) (is : List Nat)
def putS (v : En) (i : Nat) (w : W) : Option En := if i < v.length then some (v.set i (some w)) else none
def putAll : List Nat → List PD → En → Option En
  | [], [], v => some v
  | i :: is, x :: xs, v => (putS v i (.d x)).bind fun v => putAll is xs v
  | _, _, _ => none
def putAllW : List Nat → List W → En → Option En
  | [], [], v => some v
  | i :: is, x :: xs, v => (putS v i x).bind fun v => putAllW is xs v
  | _, _, _ => none
def putT (t : Tg) (w : W) (s : Sto) (v : En) : Option En :=
  match t with
  | .nm i => putS v i w
  | .tp is => (view s w).bind fun x => match x with
    | .tuple xs => putAll is xs v
    | .list xs => putAll is xs v
    | _ => none
  | .pr a is => (view s w).bind fun x => match x with
    | .tuple [x, .tuple ys] => (putS v a (.d x)).bind fun v => putAll is ys v
    | _ => none
inductive Me where
  | append | extend | pop | insert
  deriving DecidableEq
/-- a method of a thing of the store -/
def meth (m : Me) (n : Nat) (xs : List PD) (s : Sto) : Option (PD × Sto) :=
  match m, s[n]?, xs with
  | .append, some (.lst l), [x] => if l.length < LIM then some (.none, s.set n (.lst (l ++ [x]))) else none
  | .extend, some (.lst l), [.list x] => if l.length + x.length ≤ LIM then some (.none, s.set n (.lst (l ++ x))) else none
  | .pop, some (.lst l), [] => (l[l.length - 1]?).map fun x => (x, s.set n (.lst l.dropLast))
  | .insert, some (.lst l), [.int i, x] => if l.length < LIM ∧ 0 ≤ i ∧ i < 2 ^ 62 then some (.none, s.set n (.lst (l.take i.toNat ++ [x] ++ l.drop i.toNat))) else none
  | _, _, _ => none
/-- o[i] = x -/
def setD (n : Nat) (i x : PD) (s : Sto) : Option Sto :=
  match s[n]?, i with
  | some (.lst l), .int k => (L2.ixN l.length k).map fun j => s.set n (.lst (l.set j x))
  | _, _ => none
/-- d[k] = x -/
def dputD (n : Nat) (k x : PD) (s : Sto) : Option Sto :=
  match s[n]? with
  | some (.dct m false kvs) => if okKey m k && decide (kvs.length < LIM) then some (s.set n (.dct m false (putD kvs k x))) else none
  | _ => none
/-- o[i] of a thing of the store -/
def getA (o i : W) (s : Sto) : Option PD :=
  match o, view s i with
  | .ref n, some (.int k) => match s[n]? with
    | some (.lst l) => (L2.ixN l.length k).bind fun j => l[j]?
    | _ => none
  | _, _ => none
def setA (o i : W) (z : PD) (s : Sto) : Option Sto :=
  match o with
  | .ref n => (view s i).bind fun i => setD n i z s
  | _ => none
inductive E where
  | cst (d : PD) | var (i : Nat) | glob (i : Nat) | fn (i : Nat)
  | bin (o : O2) (a b : E) | neg (a : E) | not (a : E) | and (a b : E) | or (a b : E) | ife (c a b : E)
  | cmp (o : Cm) (a b : E) | chain (o o' : Cm) (a b c : E)
  | nil | cons (a b : E)
  | tup (es : E) | lst (es : E) | newl (es : E)
  | call (f : Nat) (es : E) | callv (i : Nat) (es : E) | bi (b : Bi) (es : E) | meth (m : Me) (o : E) (es : E)
  | ix (a b : E) | sl (a lo hi : E) | rev (a : E) | isi (a : E) (t : Ty)
  | rng (es : E) | zip (a b : E)
  | comp (new : Bool) (elt : E) (t : Tg) (it : E) (c : E) (own : List Nat)
  | fld (i c k : Nat)
  | newd (n : Bool) | dget (o k d : E) | items (a : E) | srt (a : E)
  | lrng (es : E) | index (a b : E) | frz (a : E) | dof (a : E) | dofz (a b : E) | updd (o a : E) | frl (a : E) | newx (a b : E)
/-- what the evaluator leans on: calls, constants of the module, the fields of the error at hand -/
structure Fe where
  call : Nat → List W → Sto → Rs W
  glob : Nat → Option PD
  cur : List PD
def viewR (w : W) (s : Sto) : Rs PD := .of (view s w) s
def datas (s : Sto) : List W → Option (List PD)
  | [] => some []
  | w :: r => (view s w).bind fun x => (datas s r).map (x :: ·)
def pures : List W → Option (List PD)
  | [] => some []
  | .d x :: r => (pures r).map (x :: ·)
  | _ :: _ => none
def asB : PD → Option Bool
  | .bool b => some b
  | _ => none
def asI : PD → Option Int
  | .int i => some i
  | _ => none
def compL (g : Sto → Bool) (f : PD → Sto → Rs (Option PD)) : List PD → Sto → Rs (List PD)
  | [], s => if g s then .ok [] s else .stuck
  | x :: r, s => if g s then
      match f x s with
      | .ok none s => compL g f r s
      | .ok (some y) s => (compL g f r s).bind fun ys s => if ys.length < LIM then .ok (y :: ys) s else .stuck
      | _ => .stuck
    else .stuck
def wipeE (v : En) : List Nat → En
  | [] => v
  | i :: is => (wipeE v is).set i none
/-- as a test -/
def tst (r : Rs W) : Rs Bool := r.bind fun x s => (viewR x s).bind fun x s => .of (asB x) s
/-- a slice's end -/
def endOf (e : E) (r : Sto → Rs W) (s : Sto) : Rs (Option Int) :=
  match e with
  | .nil => .ok none s
  | _ => (r s).bind fun x s => (viewR x s).bind fun x s => .of ((asI x).map some) s
/-- what is walked: its items, and the lists of the store that they come from -/
def walk (r : Rs W) : Rs (List PD × List (Nat × List PD)) := r.bind fun x s => match dictAt s x with
  | some p => .ok (p.2.map (·.1), []) (freeze s x)
  | none => .of ((view s x).bind fun p => (itemsD p).map fun l => (l, guardOf x s)) s
def bin2R (o : O2) (r : Rs W) (q : Sto → Rs W) : Rs W := r.bind fun x s => (q s).bind fun y s => .of ((view s x).bind fun x => (view s y).bind fun y => (bin2 o x y).map W.d) s
/-- what x op= y may be here (a list would change in its place) -/
def aug2 (o : O2) (x y : PD) : Option PD :=
  match o, x, y with
  | .add, .int i, .int j => some (.int (i + j))
  | .add, .str a, .str b => if a.length + b.length ≤ LIM then some (.str (a ++ b)) else none
  | .sub, .int i, .int j => some (.int (i - j))
  | _, _, _ => none
def augR (o : O2) (r : Rs W) (q : Sto → Rs W) : Rs W := r.bind fun x s => (q s).bind fun y s => .of ((view s x).bind fun x => (view s y).bind fun y => (aug2 o x y).map W.d) s
/-- in, not in of a dict -/
def dinC (o : Cm) (s : Sto) (x y : W) : Option Bool :=
  match o with
  | .mem => dinD s x y
  | .nmem => (dinD s x y).map (!·)
  | _ => none
def cmpR (o : Cm) (r : Rs W) (q : Sto → Rs W) : Rs W := r.bind fun x s => (q s).bind fun y s => .of ((((view s x).bind fun x => (view s y).bind fun y => cmp2 o x y) <|> dinC o s x y).map fun b => W.d (.bool b)) s
def ixR (r : Rs W) (q : Sto → Rs W) : Rs W := r.bind fun x s => (q s).bind fun y s => .of ((((view s x).bind fun x => (view s y).bind fun y => ixD x y) <|> dixD s x y).map W.d) s
def un1R (f : PD → Option PD) (r : Rs W) : Rs W := r.bind fun x s => .of ((view s x).bind fun x => (f x).map W.d) s
def negD : PD → Option PD
  | .int i => some (.int (-i))
  | _ => none
def chainR (o o' : Cm) (r : Rs W) (q t : Sto → Rs W) : Rs W := r.bind fun x s => (q s).bind fun y s => (Rs.of ((view s x).bind fun x => (view s y).bind fun y => cmp2 o x y) s).bind fun k s =>
  if k then (t s).bind fun z s => .of ((view s y).bind fun y => (view s z).bind fun z => (cmp2 o' y z).map fun b => W.d (.bool b)) s else .ok (.d (.bool false)) s
def mkR (f : List PD → PD) (r : Rs (List W)) : Rs W := r.bind fun ws s => .of ((pures ws).bind fun xs => if xs.length ≤ LIM then some (W.d (f xs)) else none) s
def newR (r : Rs (List W)) : Rs W := r.bind fun ws s => match pures ws with | some xs => if xs.length ≤ LIM then .ok (.ref s.length) (s ++ [.lst xs]) else .stuck | none => .stuck
def methArgs (m : Me) (ws : List W) (s : Sto) : Option (List PD) :=
  match m with
  | .append => pures ws
  | .insert => pures ws
  | _ => datas s ws
def biR (b : Bi) (r : Rs (List W)) : Rs W := r.bind fun ws s => .of ((datas s ws).bind fun xs => (bi b xs).map W.d) s
def methGo (m : Me) (n : Nat) (ws : List W) (s : Sto) : Rs W :=
  match (methArgs m ws s).bind fun xs => meth m n xs s with
  | some p => .ok (.d p.1) p.2
  | none => .stuck
def isLst (s : Sto) (n : Nat) : Bool := match s[n]? with | some (.lst _) => true | _ => false
def methOn (m : Me) (q : Sto → Rs (List W)) (w : W) (s : Sto) : Rs W :=
  match w with
  | .ref n => if isLst s n then (q s).bind (methGo m n) else .stuck
  | _ => .stuck
def methR (m : Me) (r : Rs W) (q : Sto → Rs (List W)) : Rs W := r.bind (methOn m q)
def slR (r : Rs W) (l h : Sto → Rs (Option Int)) : Rs W := r.bind fun x s => (l s).bind fun l s => (h s).bind fun h s => .of ((view s x).bind fun x => (slD x l h).map W.d) s
def rngR (r : Rs (List W)) : Rs W := r.bind fun ws s => .of ((datas s ws).bind fun xs => match xs with
  | [.int j] => (rangeD 0 j).map fun l => .d (.list l)
  | [.int i, .int j] => (rangeD i j).map fun l => .d (.list l)
  | _ => none) s
/-- list(range(..)) -/
def lrngR (r : Rs (List W)) : Rs W := r.bind fun ws s => .of ((datas s ws).bind fun xs => match xs with
  | [.int j] => if j ≤ LIM then (rangeD 0 j).map fun l => .d (.list l) else none
  | [.int i, .int j] => if j - i ≤ LIM then (rangeD i j).map fun l => .d (.list l) else none
  | _ => none) s
/-- xs.index(x) -/
def idxD (x y : PD) : Option PD :=
  match x with
  | .list ds => if SeqAt.shaped (.list ds) && SeqAt.shaped y then (ds.findIdx? fun z => PyData.eqv z y).map fun (j : Nat) => .int j else none
  | _ => none
def lstW (s : Sto) (x : W) : Bool := match view s x with | some (.list _) => true | _ => false
def idxR (r : Rs W) (q : Sto → Rs (List W)) : Rs W := r.bind fun x s => if lstW s x then (q s).bind fun ys s => .of (((view s x).bind fun x => (datas s ys).bind fun l => match l with | [y] => idxD x y | _ => none).map W.d) s else .stuck
def zipR (r : Rs W) (q : Sto → Rs W) : Rs W := r.bind fun x s => (q s).bind fun y s => match x, y with
  | .d x, .d y => .of ((zipD x y).map fun l => W.d (.list l)) s
  | _, _ => .stuck
def dgetR (r : Rs W) (q t : Sto → Rs W) : Rs W := r.bind fun x s => if (dictAt s x).isSome then (q s).bind fun y s => (t s).bind fun z s => .of (getR s x y z) s else .stuck
def itemsR (r : Rs W) : Rs W := r.bind fun x s => match dictAt s x with
  | some p => .ok (.d (.list (p.2.map fun q => .tuple [q.1, q.2]))) (freeze s x)
  | none => .stuck
def srtR (r : Rs W) : Rs W := r.bind fun x s => .of (((srcD s x).bind sortD).map fun l => .d (.list l)) s
/-- a list that has just been made, taken as data -/
def frzR (n : Nat) (r : Rs W) : Rs W := r.bind fun w s => match w with
  | .ref m => if n ≤ m then match s[m]? with
    | some (.lst xs) => .ok (.d (.list xs)) (s.take n)
    | _ => .stuck else .stuck
  | .d x => .ok (.d x) s
  | _ => .stuck
/-- pairs with keys that are numbers or texts -/
def pairD : PD → Option (PD × PD)
  | .tuple [k, v] => if okKey false k then some (k, v) else none
  | _ => none
def pairsD : List PD → Option (List (PD × PD))
  | [] => some []
  | x :: r => (pairD x).bind fun p => (pairsD r).map (p :: ·)
def putAllD (l : List (PD × PD)) (kvs : List (PD × PD)) : List (PD × PD) := l.foldl (fun acc p => putD acc p.1 p.2) kvs
/-- dict(pairs) -/
def dofD : PD → Option (List (PD × PD))
  | .list l => if l.length ≤ LIM then (pairsD l).map fun kvs => putAllD kvs [] else none
  | _ => none
def dofR (r : Rs W) : Rs W := r.bind fun w s => match (view s w).bind dofD with
  | some kvs => .ok (.ref s.length) (s ++ [.dct false false kvs])
  | none => .stuck
/-- a list of the store, taken as data from now on -/
def frlR (r : Rs W) : Rs W := r.bind fun w s => match w with
  | .ref m => match s[m]? with
    | some (.lst xs) => .ok (.d (.list xs)) (s.set m .gone)
    | _ => .stuck
  | .d x => .ok (.d x) s
  | _ => .stuck
/-- xs * n, a new list of the store -/
def newxR (r : Rs W) (q : Sto → Rs W) : Rs W := r.bind fun x s => (q s).bind fun y s => match x, y with
  | .d (.list a), .d (.int k) => if 0 ≤ k ∧ k ≤ 1000 ∧ a.length ≤ 1000 then .ok (.ref s.length) (s ++ [.lst (List.replicate k.toNat a).flatten]) else .stuck
  | _, _ => .stuck
def itemsP : PD → Option (List PD)
  | .list l => some l
  | .tuple l => some l
  | _ => none
/-- dict(zip(xs, ys)) -/
def dofzD (x y : PD) : Option (List (PD × PD)) := (itemsP x).bind fun a => (itemsP y).bind fun b => dofD (.list (List.zipWith (fun u v => .tuple [u, v]) a b))
def dofzR (r : Rs W) (q : Sto → Rs W) : Rs W := r.bind fun x s => (q s).bind fun y s => match (view s x).bind fun x => (view s y).bind fun y => dofzD x y with
  | some kvs => .ok (.ref s.length) (s ++ [.dct false false kvs])
  | none => .stuck
/-- d.update(e), both with keys that are numbers or texts -/
def notRef (n : Nat) : W → Bool
  | .ref m => m != n
  | _ => true
def updD (s : Sto) (x y : W) : Option Sto :=
  match x, dictAt s y with
  | .ref n, some (false, kvs2) => match s[n]? with
    | some (.dct false false kvs) => if kvs.length + kvs2.length ≤ LIM ∧ notRef n y = true then some (s.set n (.dct false false (putAllD kvs2 kvs))) else none
    | _ => none
  | _, _ => none
def updR (r : Rs W) (q : Sto → Rs W) : Rs W := r.bind fun x s => if (dictAt s x).isSome then (q s).bind fun y s => match updD s x y with | some s => .ok (.d .none) s | none => .stuck else .stuck
/-- one turn of a comprehension -/
def turnC (t : Tg) (v : En) (c elt : En → Sto → Rs W) (x : PD) (s : Sto) : Rs (Option PD) :=
  match putT t (.d x) s v with
  | some v' => (tst (c v' s)).bind fun b s => if b then (elt v' s).bind fun w s => match w with | .d y => .ok (some y) s | _ => .stuck else .ok none s
  | none => .stuck
def compR (new : Bool) (r : Rs (List PD × List (Nat × List PD))) (f : PD → Sto → Rs (Option PD)) : Rs W := r.bind fun p s => (compL (kept p.2) f p.1 s).bind fun ys s => if new then .ok (.ref s.length) (s ++ [.lst ys]) else .ok (.d (.list ys)) s
mutual
def evE (F : Fe) : E → En → Sto → Rs W
  | .cst d, _, s => .ok (.d d) s
  | .var i, v, s => match v[i]? with | some (some w) => .ok w s | _ => .stuck
  | .glob i, _, s => .of ((F.glob i).map W.d) s
  | .fn i, _, s => .ok (.fn i) s
  | .bin o a b, v, s => bin2R o (evE F a v s) (evE F b v)
  | .neg a, v, s => un1R negD (evE F a v s)
  | .not a, v, s => (tst (evE F a v s)).bind fun b s => .ok (.d (.bool (!b))) s
  | .and a b, v, s => (tst (evE F a v s)).bind fun x s => if x then evE F b v s else .ok (.d (.bool false)) s
  | .or a b, v, s => (tst (evE F a v s)).bind fun x s => if x then .ok (.d (.bool true)) s else evE F b v s
  | .ife c a b, v, s => (tst (evE F c v s)).bind fun x s => if x then evE F a v s else evE F b v s
  | .cmp o a b, v, s => cmpR o (evE F a v s) (evE F b v)
  | .chain o o' a b c, v, s => chainR o o' (evE F a v s) (evE F b v) (evE F c v)
  | .nil, _, _ => .stuck
  | .cons _ _, _, _ => .stuck
  | .tup es, v, s => mkR .tuple (evL F es v s)
  | .lst es, v, s => mkR .list (evL F es v s)
  | .newl es, v, s => newR (evL F es v s)
  | .call f es, v, s => (evL F es v s).bind fun ws s => F.call f ws s
  | .callv i es, v, s => match v[i]? with | some (some (.fn f)) => (evL F es v s).bind fun ws s => F.call f ws s | _ => .stuck
  | .bi b es, v, s => biR b (evL F es v s)
  | .meth m o es, v, s => methR m (evE F o v s) (evL F es v)
  | .ix a b, v, s => ixR (evE F a v s) (evE F b v)
  | .sl a lo hi, v, s => slR (evE F a v s) (endOf lo (evE F lo v)) (endOf hi (evE F hi v))
  | .rev a, v, s => un1R revD (evE F a v s)
  | .isi a t, v, s => un1R (fun x => (isD t x).map .bool) (evE F a v s)
  | .rng es, v, s => rngR (evL F es v s)
  | .zip a b, v, s => zipR (evE F a v s) (evE F b v)
  | .lrng es, v, s => lrngR (evL F es v s)
  | .index a b, v, s => idxR (evE F a v s) (evL F b v)
  | .frz a, v, s => frzR s.length (evE F a v s)
  | .dof a, v, s => dofR (evE F a v s)
  | .frl a, v, s => frlR (evE F a v s)
  | .newx a b, v, s => newxR (evE F a v s) (evE F b v)
  | .dofz a b, v, s => dofzR (evE F a v s) (evE F b v)
  | .updd a b, v, s => updR (evE F a v s) (evE F b v)
  | .comp new elt t it c own, v, s => compR new (walk (evE F it v s)) (turnC t (wipeE v own) (evE F c) (evE F elt))
  | .newd n, _, s => .ok (.ref s.length) (s ++ [.dct n false []])
  | .dget o k d, v, s => dgetR (evE F o v s) (evE F k v) (evE F d v)
  | .items a, v, s => itemsR (evE F a v s)
  | .srt a, v, s => srtR (evE F a v s)
  | .fld i c k, v, s => match v[i]? with | some (some (.err c' xs)) => if c' = c then .of ((xs[k]?).map W.d) s else .stuck | _ => .stuck
def evL (F : Fe) : E → En → Sto → Rs (List W)
  | .nil, _, s => .ok [] s
  | .cons a b, v, s => (evE F a v s).bind fun x s => (evL F b v s).bind fun xs s => .ok (x :: xs) s
  | _, _, _ => .stuck
end
example (F : Fe) (a : E) (v : En) (s : Sto) : evE F (.neg a) v s = un1R negD (evE F a v s) := rfl

/-- statements -/
inductive S where
  | skip | seq (a b : S)
  | set (t : Tg) (e : E) | par (is : List Nat) (es : E) | aug (i : Nat) (o : O2) (e : E)
  | seti (o i e : E) | augi (o i : E) (q : O2) (e : E)
  | ex (e : E) | ret (e : E) | retn
  | ifs (c : E) (a b : S) | whl (c : E) (b : S) | for (t : Tg) (it : E) (b : S) | brk | cnt
  | raise (c n : Nat) (es : E)
  | try (b h : S) | hnd (c : Nat) (i : Option Nat) (b h : S)
inductive Out where
  | nx (v : En) (s : Sto) | ret (w : W) (s : Sto) | brk (v : En) (s : Sto) | cnt (v : En) (s : Sto) | exc (c : Nat) (xs : List PD) (v : En) (s : Sto) | stuck
def Rs.out {α : Type} (r : Rs α) (v : En) (f : α → Sto → Out) : Out :=
  match r with
  | .ok a s => f a s
  | .exc c xs s => .exc c xs v s
  | .stuck => .stuck
def Out.of (o : Option En) (s : Sto) : Out :=
  match o with
  | some v => .nx v s
  | none => .stuck
def Out.ofS (v : En) (o : Option Sto) : Out :=
  match o with
  | some s => .nx v s
  | none => .stuck
def Out.andThen (o : Out) (f : En → Sto → Out) : Out :=
  match o with
  | .nx v s => f v s
  | o => o
def forL (g : Sto → Bool) (f : PD → En → Sto → Out) : List PD → En → Sto → Out
  | [], v, s => if g s then .nx v s else .stuck
  | x :: r, v, s => if g s then
      match f x v s with
      | .nx v s => forL g f r v s
      | .cnt v s => forL g f r v s
      | .brk v s => .nx v s
      | o => o
    else .stuck
/-- one turn of a for -/
def turnS (t : Tg) (b : En → Sto → Out) (x : PD) (v : En) (s : Sto) : Out :=
  match putT t (.d x) s v with
  | some v => b v s
  | none => .stuck
def whlL (c : En → Sto → Rs Bool) (f : En → Sto → Out) : Nat → En → Sto → Out
  | 0, _, _ => .stuck
  | n + 1, v, s => (c v s).out v fun b s => if b then
      match f v s with
      | .nx v s => whlL c f n v s
      | .cnt v s => whlL c f n v s
      | .brk v s => .nx v s
      | o => o
    else .nx v s
def isErr : W → Bool
  | .err _ _ => true
  | _ => false
def noerr (v : En) : Bool := v.all fun o => match o with | some w => !isErr w | none => true
/-- the error's name in an except suite, and behind it -/
def onH (i : Option Nat) (c : Nat) (xs : List PD) (v : En) : Option En :=
  if noerr v then
    match i with
    | some i => if i < v.length then some (v.set i (some (.err c xs))) else none
    | none => some v
  else none
def offH (i : Option Nat) (v : En) : En :=
  match i with
  | some i => v.set i none
  | none => v
def clauseOut (i : Option Nat) : Out → Out
  | .nx v s => if noerr (offH i v) then .nx (offH i v) s else .stuck
  | .brk v s => if noerr (offH i v) then .brk (offH i v) s else .stuck
  | .cnt v s => if noerr (offH i v) then .cnt (offH i v) s else .stuck
  | .ret w s => if isErr w then .stuck else .ret w s
  | _ => .stuck
/-- how often a while may turn -/
def TURNS : Nat := 1000000000000
/-- what statements lean on besides: is one class of errors below another -/
structure Fs where
  fe : Fe
  sub : Nat → Nat → Bool
mutual
def evS (F : Fs) : S → En → Sto → Out
  | .skip, v, s => .nx v s
  | .seq a b, v, s => (evS F a v s).andThen (evS F b)
  | .set t e, v, s => (evE F.fe e v s).out v fun w s => .of (putT t w s v) s
  | .par is es, v, s => (evL F.fe es v s).out v fun ws s => .of (putAllW is ws v) s
  | .aug i o e, v, s => match v[i]? with
    | some (some x) => (augR o (.ok x s) (evE F.fe e v)).out v fun w s => .of (putS v i w) s
    | _ => .stuck
  | .seti o i e, v, s => (evE F.fe e v s).out v fun x s => (evE F.fe o v s).out v fun o s => (evE F.fe i v s).out v fun i s => match o, x with
    | .ref n, .d x => .ofS v ((view s i).bind fun i => setD n i x s <|> dputD n i x s)
    | _, _ => .stuck
  | .augi o i q e, v, s => (evE F.fe o v s).out v fun o s => (evE F.fe i v s).out v fun i s => (Rs.of (getA o i s) s).out v fun x s => (evE F.fe e v s).out v fun y s => (Rs.of ((view s y).bind (aug2 q x)) s).out v fun z s => .ofS v (setA o i z s)
  | .ex e, v, s => (evE F.fe e v s).out v fun _ s => .nx v s
  | .ret e, v, s => (evE F.fe e v s).out v fun w s => .ret w s
  | .retn, _, s => .ret (.d .none) s
  | .ifs c a b, v, s => (tst (evE F.fe c v s)).out v fun k s => if k then evS F a v s else evS F b v s
  | .whl c b, v, s => whlL (fun v s => tst (evE F.fe c v s)) (evS F b) TURNS v s
  | .for t it b, v, s => (walk (evE F.fe it v s)).out v fun p s => forL (kept p.2) (turnS t (evS F b)) p.1 v s
  | .brk, v, s => .brk v s
  | .cnt, v, s => .cnt v s
  | .raise c n es, v, s => (evL F.fe es v s).out v fun ws s => match pures ws with | some xs => if xs.length = n then .exc c xs v s else .stuck | none => .stuck
  | .try b h, v, s => match evS F b v s with
    | .exc c xs v s => evH F c xs h v s
    | o => o
  | .hnd _ _ _ _, _, _ => .stuck
/-- the clauses of a try -/
def evH (F : Fs) (c : Nat) (xs : List PD) : S → En → Sto → Out
  | .hnd k i b h, v, s => if F.sub c k then (match onH i c xs v with | some v => clauseOut i (evS F b v s) | none => .stuck) else evH F c xs h v s
  | .skip, v, s => .exc c xs v s
  | _, _, _ => .stuck
end
/-- a def: how many parameters, how many names, its body -/
structure Fn where
  np : Nat
  nn : Nat
  body : S
structure Pg where
  fns : List Fn
  gls : List PD
  sub : Nat → Nat → Bool
/-- the store as the def's caller sees it -/
def back (n : Nat) (w : W) (s : Sto) : Rs W :=
  match w with
  | .ref m => if m < n then .ok w (s.take n) else .ok w s
  | .err _ _ => .stuck
  | _ => .ok w (s.take n)
def startE (f : Fn) (ws : List W) : En := ws.map some ++ List.replicate (f.nn - f.np) none
def runF (P : Pg) : Nat → Nat → List W → Sto → Rs W
  | 0, _, _, _ => .stuck
  | k + 1, f, ws, s =>
    match P.fns[f]? with
    | none => .stuck
    | some fn => if ws.length = fn.np then
        match evS ⟨⟨runF P k, fun i => P.gls[i]?, []⟩, P.sub⟩ fn.body (startE fn ws) s with
        | .ret w s' => back s.length w s'
        | .nx _ s' => back s.length (.d .none) s'
        | .exc c xs _ s' => .exc c xs (s'.take s.length)
        | _ => .stuck
      else .stuck
end Mini

set_option Elab.async false
set_option linter.all false
set_option maxRecDepth 100000
set_option maxHeartbeats 2000000
/-! Mini, part B: plain data beside the tracked heap; what an answer of the evaluator promises. -/
namespace Mini
open PySem PySem.Spec PyProof.Rows L2
/-- what stands fast through a law -/
structure Cn where
  k : Nat
  K : PySem.W.Frag
  fa : Nat → Option Addr
  cls : Nat → Option (Addr × List Str)
  /-- the error at hand in an except suite -/
  hot : Option (Addr × Value × Option Addr)
  /-- the world: hashes -/
  w : World
def KL (K : PySem.W.Frag) (a : Addr) (xs : List V) : Prop :=
  ∃ (o : Obj) (its : Array Value) (n : Nat), K.lookup a = some o ∧ o.cls = .type "list" ∧ o.dict = none ∧ o.data = .seq its n ∧ its.size ≤ sizeLine ∧ Vals xs its.toList
def KT (K : PySem.W.Frag) (a : Addr) (xs : List V) : Prop :=
  ∃ (o : Obj) (its : Array Value) (n : Nat), K.lookup a = some o ∧ o.cls = .type "tuple" ∧ o.data = .seq its n ∧ its.size ≤ sizeLine ∧ Vals xs its.toList
section
variable (K : PySem.W.Frag) (H : Hp) (ms : List Addr)
mutual
/-- plain data; none of its lists is among ms -/
def Rep : PD → V → Prop
  | .none, v => v = .non
  | .bool b, v => v = .bl b
  | .int i, v => v = .int i
  | .str x, v => v = .str x
  | .list ds, v => ∃ a xs, v = .ref a ∧ ((a ∉ ms ∧ Rd H a (.lst xs)) ∨ (∃ o, H a = some (.frz o (.lst xs))) ∨ KL K a xs) ∧ RepL ds xs
  | .tuple ds, v => ∃ a xs, v = .ref a ∧ ((a ∉ ms ∧ Rd H a (.tup xs)) ∨ KT K a xs) ∧ RepL ds xs
  | .dict _, _ => False
def RepL : List PD → List V → Prop
  | [], vs => vs = []
  | d :: ds, vs => ∃ v r, vs = v :: r ∧ Rep d v ∧ RepL ds r
end
end
/-- what is not among ms stays, and does not come among ms' -/
structure Sub (H : Hp) (ms : List Addr) (H' : Hp) (ms' : List Addr) : Prop where
  old : ∀ a o, a ∉ ms → H a = some o → H' a = some o ∧ a ∉ ms'
  frz : ∀ a o u, H a = some (.frz o u) → H' a = some (.frz o u)
/-- the heap goes on: what is not among ms stays, nor do its first k change, what comes to ms is new -/
structure Ext (k : Nat) (H : Hp) (ms : List Addr) (H' : Hp) (ms' : List Addr) : Prop where
  old : ∀ a o, a ∉ ms → H a = some o → H' a = some o
  more : ∃ new, ms' = ms ++ new ∧ ∀ a ∈ new, a ∉ ms ∧ H a = none
  keep : ∀ (i : Nat) a o, i < k → ms[i]? = some a → H a = some o → H' a = some o
  frz : ∀ a o u, H a = some (.frz o u) → H' a = some (.frz o u)
section
variable {K : PySem.W.Frag} {H H' H'' : Hp} {ms ms' ms'' : List Addr} {k : Nat}
theorem Ext.refl : Ext k H ms H ms := ⟨fun _ _ _ e => e, ⟨[], by simp, by simp⟩, fun _ _ _ _ _ e => e, fun _ _ _ e => e⟩
theorem Ext.notin (x : Ext k H ms H' ms') {a : Addr} {o : HO} (h : a ∉ ms) (e : H a = some o) : a ∉ ms' := by
  obtain ⟨new, rfl, hn⟩ := x.more
  intro q
  rcases List.mem_append.mp q with q | q
  · exact h q
  · rw [(hn a q).2] at e; cases e
theorem Ext.sub (x : Ext k H ms H' ms') : Sub H ms H' ms' := ⟨fun a o h e => ⟨x.old a o h e, x.notin h e⟩, x.frz⟩
theorem Ext.get (x : Ext k H ms H' ms') {n : Nat} {a : Addr} (h : ms[n]? = some a) : ms'[n]? = some a := by
  obtain ⟨new, rfl, _⟩ := x.more
  rw [List.getElem?_append_left (List.getElem?_eq_some_iff.mp h).1]; exact h
theorem more_trans {new new' : List Addr} (h : ∀ a ∈ new, a ∉ ms ∧ H a = none) (ho : ∀ a o, a ∉ ms → H a = some o → H' a = some o) (h' : ∀ a ∈ new', a ∉ ms ++ new ∧ H' a = none) : ∀ a ∈ new ++ new', a ∉ ms ∧ H a = none := fun a ha => by
  rcases List.mem_append.mp ha with q | q
  · exact h a q
  · have h1 := h' a q
    have hm : a ∉ ms := fun z => h1.1 (List.mem_append_left _ z)
    refine ⟨hm, ?_⟩
    cases e : H a with
    | none => rfl
    | some o =>
      have := ho a o hm e
      rw [h1.2] at this; cases this
theorem Ext.trans (x : Ext k H ms H' ms') (y : Ext k H' ms' H'' ms'') : Ext k H ms H'' ms'' := by
  refine ⟨fun a o h e => y.old a o (x.notin h e) (x.old a o h e), ?_, fun i a o hi ha e => y.keep i a o hi (x.get ha) (x.keep i a o hi ha e), fun a o u e => y.frz a o u (x.frz a o u e)⟩
  obtain ⟨new, rfl, hn⟩ := x.more
  obtain ⟨new', rfl, hn'⟩ := y.more
  exact ⟨new ++ new', by rw [List.append_assoc], more_trans hn x.old hn'⟩
theorem Sub.rd (x : Sub H ms H' ms') {a : Addr} {u : HO} (h : a ∉ ms) (r : Rd H a u) : Rd H' a u ∧ a ∉ ms' := by
  rcases r with r | ⟨o, r⟩
  · have z := x.old a _ h r
    exact ⟨.inl z.1, z.2⟩
  · have z := x.old a _ h r
    exact ⟨.inr ⟨o, z.1⟩, z.2⟩
theorem Ext.rd (x : Ext k H ms H' ms') {a : Addr} {u : HO} (h : a ∉ ms) (r : Rd H a u) : Rd H' a u ∧ a ∉ ms' := x.sub.rd h r
/-- the callee's own things forgotten -/
theorem Ext.cut (x : Ext k H ms H' ms') : Ext k H ms H' ms := ⟨x.old, ⟨[], by simp, by simp⟩, x.keep, x.frz⟩
mutual
theorem Rep.monoS (x : Sub H ms H' ms') : ∀ (d : PD) (v : V), Rep K H ms d v → Rep K H' ms' d v
  | .none, _, h => h
  | .bool _, _, h => h
  | .int _, _, h => h
  | .str _, _, h => h
  | .list ds, _, h => by
    obtain ⟨a, xs, e, h1, h2⟩ := h
    exact ⟨a, xs, e, h1.imp (fun q => let z := x.rd q.1 q.2; ⟨z.2, z.1⟩) (fun q => q.imp (fun ⟨o, z⟩ => ⟨o, x.frz _ _ _ z⟩) fun q => q), RepL.monoS x ds xs h2⟩
  | .tuple ds, _, h => by
    obtain ⟨a, xs, e, h1, h2⟩ := h
    exact ⟨a, xs, e, h1.imp (fun q => let z := x.rd q.1 q.2; ⟨z.2, z.1⟩) (fun q => q), RepL.monoS x ds xs h2⟩
  | .dict _, _, h => h
theorem RepL.monoS (x : Sub H ms H' ms') : ∀ (ds : List PD) (vs : List V), RepL K H ms ds vs → RepL K H' ms' ds vs
  | [], _, h => h
  | d :: ds, _, h => by
    obtain ⟨v, r, e, h1, h2⟩ := h
    exact ⟨v, r, e, Rep.monoS x d v h1, RepL.monoS x ds r h2⟩
end
theorem Rep.mono (x : Ext k H ms H' ms') (d : PD) (v : V) (h : Rep K H ms d v) : Rep K H' ms' d v := Rep.monoS x.sub d v h
theorem RepL.mono (x : Ext k H ms H' ms') (ds : List PD) (vs : List V) (h : RepL K H ms ds vs) : RepL K H' ms' ds vs := RepL.monoS x.sub ds vs h
theorem RepL.length : ∀ {ds : List PD} {vs : List V}, RepL K H ms ds vs → vs.length = ds.length
  | [], _, h => by rw [show _ = [] from h]; rfl
  | d :: ds, _, h => by
    obtain ⟨v, r, rfl, _, h2⟩ := h
    rw [List.length_cons, List.length_cons, RepL.length h2]
theorem RepL.get : ∀ {ds : List PD} {vs : List V} {i : Nat} {d : PD}, RepL K H ms ds vs → ds[i]? = some d → ∃ v, vs[i]? = some v ∧ Rep K H ms d v
  | [], _, _, _, _, e => by simp at e
  | d :: ds, _, 0, _, h, e => by
    obtain ⟨v, r, rfl, h1, h2⟩ := h
    simp only [List.getElem?_cons_zero, Option.some.injEq] at e
    subst e
    exact ⟨v, rfl, h1⟩
  | d :: ds, _, i + 1, _, h, e => by
    obtain ⟨v, r, rfl, h1, h2⟩ := h
    exact RepL.get (i := i) h2 (by simpa using e)
theorem RepL.append : ∀ {ds es : List PD} {vs us : List V}, RepL K H ms ds vs → RepL K H ms es us → RepL K H ms (ds ++ es) (vs ++ us)
  | [], _, _, _, h, h' => by rw [show _ = [] from h]; exact h'
  | d :: ds, _, _, _, h, h' => by
    obtain ⟨v, r, rfl, h1, h2⟩ := h
    exact ⟨v, r ++ _, rfl, h1, RepL.append h2 h'⟩
theorem RepL.one {d : PD} {v : V} (h : Rep K H ms d v) : RepL K H ms [d] [v] := ⟨v, [], rfl, h, rfl⟩
theorem RepL.take : ∀ {ds : List PD} {vs : List V} (n : Nat), RepL K H ms ds vs → RepL K H ms (ds.take n) (vs.take n)
  | _, _, 0, _ => rfl
  | [], _, n + 1, h => by rw [show _ = [] from h]; rfl
  | d :: ds, _, n + 1, h => by
    obtain ⟨v, r, rfl, h1, h2⟩ := h
    exact ⟨v, r.take n, rfl, h1, RepL.take n h2⟩
theorem RepL.drop : ∀ {ds : List PD} {vs : List V} (n : Nat), RepL K H ms ds vs → RepL K H ms (ds.drop n) (vs.drop n)
  | _, _, 0, h => h
  | [], _, n + 1, h => by rw [show _ = [] from h]; rfl
  | d :: ds, _, n + 1, h => by
    obtain ⟨v, r, rfl, h1, h2⟩ := h
    exact RepL.drop n h2
theorem RepL.reverse {ds : List PD} {vs : List V} (h : RepL K H ms ds vs) : RepL K H ms ds.reverse vs.reverse := by
  induction ds generalizing vs with
  | nil => rw [show vs = [] from h]; rfl
  | cons d ds ih =>
    obtain ⟨v, r, rfl, h1, h2⟩ := h
    rw [List.reverse_cons, List.reverse_cons]
    exact RepL.append (ih h2) (RepL.one h1)
theorem RepL.set : ∀ {ds : List PD} {vs : List V} {d : PD} {v : V} (n : Nat), Rep K H ms d v → RepL K H ms ds vs → RepL K H ms (ds.set n d) (vs.set n v)
  | [], _, _, _, _, _, h => by rw [show _ = [] from h]; rfl
  | d :: ds, _, _, _, 0, q, h => by
    obtain ⟨v, r, rfl, h1, h2⟩ := h
    exact ⟨_, r, rfl, q, h2⟩
  | d :: ds, _, _, _, n + 1, q, h => by
    obtain ⟨v, r, rfl, h1, h2⟩ := h
    exact ⟨v, _, rfl, h1, RepL.set n q h2⟩
theorem RepL.dropLast {ds : List PD} {vs : List V} (h : RepL K H ms ds vs) : RepL K H ms ds.dropLast vs.dropLast := by
  rw [List.dropLast_eq_take, List.dropLast_eq_take, h.length]
  exact h.take _
theorem RepL.rep {ds : List PD} {vs : List V} (h : RepL K H ms ds vs) : ∀ k : Nat, RepL K H ms (List.replicate k ds).flatten (List.replicate k vs).flatten
  | 0 => rfl
  | k + 1 => by
    rw [List.replicate_succ, List.replicate_succ, List.flatten_cons, List.flatten_cons]
    exact h.append (RepL.rep h k)
/-- read as it stands now: plain data, or the contents of a list of the store -/
def Now (K : PySem.W.Frag) (H : Hp) (ms : List Addr) (d : PD) (v : V) : Prop :=
  Rep K H ms d v ∨ ∃ a xs ds, d = .list ds ∧ v = .ref a ∧ H a = some (.lst xs) ∧ RepL K H ms ds xs
theorem Now.list {ds : List PD} {v : V} (h : Now K H ms (.list ds) v) : ∃ a xs, v = .ref a ∧ SqL K H a xs ∧ RepL K H ms ds xs := by
  rcases h with ⟨a, xs, e, h1, h2⟩ | ⟨a, xs, ds', e1, e2, h1, h2⟩
  · exact ⟨a, xs, e, h1.elim (fun q => .inl q.2) fun q => q.elim (fun q => .inl (.inr q)) .inr, h2⟩
  · cases e1
    exact ⟨a, xs, e2, .inl (.inl h1), h2⟩
theorem Now.tuple {ds : List PD} {v : V} (h : Now K H ms (.tuple ds) v) : ∃ a xs, v = .ref a ∧ SqT K H a xs ∧ RepL K H ms ds xs := by
  rcases h with ⟨a, xs, e, h1, h2⟩ | ⟨a, xs, ds', e1, e2, h1, h2⟩
  · exact ⟨a, xs, e, h1.elim (fun q => .inl q.2) .inr, h2⟩
  · cases e1
theorem Now.tupleR {ds : List PD} {v : V} (h : Now K H ms (.tuple ds) v) : Rep K H ms (.tuple ds) v := by
  rcases h with h | ⟨a, xs, ds', e1, e2, h1, h2⟩
  · exact h
  · cases e1
theorem Now.int {i : Int} {v : V} (h : Now K H ms (.int i) v) : v = .int i := by
  rcases h with h | ⟨a, xs, ds', e1, e2, h1, h2⟩
  · exact h
  · cases e1
theorem Now.bool {i : Bool} {v : V} (h : Now K H ms (.bool i) v) : v = .bl i := by
  rcases h with h | ⟨a, xs, ds', e1, e2, h1, h2⟩
  · exact h
  · cases e1
theorem Now.str {i : Str} {v : V} (h : Now K H ms (.str i) v) : v = .str i := by
  rcases h with h | ⟨a, xs, ds', e1, e2, h1, h2⟩
  · exact h
  · cases e1
theorem Now.none {v : V} (h : Now K H ms .none v) : v = .non := by
  rcases h with h | ⟨a, xs, ds', e1, e2, h1, h2⟩
  · exact h
  · cases e1
theorem Now.dict {l} {v : V} (h : Now K H ms (.dict l) v) : False := by
  rcases h with h | ⟨a, xs, ds', e1, e2, h1, h2⟩
  · exact h
  · cases e1
/-- in the layer's own words -/
theorem SqL_of {a : Addr} {xs : List V} (h : (a ∉ ms ∧ Rd H a (.lst xs)) ∨ (∃ o, H a = some (.frz o (.lst xs))) ∨ KL K a xs) : SqL K H a xs := h.elim (fun q => .inl q.2) fun q => q.elim (fun q => .inl (.inr q)) .inr
theorem SqT_of {a : Addr} {xs : List V} (h : (a ∉ ms ∧ Rd H a (.tup xs)) ∨ KT K a xs) : SqT K H a xs := h.elim (fun q => .inl q.2) .inr
mutual
theorem Rep.dp : ∀ (d : PD) (v : V), Rep K H ms d v → Dp K H v d
  | .none, _, h => by rw [show _ = V.non from h]; exact .non
  | .bool b, _, h => by rw [show _ = V.bl b from h]; exact .bl b
  | .int i, _, h => by rw [show _ = V.int i from h]; exact .int i
  | .str x, _, h => by rw [show _ = V.str x from h]; exact .str x
  | .list ds, _, h => by
    obtain ⟨a, xs, rfl, h1, h2⟩ := h
    exact .lst (SqL_of h1) (RepL.dp ds xs h2)
  | .tuple ds, _, h => by
    obtain ⟨a, xs, rfl, h1, h2⟩ := h
    exact .tup (SqT_of h1) (RepL.dp ds xs h2)
  | .dict _, _, h => h.elim
theorem RepL.dp : ∀ (ds : List PD) (vs : List V), RepL K H ms ds vs → DpAll K H vs ds
  | [], _, h => by rw [show _ = [] from h]; exact .nil
  | d :: ds, _, h => by
    obtain ⟨v, r, rfl, h1, h2⟩ := h
    exact .cons (Rep.dp d v h1) (RepL.dp ds r h2)
end
theorem Now.dp {d : PD} {v : V} (h : Now K H ms d v) : Dp K H v d := by
  rcases h with h | ⟨a, xs, ds', rfl, rfl, h1, h2⟩
  · exact Rep.dp d v h
  · exact .lst (SqL.of h1) (RepL.dp _ _ h2)
end
/-! ### the store, the names -/
mutual
def nkey : PD → Option NestedKey
  | .none => some .none
  | .int i => some (.num i)
  | .str x => some (.text x)
  | .tuple xs => (nkeys xs).map .tup
  | _ => none
def nkeys : List PD → Option (List NestedKey)
  | [] => some []
  | x :: xs => (nkey x).bind fun k => (nkeys xs).map (k :: ·)
end
/-- a dict as it stands: just this object -/
def dictO (a : Addr) (o : Obj) : HO := .ext fun h => h.get? a = some o
/-- an entry beside what it holds: its key by its hash, its value -/
structure EntR (w : World) (K : PySem.W.Frag) (H : Hp) (ms : List Addr) (p : PD × PD) (e : DictEntry) : Prop where
  key : ∃ v, RelV v e.key ∧ Rep K H ms p.1 v
  val : ∃ v, RelV v e.val ∧ Rep K H ms p.2 v
  hash : ∃ k, nkey p.1 = some k ∧ e.hash = k.hash w ∧ k.depth ≤ 8
/-- a dict's things -/
structure DctR (w : World) (K : PySem.W.Frag) (H : Hp) (ms : List Addr) (a : Addr) (kvs : List (PD × PD)) (o : Obj) : Prop where
  cls : o.ExactDict
  mods : (a == sysModules) = false
  len : kvs.length ≤ sizeLine
  ents : ∃ es ep, o.data = .dict es ep ∧ Paired (EntR w K H ms) kvs es.toList
  nd : (kvs.map fun p => nkey p.1).Nodup
def ObRep (K : PySem.W.Frag) (w : World) (H : Hp) (ms : List Addr) (a : Addr) : Ob → Prop
  | .lst xs => ∃ vs, H a = some (.lst vs) ∧ RepL K H ms xs vs
  | .gone => True
  | .dct n fz kvs => True ∧ (∀ p ∈ kvs, okKey n p.1 = true) ∧ ∃ o, DctR w K H ms a kvs o ∧ if fz then H a = some (.frz o (dictO a o)) else H a = some (dictO a o)
/-- the first C.k of ms are lists that are under way, the others are the store's -/
structure StRep (C : Cn) (H : Hp) (ms : List Addr) (st : Sto) : Prop where
  len : ms.length = C.k + st.length
  nd : ms.Nodup
  ob : ∀ (n : Nat) a o, ms[C.k + n]? = some a → st[n]? = some o → ObRep C.K C.w H ms a o
  there : ∀ a ∈ ms, ∃ o, H a = some o
/-- an error: its class, its dict with the fields -/
def ExRep (C : Cn) (H : Hp) (ms : List Addr) (c : Nat) (xs : List PD) (cls : Value) (d : Option Addr) : Prop :=
  ∃ Ca names, C.cls c = some (Ca, names) ∧ cls = .ref Ca ∧ names.length = xs.length ∧
    (names ≠ [] → ∃ dd fs, d = some dd ∧ dd ∉ ms ∧ H dd = some (.xd fs) ∧ ∀ (i : Nat) name x, names[i]? = some name → xs[i]? = some x → ∃ v, fs.lookup name = some v ∧ Rep C.K H ms x v)
def WRep (C : Cn) (H : Hp) (ms : List Addr) (w : W) (v : V) : Prop :=
  match w with
  | .d x => Rep C.K H ms x v
  | .ref n => ∃ a, ms[C.k + n]? = some a ∧ v = .ref a
  | .fn i => ∃ f, C.fa i = some f ∧ v = .ref f
  | .err c xs => ∃ a cls d, C.hot = some (a, cls, d) ∧ v = .ref a ∧ ExRep C H ms c xs cls d
structure EnRep (C : Cn) (H : Hp) (ms : List Addr) (σ : L2.St) (env : En) : Prop where
  len : σ.length = env.length
  at_ : ∀ (i : Nat) w, env[i]? = some (some w) → ∃ v, σ[i]? = some (some v) ∧ WRep C H ms w v
section
variable {C : Cn} {H H' H'' : Hp} {ms ms' ms'' : List Addr} {st : Sto} {σ : L2.St} {env : En}
theorem ExRep.monoS (x : Sub H ms H' ms') {c : Nat} {xs : List PD} {cls : Value} {d : Option Addr} (h : ExRep C H ms c xs cls d) : ExRep C H' ms' c xs cls d := by
  obtain ⟨Ca, names, h1, h2, h3, h4⟩ := h
  refine ⟨Ca, names, h1, h2, h3, fun q => ?_⟩
  obtain ⟨dd, fs, a, b, c, r⟩ := h4 q
  refine ⟨dd, fs, a, (x.old dd _ b c).2, (x.old dd _ b c).1, fun i name y e1 e2 => ?_⟩
  obtain ⟨v, z1, z2⟩ := r i name y e1 e2
  exact ⟨v, z1, Rep.monoS x y v z2⟩
theorem ExRep.mono (x : Ext C.k H ms H' ms') {c : Nat} {xs : List PD} {cls : Value} {d : Option Addr} (h : ExRep C H ms c xs cls d) : ExRep C H' ms' c xs cls d := ExRep.monoS x.sub h
theorem WRep.mono (x : Ext C.k H ms H' ms') {w : W} {v : V} (h : WRep C H ms w v) : WRep C H' ms' w v := by
  cases w with
  | d y => exact Rep.mono x y v h
  | ref n => obtain ⟨a, e, q⟩ := h; exact ⟨a, x.get e, q⟩
  | fn i => exact h
  | err c xs => obtain ⟨a, cls, d, e1, e2, q⟩ := h; exact ⟨a, cls, d, e1, e2, q.mono x⟩
theorem EnRep.mono (x : Ext C.k H ms H' ms') (h : EnRep C H ms σ env) : EnRep C H' ms' σ env := ⟨h.len, fun i w e => let ⟨v, a, b⟩ := h.at_ i w e; ⟨v, a, b.mono x⟩⟩
theorem StRep.free (h : StRep C H ms st) {p : Addr} (hp : H p = none) : p ∉ ms := fun z => by
  obtain ⟨o, e⟩ := h.there p z
  rw [hp] at e; cases e
/-- a new thing that is none of the store's -/
theorem Ext.new {k : Nat} {p : Addr} {o : HO} (hp : H p = none) : Ext k H ms (upd H p o) ms :=
  ⟨fun a u _ e => by rw [upd_ne (ne_of_none e hp)]; exact e, ⟨[], by simp, by simp⟩, fun i a u _ _ e => by rw [upd_ne (ne_of_none e hp)]; exact e, fun a o u e => by rw [upd_ne (ne_of_none e hp)]; exact e⟩
theorem RepL.mapR {K : PySem.W.Frag} (f : ∀ d v, Rep K H ms d v → Rep K H' ms' d v) : ∀ (ds : List PD) (vs : List V), RepL K H ms ds vs → RepL K H' ms' ds vs
  | [], _, h => h
  | d :: ds, _, h => by
    obtain ⟨v, r, e, h1, h2⟩ := h
    exact ⟨v, r, e, f d v h1, RepL.mapR f ds r h2⟩
theorem EntR.mapR {w : World} {K : PySem.W.Frag} (f : ∀ d v, Rep K H ms d v → Rep K H' ms' d v) {p : PD × PD} {e : DictEntry} (h : EntR w K H ms p e) : EntR w K H' ms' p e :=
  ⟨let ⟨v, a, b⟩ := h.key; ⟨v, a, f _ v b⟩, let ⟨v, a, b⟩ := h.val; ⟨v, a, f _ v b⟩, h.hash⟩
theorem DctR.mapR {w : World} {K : PySem.W.Frag} {a : Addr} {kvs : List (PD × PD)} {o : Obj} (f : ∀ d v, Rep K H ms d v → Rep K H' ms' d v) (h : DctR w K H ms a kvs o) : DctR w K H' ms' a kvs o :=
  ⟨h.cls, h.mods, h.len, let ⟨es, ep, e, r⟩ := h.ents; ⟨es, ep, e, Paired.mapP r fun _ _ q => q.mapR f⟩, h.nd⟩
theorem ObRep.mapR {w : World} {K : PySem.W.Frag} {a : Addr} {o : Ob} (f : ∀ d v, Rep K H ms d v → Rep K H' ms' d v) (e : ∀ u, H a = some u → H' a = some u) (h : ObRep K w H ms a o) : ObRep K w H' ms' a o := by
  cases o with
  | gone => trivial
  | lst xs => obtain ⟨vs, h1, h2⟩ := h; exact ⟨vs, e _ h1, RepL.mapR f _ _ h2⟩
  | dct n fz kvs =>
    obtain ⟨h1, h2, o, h3, h4⟩ := h
    refine ⟨h1, h2, o, h3.mapR f, ?_⟩
    cases fz
    · exact e _ h4
    · exact e _ h4
theorem EntR.monoS {w : World} {K : PySem.W.Frag} (x : Sub H ms H' ms') {p : PD × PD} {e : DictEntry} (h : EntR w K H ms p e) : EntR w K H' ms' p e :=
  ⟨let ⟨v, a, b⟩ := h.key; ⟨v, a, Rep.monoS x _ v b⟩, let ⟨v, a, b⟩ := h.val; ⟨v, a, Rep.monoS x _ v b⟩, h.hash⟩
theorem DctR.monoS {w : World} {K : PySem.W.Frag} {a : Addr} {kvs : List (PD × PD)} {o : Obj} (x : Sub H ms H' ms') (h : DctR w K H ms a kvs o) : DctR w K H' ms' a kvs o :=
  ⟨h.cls, h.mods, h.len, let ⟨es, ep, e, r⟩ := h.ents; ⟨es, ep, e, Paired.mapP r fun _ _ q => q.monoS x⟩, h.nd⟩
theorem ObRep.mono (x : Ext C.k H ms H' ms') {a : Addr} {o : Ob} (e : ∀ u, H a = some u → H' a = some u) (h : ObRep C.K C.w H ms a o) : ObRep C.K C.w H' ms' a o := by
  cases o with
  | gone => trivial
  | lst xs => obtain ⟨vs, h1, h2⟩ := h; exact ⟨vs, e _ h1, RepL.mono x _ _ h2⟩
  | dct n fz kvs =>
    obtain ⟨h1, h2, o, h3, h4⟩ := h
    refine ⟨h1, h2, o, h3.monoS x.sub, ?_⟩
    cases fz
    · exact e _ h4
    · exact e _ h4
theorem StRep.new (h : StRep C H ms st) {p : Addr} {o : HO} (hp : H p = none) : StRep C (upd H p o) ms st :=
  ⟨h.len, h.nd, fun n a u e1 e2 => ObRep.mono (C := C) (Ext.new hp) (fun u e => by rw [upd_ne (ne_of_none e hp)]; exact e) (h.ob n a u e1 e2), fun a ha => by
    obtain ⟨o, e⟩ := h.there a ha
    exact ⟨o, by rw [upd_ne (ne_of_none e hp)]; exact e⟩⟩
/-- a new thing of the store -/
theorem Ext.newS {p : Addr} {o : HO} (h : StRep C H ms st) (hp : H p = none) : Ext C.k H ms (upd H p o) (ms ++ [p]) :=
  ⟨fun a u _ e => by rw [upd_ne (ne_of_none e hp)]; exact e, ⟨[p], rfl, fun a ha => by
    have : a = p := by simpa using ha
    subst this
    exact ⟨h.free hp, hp⟩⟩, fun i a u _ _ e => by rw [upd_ne (ne_of_none e hp)]; exact e, fun a o u e => by rw [upd_ne (ne_of_none e hp)]; exact e⟩
theorem StRep.newO (h : StRep C H ms st) {p : Addr} {ho : HO} {ob : Ob} (hp : H p = none) (r : ObRep C.K C.w (upd H p ho) (ms ++ [p]) p ob) : StRep C (upd H p ho) (ms ++ [p]) (st ++ [ob]) := by
  have x : Ext C.k H ms (upd H p ho) (ms ++ [p]) := Ext.newS h hp
  refine ⟨by simp [h.len]; omega, ?_, fun n a o e1 e2 => ?_, fun a ha => ?_⟩
  · rw [List.nodup_append]
    refine ⟨h.nd, by simp, fun a ha b hb => ?_⟩
    have : b = p := by simpa using hb
    subst this
    intro z; subst z
    exact h.free hp ha
  · have hlen := h.len
    by_cases hn : n < st.length
    · rw [List.getElem?_append_left (by omega)] at e1
      rw [List.getElem?_append_left hn] at e2
      exact ObRep.mono (C := C) x (fun u e => by rw [upd_ne (ne_of_none e hp)]; exact e) (h.ob n a o e1 e2)
    · have hl := (List.getElem?_eq_some_iff.mp e2).1
      have : n = st.length := by simp at hl; omega
      subst this
      rw [List.getElem?_append_right (by omega), ← hlen, Nat.sub_self] at e1
      rw [List.getElem?_append_right (Nat.le_refl _), Nat.sub_self] at e2
      simp at e1 e2
      subst e1; subst e2
      exact r
  · rcases List.mem_append.mp ha with z | z
    · obtain ⟨o, e⟩ := h.there a z
      exact ⟨o, by rw [upd_ne (ne_of_none e hp)]; exact e⟩
    · have : a = p := by simpa using z
      subst this
      exact ⟨_, upd_same⟩
theorem StRep.newS (h : StRep C H ms st) {p : Addr} {xs : List V} {ds : List PD} (hp : H p = none) (r : RepL C.K H ms ds xs) : StRep C (upd H p (.lst xs)) (ms ++ [p]) (st ++ [.lst ds]) :=
  h.newO hp ⟨xs, upd_same, RepL.mono (Ext.newS h hp) _ _ r⟩
/-- a thing of the store changed -/
theorem Ext.write {n : Nat} {a : Addr} {o : HO} (h : StRep C H ms st) (ha : ms[C.k + n]? = some a) (hf : ∀ o u, H a ≠ some (.frz o u)) : Ext C.k H ms (upd H a o) ms :=
  ⟨fun b u hb e => by rw [upd_ne (fun z => hb (by subst z; exact List.mem_of_getElem? ha))]; exact e, ⟨[], by simp, by simp⟩, fun i b u hi hb e => by
    rw [upd_ne (fun z => ?_)]
    · exact e
    · subst z
      obtain ⟨i1, q1⟩ := List.getElem?_eq_some_iff.mp hb
      obtain ⟨i2, q2⟩ := List.getElem?_eq_some_iff.mp ha
      have := (List.getElem_inj h.nd).mp (q1.trans q2.symm)
      omega, fun b o u e => by rw [upd_ne (fun z => hf o u (by rw [← z]; exact e))]; exact e⟩
theorem StRep.writeO (h : StRep C H ms st) {n : Nat} {a : Addr} {ho : HO} {ob : Ob} (ha : ms[C.k + n]? = some a) (hf : ∀ o u, H a ≠ some (.frz o u)) (r : ObRep C.K C.w (upd H a ho) ms a ob) : StRep C (upd H a ho) ms (st.set n ob) := by
  have x : Ext C.k H ms (upd H a ho) ms := Ext.write h ha hf
  have hlen := h.len
  have hlt := (List.getElem?_eq_some_iff.mp ha).1
  refine ⟨by simp [h.len], h.nd, fun m b o e1 e2 => ?_, fun b hb => ?_⟩
  · by_cases hm : m = n
    · subst hm
      rw [ha] at e1; cases e1
      rw [List.getElem?_set_self (by omega)] at e2
      cases e2
      exact r
    · rw [List.getElem?_set_ne (Ne.symm hm)] at e2
      have hne : b ≠ a := fun z => by
        subst z
        obtain ⟨i1, q1⟩ := List.getElem?_eq_some_iff.mp e1
        obtain ⟨i2, q2⟩ := List.getElem?_eq_some_iff.mp ha
        have := (List.getElem_inj h.nd).mp (q1.trans q2.symm)
        omega
      exact ObRep.mono (C := C) x (fun u e => by rw [upd_ne hne]; exact e) (h.ob m b o e1 e2)
  · by_cases hb2 : b = a
    · subst hb2; exact ⟨_, upd_same⟩
    · obtain ⟨o, e⟩ := h.there b hb
      exact ⟨o, by rw [upd_ne hb2]; exact e⟩
theorem lst_nofrz {a : Addr} {vs : List V} (h : H a = some (.lst vs)) : ∀ o u, H a ≠ some (.frz o u) := fun o u e => by rw [h] at e; cases e
theorem StRep.write (h : StRep C H ms st) {n : Nat} {a : Addr} {us xs : List V} {ds : List PD} (ha : ms[C.k + n]? = some a) (hl : H a = some (.lst us)) (r : RepL C.K H ms ds xs) : StRep C (upd H a (.lst xs)) ms (st.set n (.lst ds)) :=
  h.writeO ha (lst_nofrz hl) ⟨xs, upd_same, RepL.mono (Ext.write h ha (lst_nofrz hl)) _ _ r⟩
/-- what a value is now -/
theorem WRep.now (h : StRep C H ms st) {w : W} {v : V} {d : PD} (r : WRep C H ms w v) (e : view st w = some d) : Now C.K H ms d v := by
  cases w with
  | d x => cases e; exact .inl r
  | fn i => cases e
  | err c xs => cases e
  | ref n =>
    obtain ⟨a, ha, rfl⟩ := r
    simp only [view] at e
    cases q : st[n]? with
    | none => rw [q] at e; cases e
    | some o =>
      rw [q] at e
      have z := h.ob n a o ha q
      cases o with
      | lst xs =>
        cases e
        obtain ⟨vs, h1, h2⟩ := z
        exact .inr ⟨a, vs, xs, rfl, rfl, h1, h2⟩
      | dct n fz kvs => cases e
      | gone => cases e
theorem EnRep.put (h : EnRep C H ms σ env) {i : Nat} {w : W} {v : V} {env' : En} (r : WRep C H ms w v) (e : putS env i w = some env') : EnRep C H ms (σ.set i (some v)) env' := by
  unfold putS at e
  split at e
  · rename_i hi
    cases e
    refine ⟨by simp [h.len], fun j u e => ?_⟩
    by_cases hj : j = i
    · subst hj
      rw [List.getElem?_set_self hi] at e
      cases e
      exact ⟨v, List.getElem?_set_self (by rw [h.len]; exact hi), r⟩
    · rw [List.getElem?_set_ne (Ne.symm hj)] at e
      obtain ⟨z, z1, z2⟩ := h.at_ j u e
      exact ⟨z, by rw [List.getElem?_set_ne (Ne.symm hj)]; exact z1, z2⟩
  · cases e
theorem EnRep.wipe (h : EnRep C H ms σ env) : ∀ is : List Nat, EnRep C H ms (L2.wipe σ is) (wipeE env is)
  | [] => h
  | i :: is => by
    have ih := EnRep.wipe h is
    unfold L2.wipe wipeE
    refine ⟨by simp [ih.len], fun j u e => ?_⟩
    by_cases hj : j = i
    · subst hj
      by_cases hl : j < (wipeE env is).length
      · rw [List.getElem?_set_self hl] at e; cases e
      · rw [List.getElem?_eq_none (by simpa using hl)] at e; cases e
    · rw [List.getElem?_set_ne (Ne.symm hj)] at e
      obtain ⟨z, z1, z2⟩ := ih.at_ j u e
      exact ⟨z, by rw [List.getElem?_set_ne (Ne.symm hj)]; exact z1, z2⟩
end
/-! ### what an answer promises -/
section
variable {C : Cn} {W₀ : WX} {α β : Type} {H H' H'' : Hp} {ms ms' ms'' : List Addr} {σ : L2.St}
/-- Q of what is told, the wish W₀ of an error; an evaluator that is stuck promises nothing -/
def Post (C : Cn) (W₀ : WX) (σ : L2.St) (H : Hp) (ms : List Addr) (r : Rs α) (Q : α → Sto → Hp → List Addr → Prop) : Prop :=
  match r with
  | .ok a st => ∀ H' ms', Ext C.k H ms H' ms' → StRep C H' ms' st → Q a st H' ms'
  | .exc c xs st => ∀ cls d H' ms', Ext C.k H ms H' ms' → StRep C H' ms' st → ExRep C H' ms' c xs cls d → W₀ cls d σ H'
  | .stuck => False
theorem Post.mono {r : Rs α} {Q : α → Sto → Hp → List Addr → Prop} (x : Ext C.k H ms H' ms') (h : Post C W₀ σ H ms r Q) : Post C W₀ σ H' ms' r Q := by
  cases r with
  | ok a st => exact fun H2 ms2 x2 s2 => h H2 ms2 (x.trans x2) s2
  | exc c xs st => exact fun cls d H2 ms2 x2 s2 => h cls d H2 ms2 (x.trans x2) s2
  | stuck => exact h
theorem Post.imp {r : Rs α} {Q Q' : α → Sto → Hp → List Addr → Prop} (h : Post C W₀ σ H ms r Q) (k : ∀ a st H' ms', Ext C.k H ms H' ms' → StRep C H' ms' st → Q a st H' ms' → Q' a st H' ms') : Post C W₀ σ H ms r Q' := by
  cases r with
  | ok a st => exact fun H2 ms2 x2 s2 => k _ _ _ _ x2 s2 (h H2 ms2 x2 s2)
  | exc c xs st => exact h
  | stuck => exact h
theorem Post.bind {r : Rs α} {f : α → Sto → Rs β} {Q : β → Sto → Hp → List Addr → Prop} (h : Post C W₀ σ H ms (r.bind f) Q) : Post C W₀ σ H ms r fun a st H' ms' => Post C W₀ σ H' ms' (f a st) Q := by
  cases r with
  | ok a st =>
    have h : Post C W₀ σ H ms (f a st) Q := h
    exact fun H2 ms2 x2 s2 => h.mono x2
  | exc c xs st => exact h
  | stuck => exact h
theorem Post.of {o : Option α} {st : Sto} {Q : α → Sto → Hp → List Addr → Prop} (h : Post C W₀ σ H ms (Rs.of o st) Q) : ∃ a, o = some a ∧ ∀ H' ms', Ext C.k H ms H' ms' → StRep C H' ms' st → Q a st H' ms' := by
  cases o with
  | none => exact h.elim
  | some a => exact ⟨a, rfl, h⟩
end
end Mini

set_option Elab.async false
set_option linter.all false
set_option maxRecDepth 100000
set_option maxHeartbeats 2000000
/-! Mini, part C: the readings by the evaluator, expressions. -/
namespace Mini
open PySem PySem.Spec PyProof.Rows L2
theorem peW {X : Cx} {e : Expr} {t t' : TE} (h : PE X e t) (k : ∀ σ H Q, t' σ H Q → t σ H Q) : PE X e t' := ⟨fun pins s σ H Q I q => h.run pins s σ H Q I (k σ H Q q)⟩
theorem ptW {X : Cx} {e : Expr} {t t' : TT} (h : PT X e t) (k : ∀ σ H Q, t' σ H Q → t σ H Q) : PT X e t' := ⟨fun pins s σ H Q I q => h.run pins s σ H Q I (k σ H Q q)⟩
theorem pwW {X : Cx} {e : Expr} {t t' : TT} (h : PW X e t) (k : ∀ σ H Q, t' σ H Q → t σ H Q) : PW X e t' := ⟨fun wh pins s σ H Q I q => h.run wh pins s σ H Q I (k σ H Q q)⟩
theorem paW {X : Cx} {es : List Expr} {t t' : TA} (h : PA X es t) (k : ∀ σ H Q, t' σ H Q → t σ H Q) : PA X es t' := ⟨fun pos pins s σ H Q I q => h.run pos pins s σ H Q I (k σ H Q q)⟩
section
variable (C : Cn) (F : Fe) (W₀ : WX)
abbrev WReps (C : Cn) (H : Hp) (ms : List Addr) (ws : List W) (vs : List V) : Prop := Paired (WRep C H ms) ws vs
/-- the reading of a coded expression; of a test; of arguments -/
def rdE (c : E) : TE := fun σ H Q => ∃ env st ms, EnRep C H ms σ env ∧ StRep C H ms st ∧ Post C W₀ σ H ms (evE F c env st) fun w _ H' ms' => ∀ v, WRep C H' ms' w v → Q v H'
def rdB (c : E) : TT := fun σ H Q => ∃ env st ms, EnRep C H ms σ env ∧ StRep C H ms st ∧ Post C W₀ σ H ms (tst (evE F c env st)) fun b _ H' _ => Q b H'
def rdL (c : E) : TA := fun σ H Q => ∃ env st ms, EnRep C H ms σ env ∧ StRep C H ms st ∧ Post C W₀ σ H ms (evL F c env st) fun ws _ H' ms' => ∀ vs, WReps C H' ms' ws vs → Q vs H'
end
section
variable {C : Cn} {F : Fe} {W₀ : WX} {X : Cx} {β : Type} {σ : L2.St} {H : Hp} {ms : List Addr} {env : En} {st : Sto}
theorem rd_bind {c : E} {f : W → Sto → Rs β} {Q₀ : β → Sto → Hp → List Addr → Prop} {K : VK} (en : EnRep C H ms σ env) (sr : StRep C H ms st) (h : Post C W₀ σ H ms ((evE F c env st).bind f) Q₀)
    (k : ∀ v w st' H' ms', EnRep C H' ms' σ env → StRep C H' ms' st' → Ext C.k H ms H' ms' → WRep C H' ms' w v → Post C W₀ σ H' ms' (f w st') Q₀ → K v H') : rdE C F W₀ c σ H K :=
  ⟨env, st, ms, en, sr, h.bind.imp fun w st' H' ms' x s' q v r => k v w st' H' ms' (en.mono x) s' x r q⟩
theorem rdB_bind {c : E} {f : Bool → Sto → Rs β} {Q₀ : β → Sto → Hp → List Addr → Prop} {K : Bool → Hp → Prop} (en : EnRep C H ms σ env) (sr : StRep C H ms st) (h : Post C W₀ σ H ms ((tst (evE F c env st)).bind f) Q₀)
    (k : ∀ b st' H' ms', EnRep C H' ms' σ env → StRep C H' ms' st' → Ext C.k H ms H' ms' → Post C W₀ σ H' ms' (f b st') Q₀ → K b H') : rdB C F W₀ c σ H K :=
  ⟨env, st, ms, en, sr, h.bind.imp fun w st' H' ms' x s' q => k w st' H' ms' (en.mono x) s' x q⟩
theorem rdL_bind {c : E} {f : List W → Sto → Rs β} {Q₀ : β → Sto → Hp → List Addr → Prop} {K : List V → Hp → Prop} (en : EnRep C H ms σ env) (sr : StRep C H ms st) (h : Post C W₀ σ H ms ((evL F c env st).bind f) Q₀)
    (k : ∀ vs ws st' H' ms', EnRep C H' ms' σ env → StRep C H' ms' st' → Ext C.k H ms H' ms' → WReps C H' ms' ws vs → Post C W₀ σ H' ms' (f ws st') Q₀ → K vs H') : rdL C F W₀ c σ H K :=
  ⟨env, st, ms, en, sr, h.bind.imp fun w st' H' ms' x s' q v r => k v w st' H' ms' (en.mono x) s' x r q⟩
theorem WReps.mono {H' : Hp} {ms' : List Addr} (x : Ext C.k H ms H' ms') : ∀ {ws : List W} {vs : List V}, WReps C H ms ws vs → WReps C H' ms' ws vs
  | _, _, .nil => .nil
  | _, _, .cons r t => .cons (r.mono x) (WReps.mono x t)
/-- an answer that is told at once -/
theorem Post.ok {α : Type} {a : α} {Q : α → Sto → Hp → List Addr → Prop} (sr : StRep C H ms st) (h : Post C W₀ σ H ms (.ok a st) Q) : Q a st H ms := h H ms Ext.refl sr
theorem tst_bool {b : Bool} {Q : Bool → Sto → Hp → List Addr → Prop} (h : Post C W₀ σ H ms (tst (.ok (.d (.bool b)) st)) Q) : Post C W₀ σ H ms (.ok b st) Q := h
/-- a test by its value -/
theorem rdB_of {c : E} {K : Bool → Hp → Prop} (h : rdB C F W₀ c σ H K) : tB (rdE C F W₀ c) σ H K := by
  obtain ⟨env, st, ms, en, sr, h⟩ := h
  refine rd_bind en sr h fun v w st' H' ms' en' sr' x r q => ?_
  obtain ⟨d, e, q⟩ := q.bind.of
  have n := r.now sr' e
  obtain ⟨b, eb, q2⟩ := (q H' ms' Ext.refl sr').of
  have q3 := q2 H' ms' Ext.refl sr'
  clear q2 q
  cases d with
  | bool k =>
    cases eb
    exact ⟨_, n.bool, q3⟩
  | _ => cases eb
/-! ### names, constants -/
theorem se_int {i j pos} : PE X (.Constant (.int i) j pos) (rdE C F W₀ (.cst (.int i))) := peW pe_int fun σ H Q ⟨env, st, ms, en, sr, h⟩ => Post.ok sr h _ rfl
theorem se_bl {b j pos} : PE X (.Constant (.bool b) j pos) (rdE C F W₀ (.cst (.bool b))) := peW pe_bl fun σ H Q ⟨env, st, ms, en, sr, h⟩ => Post.ok sr h _ rfl
theorem se_non {j pos} : PE X (.Constant .none j pos) (rdE C F W₀ (.cst .none)) := peW pe_non fun σ H Q ⟨env, st, ms, en, sr, h⟩ => Post.ok sr h _ rfl
theorem se_str {x j pos} : PE X (.Constant (.str x) j pos) (rdE C F W₀ (.cst (.str x))) := peW pe_str fun σ H Q ⟨env, st, ms, en, sr, h⟩ => Post.ok sr h _ rfl
theorem se_var {i : Nat} {x : Str} {pos : Pos} (hN : X.N[i]? = some x) (hv : Vis X.env.scope x) (hd : (x == ("__debug__" : Str)) = false) (hcd : (x == ("__classdict__" : Str)) = false) : PE X (.Name x pos) (rdE C F W₀ (.var i)) :=
  peW (pe_var hN hv hd hcd) fun σ H Q ⟨env, st, ms, en, sr, h⟩ => by
    simp only [evE] at h
    split at h
    · rename_i w e
      obtain ⟨v, e1, r⟩ := en.at_ i w e
      exact ⟨v, e1, Post.ok sr h v r⟩
    · exact h.elim
theorem se_glob {i : Nat} {x : Str} {u : Value} {v : V} {d : PD} {pos : Pos} (hg : Gl X x) (hm : X.mg x = some u) (r : RelV v u) (hd : (x == ("__debug__" : Str)) = false) (e : F.glob i = some d) (hr : ∀ H ms, Rep C.K H ms d v) : PE X (.Name x pos) (rdE C F W₀ (.glob i)) :=
  peW (pe_glob hg hm r hd) fun σ H Q ⟨env, st, ms, en, sr, h⟩ => by
    simp only [evE, e] at h
    exact Post.ok sr h v (hr H ms)
theorem se_fn {i : Nat} {x : Str} {f : Addr} {pos : Pos} (hg : Gl X x) (hm : X.mg x = some (.ref f)) (hd : (x == ("__debug__" : Str)) = false) (e : C.fa i = some f) : PE X (.Name x pos) (rdE C F W₀ (.fn i)) :=
  peW (pe_glob (v := .ref f) hg hm rfl hd) fun σ H Q ⟨env, st, ms, en, sr, h⟩ => Post.ok sr h _ ⟨f, e, rfl⟩
/-! ### and, or, not, if -/
variable {a b c : Expr} {ca cb cc : E} {pos : Pos}
theorem st_of {e : Expr} {c : E} (h : PE X e (rdE C F W₀ c)) (he : ∀ whole, isTrue e X.env whole = (do let v ← whole; standAt e.pos; holding [v] (truthy v))) : PT X e (rdB C F W₀ c) := ptW (pt_val h he) fun σ H Q q => rdB_of q
theorem se_not (ha : PE X a (rdE C F W₀ ca)) : PE X (.UnaryOp .Not a pos) (rdE C F W₀ (.not ca)) := peW (pe_not ha) fun σ H Q ⟨env, st, ms, en, sr, h⟩ =>
  rdB_of (rdB_bind en sr h fun b st' H' ms' en' sr' x q => Post.ok sr' q _ rfl)
theorem st_not (ha : PT X a (rdB C F W₀ ca)) : PT X (.UnaryOp .Not a pos) (rdB C F W₀ (.not ca)) := ptW (pt_not ha) fun σ H Q ⟨env, st, ms, en, sr, h⟩ => by
  have e : tst (evE F (.not ca) env st) = (tst (evE F ca env st)).bind fun b s => .ok (!b) s := by
    simp only [evE]
    cases tst (evE F ca env st) <;> rfl
  rw [e] at h
  exact rdB_bind en sr h fun b st' H' ms' en' sr' x q => Post.ok sr' q
theorem tst_bind {α : Type} (r : Rs α) (f : α → Sto → Rs W) : tst (r.bind f) = r.bind fun a s => tst (f a s) := by cases r <;> rfl
theorem se_and {rest : List Expr} (ha : PE X a (rdE C F W₀ ca)) (hb : PE X (.BoolOp .And (b :: rest) pos) (rdE C F W₀ cb)) : PE X (.BoolOp .And (a :: b :: rest) pos) (rdE C F W₀ (.and ca cb)) := peW (pe_and ha hb) fun σ H Q ⟨env, st, ms, en, sr, h⟩ =>
  rdB_of (rdB_bind en sr h fun k st' H' ms' en' sr' x q => by
    cases k with
    | true => exact ⟨env, st', ms', en', sr', q⟩
    | false => exact Post.ok sr' q _ rfl)
theorem se_or {rest : List Expr} (ha : PE X a (rdE C F W₀ ca)) (hb : PE X (.BoolOp .Or (b :: rest) pos) (rdE C F W₀ cb)) : PE X (.BoolOp .Or (a :: b :: rest) pos) (rdE C F W₀ (.or ca cb)) := peW (pe_or ha hb) fun σ H Q ⟨env, st, ms, en, sr, h⟩ =>
  rdB_of (rdB_bind en sr h fun k st' H' ms' en' sr' x q => by
    cases k with
    | false => exact ⟨env, st', ms', en', sr', q⟩
    | true => exact Post.ok sr' q _ rfl)
theorem sw_and {rest : List Expr} (ha : PT X a (rdB C F W₀ ca)) (hb : PW X (.BoolOp .And (b :: rest) pos) (rdB C F W₀ cb)) : PW X (.BoolOp .And (a :: b :: rest) pos) (rdB C F W₀ (.and ca cb)) := pwW (pw_and ha hb) fun σ H Q ⟨env, st, ms, en, sr, h⟩ => by
  simp only [evE, tst_bind] at h
  exact rdB_bind en sr h fun k st' H' ms' en' sr' x q => by
    cases k with
    | true => exact ⟨env, st', ms', en', sr', q⟩
    | false => exact Post.ok sr' (tst_bool q)
theorem sw_or {rest : List Expr} (ha : PT X a (rdB C F W₀ ca)) (hb : PW X (.BoolOp .Or (b :: rest) pos) (rdB C F W₀ cb)) : PW X (.BoolOp .Or (a :: b :: rest) pos) (rdB C F W₀ (.or ca cb)) := pwW (pw_or ha hb) fun σ H Q ⟨env, st, ms, en, sr, h⟩ => by
  simp only [evE, tst_bind] at h
  exact rdB_bind en sr h fun k st' H' ms' en' sr' x q => by
    cases k with
    | false => exact ⟨env, st', ms', en', sr', q⟩
    | true => exact Post.ok sr' (tst_bool q)
theorem se_ife (hc : PT X c (rdB C F W₀ cc)) (ha : PE X a (rdE C F W₀ ca)) (hb : PE X b (rdE C F W₀ cb)) : PE X (.IfExp c a b pos) (rdE C F W₀ (.ife cc ca cb)) := peW (pe_ifExp hc ha hb) fun σ H Q ⟨env, st, ms, en, sr, h⟩ =>
  rdB_bind en sr h fun k st' H' ms' en' sr' x q => by
    cases k with
    | true => exact ⟨env, st', ms', en', sr', q⟩
    | false => exact ⟨env, st', ms', en', sr', q⟩
/-- a test of a conditional expression, by its value -/
theorem st_ife {cc : E} (hc : PT X c (rdB C F W₀ cc)) (ha : PT X a (rdB C F W₀ ca)) (hb : PT X b (rdB C F W₀ cb)) : PT X (.IfExp c a b pos) (rdB C F W₀ (.ife cc ca cb)) := by
  refine ⟨fun pins s σ H Q I ⟨env, st, ms, en, sr, h⟩ => ?_⟩
  simp only [evE, tst_bind] at h
  have q := rdB_bind (K := fun k H' => if k = true then rdB C F W₀ ca σ H' Q else rdB C F W₀ cb σ H' Q) en sr h fun k st' H' ms' en' sr' x q => by
    cases k with
    | true => exact ⟨env, st', ms', en', sr', q⟩
    | false => exact ⟨env, st', ms', en', sr', q⟩
  rw [PySem.isTrue]
  refine wpAny_bind (thn (hc.run pins s σ H _ I q) fun d s1 ⟨H1, I1, q1⟩ => ?_)
  cases d with
  | true => exact ha.run pins s1 σ H1 Q I1 q1
  | false => exact hb.run pins s1 σ H1 Q I1 q1
end
end Mini

set_option Elab.async false
set_option linter.all false
set_option maxRecDepth 100000
set_option maxHeartbeats 2000000
/-! Mini, part N: sum of lists, from a list on. -/
namespace Mini
open PySem PySem.Spec PyProof.Rows L2
section
variable {prog : Program} {w : World} {A : Around} {E : Value → Shared → Prop} {s : Shared}
theorem list_cat {l b : Addr} {its its2 : List Value} {Q : Value → Shared → Prop} (p1 : PlainL s.heap l its.toArray) (p2 : PlainL s.heap b its2.toArray) (hz : its.length + its2.length ≤ sizeLine)
    (h : Q (.ref s.heap.objs.size) { s with heap := s.heap.push { cls := .type "list", data := .seq (its ++ its2).toArray 0 } }) : wpAny (model prog w) A (binaryOp .Add (.ref l) (.ref b)) Q E s := by
  obtain ⟨⟨cls, dd, data, sl⟩, n, ho, hc, hdd, hd⟩ := id p1
  obtain ⟨⟨cls2, dd2, data2, sl2⟩, n2, ho2, hc2, hdd2, hd2⟩ := id p2
  simp only at hc hd hc2 hd2 hdd hdd2
  subst hc hd hc2 hd2 hdd hdd2
  refine concat_meets ⟨_, ho, rfl⟩ ⟨_, ho2, rfl⟩ noFill_list_add seq_list_add PySem.F.slot_list_add PySem.F.entry_list_add (PySem.F.args_list_add_2 _ _) (list_addW l b its.toArray its2.toArray n n2 _ _ sl sl2 (by rw [List.size_toArray, List.size_toArray]; exact hz)) ⟨ho, ho2, ?_⟩
  have ea : its.toArray ++ its2.toArray = (its ++ its2).toArray := by simp
  rw [ea]
  exact h
end
section
variable {prog : Program} {w : World} {A : Around} {R : Result → Shared → Prop} {I : Addr} {fp wr : List Addr} {n : Nat} {P : Nat → Value → Prop} {St : Nat → Heap → Prop}
theorem sum_loop_lists (W : Walks prog w A.in1 I fp wr n P St) (S : Addr) (hSf : S ∉ fp) (h0 : Heap) (xs : List (List Value)) (hn : xs.length = n) (hth : ∀ i h, St i h → ∀ b ∈ fp, b < h.objs.size)
    (hP : ∀ i v, P i v → ∃ b ys, v = .ref b ∧ xs[i]? = some ys ∧ b ∉ wr ∧ b ≠ S ∧ PlainL h0 b ys.toArray) :
    ∀ (k i : Nat) (s : Shared) (t : Addr) (acc : List Value) (c : Nat), n - i = k → i ≤ n → St i s.heap → s.heap.get? S = some { cls := .type "list", dict := none, data := .seq #[.ref t] c, slots := #[] } →
    (∀ b o, b ∉ wr → b ≠ S → h0.get? b = some o → s.heap.get? b = some o) → PlainL s.heap t acc.toArray → t ∉ wr → t ≠ S → acc.length + (xs.drop i).flatten.length ≤ sizeLine →
    (∀ h' tk t', (∀ b o, b ∉ wr → b ≠ S → s.heap.get? b = some o → h'.get? b = some o) → ((t' = t ∧ (xs.drop i).flatten = []) ∨ (S < t' ∧ ∃ c, h'.get? t' = some { cls := .type "list", dict := none, data := .seq (acc ++ (xs.drop i).flatten).toArray c, slots := #[] })) → R (.ok (.ret (.ref t'))) { s with heap := h', toks := tk }) →
    codeAny (model prog w) A (.builtin "sum.loop" ⟨[.ref I, .ref S, rawInt 2, rawInt 0], []⟩) R s := by
  have hSw : S ∉ wr := fun h => hSf (W.sub _ h)
  intro k
  induction k with
  | zero =>
    intro i s t acc c hk hi hst hS hkeep ht htw htS hz hR
    have hin : i = n := by omega
    subst hin
    refine codeAny_builtin F.entry_sum_loop ?_
    rw [Around.under_plainId F.plain_sum_loop _]
    show wpAny _ A.in1 (seqItems? (.ref S) >>= _) _ _ s
    refine wpAny_bind (wpAny_seqItems hS rfl ?_)
    show wpAny _ A.in1 (tryCatch (pyNext (.ref I)) _ >>= _) _ _ s
    refine wpAny_bind (wpAny_tryCatch (W.done s _ _ hst fun h' tk hk' => ?_))
    have ed : xs.drop xs.length = [] := List.drop_length
    rw [← hn] at hR
    rw [ed, List.flatten_nil, List.append_nil] at hR
    exact wpAny_pure (hR h' tk t (fun b o hbw _ e => hk' b o hbw e) (.inl ⟨rfl, rfl⟩))
  | succ k ih =>
    intro i s t acc c hk hi hst hS hkeep ht htw htS hz hR
    have hlt : i < n := by omega
    refine codeAny_builtin F.entry_sum_loop ?_
    rw [Around.under_plainId F.plain_sum_loop _]
    show wpAny _ A.in1 (seqItems? (.ref S) >>= _) _ _ s
    refine wpAny_bind (wpAny_seqItems hS rfl ?_)
    show wpAny _ A.in1 (tryCatch (pyNext (.ref I)) _ >>= _) _ _ s
    refine wpAny_bind (wpAny_tryCatch (W.item i s _ _ hlt hst fun v h' tk hPv hst' hk' => ?_))
    obtain ⟨b, ys, rfl, hxi, hbw, hbS, hb0⟩ := hP i v hPv
    have hS' := hk' S _ hSw hS
    have ed : xs.drop i = ys :: xs.drop (i + 1) := by
      obtain ⟨hi2, e⟩ := List.getElem?_eq_some_iff.mp hxi
      rw [List.drop_eq_getElem_cons hi2, e]
    rw [ed, List.flatten_cons, List.length_append] at hz
    have pt : PlainL h' t acc.toArray := let ⟨o, m, h1, h2⟩ := ht; ⟨o, m, hk' t o htw h1, h2⟩
    have pb : PlainL h' b ys.toArray := let ⟨o, m, h1, h2⟩ := hb0; ⟨o, m, hk' b o hbw (hkeep b o hbw hbS h1), h2⟩
    show wpAny _ A.in1 ((holding [Value.ref b] (binaryOp .Add (.ref t) (.ref b))).attempt >>= _) _ _ _
    refine wpAny_bind (wpAny_attempt (wpAny_holding (list_cat (s := { s with heap := h', toks := tk }) pt pb (by omega) ?_)))
    show wpAny _ A.in1 (updateSeq S (fun _ => #[.ref h'.objs.size]) >>= _) _ _ _
    have hS2 : (h'.push { cls := .type "list", data := .seq (acc ++ ys).toArray 0 }).get? S = some { cls := .type "list", dict := none, data := .seq #[.ref t] c, slots := #[] } := Heap.get?_push_of_some _ hS'
    have hlS : S < h'.objs.size := Heap.lt_size hS'
    have hnS : h'.objs.size ≠ S := Nat.ne_of_gt hlS
    have hnw : h'.objs.size ∉ wr := fun hm => Nat.lt_irrefl _ (hth _ _ hst' _ (W.sub _ hm))
    refine wpAny_bind (wpAny_updateSeq hS2 rfl ?_)
    refine wpAny_bind (wpAny_letGo ?_)
    show wpAny _ A.in1 (updateSeq S (fun _ => #[.ref h'.objs.size]) >>= _) _ _ _
    have hS3 := Heap.get?_update_self (fun o => o.mapSeq fun _ => #[Value.ref h'.objs.size]) hS2 rfl
    refine wpAny_bind (wpAny_updateSeq hS3 rfl (wpAny_pure ⟨plainId_quiet F.plain_sum_loop _, ?_⟩))
    have hS4 := Heap.get?_update_self (fun o => o.mapSeq fun _ => #[Value.ref h'.objs.size]) hS3 rfl
    have kp : ∀ b o, b ≠ S → h'.get? b = some o → (((h'.push { cls := .type "list", data := .seq (acc ++ ys).toArray 0 }).update S fun o => o.mapSeq fun _ => #[Value.ref h'.objs.size]).update S fun o => o.mapSeq fun _ => #[Value.ref h'.objs.size]).get? b = some o := fun b o hb e =>
      (Heap.get?_update_other _ _ (Ne.symm hb)).trans ((Heap.get?_update_other _ _ (Ne.symm hb)).trans (Heap.get?_push_of_some _ e))
    refine ih (i + 1) _ h'.objs.size (acc ++ ys) _ (by omega) hlt (W.frame _ _ _ hst' fun b hb o e => kp b o (fun z => hSf (by rw [← z]; exact hb)) e) hS4 (fun b o hbw hbS e => kp b o hbS (hk' b o hbw (hkeep b o hbw hbS e))) ?_ hnw hnS (by rw [List.length_append]; omega) fun h'' tk'' t'' hk'' hl => ?_
    · exact ⟨{ cls := .type "list", data := .seq (acc ++ ys).toArray 0 }, 0, (Heap.get?_update_other _ _ (Ne.symm hnS)).trans ((Heap.get?_update_other _ _ (Ne.symm hnS)).trans (Heap.get?_push_size _ rfl)), rfl, rfl, rfl⟩
    · refine hR h'' tk'' t'' (fun b o hbw hbS e => hk'' b o hbw hbS (kp b o hbS (hk' b o hbw e))) (.inr ?_)
      rw [ed, List.flatten_cons, ← List.append_assoc]
      rcases hl with ⟨rfl, e0⟩ | ⟨hlt', hl⟩
      · refine ⟨hlS, 0, ?_⟩
        rw [e0, List.append_nil]
        exact hk'' _ _ hnw hnS ((Heap.get?_update_other _ _ (Ne.symm hnS)).trans ((Heap.get?_update_other _ _ (Ne.symm hnS)).trans (Heap.get?_push_size _ rfl)))
      · exact ⟨hlt', hl⟩
end
section
variable {prog : Program} {w : World} {A : Around} {E : Value → Shared → Prop} {s : Shared}
theorem args_sum2 (a b : Value) : argsOk "sum" ⟨[a, b], []⟩ := by unfold argsOk; kernel_rfl
theorem sub_list_str : isSubtype (.type "list") (.type "str") = pure false := by rw [isSubtype_type]; kernel_rfl
theorem sub_list_bytes : isSubtype (.type "list") (.type "bytes") = pure false := by rw [isSubtype_type]; kernel_rfl
theorem sub_list_bytearray : isSubtype (.type "list") (.type "bytearray") = pure false := by rw [isSubtype_type]; kernel_rfl
theorem call_sum_lists {l z : Addr} {its acc : List Value} {xs : List (List Value)} {Q : Value → Shared → Prop} (hh : A.handled = none) (hl : PlainL s.heap l its.toArray) (hz : PlainL s.heap z acc.toArray)
    (hx : ∀ (i : Nat) (v : Value), its[i]? = some v → ∃ (b : Addr) (ys : List Value), v = Value.ref b ∧ xs[i]? = some ys ∧ PlainL s.heap b ys.toArray) (hn : xs.length = its.length) (hle : acc.length + xs.flatten.length ≤ sizeLine)
    (hQ : ∀ h' tk t', (∀ b o, s.heap.get? b = some o → h'.get? b = some o) → ((t' = z ∧ xs.flatten = []) ∨ (s.heap.objs.size ≤ t' ∧ ∃ c, h'.get? t' = some { cls := .type "list", dict := none, data := .seq (acc ++ xs.flatten).toArray c, slots := #[] })) → Q (.ref t') { s with heap := h', toks := tk }) :
    wpAny (model prog w) A (call (.builtin "sum") [.ref l, .ref z]) Q E s := by
  refine call_function_tree F.kind_sum F.plain_sum F.entry_sum (args_sum2 _ _) ?_
  unfold Builtin.«sum»
  simp only [List.length_cons, List.length_nil]
  rw [if_neg (by decide)]
  refine wpAny_bind (wpAny_of_eq (show Builtin.Builtins.bindParams "sum" ["start"] 0 ⟨[.ref z], []⟩ = pure [some (.ref z)] from rfl) ?_)
  refine wpAny_bind (wpAny_pyIter_list hl.isList ?_)
  refine wpAny_bind (wpAny_pure ?_)
  simp only [List.forIn_cons, List.forIn_nil]
  have hlt : l < s.heap.objs.size := by obtain ⟨_, _, e, _⟩ := hl; exact Heap.lt_size e
  have hty : ({ s with heap := s.heap.push { cls := .type "list_iterator", data := .fields #[.ref l, .int 0 0] } } : Shared).TypeIs (.ref z) "list" := (hz.isList.push _).typeIs
  refine wpAny_bind (wpAny_bind (wpAny_bind (wpAny_isInstance (T := "list") (b := false) hty sub_list_str ?_)))
  simp only [Bool.false_eq_true, if_false]
  refine wpAny_pure (wpAny_bind (wpAny_bind (wpAny_isInstance (T := "list") (b := false) hty sub_list_bytes ?_)))
  simp only [Bool.false_eq_true, if_false]
  refine wpAny_pure (wpAny_bind (wpAny_bind (wpAny_isInstance (T := "list") (b := false) hty sub_list_bytearray ?_)))
  simp only [Bool.false_eq_true, if_false]
  refine wpAny_pure (wpAny_pure ?_)
  refine wpAny_bind (wpAny_newObj_type ?_)
  have hne : l ≠ s.heap.objs.size := Nat.ne_of_lt hlt
  have eI : s.heap.objs.size < (s.heap.push { cls := .type "list_iterator", data := .fields #[.ref l, .int 0 0] }).objs.size := by rw [Heap.size_push]; exact Nat.lt_succ_self _
  refine wpAny_pure ⟨plainId_quiet F.plain_sum_loop _, sum_loop_lists (Walks.list (A := A.in1) hh s.heap.objs.size l hne its.toArray) (s.heap.push { cls := .type "list_iterator", data := .fields #[.ref l, .int 0 0] }).objs.size ?_ s.heap xs (by rw [List.size_toArray]; exact hn) ?_ ?_ _ 0 _ z acc 0 rfl (Nat.zero_le _) ?_ (Heap.get?_push_size _ rfl) ?_ ?_ ?_ ?_ hle ?_⟩
  · intro hm
    rcases List.mem_cons.mp hm with e | e
    · exact absurd e (Nat.ne_of_gt eI)
    · exact absurd (List.mem_singleton.mp e) (Nat.ne_of_gt (Nat.lt_trans hlt eI))
  · intro i h hst b hb
    rcases List.mem_cons.mp hb with e | e
    · obtain ⟨_, e1, _⟩ := hst.1; exact e ▸ Heap.lt_size e1
    · obtain ⟨_, e1, _⟩ := hst.2; exact (List.mem_singleton.mp e) ▸ Heap.lt_size e1
  · intro i v hv
    rw [List.getElem?_toArray] at hv
    obtain ⟨b, ys, e1, e2, e3⟩ := hx i v hv
    have hb : b < s.heap.objs.size := by obtain ⟨_, _, e, _⟩ := e3; exact Heap.lt_size e
    exact ⟨b, ys, e1, e2, fun hm => absurd (List.mem_singleton.mp hm) (Nat.ne_of_lt hb), Nat.ne_of_lt (Nat.lt_trans hb eI), e3⟩
  · exact ⟨⟨_, Heap.get?_push_of_some _ (Heap.get?_push_size _ rfl), rfl, rfl⟩, (hl.isList.push _).push _⟩
  · exact fun b o _ _ e => Heap.get?_push_of_some _ (Heap.get?_push_of_some _ e)
  · exact let ⟨o, n, e, r⟩ := hz; ⟨o, n, Heap.get?_push_of_some _ (Heap.get?_push_of_some _ e), r⟩
  · intro hm
    have : z < s.heap.objs.size := by obtain ⟨_, _, e, _⟩ := hz; exact Heap.lt_size e
    exact absurd (List.mem_singleton.mp hm) (Nat.ne_of_lt this)
  · have : z < s.heap.objs.size := by obtain ⟨_, _, e, _⟩ := hz; exact Heap.lt_size e
    exact Nat.ne_of_lt (Nat.lt_trans this eI)
  · intro h' tk t' hk hl'
    refine hQ h' tk t' (fun b o e => ?_) (hl'.imp id fun p => ⟨Nat.le_of_lt (Nat.lt_trans eI p.1), p.2⟩)
    have hb := Heap.lt_size e
    exact hk b o (fun hm => absurd (List.mem_singleton.mp hm) (Nat.ne_of_lt hb)) (Nat.ne_of_lt (Nat.lt_trans hb eI)) (Heap.get?_push_of_some _ (Heap.get?_push_of_some _ e))
end
/-- lists, by their addresses -/
inductive Lsts (K : PySem.W.Frag) (H : Hp) : List V → List (List V) → Prop
  | nil : Lsts K H [] []
  | cons {b : Addr} {x : List V} {vs : List V} {xs : List (List V)} (h : SqL K H b x) (t : Lsts K H vs xs) : Lsts K H (.ref b :: vs) (x :: xs)
section
variable {X : Cx} {pins : List (Addr × Obj)} {σ : List (Option V)} {H : Hp} {s : Shared}
theorem Lsts.reads (I : Inv X pins σ H s) {vs : List V} {xs : List (List V)} (h : Lsts X.K H vs xs) : ∀ its : List Value, Vals vs its → ∃ yss : List (List Value), yss.length = its.length ∧ Vals xs.flatten yss.flatten ∧
    ∀ (i : Nat) (v : Value), its[i]? = some v → ∃ (b : Addr) (ys : List Value), v = Value.ref b ∧ yss[i]? = some ys ∧ PlainL s.heap b ys.toArray := by
  induction h with
  | nil =>
    intro its hv
    cases hv
    exact ⟨[], rfl, .nil, fun i v h => by simp at h⟩
  | cons h t ih =>
    intro its hv
    cases hv with
    | cons r rs =>
      obtain ⟨yss, e1, e2, e3⟩ := ih _ rs
      obtain ⟨ys, r1, p1, _⟩ := I.list h
      cases r
      refine ⟨ys :: yss, by rw [List.length_cons, List.length_cons, e1], ?_, fun i v hi => ?_⟩
      · rw [List.flatten_cons, List.flatten_cons]
        exact r1.append e2
      · cases i with
        | zero => cases hi; exact ⟨_, ys, rfl, rfl, p1⟩
        | succ i => exact e3 i v hi
theorem cr_suml (hc : X.calm = true) : CallR X (.builtin "sum") (fun vs H Q => ∃ l z ls xs acc, vs = [.ref l, .ref z] ∧ SqL X.K H l ls ∧ SqL X.K H z acc ∧ Lsts X.K H ls xs ∧ xs.flatten ≠ [] ∧ acc.length + xs.flatten.length ≤ sizeLine ∧
    ∀ p, H p = none → Q (.ref p) (upd H p (.lst (acc ++ xs.flatten)))) := by
  intro pins s σ H vs us Q I r h
  obtain ⟨l, z, ls, xs, acc, rfl, hl, hz, hx, hne, hle, q⟩ := h
  obtain ⟨its, r1, p1, _⟩ := I.list hl
  obtain ⟨ys, r2, p2, _⟩ := I.list hz
  obtain ⟨yss, e1, e2, e3⟩ := hx.reads I its r1
  cases r with
  | cons ra rt =>
    cases rt with
    | cons rb rt =>
      cases rt
      cases ra
      cases rb
      have l2 := r2.length
      have l3 := e2.length
      refine call_sum_lists (I.ok.hd hc) p1 p2 e3 e1 (by omega) fun h' tk t' hk ht => ?_
      rcases ht with ⟨_, e0⟩ | ⟨hlt, c, ht⟩
      · rw [e0] at l3
        exact absurd (List.length_eq_zero_iff.mp l3) hne
      · exact ⟨.ref t', _, I.laid (t' := tk) hk hlt (show ObjOk X.prog X.w _ h' t' (.lst (acc ++ xs.flatten)) from ⟨by rw [List.length_append]; exact hle, _, c, r2.append e2, ht⟩), rfl, q _ (I.hok.fresh hlt)⟩
end
end Mini

set_option Elab.async false
set_option linter.all false
set_option maxRecDepth 100000
set_option maxHeartbeats 2000000
/-! Mini, part D: operators. -/
namespace Mini
open PySem PySem.Spec PyProof.Rows L2
/-! ### the operator * of a tuple, of a list, by any small number -/
section
variable {prog : Program} {w : World} {A : Around} {E : Value → Shared → Prop} {s : Shared}
theorem tmulOne (l : Addr) (items : Array Value) (n : Nat) (dd : Option Addr) (sl : Array (Option Value)) (x : Int) (u : Tok) (c0 : (decide (x < -(2 ^ 63)) || decide (x ≥ 2 ^ 63)) = false) (c1 : (items.isEmpty || x == 1) = true) :
    Meets (Builtin.«tuple.__mul__» ⟨[.ref l, .int x u], []⟩) (fun _ R s => s.heap.get? l = some { cls := .type "tuple", dict := dd, data := .seq items n, slots := sl } ∧ R (.ok (.ret (Value.ref l))) s) :=
  .of_wp fun prog w A R s h => by
    obtain ⟨hp, g, d, tk, os⟩ := s
    obtain ⟨hl, h⟩ := h
    have f1 := AutoSeq1.idx_int
    wp_walk using wpAny_loadPart' hl
    repeat (first
      | (refine wpAny_ite_false (decide_eq_false (by rw [c0]; exact Bool.false_ne_true)) ?_; wp_walk using wpAny_loadPart' hl)
      | (refine wpAny_ite_true (decide_eq_true c1) ?_; wp_walk using wpAny_loadPart' hl))
    exact ⟨_, rfl, h⟩
theorem tmulNil (l : Addr) (items : Array Value) (n : Nat) (dd : Option Addr) (sl : Array (Option Value)) (x : Int) (u : Tok) (c0 : (decide (x < -(2 ^ 63)) || decide (x ≥ 2 ^ 63)) = false) (c1 : (items.isEmpty || x == 1) = false) (c2 : (decide (x ≤ 0) || items.isEmpty) = true) :
    Meets (Builtin.«tuple.__mul__» ⟨[.ref l, .int x u], []⟩) (fun _ R s => s.heap.get? l = some { cls := .type "tuple", dict := dd, data := .seq items n, slots := sl } ∧
      R (.ok (.ret (Value.ref s.heap.objs.size))) { s with heap := s.heap.push { cls := Value.type "tuple", data := Data.seq #[] }, toks := s.toks }) :=
  .of_wp fun prog w A R s h => by
    obtain ⟨hp, g, d, tk, os⟩ := s
    obtain ⟨hl, h⟩ := h
    have f1 := AutoSeq1.idx_int
    wp_walk using wpAny_loadPart' hl
    repeat (first
      | (refine wpAny_ite_false (decide_eq_false (by rw [c0]; exact Bool.false_ne_true)) ?_; wp_walk using wpAny_loadPart' hl)
      | (refine wpAny_ite_false (decide_eq_false (by rw [c1]; exact Bool.false_ne_true)) ?_; wp_walk using wpAny_loadPart' hl)
      | (refine wpAny_ite_true (decide_eq_true c2) ?_; wp_walk using wpAny_loadPart' hl))
    exact ⟨_, rfl, h⟩
end
theorem lmulW (l : Addr) (items : Array Value) (n : Nat) (dd : Option Addr) (sl : Array (Option Value)) (x : Int) (u : Tok) (c0 : ¬(!Builtin.List.listFitsIndex x) = true) (c1 : ¬items.size * x.toNat > (2 ^ 63 - 1) / 8) (c2 : ¬Builtin.List.listTooLong (items.size * x.toNat) = true) :
    Meets (Builtin.«list.__mul__» ⟨[.ref l, .int x u], []⟩) (fun _ R s => s.heap.get? l = some { cls := .type "list", dict := dd, data := .seq items n, slots := sl } ∧
      R (.ok (.ret (Value.ref s.heap.objs.size))) { s with heap := s.heap.push { cls := Value.type "list", data := Data.seq (List.foldl (fun x1 x2 => x1 ++ x2) #[] (List.replicate (if items.isEmpty = true then 0 else x.toNat) items)) }, toks := s.toks }) :=
  .of_wp fun prog w A R s h => by
    obtain ⟨hp, g, d, tk, os⟩ := s
    obtain ⟨hl, h⟩ := h
    have hsz := PySem.AutoListH.joined_fits c2
    wp_walk using wpAny_loadPart' hl
    refine wpAny_ite_false (decide_eq_false (Nat.not_lt.mpr hsz)) ?_
    wp_walk using wpAny_loadPart' hl
    exact ⟨_, rfl, h⟩
theorem irmulL (a : Int) (t : Tok) (l : Addr) (items : Array Value) (n : Nat) (dd : Option Addr) (sl : Array (Option Value)) :
    Meets (Builtin.«int.__rmul__» ⟨[.int a t, .ref l], []⟩) (fun _ R s => s.heap.get? l = some { cls := .type "list", dict := dd, data := .seq items n, slots := sl } ∧ R (.ok (.ret Value.notImplemented)) s) :=
  .of_wp fun prog w A R s h => by
    obtain ⟨hp, g, d, tk, os⟩ := s
    obtain ⟨hl, h⟩ := h
    wp_walk using wpAny_loadPart' hl
    exact ⟨_, rfl, h⟩
/-! ### binary operators by plain data -/
/-- what an operator of two values promises, by plain data -/
def rBin (C : Cn) (f : PD → PD → Option PD) : R2 := fun x y H Q => ∃ ms st p q d, StRep C H ms st ∧ Now C.K H ms p x ∧ Now C.K H ms q y ∧ f p q = some d ∧ ∀ H', Ext C.k H ms H' ms → StRep C H' ms st → ∀ v, Rep C.K H' ms d v → Q v H'
section
variable {X : Cx} {C : Cn}
/-- a rule of the layer, weakened -/
theorem opW {f : Value → Value → Sem Value} {r r' : R2} (h : OpR X f r) (k : ∀ x y H Q, r' x y H Q → r x y H Q) : OpR X f r' := fun pins s σ H x y v u Q I rx ry q => h pins s σ H x y v u Q I rx ry (k x y H Q q)
theorem LIM_le {n : Nat} (h : n ≤ LIM) : n ≤ sizeLine := by rw [sizeLine_eq]; exact h
theorem LIM_lt {n : Nat} (h : n < LIM) : n < sizeLine := by rw [sizeLine_eq]; exact h
/-- a new tuple of plain data -/
theorem mkTup {H : Hp} {ms : List Addr} {st : Sto} {ds : List PD} {xs : List V} {Q : VK} (sr : StRep C H ms st) (r : RepL C.K H ms ds xs) (q : ∀ H', Ext C.k H ms H' ms → StRep C H' ms st → ∀ v, Rep C.K H' ms (.tuple ds) v → Q v H') :
    ∀ p, H p = none → Q (.ref p) (upd H p (.tup xs)) := fun p hp =>
  q _ (Ext.new hp) (sr.new hp) _ ⟨p, xs, rfl, .inl ⟨sr.free hp, .inl upd_same⟩, RepL.mono (Ext.new (k := 0) hp) _ _ r⟩
theorem mkLst {H : Hp} {ms : List Addr} {st : Sto} {ds : List PD} {xs : List V} {Q : VK} (sr : StRep C H ms st) (r : RepL C.K H ms ds xs) (q : ∀ H', Ext C.k H ms H' ms → StRep C H' ms st → ∀ v, Rep C.K H' ms (.list ds) v → Q v H') :
    ∀ p, H p = none → Q (.ref p) (upd H p (.lst xs)) := fun p hp =>
  q _ (Ext.new hp) (sr.new hp) _ ⟨p, xs, rfl, .inl ⟨sr.free hp, .inl upd_same⟩, RepL.mono (Ext.new (k := 0) hp) _ _ r⟩
/-- two ints, a condition on them, an int -/
def rI1 (Cd : Int → Int → Prop) (g : Int → Int → Int) : R2 := fun x y H Q => ∃ i j, x = .int i ∧ y = .int j ∧ Cd i j ∧ Q (.int (g i j)) H
/-- list + list, whatever lists -/
theorem op_catL : OpR X (binaryOp .Add) (fun x y H Q => ∃ l b xs zs, x = .ref l ∧ y = .ref b ∧ SqL X.K H l xs ∧ SqL X.K H b zs ∧ xs.length + zs.length ≤ sizeLine ∧ ∀ p, H p = none → Q (.ref p) (upd H p (.lst (xs ++ zs)))) := by
  intro pins s σ H x y v u Q I rx ry h
  obtain ⟨l, b, xs, zs, rfl, rfl, hH, hB, hz, q⟩ := h
  cases rx
  cases ry
  obtain ⟨its, r, p1, _⟩ := I.list hH
  obtain ⟨its2, r2, p2, _⟩ := I.list hB
  obtain ⟨⟨cls, dd, data, sl⟩, n, ho, hc, hdd, hd⟩ := id p1
  obtain ⟨⟨cls2, dd2, data2, sl2⟩, n2, ho2, hc2, hdd2, hd2⟩ := id p2
  simp only at hc hd hc2 hd2 hdd hdd2
  subst hc hd hc2 hd2 hdd hdd2
  refine concat_meets ⟨_, ho, rfl⟩ ⟨_, ho2, rfl⟩ noFill_list_add seq_list_add PySem.F.slot_list_add PySem.F.entry_list_add (PySem.F.args_list_add_2 _ _) (list_addW l b its.toArray its2.toArray n n2 _ _ sl sl2 (by rw [List.size_toArray, List.size_toArray, ← r.length, ← r2.length]; exact hz)) ⟨ho, ho2, ?_⟩
  have ea : its.toArray ++ its2.toArray = (its ++ its2).toArray := by simp
  rw [ea]
  exact ⟨.ref _, _, I.lnew (t' := s.toks) (r.append r2) (by rw [List.length_append]; exact hz), rfl, q _ I.fresh⟩
theorem so_add : OpR X (binaryOp .Add) (fun x y H Q => X.K = C.K ∧ rBin C (bin2 .add) x y H Q) := by
  refine opW (OpR.or op_add (OpR.or op_add_str (OpR.or op_catL op_catA))) fun x y H Q h => ?_
  obtain ⟨hK, ms, st, p, q, d, sr, n1, n2, e, k⟩ := h
  unfold bin2 at e
  split at e <;> (try contradiction)
  · cases e
    rw [n1.int, n2.int]
    exact .inl ⟨_, _, rfl, rfl, k H Ext.refl sr _ rfl⟩
  · split at e
    · cases e
      rw [n1.str, n2.str]
      exact .inr (.inl ⟨_, _, rfl, rfl, LIM_le (by assumption), k H Ext.refl sr _ rfl⟩)
    · cases e
  · split at e
    · cases e
      obtain ⟨a, xs, rfl, h1, r1⟩ := n1.list
      obtain ⟨b, ys, rfl, h2, r2⟩ := n2.list
      refine .inr (.inr (.inl ⟨a, b, xs, ys, rfl, rfl, by rw [hK]; exact h1, by rw [hK]; exact h2, ?_, mkLst sr (r1.append r2) k⟩))
      rw [r1.length, r2.length]; exact LIM_le (by assumption)
    · cases e
  · rename_i _ _ _ ds es _
    split at e
    · rename_i hl
      cases e
      have t1 := n1.tupleR
      have t2 := n2.tupleR
      obtain ⟨a, xs, rfl, h1, r1⟩ := n1.tuple
      obtain ⟨b, ys, rfl, h2, r2⟩ := n2.tuple
      have hl : xs.length + ys.length ≤ sizeLine := by rw [r1.length, r2.length]; exact LIM_le hl
      refine .inr (.inr (.inr ⟨a, b, xs, ys, rfl, rfl, by rw [hK]; exact h1, by rw [hK]; exact h2, hl, fun z => ?_, fun _ z => ?_, fun _ _ => mkTup sr (r1.append r2) k⟩))
      · have := r1.length
        rw [z] at this
        obtain rfl : ds = [] := List.eq_nil_of_length_eq_zero (by simpa using this.symm)
        exact k H Ext.refl sr _ (by rw [List.nil_append]; exact t2)
      · have := r2.length
        rw [z] at this
        obtain rfl : es = [] := List.eq_nil_of_length_eq_zero (by simpa using this.symm)
        exact k H Ext.refl sr _ (by rw [List.append_nil]; exact t1)
    · cases e
theorem so_sub : OpR X (binaryOp .Sub) (rBin C (bin2 .sub)) := by
  refine opW op_sub fun x y H Q h => ?_
  obtain ⟨ms, st, p, q, d, sr, n1, n2, e, k⟩ := h
  unfold bin2 at e
  split at e <;> (try contradiction)
  cases e
  rw [n1.int, n2.int]
  exact ⟨_, _, rfl, rfl, k H Ext.refl sr _ rfl⟩
theorem so_fdiv : OpR X (binaryOp .FloorDiv) (rBin C (bin2 .fdiv)) := by
  refine opW op_fdivW fun x y H Q h => ?_
  obtain ⟨ms, st, p, q, d, sr, n1, n2, e, k⟩ := h
  unfold bin2 at e
  split at e <;> (try contradiction)
  split at e
  · cases e
    rw [n1.int, n2.int]
    exact ⟨_, _, rfl, rfl, by assumption, k H Ext.refl sr _ rfl⟩
  · cases e
theorem so_mod : OpR X (binaryOp .Mod) (rBin C (bin2 .mod)) := by
  refine opW op_modN fun x y H Q h => ?_
  obtain ⟨ms, st, p, q, d, sr, n1, n2, e, k⟩ := h
  unfold bin2 at e
  split at e <;> (try contradiction)
  split at e
  · cases e
  · cases e
    rw [n1.int, n2.int]
    exact ⟨_, _, rfl, rfl, by assumption, k H Ext.refl sr _ rfl⟩
theorem so_pow : OpR X (binaryOp .Pow) (rBin C (bin2 .pow)) := by
  refine opW op_pow fun x y H Q h => ?_
  obtain ⟨ms, st, p, q, d, sr, n1, n2, e, k⟩ := h
  unfold bin2 at e
  split at e <;> (try contradiction)
  split at e
  · cases e
    rw [n1.int, n2.int]
    exact ⟨_, _, rfl, rfl, by assumption, k H Ext.refl sr _ rfl⟩
  · cases e
/-- tuple * int, from 0 to 1000 -/
theorem op_tmul : OpR X (binaryOp .Mult) (fun x y H Q => ∃ l k xs, x = .ref l ∧ y = .int k ∧ SqT X.K H l xs ∧ 0 ≤ k ∧ k ≤ 1000 ∧ xs.length ≤ 1000 ∧ (xs = [] ∨ k = 1 → Q (.ref l) H) ∧ (xs ≠ [] → k ≠ 1 → ∀ p, H p = none → Q (.ref p) (upd H p (.tup (List.replicate k.toNat xs).flatten)))) := by
  intro pins s σ H x y v u Q I rx ry h
  obtain ⟨l, k, xs, rfl, rfl, hT, h1, h2, hz, q1, q2⟩ := h
  by_cases hx : xs = [] ∨ k = 1
  · have q := q1 hx
    cases rx
    obtain ⟨t, rfl⟩ := ry
    obtain ⟨its, r, ⟨⟨cls, dd, data, sl⟩, ho, hc, n, hd⟩, hs⟩ := I.tuple hT
    simp only at hc hd
    subst hc hd
    have c0 : (decide (k < -(2 ^ 63)) || decide (k ≥ 2 ^ 63)) = false := by
      rw [decide_eq_false (by omega), decide_eq_false (by omega)] <;> rfl
    have c1 : (its.toArray.isEmpty || k == 1) = true := by
      rcases hx with z | z
      · subst z
        cases r
        rfl
      · subst z
        rw [Bool.or_eq_true]
        exact .inr rfl
    refine wpAny_binaryOp_repeat_ref (T := "tuple") (U := "int") (by decide) ⟨_, ho, rfl⟩ (fun s' => typeIs_int s' k t) noFill_tuple_mul F.fills_int_mul F.slot_int_rmul repeat_tuple F.slot_int_index.lookup
      (call_meets F.slot_int_rmul (typeIs_int s k t) F.entry_int_rmul (F.args_int_rmul_2 _ _) (int_rmul_tuple k t l its.toArray n dd sl)
        ⟨ho, rfl, ⟨_, ho, rfl⟩, call_meets F.slot_tuple_mul ⟨_, ho, rfl⟩ F.entry_tuple_mul (F.args_tuple_mul_2 _ _) (tmulOne l its.toArray n dd sl k t c0 c1) ⟨ho, ?_⟩⟩)
    exact ⟨.ref l, H, I, rfl, q⟩
  · have hne : xs ≠ [] := fun z => hx (.inl z)
    have hk1 : k ≠ 1 := fun z => hx (.inr z)
    have q := q2 hne hk1
    by_cases h0 : k = 0
    · subst h0
      cases rx
      obtain ⟨t, rfl⟩ := ry
      obtain ⟨its, r, ⟨⟨cls, dd, data, sl⟩, ho, hc, n, hd⟩, hs⟩ := I.tuple hT
      simp only at hc hd
      subst hc hd
      have hn : its.toArray.isEmpty = false := by
        cases r with
        | nil => exact absurd rfl hne
        | cons _ _ => rfl
      have c1 : (its.toArray.isEmpty || (0 : Int) == 1) = false := by rw [hn]; rfl
      have c2 : (decide ((0 : Int) ≤ 0) || its.toArray.isEmpty) = true := rfl
      refine wpAny_binaryOp_repeat_ref (T := "tuple") (U := "int") (by decide) ⟨_, ho, rfl⟩ (fun s' => typeIs_int s' 0 t) noFill_tuple_mul F.fills_int_mul F.slot_int_rmul repeat_tuple F.slot_int_index.lookup
        (call_meets F.slot_int_rmul (typeIs_int s 0 t) F.entry_int_rmul (F.args_int_rmul_2 _ _) (int_rmul_tuple 0 t l its.toArray n dd sl)
          ⟨ho, rfl, ⟨_, ho, rfl⟩, call_meets F.slot_tuple_mul ⟨_, ho, rfl⟩ F.entry_tuple_mul (F.args_tuple_mul_2 _ _) (tmulNil l its.toArray n dd sl 0 t (by decide) c1 c2) ⟨ho, ?_⟩⟩)
      refine ⟨.ref s.heap.objs.size, _, I.laid (t' := s.toks) (o := .tup []) (fun b ob q => Heap.get?_push_of_some _ q) (Nat.le_refl _) ?_, rfl, q _ (I.hok.fresh (Nat.le_refl _))⟩
      exact ⟨Nat.zero_le _, [], .nil, IsTup.new _ _⟩
    · exact op_repT pins s σ H _ _ v u Q I rx ry ⟨l, k, xs, rfl, rfl, hT, hne, by omega, h2, hz, q⟩
/-- list * int, from 0 to 1000 -/
theorem op_lmul : OpR X (binaryOp .Mult) (fun x y H Q => ∃ l k xs, x = .ref l ∧ y = .int k ∧ SqL X.K H l xs ∧ 0 ≤ k ∧ k ≤ 1000 ∧ xs.length ≤ 1000 ∧ ∀ p, H p = none → Q (.ref p) (upd H p (.lst (List.replicate k.toNat xs).flatten))) := by
  intro pins s σ H x y v u Q I rx ry h
  obtain ⟨l, k, xs, rfl, rfl, hT, h1, h2, hz, q⟩ := h
  cases rx
  obtain ⟨t, rfl⟩ := ry
  obtain ⟨its, r, ⟨⟨cls, dd, data, sl⟩, n, ho, hc, hdd, hd⟩, hs⟩ := I.list hT
  simp only at hc hd hdd
  subst hc hd hdd
  have hle : its.length = xs.length := r.length.symm
  have a1 : k.toNat * xs.length ≤ 1000 * 1000 := Nat.mul_le_mul (by omega) hz
  have a2 : its.toArray.size * k.toNat ≤ 1000000 := by rw [List.size_toArray, hle, Nat.mul_comm]; exact a1
  have hcap : ¬ its.toArray.size * k.toNat > (2 ^ 63 - 1) / 8 := by omega
  have hfit : ¬ (!Builtin.List.listFitsIndex k) = true := by
    rw [fitsIndex_both (by omega) (by omega)]
    exact Bool.false_ne_true
  have hlong : ¬ Builtin.List.listTooLong (its.toArray.size * k.toNat) = true := by
    rw [notLongL (by rw [sizeLine_eq]; omega)]
    exact Bool.false_ne_true
  have hnew : List.foldl (fun x1 x2 => x1 ++ x2) #[] (List.replicate (if its.toArray.isEmpty = true then 0 else k.toNat) its.toArray) = (List.replicate k.toNat its).flatten.toArray := by
    rw [size_rep]
    cases its with
    | nil => simp
    | cons a r' => rw [if_neg (by simp)]
  refine wpAny_binaryOp_repeat_ref (T := "list") (U := "int") (by decide) ⟨_, ho, rfl⟩ (fun s' => typeIs_int s' k t) noFill_list_mul F.fills_int_mul F.slot_int_rmul repeat_list F.slot_int_index.lookup
    (call_meets F.slot_int_rmul (typeIs_int s k t) F.entry_int_rmul (F.args_int_rmul_2 _ _) (irmulL k t l its.toArray n _ sl)
      ⟨ho, rfl, ⟨_, ho, rfl⟩, call_meets F.slot_list_mul ⟨_, ho, rfl⟩ F.entry_list_mul (F.args_list_mul_2 _ _) (lmulW l its.toArray n _ sl k t hfit hcap hlong) ⟨ho, ?_⟩⟩)
  rw [hnew]
  exact ⟨.ref _, _, I.lnew (t' := s.toks) (r.rep k.toNat) (by rw [PyProof.Rows.lm_len_rep_flat, sizeLine_eq]; omega), rfl, q _ I.fresh⟩
theorem so_mul : OpR X (binaryOp .Mult) (fun x y H Q => X.K = C.K ∧ rBin C (bin2 .mul) x y H Q) := by
  refine opW (OpR.or op_mulW (OpR.or op_tmul op_lmul)) fun x y H Q h => ?_
  obtain ⟨hK, ms, st, p, q, d, sr, n1, n2, e, k⟩ := h
  unfold bin2 at e
  split at e <;> (try contradiction)
  · split at e
    · cases e
      rw [n1.int, n2.int]
      exact .inl ⟨_, _, rfl, rfl, by assumption, k H Ext.refl sr _ rfl⟩
    · cases e
  · rename_i _ _ _ ds i _
    split at e
    · rename_i hc
      cases e
      have t1 := n1.tupleR
      obtain ⟨a, xs, rfl, h1, r1⟩ := n1.tuple
      rw [n2.int]
      refine .inr (.inl ⟨a, i, xs, rfl, rfl, by rw [hK]; exact h1, hc.1, hc.2.1, by rw [r1.length]; exact hc.2.2, fun z => ?_, fun _ _ => mkTup sr (r1.rep _) k⟩)
      refine k H Ext.refl sr _ ?_
      rcases z with z | z
      · have := r1.length
        rw [z] at this
        obtain rfl : ds = [] := List.eq_nil_of_length_eq_zero (by simpa using this.symm)
        have : (List.replicate i.toNat ([] : List PD)).flatten = [] := by
          rw [List.flatten_eq_nil_iff]
          intro l hl
          exact List.eq_of_mem_replicate hl
        rw [this]
        exact t1
      · subst z
        have : (List.replicate (1 : Int).toNat ds).flatten = ds := by simp
        rw [this]
        exact t1
    · cases e
  · rename_i _ _ _ ds i _
    split at e
    · rename_i hc
      cases e
      obtain ⟨a, xs, rfl, h1, r1⟩ := n1.list
      rw [n2.int]
      exact .inr (.inr ⟨a, i, xs, rfl, rfl, by rw [hK]; exact h1, hc.1, hc.2.1, by rw [r1.length]; exact hc.2.2, mkLst sr (r1.rep _) k⟩)
    · cases e
/-- every binary operator of the small language -/
def opOf : O2 → Operator
  | .add => .Add
  | .sub => .Sub
  | .mul => .Mult
  | .fdiv => .FloorDiv
  | .mod => .Mod
  | .pow => .Pow
theorem so_bin (hK : X.K = C.K) (o : O2) : OpR X (binaryOp (opOf o)) (rBin C (bin2 o)) := by
  cases o with
  | add => exact opW so_add fun _ _ _ _ h => ⟨hK, h⟩
  | sub => exact so_sub
  | mul => exact opW so_mul fun _ _ _ _ h => ⟨hK, h⟩
  | fdiv => exact so_fdiv
  | mod => exact so_mod
  | pow => exact so_pow
/-! ### comparisons -/
def rCm (C : Cn) (f : PD → PD → Option Bool) : R2 := fun x y H Q => ∃ ms st p q b, StRep C H ms st ∧ Now C.K H ms p x ∧ Now C.K H ms q y ∧ f p q = some b ∧ Q (.bl b) H
theorem dec_vint {i j : Int} : decide (V.int i = V.int j) = decide (i = j) := decide_eq_decide.mpr ⟨fun e => V.int.inj e, fun e => by rw [e]⟩
theorem dec_vstr {i j : Str} : decide (V.str i = V.str j) = decide (i = j) := decide_eq_decide.mpr ⟨fun e => V.str.inj e, fun e => by rw [e]⟩
theorem sc_eq (hu : X.A.units + 64 < cLine) : OpR X (compareOp .Eq) (fun x y H Q => X.K = C.K ∧ rCm C eqD x y H Q) := by
  refine opW (OpR.or op_eq (op_eqD hu)) fun x y H Q h => ?_
  obtain ⟨hK, ms, st, p, q, b, sr, n1, n2, e, k⟩ := h
  unfold eqD at e
  split at e
  · cases e
    rw [n1.int, n2.int]
    exact .inl ⟨rfl, by rw [dec_vint]; exact k⟩
  · cases e
    rw [n1.str, n2.str]
    exact .inl ⟨rfl, by rw [dec_vstr]; exact k⟩
  · split at e
    · rename_i hs
      cases e
      rw [Bool.and_eq_true] at hs
      exact .inr ⟨p, q, by rw [hK]; exact n1.dp, by rw [hK]; exact n2.dp, hs.1, hs.2, k⟩
    · cases e
theorem sc_ne (hu : X.A.units + 64 < cLine) : OpR X (compareOp .NotEq) (fun x y H Q => X.K = C.K ∧ rCm C (fun x y => (eqD x y).map (!·)) x y H Q) := by
  refine opW (OpR.or op_ne (op_neD hu)) fun x y H Q h => ?_
  obtain ⟨hK, ms, st, p, q, b, sr, n1, n2, e, k⟩ := h
  simp only [eqD] at e
  split at e
  · cases e
    rw [n1.int, n2.int]
    exact .inl ⟨rfl, by rw [dec_vint]; exact k⟩
  · cases e
    rw [n1.str, n2.str]
    exact .inl ⟨rfl, by rw [dec_vstr]; exact k⟩
  · split at e
    · rename_i hs
      cases e
      rw [Bool.and_eq_true] at hs
      exact .inr ⟨p, q, by rw [hK]; exact n1.dp, by rw [hK]; exact n2.dp, hs.1, hs.2, k⟩
    · cases e
theorem op_inA (hu : X.A.units + 65 < cLine) : OpR X (compareOp .In) (fun x y H Q => ∃ d ds e, (e = .list ds ∨ e = .tuple ds) ∧ Dp X.K H x d ∧ Dp X.K H y e ∧ SeqAt.shaped d = true ∧ SeqAt.shaped e = true ∧ Q (.bl (ds.any fun z => PyData.eqv z d)) H) := by
  intro pins s σ H x y v u Q I rx ry h
  obtain ⟨d, ds, e, hde, hd, he, sd, se, q⟩ := h
  obtain ⟨as, r1⟩ := Dp.reads I d x v hd rx
  obtain ⟨bs, r2⟩ := Dp.reads I e y u he ry
  rcases hde with rfl | rfl
  · exact SeqAt.in_list_reads r2 r1 (SeqAt.canLay_of_shaped se) (SeqAt.canLay_of_shaped sd) (room_in_shaped sd hu) ⟨.bl _, H, I, rfl, q⟩
  · exact SeqAt.in_tuple_reads r2 r1 (SeqAt.canLay_of_shaped se) (SeqAt.canLay_of_shaped sd) (room_in_shaped sd hu) ⟨.bl _, H, I, rfl, q⟩
theorem op_notInA (hu : X.A.units + 65 < cLine) : OpR X (compareOp .NotIn) (fun x y H Q => ∃ d ds e, (e = .list ds ∨ e = .tuple ds) ∧ Dp X.K H x d ∧ Dp X.K H y e ∧ SeqAt.shaped d = true ∧ SeqAt.shaped e = true ∧ Q (.bl (!ds.any fun z => PyData.eqv z d)) H) := by
  intro pins s σ H x y v u Q I rx ry h
  obtain ⟨d, ds, e, hde, hd, he, sd, se, q⟩ := h
  obtain ⟨as, r1⟩ := Dp.reads I d x v hd rx
  obtain ⟨bs, r2⟩ := Dp.reads I e y u he ry
  rcases hde with rfl | rfl
  · exact SeqAt.notIn_list_reads r2 r1 (SeqAt.canLay_of_shaped se) (SeqAt.canLay_of_shaped sd) (room_in_shaped sd hu) ⟨.bl _, H, I, rfl, q⟩
  · exact SeqAt.notIn_tuple_reads r2 r1 (SeqAt.canLay_of_shaped se) (SeqAt.canLay_of_shaped sd) (room_in_shaped sd hu) ⟨.bl _, H, I, rfl, q⟩
theorem memD_of {x y : PD} {b : Bool} (e : memD x y = some b) : ∃ ds, (y = .list ds ∨ y = .tuple ds) ∧ SeqAt.shaped x = true ∧ SeqAt.shaped y = true ∧ b = ds.any fun z => PyData.eqv z x := by
  unfold memD at e
  split at e <;> (try contradiction)
  · split at e
    · rename_i hs
      cases e
      rw [Bool.and_eq_true] at hs
      exact ⟨_, .inl rfl, hs.1, hs.2, rfl⟩
    · cases e
  · split at e
    · rename_i hs
      cases e
      rw [Bool.and_eq_true] at hs
      exact ⟨_, .inr rfl, hs.1, hs.2, rfl⟩
    · cases e
theorem sc_mem (hu : X.A.units + 65 < cLine) : OpR X (compareOp .In) (fun x y H Q => X.K = C.K ∧ rCm C memD x y H Q) := by
  refine opW (op_inA hu) fun x y H Q h => ?_
  obtain ⟨hK, ms, st, p, q, b, sr, n1, n2, e, k⟩ := h
  obtain ⟨ds, h1, h2, h3, rfl⟩ := memD_of e
  exact ⟨p, ds, q, h1, by rw [hK]; exact n1.dp, by rw [hK]; exact n2.dp, h2, h3, k⟩
theorem sc_nmem (hu : X.A.units + 65 < cLine) : OpR X (compareOp .NotIn) (fun x y H Q => X.K = C.K ∧ rCm C (fun x y => (memD x y).map (!·)) x y H Q) := by
  refine opW (op_notInA hu) fun x y H Q h => ?_
  obtain ⟨hK, ms, st, p, q, b, sr, n1, n2, e, k⟩ := h
  obtain ⟨b', e2, rfl⟩ := Option.map_eq_some_iff.mp e
  obtain ⟨ds, h1, h2, h3, rfl⟩ := memD_of e2
  exact ⟨p, ds, q, h1, by rw [hK]; exact n1.dp, by rw [hK]; exact n2.dp, h2, h3, k⟩
theorem isN_of {H : Hp} {ms : List Addr} {d : PD} {v : V} {K : PySem.W.Frag} (n : Now K H ms d v) : (d = .none ∧ v = .non) ∨ (d ≠ .none ∧ v ≠ .non) := by
  cases d with
  | none => exact .inl ⟨rfl, n.none⟩
  | bool b => exact .inr ⟨nofun, by rw [n.bool]; nofun⟩
  | int b => exact .inr ⟨nofun, by rw [n.int]; nofun⟩
  | str b => exact .inr ⟨nofun, by rw [n.str]; nofun⟩
  | list b => obtain ⟨a, xs, rfl, _⟩ := n.list; exact .inr ⟨nofun, nofun⟩
  | tuple b => obtain ⟨a, xs, rfl, _⟩ := n.tuple; exact .inr ⟨nofun, nofun⟩
  | dict b => exact n.dict.elim
theorem sc_is : OpR X (compareOp .Is) (rCm C (cmp2 .is)) := by
  refine opW (OpR.or op_isN op_isBl) fun x y H Q h => ?_
  obtain ⟨ms, st, p, q, b, sr, n1, n2, e, k⟩ := h
  simp only [cmp2] at e
  split at e <;> (try contradiction)
  · cases e
    rw [n1.bool, n2.bool]
    exact .inr ⟨_, _, rfl, rfl, k⟩
  all_goals
    cases e
    rcases isN_of n1 with ⟨z, z1⟩ | ⟨z, z1⟩
    all_goals first
      | (exfalso; cases z; done)
      | exact absurd rfl z
      | (refine .inl ⟨n2.none, ?_⟩
         first
          | (rw [decide_eq_true z1]; exact k)
          | (rw [decide_eq_false z1]; exact k))
theorem sc_isnot : OpR X (compareOp .IsNot) (rCm C (cmp2 .isnot)) := by
  refine opW (OpR.or op_notN op_notBl) fun x y H Q h => ?_
  obtain ⟨ms, st, p, q, b, sr, n1, n2, e, k⟩ := h
  simp only [cmp2] at e
  split at e <;> (try contradiction)
  · cases e
    rw [n1.bool, n2.bool]
    exact .inr ⟨_, _, rfl, rfl, k⟩
  all_goals
    cases e
    rcases isN_of n1 with ⟨z, z1⟩ | ⟨z, z1⟩
    all_goals first
      | (exfalso; cases z; done)
      | exact absurd rfl z
      | (refine .inl ⟨n2.none, ?_⟩
         first
          | (rw [decide_eq_true z1]; exact k)
          | (rw [decide_eq_false z1]; exact k))
theorem sc_int {op : CmpOp} {f : PD → PD → Option Bool} {g : Int → Int → Bool} (ho : OpR X (compareOp op) (rI0 fun i j => .bl (g i j))) (hf : ∀ p q b, f p q = some b → ∃ i j, p = .int i ∧ q = .int j ∧ b = g i j) : OpR X (compareOp op) (rCm C f) := by
  refine opW ho fun x y H Q h => ?_
  obtain ⟨ms, st, p, q, b, sr, n1, n2, e, k⟩ := h
  obtain ⟨i, j, rfl, rfl, rfl⟩ := hf p q b e
  exact ⟨i, j, n1.int, n2.int, k⟩
def cmOf : Cm → CmpOp
  | .eq => .Eq
  | .ne => .NotEq
  | .lt => .Lt
  | .le => .LtE
  | .gt => .Gt
  | .ge => .GtE
  | .is => .Is
  | .isnot => .IsNot
  | .mem => .In
  | .nmem => .NotIn
theorem so_cmp (hK : X.K = C.K) (hu : X.A.units + 65 < cLine) (o : Cm) : OpR X (compareOp (cmOf o)) (rCm C (cmp2 o)) := by
  have hu' : X.A.units + 64 < cLine := by omega
  cases o with
  | eq => exact opW (sc_eq hu') fun _ _ _ _ h => ⟨hK, h⟩
  | ne => exact opW (sc_ne hu') fun _ _ _ _ h => ⟨hK, h⟩
  | lt =>
    refine sc_int op_lt fun p q b e => ?_
    simp only [cmp2] at e
    split at e <;> (try contradiction)
    cases e
    exact ⟨_, _, rfl, rfl, rfl⟩
  | le =>
    refine sc_int op_le fun p q b e => ?_
    simp only [cmp2] at e
    split at e <;> (try contradiction)
    cases e
    exact ⟨_, _, rfl, rfl, rfl⟩
  | gt =>
    refine sc_int op_gt fun p q b e => ?_
    simp only [cmp2] at e
    split at e <;> (try contradiction)
    cases e
    exact ⟨_, _, rfl, rfl, rfl⟩
  | ge =>
    refine sc_int op_ge fun p q b e => ?_
    simp only [cmp2] at e
    split at e <;> (try contradiction)
    cases e
    exact ⟨_, _, rfl, rfl, rfl⟩
  | is => exact sc_is
  | isnot => exact sc_isnot
  | mem => exact opW (sc_mem hu) fun _ _ _ _ h => ⟨hK, h⟩
  | nmem => exact opW (sc_nmem hu) fun _ _ _ _ h => ⟨hK, h⟩
end
/-! ### the expressions of operators -/
section
variable {C : Cn} {F : Fe} {W₀ : WX} {X : Cx} {a b c : Expr} {ca cb cc : E} {pos : Pos}
theorem view_bind {α β : Type} {w : W} {st : Sto} {f : PD → Option α} {d : α} (h : (view st w).bind f = some d) : ∃ x, view st w = some x ∧ f x = some d := Option.bind_eq_some_iff.mp h
theorem se_bin (hK : X.K = C.K) (o : O2) (ha : PE X a (rdE C F W₀ ca)) (hb : PE X b (rdE C F W₀ cb)) : PE X (.BinOp a (opOf o) b pos) (rdE C F W₀ (.bin o ca cb)) :=
  peW (pe_op (so_bin (C := C) hK o) ha hb) fun σ H Q ⟨env, st, ms, en, sr, h⟩ =>
    rd_bind en sr h fun x w st1 H1 ms1 en1 sr1 e1 r1 h1 => rd_bind en1 sr1 h1 fun y w2 st2 H2 ms2 en2 sr2 e2 r2 h2 => by
      obtain ⟨d, e, q⟩ := h2.of
      obtain ⟨p, ep, e⟩ := Option.bind_eq_some_iff.mp e
      obtain ⟨p2, ep2, e⟩ := Option.bind_eq_some_iff.mp e
      obtain ⟨z, ez, rfl⟩ := Option.map_eq_some_iff.mp e
      exact ⟨ms2, st2, p, p2, z, sr2, (r1.mono e2).now sr2 ep, r2.now sr2 ep2, ez, fun H' x' s' v rv => q H' ms2 x' s' v rv⟩
theorem rCm_of {o : Cm} {x y : V} {w w2 : W} {st : Sto} {H : Hp} {ms : List Addr} {σ : L2.St} {Q : VK} (sr : StRep C H ms st) (r1 : WRep C H ms w x) (r2 : WRep C H ms w2 y)
    (h : Post C W₀ σ H ms (Rs.of ((view st w).bind fun x => (view st w2).bind fun y => (cmp2 o x y).map fun b => W.d (.bool b)) st) fun w _ H' ms' => ∀ v, WRep C H' ms' w v → Q v H') : rCm C (cmp2 o) x y H Q := by
  obtain ⟨d, e, q⟩ := h.of
  obtain ⟨p, ep, e⟩ := Option.bind_eq_some_iff.mp e
  obtain ⟨p2, ep2, e⟩ := Option.bind_eq_some_iff.mp e
  obtain ⟨z, ez, rfl⟩ := Option.map_eq_some_iff.mp e
  exact ⟨ms, st, p, p2, z, sr, r1.now sr ep, r2.now sr ep2, ez, q H ms Ext.refl sr _ rfl⟩
theorem chain_of {o o' : Cm} {σ : L2.St} {H : Hp} {Q : VK} {env : En} {st : Sto} {ms : List Addr} (en : EnRep C H ms σ env) (sr : StRep C H ms st)
    (h : Post C W₀ σ H ms (evE F (.chain o o' ca cb cc) env st) fun w _ H' ms' => ∀ v, WRep C H' ms' w v → Q v H') :
    tChain (rCm C (cmp2 o)) (rCm C (cmp2 o')) (rdE C F W₀ ca) (rdE C F W₀ cb) (rdE C F W₀ cc) σ H Q :=
  rd_bind en sr h fun x w st1 H1 ms1 en1 sr1 e1 r1 h1 => rd_bind en1 sr1 h1 fun y w2 st2 H2 ms2 en2 sr2 e2 r2 h2 => by
    obtain ⟨z, e, q⟩ := (Post.bind h2).of
    obtain ⟨p, ep, e⟩ := Option.bind_eq_some_iff.mp e
    obtain ⟨p2, ep2, e⟩ := Option.bind_eq_some_iff.mp e
    have q := q H2 ms2 Ext.refl sr2
    refine ⟨ms2, st2, p, p2, z, sr2, (r1.mono e2).now sr2 ep, r2.now sr2 ep2, e, z, rfl, ?_⟩
    cases z with
    | false => exact Post.ok sr2 q _ rfl
    | true =>
      refine rd_bind en2 sr2 q fun u w3 st3 H3 ms3 en3 sr3 e3 r3 h3 => rCm_of sr3 (r2.mono e3) r3 h3
theorem se_chain (hK : X.K = C.K) (hu : X.A.units + 65 < cLine) (o o' : Cm) (ha : PE X a (rdE C F W₀ ca)) (hb : PE X b (rdE C F W₀ cb)) (hc : PE X c (rdE C F W₀ cc)) (hm : lastMarks [cmOf o, cmOf o'] [b, c] = false) :
    PE X (.Compare a [cmOf o, cmOf o'] [b, c] pos) (rdE C F W₀ (.chain o o' ca cb cc)) :=
  peW (pe_chain (so_cmp (C := C) hK hu o) (so_cmp (C := C) hK hu o') ha hb hc hm) fun σ H Q ⟨env, st, ms, en, sr, h⟩ => chain_of en sr h
theorem st_chain (hK : X.K = C.K) (hu : X.A.units + 65 < cLine) (o o' : Cm) (ha : PE X a (rdE C F W₀ ca)) (hb : PE X b (rdE C F W₀ cb)) (hc : PE X c (rdE C F W₀ cc)) (hm : lastMarks [cmOf o, cmOf o'] [b, c] = false) :
    PT X (.Compare a [cmOf o, cmOf o'] [b, c] pos) (rdB C F W₀ (.chain o o' ca cb cc)) :=
  ptW (pt_chain (so_cmp (C := C) hK hu o) (so_cmp (C := C) hK hu o') ha hb hc hm) fun σ H Q ⟨env, st, ms, en, sr, h⟩ => by
    refine chain_of (Q := fun x H' => ∃ k, x = .bl k ∧ Q k H') en sr ?_
    refine h.bind.imp fun w st' H' ms' x s' q v r => ?_
    obtain ⟨d, e, q⟩ := q.bind.of
    obtain ⟨b', eb, q2⟩ := (q H' ms' Ext.refl s').of
    have n := r.now s' e
    have q3 := q2 H' ms' Ext.refl s'
    clear q2 q
    cases d with
    | bool k =>
      cases eb
      exact ⟨_, n.bool, q3⟩
    | _ => cases eb
theorem se_neg (ha : PE X a (rdE C F W₀ ca)) : PE X (.UnaryOp .USub a pos) (rdE C F W₀ (.neg ca)) :=
  peW (pe_un un_neg ha) fun σ H Q ⟨env, st, ms, en, sr, h⟩ => rd_bind en sr h fun x w st1 H1 ms1 en1 sr1 e1 r1 h1 => by
    obtain ⟨d, e, q⟩ := h1.of
    obtain ⟨p, ep, e⟩ := Option.bind_eq_some_iff.mp e
    obtain ⟨z, ez, rfl⟩ := Option.map_eq_some_iff.mp e
    have n := r1.now sr1 ep
    have q := q H1 ms1 Ext.refl sr1
    cases p with
    | int i =>
      cases ez
      rw [n.int]
      exact ⟨i, rfl, q _ rfl⟩
    | _ => cases ez
end
end Mini

set_option Elab.async false
set_option linter.all false
set_option maxRecDepth 100000
set_option maxHeartbeats 2000000
/-! Mini, part E: arguments, displays, built-ins, subscripts. -/
namespace Mini
open PySem PySem.Spec PyProof.Rows L2
/-! ### t[::-1] of a tuple -/
section
variable {prog : Program} {w : World} {A : Around} {E : Value → Shared → Prop} {s : Shared}
theorem backAdj (n : Nat) : Builtin.Slice.sliceAdjust none none (-1) (n : Int) = ((n : Int) - 1, -1) := rfl
theorem backPlaces (n : Nat) : Builtin.Slice.slicePlaces ((n : Int) - 1) (-1) (-1) = n := by
  unfold Builtin.Slice.slicePlaces
  rw [if_neg (by decide)]
  by_cases h : (n : Int) - 1 > -1
  · rw [if_pos h, show (-(-1) : Int) = 1 by decide, Int.ediv_one]
    omega
  · rw [if_neg h]
    omega
theorem backApplied {sl : Addr} {vl vu vs : Value} {n : Nat} {Q : Int × Int × Nat → Shared → Prop} (hs : s.heap.IsSliceOf sl vl vu vs) (pl : IsPart vl none) (pu : IsPart vu none) (ps : IsPart vs (some (-1)))
    (h : Q ((n : Int) - 1, -1, n) s) : wpAny (model prog w) A (Builtin.Slice.sliceApplied (.ref sl) (pure (n : Int))) Q E s := by
  obtain ⟨os, hos, hcs, hds⟩ := id hs
  unfold Builtin.Slice.sliceApplied Builtin.Slice.sliceFields
  refine wpAny_bind (wpAny_bind (wpAny_field hos hds (x := vl) rfl (wpAny_bind (wpAny_field hos hds (x := vu) rfl (wpAny_bind (wpAny_field hos hds (x := vs) rfl (wpAny_pure ?_)))))))
  refine wpAny_bind (HT.slicePart_ ps ?_)
  show wpAny _ _ (if ((-1 : Int) == 0) = true then _ else _) _ _ s
  rw [if_neg (by decide)]
  refine wpAny_bind (HT.slicePart_ pl (wpAny_bind (HT.slicePart_ pu (wpAny_bind (wpAny_pure ?_)))))
  show wpAny _ _ (pure (((n : Int) - 1), (-1 : Int), Builtin.Slice.slicePlaces ((n : Int) - 1) (-1) (-1))) _ _ s
  rw [backPlaces]
  exact wpAny_pure h
theorem backPick (xs : Array Value) : ((List.range xs.size).filterMap fun (k : Nat) => xs[(((xs.size : Nat) : Int) - 1 + (k : Int) * (-1)).toNat]?) = xs.toList.reverse := by
  have e : (fun (k : Nat) => xs[(((xs.size : Nat) : Int) - 1 + (k : Int) * (-1)).toNat]?) = (xs[·]?) ∘ fun (k : Nat) => (((xs.size : Nat) : Int) - 1 + (k : Int) * (-1)).toNat := rfl
  rw [e, ← List.filterMap_map]
  have e2 : (List.range xs.size).map (fun (k : Nat) => (((xs.size : Nat) : Int) - 1 + (k : Int) * (-1)).toNat) = (List.range xs.size).map fun k => xs.size - 1 - k := by
    apply List.map_congr_left
    intro k hk
    have := List.mem_range.mp hk
    omega
  rw [e2, PySem.W.krv_range, List.filterMap_reverse, PySem.W.krv_all]
theorem getBack {t sl : Addr} {items : Array Value} {vl vu vs : Value} {Q : Value → Shared → Prop} (ht : IsTup s.heap t items) (hs : s.heap.IsSliceOf sl vl vu vs) (pl : IsPart vl none) (pu : IsPart vu none) (ps : IsPart vs (some (-1)))
    (h : Q (.ref s.heap.objs.size) { s with heap := s.heap.push { cls := .type "tuple", data := .seq items.toList.reverse.toArray } }) (hsz : items.size ≤ sizeLine) : wpAny (model prog w) A (getItem (.ref t) (.ref sl)) Q E s := by
  have htake : sizeOk (.seq items.toList.reverse.toArray) := by
    show items.toList.reverse.toArray.size ≤ sizeLine
    rw [List.size_toArray, List.length_reverse, Array.length_toList]
    exact hsz
  obtain ⟨os, hos, hcs, hds⟩ := id hs
  have hTs : s.TypeIs (.ref sl) "slice" := ⟨os, hos, hcs⟩
  unfold getItem
  try with_reducible refine wpAny_holding ?_
  first | refine wpAny_bind (wpAny_pure ?_) | skip
  refine wpAny_bind (wpAny_sequenceKey ht.typeIs (by decide) ?_)
  refine wpAny_bind (wpAny_callSpecial?_slot (name := Str.ofString "__getitem__") ht.typeIs PyProof.Rows.slot_tuple_getitem
    (wpAny_call_entry PyProof.Rows.slot_tuple_getitem ht.typeIs entry_tuple_getitem ?_ (args_tuple_getitem _ _)))
  show wpAny _ _ (Builtin.Tuple.tupleItemsOf (.ref t) >>= _) _ _ s
  refine wpAny_bind (tupleItemsOf_ ht ?_)
  refine wpAny_bind (wpAny_typeOf hTs ?_)
  rw [if_pos (by decide)]
  refine wpAny_bind (backApplied hs pl pu ps ?_)
  have hno : ¬ ((((items.size : Nat) : Int) - 1 == 0 && (-1 : Int) == 1 && items.size == items.size) = true) := by
    rw [show ((-1 : Int) == 1) = false from rfl, Bool.and_false, Bool.false_and]
    exact Bool.false_ne_true
  show wpAny _ _ (if ((((items.size : Nat) : Int) - 1 == 0 && (-1 : Int) == 1 && items.size == items.size) = true) then _ else _) _ _ s
  rw [if_neg hno, backPick]
  first
    | exact wpAny_bind (m := Builtin.Tuple.tupleExact _) (wpAny_newObj_type (wpAny_pure ⟨_, rfl, wpAny_pure h⟩) htake)
    | exact wpAny_bind (m := Builtin.Tuple.tupleExact _) (wpAny_newObj_type (wpAny_bind (wpAny_pure (wpAny_pure ⟨_, rfl, wpAny_pure h⟩))) htake)
    | exact wpAny_bind (wpAny_bind (m := Builtin.Tuple.tupleExact _) (wpAny_newObj_type (wpAny_pure (wpAny_pure ⟨_, rfl, wpAny_pure h⟩)) htake))
    | exact wpAny_bind (wpAny_bind (m := Builtin.Tuple.tupleExact _) (wpAny_newObj_type (wpAny_pure ⟨_, rfl, wpAny_pure h⟩) htake))
end
def tRev (K : PySem.W.Frag) (te : TE) : TE := fun σ H Q => te σ H fun x H1 => ∃ a xs, x = .ref a ∧ ((SqL K H1 a xs ∧ ∀ p, H1 p = none → Q (.ref p) (upd H1 p (.lst xs.reverse))) ∨ (SqT K H1 a xs ∧ ∀ p, H1 p = none → Q (.ref p) (upd H1 p (.tup xs.reverse))))
theorem pe_rev {X : Cx} {e : Expr} {te : TE} {k : Nat} {p1 p2 p3 pos : Pos} (he : PE X e te) : PE X (.Subscript e (.Slice none none (some (.UnaryOp .USub (.Constant (.int 1) k p1) p2)) p3) pos) (tRev X.K te) := by
  refine ⟨fun pins s σ H Q I h => ?_⟩
  refine Subscript_ (thn (he.run pins s σ H _ I h) fun v s1 ⟨x, H1, I1, r1, q1⟩ => ?_)
  obtain ⟨a, xs, ex, hx⟩ := q1
  subst ex
  cases r1
  have hst : PO X (some (.UnaryOp .USub (.Constant (.int 1) k p1) p2)) (tPart (tUn (rU fun i => .int (-i)) (tC (.int 1)))) := po_some (pe_un un_neg pe_int)
  refine wpAny_Slice (thn (po_none.run pins s1 σ H1 (fun o H2 => o = none ∧ H2 = H1) I1 ⟨rfl, rfl⟩) fun vl s2 ⟨l, H2, I2, pl, el, e2⟩ => ?_)
  subst el e2
  refine thn (po_none.run pins s2 σ H2 (fun o H3 => o = none ∧ H3 = H2) I2 ⟨rfl, rfl⟩) fun vu s3 ⟨u, H3, I3, pu, eu, e3⟩ => ?_
  subst eu e3
  refine thn (hst.run pins s3 σ H3 (fun o H4 => o = some (-1) ∧ H4 = H3) I3 ⟨1, rfl, -1, rfl, rfl, rfl⟩) fun vs s4 ⟨o, H4, I4, ps, eo, e4⟩ => ?_
  subst eo e4
  have I5 : L2.Inv X pins σ H4 { s4 with heap := s4.heap.push { cls := .type "slice", data := .fields #[vl, vu, vs] } } := I4.kept (t' := s4.toks) fun b ob q => Heap.get?_push_of_some _ q
  show wpAny (model X.prog X.w) X.A (subscriptTail e (.Slice none none (some (.UnaryOp .USub (.Constant (.int 1) k p1) p2)) p3) (.ref a) (.ref s4.heap.objs.size)) (EP X pins σ Q) X.xe { s4 with heap := s4.heap.push { cls := .type "slice", data := .fields #[vl, vu, vs] } }
  rcases hx with ⟨hx, q⟩ | ⟨hx, q⟩
  · obtain ⟨its, r, ht, hz⟩ := I5.list hx
    have hlen := r.length
    refine tail_any (ops := [.ref a, .ref s4.heap.objs.size]) ht.isList.typeIs (PySem.slot_list_getitem.lookup) ?_ (by with_unfolding_all rfl)
    refine wpAny_getItem_list_slice ht.isList (Heap.IsSliceOf.new _ vl vu vs) pl pu ps (by decide) ?_ (by rw [List.size_toArray]; omega)
    rw [PySem.W.krv_pick]
    refine ⟨.ref _, _, I5.laid (t' := s4.toks) (o := .lst xs.reverse) (fun b ob q => Heap.get?_push_of_some _ q) (Nat.le_refl _) ?_, rfl, q _ (I5.hok.fresh (Nat.le_refl _))⟩
    exact ⟨by rw [List.length_reverse]; exact hz, _, 0, r.reverse, Heap.get?_push_size _ rfl⟩
  · obtain ⟨its, r, ht, hz⟩ := I5.tuple hx
    have hlen := r.length
    refine tail_any (ops := [.ref a, .ref s4.heap.objs.size]) ht.typeIs (PyProof.Rows.slot_tuple_getitem.lookup) ?_ (by with_unfolding_all rfl)
    refine getBack ht (Heap.IsSliceOf.new _ vl vu vs) pl pu ps ?_ (by rw [List.size_toArray]; omega)
    refine ⟨.ref _, _, I5.laid (t' := s4.toks) (o := .tup xs.reverse) (fun b ob q => Heap.get?_push_of_some _ q) (Nat.le_refl _) ?_, rfl, q _ (I5.hok.fresh (Nat.le_refl _))⟩
    exact ⟨by rw [List.length_reverse]; exact hz, its.reverse, r.reverse, IsTup.new _ _⟩
/-! ### arguments -/
def nostar : Expr → Bool
  | .Starred _ _ => false
  | _ => true
theorem star_eq {e : Expr} {es : List Expr} {env : Env} (h : nostar e = true) : starEach (e :: es) env = (false, eval e env) :: starEach es env := by
  cases e <;> first | rfl | cases h
theorem star_any {es : List Expr} {env : Env} {pos : Pos} (h : es.all nostar = true) : (backTo pos (starEach es env)).any (·.1) = false := by
  induction es with
  | nil => rfl
  | cons e es ih =>
    rw [List.all_cons, Bool.and_eq_true] at h
    rw [star_eq h.1]
    exact ih h.2
section
variable {C : Cn} {F : Fe} {W₀ : WX} {X : Cx} {a b c : Expr} {ca cb cc : E} {pos : Pos} {H : Hp} {ms : List Addr} {st : Sto}
theorem sl_nil : PA X [] (rdL C F W₀ .nil) := paW pa_nil fun σ H Q ⟨env, st, ms, en, sr, h⟩ => Post.ok sr h [] .nil
theorem sl_cons {es : List Expr} (ha : PE X a (rdE C F W₀ ca)) (hb : PA X es (rdL C F W₀ cb)) (hn : nostar a = true) : PA X (a :: es) (rdL C F W₀ (.cons ca cb)) :=
  paW (pa_cons ha hb (star_eq hn)) fun σ H Q ⟨env, st, ms, en, sr, h⟩ => rd_bind en sr h fun x w st1 H1 ms1 en1 sr1 e1 r1 h1 => rdL_bind en1 sr1 h1 fun vs ws st2 H2 ms2 en2 sr2 e2 r2 h2 =>
    Post.ok sr2 h2 _ (.cons (r1.mono e2) r2)
theorem pures_rep : ∀ {ws : List W} {vs : List V} {xs : List PD}, WReps C H ms ws vs → pures ws = some xs → RepL C.K H ms xs vs
  | _, _, _, .nil, e => by cases e; rfl
  | .d x :: _, _, _, .cons r t, e => by
    obtain ⟨ys, e1, rfl⟩ := Option.map_eq_some_iff.mp e
    exact ⟨_, _, rfl, r, pures_rep t e1⟩
  | .ref _ :: _, _, _, .cons r t, e => by cases e
  | .fn _ :: _, _, _, .cons r t, e => by cases e
  | .err _ _ :: _, _, _, .cons r t, e => by cases e
abbrev Nows (K : PySem.W.Frag) (H : Hp) (ms : List Addr) (ps : List PD) (vs : List V) : Prop := Paired (Now K H ms) ps vs
theorem datas_now (sr : StRep C H ms st) : ∀ {ws : List W} {vs : List V} {xs : List PD}, WReps C H ms ws vs → datas st ws = some xs → Nows C.K H ms xs vs
  | _, _, _, .nil, e => by cases e; exact .nil
  | w :: _, _, _, .cons r t, e => by
    obtain ⟨p, e1, e2⟩ := Option.bind_eq_some_iff.mp e
    obtain ⟨ys, e3, rfl⟩ := Option.map_eq_some_iff.mp e2
    exact .cons (r.now sr e1) (datas_now sr t e3)
/-! ### displays -/
theorem se_tup {es : List Expr} {k : Nat} (h : PA X es (rdL C F W₀ ca)) : PE X (.Tuple es k pos) (rdE C F W₀ (.tup ca)) :=
  peW (pe_tup h) fun σ H Q ⟨env, st, ms, en, sr, h⟩ => rdL_bind en sr h fun vs ws st1 H1 ms1 en1 sr1 e1 r1 h1 => by
    obtain ⟨d, e, q⟩ := h1.of
    obtain ⟨xs, ex, e⟩ := Option.bind_eq_some_iff.mp e
    split at e
    · cases e
      have r := pures_rep r1 ex
      exact ⟨by rw [r.length]; exact LIM_le (by assumption), mkTup sr1 r fun H' x' s' v rv => q H' ms1 x' s' v rv⟩
    · cases e
theorem se_lst {es : List Expr} (h : PA X es (rdL C F W₀ ca)) : PE X (.List es pos) (rdE C F W₀ (.lst ca)) :=
  peW (pe_lst h) fun σ H Q ⟨env, st, ms, en, sr, h⟩ => rdL_bind en sr h fun vs ws st1 H1 ms1 en1 sr1 e1 r1 h1 => by
    obtain ⟨d, e, q⟩ := h1.of
    obtain ⟨xs, ex, e⟩ := Option.bind_eq_some_iff.mp e
    split at e
    · cases e
      have r := pures_rep r1 ex
      exact ⟨by rw [r.length]; exact LIM_le (by assumption), mkLst sr1 r fun H' x' s' v rv => q H' ms1 x' s' v rv⟩
    · cases e
theorem se_newl {es : List Expr} (h : PA X es (rdL C F W₀ ca)) : PE X (.List es pos) (rdE C F W₀ (.newl ca)) :=
  peW (pe_lst h) fun σ H Q ⟨env, st, ms, en, sr, h⟩ => rdL_bind en sr h fun vs ws st1 H1 ms1 en1 sr1 e1 r1 h1 => by
    split at h1
    · rename_i xs ex
      split at h1
      · have r := pures_rep r1 ex
        refine ⟨by rw [r.length]; exact LIM_le (by assumption), fun p hp => ?_⟩
        refine h1 _ _ (Ext.newS sr1 hp) (sr1.newS hp r) _ ⟨p, ?_, rfl⟩
        rw [← sr1.len, List.getElem?_append_right (Nat.le_refl _), Nat.sub_self]
        rfl
      · exact h1.elim
    · exact h1.elim
/-! ### built-ins -/
/-- what a built-in promises, by plain data -/
def rBi (C : Cn) (f : List PD → Option PD) : List V → Hp → VK → Prop := fun vs H Q => ∃ ms st ps d, StRep C H ms st ∧ Nows C.K H ms ps vs ∧ f ps = some d ∧ ∀ H', Ext C.k H ms H' ms → StRep C H' ms st → ∀ v, Rep C.K H' ms d v → Q v H'
theorem caW {f : Value} {r r' : List V → Hp → VK → Prop} (h : CallR X f r) (k : ∀ vs H Q, r' vs H Q → r vs H Q) : CallR X f r' := fun pins s σ H xs us Q I rv q => h pins s σ H xs us Q I rv (k xs H Q q)
theorem now1 {K : PySem.W.Frag} {p : PD} {vs : List V} (h : Nows K H ms [p] vs) : ∃ v, vs = [v] ∧ Now K H ms p v := by
  cases h with
  | cons r t => cases t; exact ⟨_, rfl, r⟩
theorem now2 {K : PySem.W.Frag} {p q : PD} {vs : List V} (h : Nows K H ms [p, q] vs) : ∃ v u, vs = [v, u] ∧ Now K H ms p v ∧ Now K H ms q u := by
  cases h with
  | cons r t =>
    obtain ⟨u, rfl, z⟩ := now1 t
    exact ⟨_, u, rfl, r, z⟩
theorem ints_rep : ∀ {l : List PD} {vs : List V} {ns : List Int}, RepL C.K H ms l vs → intsD l = some ns → vs = ns.map V.int
  | [], _, _, r, e => by cases e; exact r
  | .int i :: l, _, _, ⟨v, vs, e1, r1, r2⟩, e => by
    obtain ⟨ys, e2, rfl⟩ := Option.map_eq_some_iff.mp e
    rw [e1, ints_rep r2 e2, show v = V.int i from r1]
    rfl
  | .none :: _, _, _, _, e => by cases e
  | .bool _ :: _, _, _, _, e => by cases e
  | .str _ :: _, _, _, _, e => by cases e
  | .list _ :: _, _, _, _, e => by cases e
  | .tuple _ :: _, _, _, _, e => by cases e
  | .dict _ :: _, _, _, _, e => by cases e
theorem bools_rep : ∀ {l : List PD} {vs : List V} {ns : List Bool}, RepL C.K H ms l vs → boolsD l = some ns → vs = ns.map V.bl
  | [], _, _, r, e => by cases e; exact r
  | .bool i :: l, _, _, ⟨v, vs, e1, r1, r2⟩, e => by
    obtain ⟨ys, e2, rfl⟩ := Option.map_eq_some_iff.mp e
    rw [e1, bools_rep r2 e2, show v = V.bl i from r1]
    rfl
  | .none :: _, _, _, _, e => by cases e
  | .int _ :: _, _, _, _, e => by cases e
  | .str _ :: _, _, _, _, e => by cases e
  | .list _ :: _, _, _, _, e => by cases e
  | .tuple _ :: _, _, _, _, e => by cases e
  | .dict _ :: _, _, _, _, e => by cases e
theorem cb_len (hK : X.K = C.K) : CallR X (.builtin "len") (rBi C (bi .len)) := by
  refine caW (CallR.or call_len_seq call_len_str) fun vs H Q h => ?_
  obtain ⟨ms, st, ps, d, sr, n, e, k⟩ := h
  simp only [bi] at e
  split at e <;> (try contradiction)
  · cases e
    obtain ⟨v, rfl, nn⟩ := now1 n
    obtain ⟨a, xs, rfl, h1, r1⟩ := nn.list
    exact .inl ⟨a, xs, rfl, .inl (by rw [hK]; exact h1), k H Ext.refl sr _ (by rw [r1.length]; rfl)⟩
  · cases e
    obtain ⟨v, rfl, nn⟩ := now1 n
    obtain ⟨a, xs, rfl, h1, r1⟩ := nn.tuple
    exact .inl ⟨a, xs, rfl, .inr (by rw [hK]; exact h1), k H Ext.refl sr _ (by rw [r1.length]; rfl)⟩
  · split at e
    · cases e
      obtain ⟨v, rfl, nn⟩ := now1 n
      exact .inr ⟨_, by rw [nn.str], LIM_le (by assumption), k H Ext.refl sr _ rfl⟩
    · cases e
theorem cb_abs : CallR X (.builtin "abs") (rBi C (bi .abs)) := by
  refine caW call_abs fun vs H Q h => ?_
  obtain ⟨ms, st, ps, d, sr, n, e, k⟩ := h
  simp only [bi] at e
  split at e <;> (try contradiction)
  cases e
  obtain ⟨v, rfl, nn⟩ := now1 n
  exact ⟨_, by rw [nn.int], k H Ext.refl sr _ rfl⟩
theorem cb_int : CallR X (.type "int") (rBi C (bi .int)) := by
  refine caW call_int1 fun vs H Q h => ?_
  obtain ⟨ms, st, ps, d, sr, n, e, k⟩ := h
  simp only [bi] at e
  split at e <;> (try contradiction)
  · cases e
    obtain ⟨v, rfl, nn⟩ := now1 n
    exact .inl ⟨_, by rw [nn.int], k H Ext.refl sr _ rfl⟩
  · cases e
    obtain ⟨v, rfl, nn⟩ := now1 n
    exact .inr ⟨_, by rw [nn.bool], k H Ext.refl sr _ rfl⟩
theorem lists_rep : ∀ {l : List PD} {vs : List V} {ls : List (List PD)}, RepL C.K H ms l vs → listsD l = some ls → ∃ xs, Lsts C.K H vs xs ∧ RepL C.K H ms ls.flatten xs.flatten
  | [], _, _, r, e => by cases e; rw [show _ = [] from r]; exact ⟨[], .nil, rfl⟩
  | .list l :: t, _, _, r, e => by
    obtain ⟨v, u, rfl, ⟨a, xs, rfl, h1, h2⟩, rt⟩ := r
    obtain ⟨ls, e1, rfl⟩ := Option.map_eq_some_iff.mp (show (listsD t).map (l :: ·) = _ from e)
    obtain ⟨ys, q1, q2⟩ := lists_rep rt e1
    refine ⟨xs :: ys, .cons (SqL_of h1) q1, ?_⟩
    rw [List.flatten_cons, List.flatten_cons]
    exact h2.append q2
  | .none :: _, _, _, _, e | .bool _ :: _, _, _, _, e | .int _ :: _, _, _, _, e | .str _ :: _, _, _, _, e | .tuple _ :: _, _, _, _, e | .dict _ :: _, _, _, _, e => by simp [listsD] at e
theorem cb_sum (hK : X.K = C.K) (hc : X.calm = true) : CallR X (.builtin "sum") (rBi C (bi .sum)) := by
  refine caW (CallR.or (cr_sum hc) (cr_suml hc)) fun vs H Q h => ?_
  obtain ⟨ms, st, ps, d, sr, n, e, k⟩ := h
  simp only [bi] at e
  split at e <;> (try contradiction)
  · obtain ⟨ns, en, rfl⟩ := Option.map_eq_some_iff.mp e
    obtain ⟨v, rfl, nn⟩ := now1 n
    obtain ⟨a, xs, rfl, h1, r1⟩ := nn.list
    exact .inl ⟨a, ns, rfl, by rw [hK, ← ints_rep r1 en]; exact h1, k H Ext.refl sr _ rfl⟩
  · unfold sumL at e
    obtain ⟨ls, en, e⟩ := Option.bind_eq_some_iff.mp e
    split at e
    · cases e
    · rename_i hne
      split at e
      · rename_i hle
        cases e
        obtain ⟨v, u, rfl, n1, n2⟩ := now2 n
        obtain ⟨a, xs, rfl, h1, r1⟩ := n1.list
        obtain ⟨b, ys, rfl, h2, r2⟩ := n2.list
        obtain ⟨zs, q1, q2⟩ := lists_rep r1 en
        have l1 := q2.length
        have l2 := r2.length
        refine .inr ⟨a, b, xs, zs, ys, rfl, by rw [hK]; exact h1, by rw [hK]; exact h2, by rw [hK]; exact q1, fun z => hne ?_, by rw [l1, l2]; exact LIM_le hle, mkLst sr (r2.append q2) k⟩
        rw [z] at l1
        exact List.length_eq_zero_iff.mp l1.symm
      · cases e
theorem cb_all (hK : X.K = C.K) (hc : X.calm = true) : CallR X (.builtin "all") (rBi C (bi .all)) := by
  refine caW (cr_all hc) fun vs H Q h => ?_
  obtain ⟨ms, st, ps, d, sr, n, e, k⟩ := h
  simp only [bi] at e
  split at e <;> (try contradiction)
  obtain ⟨ns, en, rfl⟩ := Option.map_eq_some_iff.mp e
  obtain ⟨v, rfl, nn⟩ := now1 n
  obtain ⟨a, xs, rfl, h1, r1⟩ := nn.list
  exact ⟨a, ns, rfl, by rw [hK, ← bools_rep r1 en]; exact h1, k H Ext.refl sr _ rfl⟩
theorem cb_any (hK : X.K = C.K) (hc : X.calm = true) : CallR X (.builtin "any") (rBi C (bi .any)) := by
  refine caW (cr_any hc) fun vs H Q h => ?_
  obtain ⟨ms, st, ps, d, sr, n, e, k⟩ := h
  simp only [bi] at e
  split at e <;> (try contradiction)
  obtain ⟨ns, en, rfl⟩ := Option.map_eq_some_iff.mp e
  obtain ⟨v, rfl, nn⟩ := now1 n
  obtain ⟨a, xs, rfl, h1, r1⟩ := nn.list
  exact ⟨a, ns, rfl, by rw [hK, ← bools_rep r1 en]; exact h1, k H Ext.refl sr _ rfl⟩
theorem cb_tuple (hK : X.K = C.K) : CallR X (.type "tuple") (rBi C (bi .tuple)) := by
  refine caW call_tuple_of fun vs H Q h => ?_
  obtain ⟨ms, st, ps, d, sr, n, e, k⟩ := h
  simp only [bi] at e
  split at e <;> (try contradiction)
  · cases e
    obtain ⟨v, rfl, nn⟩ := now1 n
    obtain ⟨a, xs, rfl, h1, r1⟩ := nn.list
    exact ⟨a, xs, rfl, .inl ⟨by rw [hK]; exact h1, mkTup sr r1 k⟩⟩
  · cases e
    obtain ⟨v, rfl, nn⟩ := now1 n
    have t := nn.tupleR
    obtain ⟨a, xs, rfl, h1, r1⟩ := nn.tuple
    exact ⟨a, xs, rfl, .inr ⟨by rw [hK]; exact h1, k H Ext.refl sr _ t⟩⟩
theorem cb_list (hK : X.K = C.K) : CallR X (.type "list") (rBi C (bi .list)) := by
  refine caW call_list_of fun vs H Q h => ?_
  obtain ⟨ms, st, ps, d, sr, n, e, k⟩ := h
  simp only [bi] at e
  split at e <;> (try contradiction)
  · cases e
    obtain ⟨v, rfl, nn⟩ := now1 n
    obtain ⟨a, xs, rfl, h1, r1⟩ := nn.list
    exact ⟨a, xs, rfl, .inl (by rw [hK]; exact h1), mkLst sr r1 k⟩
  · cases e
    obtain ⟨v, rfl, nn⟩ := now1 n
    obtain ⟨a, xs, rfl, h1, r1⟩ := nn.tuple
    exact ⟨a, xs, rfl, .inr (by rw [hK]; exact h1), mkLst sr r1 k⟩
theorem maxI_ok : ∀ (l : List Int) (n : Int), maxI n l ∈ n :: l ∧ ∀ y ∈ n :: l, y ≤ maxI n l
  | [], n => ⟨List.mem_singleton.mpr rfl, fun y hy => by rw [List.mem_singleton.mp hy]; exact Int.le_refl _⟩
  | x :: l, n => by
    obtain ⟨h1, h2⟩ := maxI_ok l (if x > n then x else n)
    rw [maxI]
    refine ⟨?_, fun y hy => ?_⟩
    · rcases List.mem_cons.mp h1 with e | e
      · rw [e]
        split
        · exact List.mem_cons_of_mem _ List.mem_cons_self
        · exact List.mem_cons_self
      · exact List.mem_cons_of_mem _ (List.mem_cons_of_mem _ e)
    · have key : ∀ m : Int, (if x > n then x else n) ≤ m → x ≤ m ∧ n ≤ m := fun m h => by split at h <;> omega
      have h3 := key _ (h2 _ List.mem_cons_self)
      rcases List.mem_cons.mp hy with e | hy
      · rw [e]; exact h3.2
      · rcases List.mem_cons.mp hy with e | hy
        · rw [e]; exact h3.1
        · exact h2 y (List.mem_cons_of_mem _ hy)
theorem minI_ok : ∀ (l : List Int) (n : Int), minI n l ∈ n :: l ∧ ∀ y ∈ n :: l, minI n l ≤ y
  | [], n => ⟨List.mem_singleton.mpr rfl, fun y hy => by rw [List.mem_singleton.mp hy]; exact Int.le_refl _⟩
  | x :: l, n => by
    obtain ⟨h1, h2⟩ := minI_ok l (if x < n then x else n)
    rw [minI]
    refine ⟨?_, fun y hy => ?_⟩
    · rcases List.mem_cons.mp h1 with e | e
      · rw [e]
        split
        · exact List.mem_cons_of_mem _ List.mem_cons_self
        · exact List.mem_cons_self
      · exact List.mem_cons_of_mem _ (List.mem_cons_of_mem _ e)
    · have key : ∀ m : Int, m ≤ (if x < n then x else n) → m ≤ x ∧ m ≤ n := fun m h => by split at h <;> omega
      have h3 := key _ (h2 _ List.mem_cons_self)
      rcases List.mem_cons.mp hy with e | hy
      · rw [e]; exact h3.2
      · rcases List.mem_cons.mp hy with e | hy
        · rw [e]; exact h3.1
        · exact h2 y (List.mem_cons_of_mem _ hy)
theorem cb_max (hK : X.K = C.K) (hc : X.calm = true) : CallR X (.builtin "max") (rBi C (bi .max)) := by
  refine caW (CallR.or (call_max2 hc) (cr_max hc)) fun vs H Q h => ?_
  obtain ⟨ms, st, ps, d, sr, n, e, k⟩ := h
  simp only [bi] at e
  split at e <;> (try contradiction)
  · cases e
    obtain ⟨v, u, rfl, n1, n2⟩ := now2 n
    exact .inl ⟨_, _, by rw [n1.int, n2.int], k H Ext.refl sr _ rfl⟩
  · obtain ⟨ns, en, e⟩ := Option.bind_eq_some_iff.mp e
    cases ns with
    | nil => cases e
    | cons i r =>
      cases e
      obtain ⟨v, rfl, nn⟩ := now1 n
      obtain ⟨a, xs, rfl, h1, r1⟩ := nn.list
      refine .inr ⟨a, i :: r, rfl, by rw [hK, ← ints_rep r1 en]; exact h1, Nat.succ_pos _, fun m h1 h2 => k H Ext.refl sr _ ?_⟩
      have h3 := maxI_ok r i
      have h4 := h2 _ h3.1
      have h5 := h3.2 _ h1
      rw [show m = maxI i r by omega]
      rfl
theorem cb_min (hK : X.K = C.K) (hc : X.calm = true) : CallR X (.builtin "min") (rBi C (bi .min)) := by
  refine caW (CallR.or (call_min2 hc) (cr_min hc)) fun vs H Q h => ?_
  obtain ⟨ms, st, ps, d, sr, n, e, k⟩ := h
  simp only [bi] at e
  split at e <;> (try contradiction)
  · obtain ⟨ns, en, e⟩ := Option.bind_eq_some_iff.mp e
    cases ns with
    | nil => cases e
    | cons i r =>
      cases e
      obtain ⟨v, rfl, nn⟩ := now1 n
      obtain ⟨a, xs, rfl, h1, r1⟩ := nn.list
      refine .inr ⟨a, i :: r, rfl, by rw [hK, ← ints_rep r1 en]; exact h1, Nat.succ_pos _, fun m h1 h2 => k H Ext.refl sr _ ?_⟩
      have h3 := minI_ok r i
      have h4 := h2 _ h3.1
      have h5 := h3.2 _ h1
      rw [show m = minI i r by omega]
      rfl
  · cases e
    obtain ⟨v, u, rfl, n1, n2⟩ := now2 n
    exact .inl ⟨_, _, by rw [n1.int, n2.int], k H Ext.refl sr _ rfl⟩
/-- repr of plain data -/
theorem call_repr (hg : X.A.guards = some []) (hu : X.A.units + 65 < cLine) : CallR X (.builtin "repr") (fun vs H Q => ∃ d v, vs = [v] ∧ Dp X.K H v d ∧ d.showable = true ∧ SeqAt.shaped d = true ∧ d.shown.length ≤ sizeLine ∧ Q (.str d.shown) H) := by
  intro pins s σ H xs us Q I r h
  obtain ⟨d, v, rfl, hd, hs, sh, hz, q⟩ := h
  obtain ⟨u, rfl, ru⟩ := vals1 r
  have hdep := SeqAt.depth_of_shaped sh
  obtain ⟨as, rd⟩ := Dp.reads I d v u hd ru
  have big : ∀ a : Addr, u = .ref a → wpAny (model X.prog X.w) X.A (call (.builtin "repr") [u]) (EP X pins σ Q) X.xe s := fun a e => by
    subst e
    exact repr_of_reads' rd hs (PyData.noDict_hsm (PyData.hasDict_of_canLay d (SeqAt.canLay_of_shaped sh))) hg (by omega) (fun _ _ e => e) (fun h' t tk hk => ⟨.str d.shown, H, I.kept (t' := tk) hk, ⟨t, rfl⟩, q⟩) hz
  cases hd with
  | non => cases ru; exact PySem.P.repr_of_none ⟨.str _, H, I.tok _, ⟨_, rfl⟩, q⟩
  | bl b => cases ru; exact PySem.P.repr_of_bool ⟨.str _, H, I.tok _, ⟨_, rfl⟩, by cases b <;> exact q⟩
  | int i =>
    obtain ⟨t, rfl⟩ := ru
    exact PySem.P.repr_of_int (by simpa [PyData.showable] using hs) ⟨.str _, H, I.tok _, ⟨_, rfl⟩, q⟩
  | str x =>
    obtain ⟨t, rfl⟩ := ru
    exact PySem.P.repr_of_str ⟨.str _, H, I.tok _, ⟨_, rfl⟩, q⟩ hz
  | lst _ _ => exact big _ ru
  | tup _ _ => exact big _ ru
theorem cb_repr (hK : X.K = C.K) (hg : X.A.guards = some []) (hu : X.A.units + 65 < cLine) : CallR X (.builtin "repr") (rBi C (bi .repr)) := by
  refine caW (call_repr hg hu) fun vs H Q h => ?_
  obtain ⟨ms, st, ps, d, sr, n, e, k⟩ := h
  simp only [bi] at e
  split at e <;> (try contradiction)
  split at e
  · rename_i hh
    cases e
    obtain ⟨v, rfl, nn⟩ := now1 n
    rw [Bool.and_eq_true, Bool.and_eq_true, decide_eq_true_eq] at hh
    exact ⟨_, v, rfl, by rw [hK]; exact nn.dp, hh.1.1, hh.1.2, LIM_le hh.2, k H Ext.refl sr _ rfl⟩
  · cases e
def biVal : Bi → Value
  | .len => .builtin "len"
  | .abs => .builtin "abs"
  | .int => .type "int"
  | .sum => .builtin "sum"
  | .all => .builtin "all"
  | .any => .builtin "any"
  | .tuple => .type "tuple"
  | .list => .type "list"
  | .max => .builtin "max"
  | .min => .builtin "min"
  | .repr => .builtin "repr"
theorem cb_bi (hK : X.K = C.K) (hc : X.calm = true) (hg : X.A.guards = some []) (hu : X.A.units + 65 < cLine) (b : Bi) : CallR X (biVal b) (rBi C (bi b)) := by
  cases b with
  | len => exact cb_len hK
  | abs => exact cb_abs
  | int => exact cb_int
  | sum => exact cb_sum hK hc
  | all => exact cb_all hK hc
  | any => exact cb_any hK hc
  | tuple => exact cb_tuple hK
  | list => exact cb_list hK
  | max => exact cb_max hK hc
  | min => exact cb_min hK hc
  | repr => exact cb_repr hK hg hu
end
end Mini

set_option Elab.async false
set_option linter.all false
set_option maxRecDepth 100000
set_option maxHeartbeats 2000000
/-! Mini, part F: calls of built-ins, subscripts, what is walked, comprehensions. -/
namespace Mini
open PySem PySem.Spec PyProof.Rows L2
section
variable {C : Cn} {F : Fe} {W₀ : WX} {X : Cx} {a b c : Expr} {ca cb cc : E} {pos : Pos}
def biName : Bi → Str
  | .len => "len"
  | .abs => "abs"
  | .int => "int"
  | .sum => "sum"
  | .all => "all"
  | .any => "any"
  | .tuple => "tuple"
  | .list => "list"
  | .max => "max"
  | .min => "min"
  | .repr => "repr"
theorem biVal_kind (b : Bi) : (∃ id, biVal b = .builtin id) ∨ ∃ T, biVal b = .type T := by cases b <;> first | exact .inl ⟨_, rfl⟩ | exact .inr ⟨_, rfl⟩
theorem boot_bi (b : Bi) : bootBuiltins (biName b) = some (biVal b) := by cases b <;> decide +kernel
theorem biName_n (b : Bi) : biName b ≠ "__name__" := by cases b <;> decide +kernel
theorem biName_d (b : Bi) : (biName b == ("__debug__" : Str)) = false := by cases b <;> decide +kernel
theorem se_bi {p : Pos} {es : List Expr} (hK : X.K = C.K) (hc : X.calm = true) (hgd : X.A.guards = some []) (hu : X.A.units + 65 < cLine) (f : Bi) (hg : Gl X (biName f)) (hm : X.mg (biName f) = none)
    (ha : PA X (a :: es) (rdL C F W₀ ca)) (hn : (a :: es).all nostar = true) : PE X (.Call (.Name (biName f) p) (a :: es) [] pos) (rdE C F W₀ (.bi f ca)) := by
  have hh := hn
  rw [List.all_cons, Bool.and_eq_true] at hh
  have go : ∀ r : List V → Hp → VK → Prop, r = rBi C (bi f) → ∀ σ H Q, rdE C F W₀ (.bi f ca) σ H Q → tCB r (rdL C F W₀ ca) σ H Q := fun r er σ H Q ⟨env, st, ms, en, sr, h⟩ =>
    rdL_bind en sr h fun vs ws st1 H1 ms1 en1 sr1 e1 r1 h1 => by
      obtain ⟨d, e, q⟩ := h1.of
      obtain ⟨xs, ex, e⟩ := Option.bind_eq_some_iff.mp e
      obtain ⟨z, ez, rfl⟩ := Option.map_eq_some_iff.mp e
      rw [er]
      exact ⟨ms1, st1, xs, z, sr1, datas_now sr1 r1 ex, ez, fun H' x' s' v rv => q H' ms1 x' s' v rv⟩
  have cb := cb_bi (X := X) (C := C) hK hc hgd hu f
  have bt := boot_bi f
  rcases biVal_kind f with ⟨id, e⟩ | ⟨T, e⟩
  · rw [e] at cb bt
    exact peW (pe_callB cb hg hm bt ha (biName_n f) (biName_d f) (star_eq hh.1) (star_any hh.2)) (go _ rfl)
  · rw [e] at cb bt
    exact peW (pe_callTy cb hg hm bt ha (biName_n f) (biName_d f) (star_eq hh.1) (star_any hh.2)) (go _ rfl)
/-! ### subscripts -/
def noslice : Expr → Bool
  | .Slice _ _ _ _ => false
  | _ => true
theorem plain_ix {b : Expr} (h : noslice b = true) : PlainIx b := fun o i => by
  cases b <;> first | rfl | cases h
theorem atI_rep {K : PySem.W.Frag} {H : Hp} {ms : List Addr} {l : List PD} {xs : List V} {i : Int} {d : PD} (r : RepL K H ms l xs) (e : atI l i = some d) : ∃ v, atI xs i = some v ∧ Rep K H ms d v := by
  unfold atI at e ⊢
  obtain ⟨j, e1, e2⟩ := Option.bind_eq_some_iff.mp e
  obtain ⟨v, e3, rv⟩ := r.get e2
  exact ⟨v, by rw [r.length, e1]; exact e3, rv⟩
/-- a slice's end -/
def rdO (C : Cn) (F : Fe) (W₀ : WX) (c : E) : TO := fun σ H Q => ∃ env st ms, EnRep C H ms σ env ∧ StRep C H ms st ∧ Post C W₀ σ H ms (endOf c (evE F c env) st) fun o _ H' _ => Q o H'
theorem so_none : PO X none (rdO C F W₀ .nil) := ⟨fun pins s σ H Q I ⟨env, st, ms, en, sr, h⟩ => po_none.run pins s σ H Q I (Post.ok sr h)⟩
theorem endOf_some {c : E} {r : Sto → Rs W} {s : Sto} (h : c ≠ .nil) : endOf c r s = (r s).bind fun x s => (viewR x s).bind fun x s => .of ((asI x).map some) s := by
  cases c <;> first | rfl | exact absurd rfl h
theorem so_some (ha : PE X a (rdE C F W₀ ca)) (hn : ca ≠ .nil) : PO X (some a) (rdO C F W₀ ca) := ⟨fun pins s σ H Q I ⟨env, st, ms, en, sr, h⟩ => (po_some ha).run pins s σ H Q I (by
  rw [endOf_some hn] at h
  refine rd_bind en sr h fun x w st1 H1 ms1 en1 sr1 e1 r1 h1 => ?_
  obtain ⟨p, ep, h2⟩ := h1.bind.of
  obtain ⟨o, eo, h3⟩ := (h2 H1 ms1 Ext.refl sr1).of
  obtain ⟨i, ei, rfl⟩ := Option.map_eq_some_iff.mp eo
  have n := r1.now sr1 ep
  have q := h3 H1 ms1 Ext.refl sr1
  clear h2 h3
  cases p with
  | int j => cases ei; exact ⟨_, n.int, q⟩
  | _ => cases ei)⟩
def rSl (C : Cn) : V → Option Int → Option Int → Hp → VK → Prop := fun x lo hi H Q => ∃ ms st p d, StRep C H ms st ∧ Now C.K H ms p x ∧ slD p lo hi = some d ∧ ∀ H', Ext C.k H ms H' ms → StRep C H' ms st → ∀ v, Rep C.K H' ms d v → Q v H'
theorem cut_rep {K : PySem.W.Frag} {H : Hp} {ms : List Addr} {l : List PD} {xs : List V} (r : RepL K H ms l xs) (lo hi : Option Int) : RepL K H ms (cutL l lo hi) (cutV xs lo hi) := by
  unfold cutL cutV
  rw [r.length]
  exact (r.drop _).take _
theorem sl_all (hK : X.K = C.K) : SlR X (rSl C) := by
  have base := SlR.or (sl_list (X := X)) (sl_tupA (X := X))
  intro pins s σ H x v vl vu lo hi sl Q I rx hs pl pu h
  refine base pins s σ H x v vl vu lo hi sl Q I rx hs pl pu ?_
  obtain ⟨ms, st, p, d, sr, n, e, k⟩ := h
  unfold slD at e
  split at e <;> (try contradiction)
  · cases e
    obtain ⟨aa, xs, rfl, hq, rr⟩ := n.list
    exact .inl ⟨aa, xs, rfl, by rw [hK]; exact hq, mkLst sr (cut_rep rr lo hi) k⟩
  · rename_i l
    cases e
    have t := n.tupleR
    obtain ⟨aa, xs, rfl, hq, rr⟩ := n.tuple
    refine .inr ⟨aa, xs, rfl, by rw [hK]; exact hq, fun hw => ?_, fun _ => mkTup sr (cut_rep rr lo hi) k⟩
    refine k H Ext.refl sr _ ?_
    have : cutL l lo hi = l := by
      unfold cutL
      rw [← rr.length, hw.1, hw.2, List.drop_zero, Nat.sub_zero, rr.length, List.take_length]
    rw [this]
    exact t
theorem se_sl {clo chi : E} {lo hi : Option Expr} {p2 : Pos} (hK : X.K = C.K) (ha : PE X a (rdE C F W₀ ca)) (hl : PO X lo (rdO C F W₀ clo)) (hh : PO X hi (rdO C F W₀ chi)) : PE X (.Subscript a (.Slice lo hi none p2) pos) (rdE C F W₀ (.sl ca clo chi)) :=
  peW (pe_slice (sl_all (C := C) hK) ha hl hh) fun σ H Q ⟨env, st, ms, en, sr, h⟩ =>
    rd_bind en sr h fun x w st1 H1 ms1 en1 sr1 e1 r1 h1 => ⟨env, st1, ms1, en1, sr1, h1.bind.imp fun o st2 H2 ms2 x2 sr2 h2 => ⟨env, st2, ms2, en1.mono x2, sr2, h2.bind.imp fun o2 st3 H3 ms3 x3 sr3 h3 => by
      obtain ⟨d, e, q⟩ := h3.of
      obtain ⟨p, ep, e⟩ := Option.bind_eq_some_iff.mp e
      obtain ⟨z, ez, rfl⟩ := Option.map_eq_some_iff.mp e
      exact ⟨ms3, st3, p, z, sr3, ((r1.mono x2).mono x3).now sr3 ep, ez, fun H' x' s' v rv => q H' ms3 x' s' v rv⟩⟩⟩
theorem se_rev {k : Nat} {p1 p2 p3 : Pos} (hK : X.K = C.K) (ha : PE X a (rdE C F W₀ ca)) : PE X (.Subscript a (.Slice none none (some (.UnaryOp .USub (.Constant (.int 1) k p1) p2)) p3) pos) (rdE C F W₀ (.rev ca)) :=
  peW (pe_rev ha) fun σ H Q ⟨env, st, ms, en, sr, h⟩ =>
    rd_bind en sr h fun x w st1 H1 ms1 en1 sr1 e1 r1 h1 => by
      obtain ⟨d, e, q⟩ := h1.of
      obtain ⟨p, ep, e⟩ := Option.bind_eq_some_iff.mp e
      obtain ⟨z, ez, rfl⟩ := Option.map_eq_some_iff.mp e
      have n := r1.now sr1 ep
      unfold revD at ez
      split at ez <;> (try contradiction)
      · cases ez
        obtain ⟨aa, xs, rfl, hq, rr⟩ := n.list
        exact ⟨aa, xs, rfl, .inl ⟨by rw [hK]; exact hq, mkLst sr1 rr.reverse fun H' x' s' v rv => q H' ms1 x' s' v rv⟩⟩
      · cases ez
        obtain ⟨aa, xs, rfl, hq, rr⟩ := n.tuple
        exact ⟨aa, xs, rfl, .inr ⟨by rw [hK]; exact hq, mkTup sr1 rr.reverse fun H' x' s' v rv => q H' ms1 x' s' v rv⟩⟩
/-! ### isinstance -/
def tyName : Ty → String
  | .int => "int"
  | .bool => "bool"
  | .str => "str"
  | .tuple => "tuple"
  | .list => "list"
theorem ty_list {K : PySem.W.Frag} {H : Hp} {a : Addr} {xs : List V} (h : SqL K H a xs) : TyX K H (.ref a) (.type "list") := by
  rcases h with (h | ⟨o, h⟩) | ⟨o, its, n, h1, h2, _⟩
  · exact .base (.lst h)
  · exact .base (.frz h)
  · exact .kList h1 h2
theorem ty_tup {K : PySem.W.Frag} {H : Hp} {a : Addr} {xs : List V} (h : SqT K H a xs) : TyX K H (.ref a) (.type "tuple") := by
  rcases h with (h | ⟨o, h⟩) | ⟨o, its, n, h1, h2, _⟩
  · exact .base (.tup h)
  · exact .fTuple h
  · exact .kTuple h1 h2
theorem now_ty {K : PySem.W.Frag} {H : Hp} {ms : List Addr} {d : PD} {v : V} {t : Ty} {b : Bool} (n : Now K H ms d v) (e : isD t d = some b) : ∃ T, TyX K H v (.type T) ∧ PySem.W.kitOne K (.type T) (.type (tyName t)) = some b := by
  cases d with
  | none => rw [n.none]; exact ⟨"NoneType", .base .non, kit_ty (by cases t <;> cases e <;> decide +kernel)⟩
  | bool x => rw [n.bool]; exact ⟨"bool", .base (.bl x), kit_ty (by cases t <;> cases e <;> decide +kernel)⟩
  | int x => rw [n.int]; exact ⟨"int", .base (.int x), kit_ty (by cases t <;> cases e <;> decide +kernel)⟩
  | str x => rw [n.str]; exact ⟨"str", .base (.str x), kit_ty (by cases t <;> cases e <;> decide +kernel)⟩
  | list x => obtain ⟨a, xs, rfl, h, _⟩ := n.list; exact ⟨"list", ty_list h, kit_ty (by cases t <;> cases e <;> decide +kernel)⟩
  | tuple x => obtain ⟨a, xs, rfl, h, _⟩ := n.tuple; exact ⟨"tuple", ty_tup h, kit_ty (by cases t <;> cases e <;> decide +kernel)⟩
  | dict x => exact n.dict.elim
theorem boot_ty (t : Ty) : bootBuiltins (tyName t) = some (.type (tyName t)) := by cases t <;> decide +kernel
theorem ty_n (t : Ty) : (tyName t : Str) ≠ "__name__" := by cases t <;> decide +kernel
theorem ty_d (t : Ty) : ((tyName t : Str) == ("__debug__" : Str)) = false := by cases t <;> decide +kernel
theorem se_isi {p p2 : Pos} (hK : X.K = C.K) (t : Ty) (hg : Gl X "isinstance") (hm : X.mg "isinstance" = none) (hg2 : Gl X (tyName t)) (hm2 : X.mg (tyName t) = none) (ha : PE X a (rdE C F W₀ ca)) (hn : nostar a = true) :
    PE X (.Call (.Name "isinstance" p) [a, .Name (tyName t) p2] [] pos) (rdE C F W₀ (.isi ca t)) := by
  have hty : PE X (.Name (tyName t) p2) (tC (.ty (tyName t))) := pe_bltn hg2 hm2 (boot_ty t) rfl (ty_n t) (ty_d t)
  have hargs := pa_cons ha (pa_cons hty pa_nil (star_eq rfl)) (star_eq hn)
  refine peW (pe_callB call_isi hg hm (by decide +kernel) hargs (by decide) (by decide) (star_eq hn) (star_any rfl)) fun σ H Q ⟨env, st, ms, en, sr, h⟩ => ?_
  refine rd_bind en sr h fun x w st1 H1 ms1 en1 sr1 e1 r1 h1 => ?_
  obtain ⟨d, e, q⟩ := h1.of
  obtain ⟨p, ep, e⟩ := Option.bind_eq_some_iff.mp e
  obtain ⟨z, ez, rfl⟩ := Option.map_eq_some_iff.mp e
  obtain ⟨b, eb, rfl⟩ := Option.map_eq_some_iff.mp ez
  obtain ⟨T, tx, k⟩ := now_ty (r1.now sr1 ep) eb
  exact ⟨x, _, _, _, b, rfl, .ty _, by rw [hK]; exact tx, by rw [hK]; exact k, q H1 ms1 Ext.refl sr1 _ rfl⟩
end
end Mini

set_option Elab.async false
set_option linter.all false
set_option maxRecDepth 100000
set_option maxHeartbeats 2000000
/-! Mini, part F2: zip of lists, tuples, texts in any mix. -/
namespace Mini
open PySem PySem.Spec PyProof.Rows L2
/-- a side of a zip: a list, a tuple, a text -/
inductive Sd where
  | l (a : Addr) | t (a : Addr) | s (x : Str)
def Sd.has (K : PySem.W.Frag) (H : Hp) : Sd → List V → Prop
  | .l a, vs => SqL K H a vs
  | .t a, vs => SqT K H a vs
  | .s x, vs => vs = x.cps.toList.map fun c => V.str ⟨#[c]⟩
def Sd.val : Sd → V → Prop
  | .l a, v => v = .ref a
  | .t a, v => v = .ref a
  | .s x, v => v = .str x
def Sd.tail : Sd → List Addr
  | .l a => [a]
  | .t a => [a]
  | .s _ => []
def Sd.at (sd : Sd) (it : Addr) (i : Nat) (h : Heap) : Prop :=
  match sd with
  | .l a => h.IsListIter it a i
  | .t a => h.IsTupleIter it a i
  | .s x => ∃ t, h.IsStrIter it (strIterType x) x t i
section
variable {X : Cx} {pins : List (Addr × Obj)} {σ : L2.St} {H : Hp} {s : Shared} {sd : Sd} {it : Addr} {i : Nat} {vs : List V}
theorem Sd.inj (I : L2.Inv X pins σ H s) {vs us : List V} (h : sd.has X.K H vs) (h' : sd.has X.K H us) : vs = us := by
  cases sd with
  | l a => exact I.list_inj h h'
  | t a => exact I.tuple_inj h h'
  | s x =>
    have h : vs = _ := h
    have h' : us = _ := h'
    rw [h, h']
theorem Sd.cell {h : Heap} (st : sd.at it i h) : ∃ o, h.get? it = some o ∧ ∀ v, o.data ≠ .cell v := by
  cases sd with
  | l a => obtain ⟨o, e, _, d⟩ := st; exact ⟨o, e, fun v q => by rw [d] at q; cases q⟩
  | t a => obtain ⟨o, e, _, d⟩ := st; exact ⟨o, e, fun v q => by rw [d] at q; cases q⟩
  | s x => obtain ⟨t, o, e, _, d⟩ := st; exact ⟨o, e, fun v q => by rw [d] at q; cases q⟩
theorem Sd.keep {h h' : Heap} (st : sd.at it i h) (k : ∀ o, h.get? it = some o → h'.get? it = some o) : sd.at it i h' := by
  cases sd with
  | l a => exact Heap.IsListIter.at st k
  | t a => exact Heap.IsTupleIter.at st k
  | s x => obtain ⟨t, o, e, r⟩ := st; exact ⟨t, o, k o e, r⟩
/-- how a side is drawn -/
theorem Sd.draws (I : L2.Inv X pins σ H s) (hh : X.A.handled = none) (has : sd.has X.K H vs) (st : sd.at it i s.heap) (hne : it ∉ sd.tail) :
    ∃ (P : Nat → Value → Prop) (St : Nat → Heap → Prop), Draws X.prog X.w X.A.in1 it (it :: sd.tail) vs.length P St ∧ St i s.heap ∧ (∀ j h, St j h → sd.at it j h) ∧ ∀ v, P i v → ∃ x, vs[i]? = some x ∧ RelV x v := by
  cases sd with
  | l a =>
    obtain ⟨its, rv, p, _⟩ := I.list has
    have hl : vs.length = its.toArray.size := by rw [List.size_toArray]; exact rv.length
    have D := Draws.list (prog := X.prog) (w := X.w) (A := X.A.in1) hh it a (fun e => hne (by simp [Sd.tail, e])) its.toArray
    rw [← hl] at D
    refine ⟨_, _, D, ⟨st, p.isList⟩, fun j h q => q.1, fun v hv => ?_⟩
    have hv : its[i]? = some v := by simpa using hv
    have hi := (List.getElem?_eq_some_iff.mp hv).1
    have e : vs[i]? = some (vs[i]'(by rw [rv.length]; exact hi)) := List.getElem?_eq_getElem _
    obtain ⟨u, hu, ru⟩ := rv.get e
    rw [hv] at hu
    cases hu
    exact ⟨_, e, ru⟩
  | t a =>
    obtain ⟨its, rv, p, _⟩ := I.tuple has
    have hl : vs.length = its.toArray.size := by rw [List.size_toArray]; exact rv.length
    have D := Draws.tuple (prog := X.prog) (w := X.w) (A := X.A.in1) hh it a (fun e => hne (by simp [Sd.tail, e])) its.toArray
    rw [← hl] at D
    refine ⟨_, _, D, ⟨st, p⟩, fun j h q => q.1, fun v hv => ?_⟩
    have hv : its[i]? = some v := by simpa using hv
    have hi := (List.getElem?_eq_some_iff.mp hv).1
    have e : vs[i]? = some (vs[i]'(by rw [rv.length]; exact hi)) := List.getElem?_eq_getElem _
    obtain ⟨u, hu, ru⟩ := rv.get e
    rw [hv] at hu
    cases hu
    exact ⟨_, e, ru⟩
  | s x =>
    obtain ⟨t, st⟩ := st
    have has : vs = x.cps.toList.map fun c => V.str ⟨#[c]⟩ := has
    have hl : vs.length = x.cps.size := by rw [has, List.length_map, Array.length_toList]
    have D := Draws.text (prog := X.prog) (w := X.w) (A := X.A.in1) hh it x t
    rw [← hl] at D
    refine ⟨_, _, D, st, fun j h q => ⟨t, q⟩, fun v hv => ?_⟩
    obtain ⟨c, u, e, rfl⟩ := hv
    refine ⟨.str ⟨#[c]⟩, ?_, ⟨u, rfl⟩⟩
    rw [has, List.getElem?_map, Array.getElem?_toList, e]
    rfl
/-- iter of a side -/
theorem Sd.begins (I : L2.Inv X pins σ H s) {v : V} {u : Value} (hv : sd.val v) (r : RelV v u) (has : sd.has X.K H vs) :
    ∃ (o : Obj) (P : Heap → Prop), Begins u o P ∧ P s.heap ∧ (∀ h c, h.get? c = some o → sd.at c 0 h) ∧ ∀ b ∈ sd.tail, b < s.heap.objs.size := by
  cases sd with
  | l a =>
    have hv : v = .ref a := hv
    subst hv
    have r : u = .ref a := r
    subst r
    obtain ⟨its, rv, p, _⟩ := I.list has
    exact ⟨_, _, begins_list a its.toArray, p.isList, fun h c e => ⟨_, e, rfl, rfl⟩, fun b hb => by rw [List.mem_singleton.mp hb]; exact p.lt⟩
  | t a =>
    have hv : v = .ref a := hv
    subst hv
    have r : u = .ref a := r
    subst r
    obtain ⟨its, rv, p, _⟩ := I.tuple has
    obtain ⟨o, ho, _⟩ := id p
    exact ⟨_, _, begins_tuple a its.toArray, p, fun h c e => ⟨_, e, rfl, rfl⟩, fun b hb => by rw [List.mem_singleton.mp hb]; exact Heap.lt_size ho⟩
  | s x =>
    have hv : v = .str x := hv
    subst hv
    obtain ⟨t, rfl⟩ := r
    exact ⟨_, _, begins_text x t, trivial, fun h c e => ⟨t, _, e, rfl, rfl⟩, fun b hb => nomatch hb⟩
end
/-- a zip's turns -/
def ItzX (K : PySem.W.Frag) (d1 d2 : Sd) (n1 n2 : Nat) : It :=
  ⟨fun i H => ∃ (xs ys : List V) (x y : V), d1.has K H xs ∧ d2.has K H ys ∧ xs.length = n1 ∧ ys.length = n2 ∧ xs[i]? = some x ∧ ys[i]? = some y,
    fun i H v H' => ∃ T x y, v = .ref T ∧ H T = none ∧ H' = upd H T (.tup [x, y]) ∧ (∀ xs, d1.has K H xs → xs[i]? = some x) ∧ ∀ ys, d2.has K H ys → ys[i]? = some y,
    fun i H => ∃ xs ys : List V, d1.has K H xs ∧ d2.has K H ys ∧ xs.length = n1 ∧ ys.length = n2 ∧ (n1 ≤ i ∨ n2 ≤ i)⟩
theorem turn_zipX {P : Program} {w : World} {K : PySem.W.Frag} {elts : List Expr} {kk : Nat} {tpos : Pos} {d1 d2 : Sd} {n1 n2 : Nat} {z TI TO i1 i2 : Addr} (S : ZipSep2 z TI TO i1 i2 (i1 :: d1.tail) (i2 :: d2.tail)) (hd1 : i1 ∉ d1.tail) (hd2 : i2 ∉ d2.tail) :
    Turn P w K (.Tuple elts kk tpos) (ItzX K d1 d2 n1 n2) [z, TI, TO, i1, i2] z (fun i h => IsZip h z TI TO .none ∧ IsTupOf2 h TI (.ref i1) (.ref i2) ∧ (∃ x y, IsTupOf2 h TO x y) ∧ d1.at i1 i h ∧ d2.at i2 i h ∧ i ≤ n1 ∧ i ≤ n2) where
  mem := by simp
  obj := fun i h st c hc => by
    obtain ⟨hz, hTI, ⟨x, y, hTO⟩, h1, h2, _⟩ := st
    have e' : c = z ∨ c = TI ∨ c = TO ∨ c = i1 ∨ c = i2 := by simpa using hc
    rcases e' with q | q | q | q | q
    · rw [q]; exact ⟨_, hz, fun v q => nomatch q⟩
    · rw [q]; exact ⟨_, hTI, fun v q => nomatch q⟩
    · rw [q]; exact ⟨_, hTO, fun v q => nomatch q⟩
    · rw [q]; exact Sd.cell h1
    · rw [q]; exact Sd.cell h2
  keep := fun i h h' st k => by
    obtain ⟨hz, hTI, ⟨x, y, hTO⟩, h1, h2, r⟩ := st
    exact ⟨k z (by simp) _ hz, k TI (by simp) _ hTI, ⟨x, y, k TO (by simp) _ hTO⟩, Sd.keep h1 fun o q => k i1 (by simp) o q, Sd.keep h2 fun o q => k i2 (by simp) o q, r⟩
  item := by
    intro X hP hw hK hc i pins s σ H E I hf st hg
    subst hP hw hK
    obtain ⟨hz, hTI, ⟨x0, y0, hTO⟩, h1, h2, le1, le2⟩ := st
    obtain ⟨xs, ys, x, y, hqx, hqy, l1, l2, hx, hy⟩ := hg
    obtain ⟨P1, St1, D1, st1, s1, v1⟩ := Sd.draws I (I.ok.hd hc) hqx h1 hd1
    obtain ⟨P2, St2, D2, st2, s2, v2⟩ := Sd.draws I (I.ok.hd hc) hqy h2 hd2
    have lt1 := (List.getElem?_eq_some_iff.mp hx).1
    have lt2 := (List.getElem?_eq_some_iff.mp hy).1
    have hzl : z < s.heap.objs.size := Heap.lt_size hz
    refine wpAny_pyNext_zipD2_item S D1 D2 hz hTI hTO st1 st2 lt1 lt2 fun u u2 h' tk p1 p2 z' TO' q1 q2 hT hsz hk => ?_
    obtain ⟨x', ex, ru⟩ := v1 u p1
    obtain ⟨y', ey, ru2⟩ := v2 u2 p2
    rw [hx] at ex
    rw [hy] at ey
    cases ex
    cases ey
    refine ⟨_, rfl, wpAny_letOwnedTupleGo_zip (s := { s with heap := h', toks := tk }) z' fun h'' z'' sb => ?_⟩
    have hT2 : h''.get? s.heap.objs.size = some { cls := .type "tuple", data := .seq #[u, u2] } := (sb.2 _ (Nat.ne_of_gt hzl)).trans hT
    have new : ObjOk X.prog X.w (upd H s.heap.objs.size (.tup [x, y])) h'' s.heap.objs.size (.tup [x, y]) :=
      ⟨by show 2 ≤ sizeLine; decide, [u, u2], .cons ru (.cons ru2 .nil), ⟨_, hT2, rfl, _, rfl⟩⟩
    have I1 : L2.Inv X pins σ (upd H s.heap.objs.size (.tup [x, y])) { s with heap := h'', toks := tk } :=
      I.turnedNew (ch := [z, TI, TO, i1, i2]) (fun c o hb q => (sb.2 c (fun q' => hb (by simp [q']))).trans (hk c o (fun q' => hb (by simp [q'])) (fun q' => hb (by simp [q'])) (fun q' => hb (by simp [q'])) (fun q' => hb (by simp [q'])) q)) hf (Nat.le_refl _) new
    refine ⟨.ref s.heap.objs.size, _, I1, rfl, ⟨_, x, y, rfl, I.hok.fresh (Nat.le_refl _), rfl, fun l hl => by rw [Sd.inj I hl hqx]; exact hx, fun l hl => by rw [Sd.inj I hl hqy]; exact hy⟩, ⟨z'', ?_, ⟨u, u2, ?_⟩, ?_, ?_, by omega, by omega⟩, fun c hcm => ?_⟩
    · exact (sb.2 _ S.TIz).trans (hk _ _ S.TIz S.TITO S.TIi1 S.TIi2 hTI)
    · exact (sb.2 _ S.TOz).trans TO'
    · exact Sd.keep (s1 _ _ q1) fun o q => (sb.2 _ (Ne.symm S.zi1)).trans q
    · exact Sd.keep (s2 _ _ q2) fun o q => (sb.2 _ (Ne.symm S.zi2)).trans q
    · have hlt : c < s.heap.objs.size := by
        have e' : c = z ∨ c = TI ∨ c = TO ∨ c = i1 ∨ c = i2 := by simpa using hcm
        rcases e' with q | q | q | q | q
        · rw [q]; exact hzl
        · rw [q]; exact Heap.lt_size hTI
        · rw [q]; exact Heap.lt_size hTO
        · rw [q]; obtain ⟨_, e1, _⟩ := Sd.cell h1; exact Heap.lt_size e1
        · rw [q]; obtain ⟨_, e2, _⟩ := Sd.cell h2; exact Heap.lt_size e2
      rw [upd_ne (Nat.ne_of_lt hlt)]
      exact (hf c hcm).1
  done := by
    intro X hP hw hK hc i pins s σ H E I hf st hg
    subst hP hw hK
    obtain ⟨hz, hTI, ⟨x0, y0, hTO⟩, h1, h2, le1, le2⟩ := st
    obtain ⟨xs, ys, hqx, hqy, l1, l2, hend⟩ := hg
    obtain ⟨P1, St1, D1, st1, s1, v1⟩ := Sd.draws I (I.ok.hd hc) hqx h1 hd1
    obtain ⟨P2, St2, D2, st2, s2, v2⟩ := Sd.draws I (I.ok.hd hc) hqy h2 hd2
    exact wpAny_pyNext_zipD2_end S D1 D2 hz hTI hTO st1 st2 (by omega) (by omega) (by omega) fun h' tk hk => ⟨rfl, I.turnedL (t' := tk) (ch := [z, TI, TO, i1, i2]) (fun c o hb q =>
      hk c o (fun q' => hb (by simp [q'])) (fun q' => hb (by simp [q'])) (fun q' => hb (by simp [q'])) (fun q' => hb (by simp [q'])) q) hf⟩
  self := fun A i s Q E st h => wpAny_pyIter_zip st.1 h
def iZipX (K : PySem.W.Frag) (ta : TA) : TI := fun σ H R => ta σ H fun vs H1 => ∃ v1 v2 d1 d2 xs ys, vs = [v1, v2] ∧ Sd.val d1 v1 ∧ Sd.val d2 v2 ∧ d1.has K H1 xs ∧ d2.has K H1 ys ∧ R (ItzX K d1 d2 xs.length ys.length) H1
theorem pi_zipX {X : Cx} {e e2 : Expr} {ta : TA} {p pos tpos : Pos} {elts : List Expr} {kk : Nat} (hg : Gl X "zip") (hm : X.mg "zip" = none) (ha : PA X [e, e2] ta)
    (hs : starEach [e, e2] X.env = (false, eval e X.env) :: starEach [e2] X.env) (hpl : (backTo pos (starEach [e2] X.env)).any (·.1) = false) :
    PI X (.Tuple elts kk tpos) (.Call (.Name "zip" p) [e, e2] [] pos) (iZipX X.K ta) := by
  refine ⟨fun pins s σ H R I h => ?_⟩
  refine Call_ (ld_blt I hg hm PyProof.Rows.boot_zip (PyProof.Rows.callWith_type1 (thn (ha.run pos pins s σ H _ I h) fun us s1 ⟨vs, H1, I1, r1, q1⟩ => ?_) hs hpl))
  obtain ⟨v1, v2, d1, d2, xs, ys, ex, e1, e2, hqx, hqy, q⟩ := q1
  subst ex
  cases r1 with
  | cons r rr =>
    cases rr with
    | cons r' rr =>
      cases rr
      have fresh5 : ∀ c, c ∈ [s1.heap.objs.size + 4, s1.heap.objs.size + 2, s1.heap.objs.size + 3, s1.heap.objs.size, s1.heap.objs.size + 1] → FpOk X pins H1 c := fun c hcm => by
        have e' : c = s1.heap.objs.size + 4 ∨ c = s1.heap.objs.size + 2 ∨ c = s1.heap.objs.size + 3 ∨ c = s1.heap.objs.size ∨ c = s1.heap.objs.size + 1 := by simpa using hcm
        have hle : s1.heap.objs.size ≤ c := by
          rcases e' with z | z | z | z | z
          · rw [z]; exact Nat.le_add_right _ _
          · rw [z]; exact Nat.le_add_right _ _
          · rw [z]; exact Nat.le_add_right _ _
          · rw [z]; exact Nat.le_refl _
          · rw [z]; exact Nat.le_add_right _ _
        exact I1.fpOk hle (I1.hok.fresh hle)
      obtain ⟨o1, B1, b1, p1, a1, t1⟩ := Sd.begins I1 e1 r hqx
      obtain ⟨o2, B2, b2, p2, a2, t2⟩ := Sd.begins I1 e2 r' hqy
      refine zip_begins2 b1 b2 p1 p2 fun h' hz hTI hTO g1 g2 hsz hk => wpAny_pyIter_zip hz ?_
      have I2 : L2.Inv X pins σ H1 { s1 with heap := h' } := I1.kept (t' := s1.toks) hk
      refine ⟨s1.heap.objs.size + 4, [s1.heap.objs.size + 4, s1.heap.objs.size + 2, s1.heap.objs.size + 3, s1.heap.objs.size, s1.heap.objs.size + 1], _, _, H1, rfl, I2, turn_zipX (n1 := xs.length) (n2 := ys.length) (zip_sep2 t1 t2) (fun z => ?_) (fun z => ?_), ⟨hz, hTI, ⟨_, _, hTO⟩, a1 _ _ g1, a2 _ _ g2, Nat.zero_le _, Nat.zero_le _⟩, fresh5, q⟩
      · exact absurd (t1 _ z) (Nat.lt_irrefl _)
      · have h9 : s1.heap.objs.size + 1 < s1.heap.objs.size := t2 _ z
        exact absurd h9 (by omega)
end Mini

set_option Elab.async false
set_option linter.all false
set_option maxRecDepth 100000
set_option maxHeartbeats 2000000
/-! Mini, part G: what is walked, comprehensions. -/
namespace Mini
open PySem PySem.Spec PyProof.Rows L2
abbrev Cn.at (C : Cn) (k : Nat) : Cn := { C with k := k }
/-- a later world, perhaps with more lists under way, in which the walked lists g stand -/
structure Seen (C : Cn) (H0 : Hp) (ms0 : List Addr) (g : List (Nat × List PD)) (k : Nat) (H : Hp) (ms : List Addr) (st : Sto) : Prop where
  sub : Sub H0 ms0 H ms
  idx : ∀ (n : Nat) a, ms0[C.k + n]? = some a → ms[k + n]? = some a
  sr : StRep (C.at k) H ms st
  kp : kept g st = true
  frz : ∀ a o u, H0 a = some (.frz o u) → H a = some (.frz o u)
/-- a walk J yields the items ds, as long as the lists of g stand -/
structure Wk (C : Cn) (J : It) (g : List (Nat × List PD)) (ds : List PD) (H0 : Hp) (ms0 : List Addr) : Prop where
  go : ∀ i x k H ms st, Seen C H0 ms0 g k H ms st → ds[i]? = some x → J.go i H
  yld : ∀ i d k H ms st x H', Seen C H0 ms0 g k H ms st → ds[i]? = some d → J.yld i H x H' → Ext k H ms H' ms ∧ StRep (C.at k) H' ms st ∧ Rep C.K H' ms d x ∧ ∀ a o, H a = some o → H' a = some o
  stop : ∀ i k H ms st, Seen C H0 ms0 g k H ms st → ds.length ≤ i → J.stop i H
mutual
theorem sameD_eq : ∀ a b : PD, sameD a b = true → a = b
  | .none, b, h => by cases b <;> first | rfl | cases h
  | .bool x, b, h => by
    cases b <;> first | (rw [eq_of_beq (show (x == _) = true from h)]) | cases h
  | .int x, b, h => by
    cases b <;> first | (rw [eq_of_beq (show (x == _) = true from h)]) | cases h
  | .str x, b, h => by
    cases b <;> first | (rw [eq_of_beq (show (x == _) = true from h)]) | cases h
  | .list x, b, h => by
    cases b <;> first | (rw [sameL_eq x _ h]) | cases h
  | .tuple x, b, h => by
    cases b <;> first | (rw [sameL_eq x _ h]) | cases h
  | .dict x, b, h => by cases b <;> cases h
theorem sameL_eq : ∀ a b : List PD, sameL a b = true → a = b
  | [], [], _ => rfl
  | [], _ :: _, h => by cases h
  | _ :: _, [], h => by cases h
  | a :: r, b :: t, h => by
    have h : (sameD a b && sameL r t) = true := h
    rw [Bool.and_eq_true] at h
    rw [sameD_eq a b h.1, sameL_eq r t h.2]
end
theorem kept_one {n : Nat} {ds : List PD} {st : Sto} (h : kept [(n, ds)] st = true) : st[n]? = some (.lst ds) := by
  unfold kept at h
  rw [List.all_cons, Bool.and_eq_true] at h
  have h := h.1
  simp only at h
  split at h
  · rename_i xs e
    rw [e, sameL_eq _ _ h]
  · cases h
section
variable {C : Cn} {F : Fe} {W₀ : WX} {X : Cx} {ca cb cc : E} {pos : Pos} {H : Hp} {ms : List Addr} {st : Sto}
/-- a list, a tuple read at each turn as it stands -/
theorem wk_list {a : Addr} {g : List (Nat × List PD)} {ds : List PD} (h : ∀ k H' ms' st, Seen C H ms g k H' ms' st → ∃ xs, SqL C.K H' a xs ∧ RepL C.K H' ms' ds xs) : Wk C (Itl C.K a) g ds H ms where
  go := fun i x k H' ms' st sn e => by
    obtain ⟨xs, hq, r⟩ := h k H' ms' st sn
    obtain ⟨v, ev, _⟩ := r.get e
    exact ⟨xs, v, hq, ev⟩
  yld := fun i d k H' ms' st x H2 sn e y => by
    obtain ⟨xs, hq, r⟩ := h k H' ms' st sn
    obtain ⟨v, ev, rv⟩ := r.get e
    obtain ⟨rfl, y⟩ := y
    have := y xs hq
    rw [ev] at this
    cases this
    exact ⟨Ext.refl, sn.sr, rv, fun _ _ e => e⟩
  stop := fun i k H' ms' st sn e => by
    obtain ⟨xs, hq, r⟩ := h k H' ms' st sn
    exact ⟨xs, hq, by rw [r.length]; exact e⟩
theorem wk_tup {a : Addr} {g : List (Nat × List PD)} {ds : List PD} (h : ∀ k H' ms' st, Seen C H ms g k H' ms' st → ∃ xs, SqT C.K H' a xs ∧ RepL C.K H' ms' ds xs) : Wk C (Itt C.K a) g ds H ms where
  go := fun i x k H' ms' st sn e => by
    obtain ⟨xs, hq, r⟩ := h k H' ms' st sn
    obtain ⟨v, ev, _⟩ := r.get e
    exact ⟨xs, v, hq, ev⟩
  yld := fun i d k H' ms' st x H2 sn e y => by
    obtain ⟨xs, hq, r⟩ := h k H' ms' st sn
    obtain ⟨v, ev, rv⟩ := r.get e
    obtain ⟨rfl, y⟩ := y
    have := y xs hq
    rw [ev] at this
    cases this
    exact ⟨Ext.refl, sn.sr, rv, fun _ _ e => e⟩
  stop := fun i k H' ms' st sn e => by
    obtain ⟨xs, hq, r⟩ := h k H' ms' st sn
    exact ⟨xs, hq, by rw [r.length]; exact e⟩
theorem rangeD_get {lo hi : Int} {l : List PD} (h : rangeD lo hi = some l) : l.length = (hi - lo).toNat ∧ ∀ (i : Nat) x, l[i]? = some x → i < (hi - lo).toNat ∧ x = .int (lo + i) := by
  unfold rangeD at h
  split at h
  · cases h
    refine ⟨by rw [List.length_map, List.length_range], fun i x e => ?_⟩
    rw [List.getElem?_map] at e
    obtain ⟨j, e1, rfl⟩ := Option.map_eq_some_iff.mp e
    obtain ⟨h1, h2⟩ := List.getElem?_eq_some_iff.mp e1
    rw [List.length_range] at h1
    rw [List.getElem_range] at h2
    subst h2
    exact ⟨h1, rfl⟩
  · cases h
theorem wk_rng {lo hi : Int} {l : List PD} (h : rangeD lo hi = some l) : Wk C (Itr lo (hi - lo).toNat) [] l H ms where
  go := fun i x k H' ms' st sn e => ((rangeD_get h).2 i x e).1
  yld := fun i d k H' ms' st x H2 sn e y => by
    obtain ⟨rfl, rfl⟩ := y
    obtain ⟨_, rfl⟩ := (rangeD_get h).2 i d e
    exact ⟨Ext.refl, sn.sr, rfl, fun _ _ e => e⟩
  stop := fun i k H' ms' st sn e => by
    rw [(rangeD_get h).1] at e
    exact e
theorem zip_get {f : PD → PD → PD} {a b : List PD} {i : Nat} {d : PD} (h : (List.zipWith f a b)[i]? = some d) : ∃ x y, a[i]? = some x ∧ b[i]? = some y ∧ d = f x y := by
  rw [List.getElem?_zipWith] at h
  split at h
  · cases h
    exact ⟨_, _, by assumption, by assumption, rfl⟩
  · cases h
theorem pair_yld {k : Nat} {H' : Hp} {ms' : List Addr} {T : Addr} {x y : V} {p q : PD} (s1 : StRep (C.at k) H' ms' st) (hT : H' T = none) (r1 : Rep C.K H' ms' p x) (r2 : Rep C.K H' ms' q y) :
    Ext k H' ms' (upd H' T (.tup [x, y])) ms' ∧ StRep (C.at k) (upd H' T (.tup [x, y])) ms' st ∧ Rep C.K (upd H' T (.tup [x, y])) ms' (.tuple [p, q]) (.ref T) ∧ ∀ a o, H' a = some o → (upd H' T (.tup [x, y])) a = some o :=
  ⟨Ext.new hT, s1.new hT, ⟨T, [x, y], rfl, .inl ⟨s1.free hT, .inl upd_same⟩, x, [y], rfl, Rep.mono (Ext.new (k := 0) hT) _ _ r1, y, [], rfl, Rep.mono (Ext.new (k := 0) hT) _ _ r2, rfl⟩, fun a o e => by rw [upd_ne (ne_of_none e hT)]; exact e⟩
theorem wk_zipX {d1 d2 : Sd} {n1 n2 : Nat} {da db : List PD} (ha : ∀ H' ms', Sub H ms H' ms' → ∃ xs, d1.has C.K H' xs ∧ RepL C.K H' ms' da xs) (hb : ∀ H' ms', Sub H ms H' ms' → ∃ xs, d2.has C.K H' xs ∧ RepL C.K H' ms' db xs) (l1 : da.length = n1) (l2 : db.length = n2) :
    Wk C (ItzX C.K d1 d2 n1 n2) [] (List.zipWith (fun u v => .tuple [u, v]) da db) H ms where
  go := fun i x k H' ms' st sn e => by
    obtain ⟨xs, h1, r1⟩ := ha H' ms' sn.sub
    obtain ⟨ys, h2, r2⟩ := hb H' ms' sn.sub
    obtain ⟨p, q, e1, e2, _⟩ := zip_get e
    obtain ⟨v, ev, _⟩ := r1.get e1
    obtain ⟨u, eu, _⟩ := r2.get e2
    exact ⟨xs, ys, v, u, h1, h2, r1.length.trans l1, r2.length.trans l2, ev, eu⟩
  yld := fun i d k H' ms' st x H2 sn e y => by
    obtain ⟨xs, h1, r1⟩ := ha H' ms' sn.sub
    obtain ⟨ys, h2, r2⟩ := hb H' ms' sn.sub
    obtain ⟨p, q, e1, e2, rfl⟩ := zip_get e
    obtain ⟨v, ev, rv⟩ := r1.get e1
    obtain ⟨u, eu, ru⟩ := r2.get e2
    obtain ⟨T, x', y', rfl, hT, rfl, y1, y2⟩ := y
    have z1 := y1 xs h1
    have z2 := y2 ys h2
    rw [ev] at z1
    rw [eu] at z2
    cases z1
    cases z2
    exact pair_yld sn.sr hT rv ru
  stop := fun i k H' ms' st sn e => by
    obtain ⟨xs, h1, r1⟩ := ha H' ms' sn.sub
    obtain ⟨ys, h2, r2⟩ := hb H' ms' sn.sub
    rw [List.length_zipWith] at e
    exact ⟨xs, ys, h1, h2, r1.length.trans l1, r2.length.trans l2, by omega⟩
theorem repL_chars (H : Hp) (ms : List Addr) : ∀ l : List Nat, RepL C.K H ms (l.map fun c => PyData.str ⟨#[c]⟩) (l.map fun c => V.str ⟨#[c]⟩)
  | [] => rfl
  | c :: l => ⟨.str ⟨#[c]⟩, _, rfl, rfl, repL_chars H ms l⟩
/-- a side, from data -/
theorem side_of {p : PD} {v : V} {l : List PD} (r : Rep C.K H ms p v) (e : itemsZ p = some l) : ∃ (d : Sd) (xs : List V), d.val v ∧ d.has C.K H xs ∧ RepL C.K H ms l xs ∧ ∀ H' ms', Sub H ms H' ms' → ∃ xs, d.has C.K H' xs ∧ RepL C.K H' ms' l xs := by
  cases p with
  | list l' =>
    cases e
    obtain ⟨a, xs, rfl, q, rr⟩ := r
    refine ⟨.l a, xs, rfl, SqL_of q, rr, fun H' ms' x' => ⟨xs, ?_, RepL.monoS x' _ _ rr⟩⟩
    rcases q with q | ⟨o, q⟩ | q
    · exact .inl (x'.rd q.1 q.2).1
    · exact .inl (.inr ⟨o, x'.frz _ _ _ q⟩)
    · exact .inr q
  | tuple l' =>
    cases e
    obtain ⟨a, xs, rfl, q, rr⟩ := r
    refine ⟨.t a, xs, rfl, SqT_of q, rr, fun H' ms' x' => ⟨xs, ?_, RepL.monoS x' _ _ rr⟩⟩
    rcases q with q | q
    · exact .inl (x'.rd q.1 q.2).1
    · exact .inr q
  | str x =>
    cases e
    have r : v = .str x := r
    exact ⟨.s x, _, r, rfl, repL_chars H ms _, fun H' ms' _ => ⟨_, rfl, repL_chars H' ms' _⟩⟩
  | none => cases e
  | bool _ => cases e
  | int _ => cases e
  | dict _ => cases e
/-- the reading of what is walked -/
def rdW (C : Cn) (F : Fe) (W₀ : WX) (c : E) : TI := fun σ H R => ∃ env st ms, EnRep C H ms σ env ∧ StRep C H ms st ∧ Post C W₀ σ H ms (walk (evE F c env st)) fun p st' H' ms' => ∀ J, Wk C J p.2 p.1 H' ms' → R J H'
/-- a list or a tuple -/
def iSeq (K : PySem.W.Frag) (tl : TE) : TI := fun σ H R => tl σ H fun x H1 => ∃ a xs, x = .ref a ∧ ((SqL K H1 a xs ∧ R (Itl K a) H1) ∨ (SqT K H1 a xs ∧ R (Itt K a) H1))
theorem pi_seq {tg l : Expr} {tl : TE} (hl : PE X l tl) : PI X tg l (iSeq X.K tl) := by
  refine ⟨fun pins s σ H R I h => ?_⟩
  refine thn (hl.run pins s σ H _ I h) fun v s1 ⟨x, H1, I1, r1, q1⟩ => ?_
  obtain ⟨a, xs, e, q⟩ := q1
  subst e
  cases r1
  rcases q with ⟨hq, q⟩ | ⟨hq, q⟩
  · obtain ⟨its, rv, p, hz⟩ := I1.list hq
    refine wpAny_pyIter_list p.isList ?_
    refine ⟨s1.heap.objs.size, [s1.heap.objs.size], _, _, H1, rfl, I1.kept (t' := s1.toks) fun b o e => Heap.get?_push_of_some _ e, turn_list a _, ⟨_, Heap.get?_push_size _ rfl, rfl, rfl⟩, fun b hb => ?_, q⟩
    have e : b = s1.heap.objs.size := by simpa using hb
    subst e
    exact I1.fpOk (Nat.le_refl _) (I1.hok.fresh (Nat.le_refl _))
  · obtain ⟨its, rv, p, hz⟩ := I1.tuple hq
    refine wpAny_pyIter_tuple (show s1.heap.IsTuple a its.toArray from p) ?_
    refine ⟨s1.heap.objs.size, [s1.heap.objs.size], _, _, H1, rfl, I1.kept (t' := s1.toks) fun b o e => Heap.get?_push_of_some _ e, turn_tuple a _, ⟨_, Heap.get?_push_size _ rfl, rfl, rfl⟩, fun b hb => ?_, q⟩
    have e : b = s1.heap.objs.size := by simpa using hb
    subst e
    exact I1.fpOk (Nat.le_refl _) (I1.hok.fresh (Nat.le_refl _))
theorem piW {tg l : Expr} {t t' : TI} (h : PI X tg l t) (k : ∀ σ H R, t' σ H R → t σ H R) : PI X tg l t' := ⟨fun pins s σ H R I q => h.run pins s σ H R I (k σ H R q)⟩
theorem walk_bind {α : Type} (r : Rs α) (f : α → Sto → Rs W) : walk (r.bind f) = r.bind fun a s => walk (f a s) := by cases r <;> rfl
theorem walk_of {o : Option PD} {st : Sto} {σ : L2.St} {Q : List PD × List (Nat × List PD) → Sto → Hp → List Addr → Prop} (h : Post C W₀ σ H ms (walk (.of (o.map W.d) st)) Q) : ∃ d l, o = some d ∧ itemsD d = some l ∧ ∀ H' ms', Ext C.k H ms H' ms' → StRep C H' ms' st → Q (l, []) st H' ms' := by
  cases o with
  | none => exact h.elim
  | some d =>
    have h : Post C W₀ σ H ms (Rs.of ((itemsD d).map fun l => (l, [])) st) Q := h
    obtain ⟨p, e, q⟩ := h.of
    obtain ⟨l, el, rfl⟩ := Option.map_eq_some_iff.mp e
    exact ⟨d, l, rfl, el, q⟩
def rngD : List PD → Option PD
  | [.int j] => (rangeD 0 j).map PyData.list
  | [.int i, .int j] => (rangeD i j).map PyData.list
  | _ => none
theorem rngD_opt (xs : List PD) : (match xs with
  | [.int j] => (rangeD 0 j).map fun l => W.d (.list l)
  | [.int i, .int j] => (rangeD i j).map fun l => W.d (.list l)
  | _ => none) = (rngD xs).map W.d := by
  unfold rngD
  split
  · rw [Option.map_map]; rfl
  · rw [Option.map_map]; rfl
  · rfl
theorem rngR_eq (r : Rs (List W)) : rngR r = r.bind fun ws s => .of (((datas s ws).bind rngD).map W.d) s := by
  cases r with
  | ok ws s =>
    show Rs.of ((datas s ws).bind fun xs => _) s = Rs.of (((datas s ws).bind rngD).map W.d) s
    congr 1
    cases datas s ws with
    | none => rfl
    | some xs => exact rngD_opt xs
  | exc c xs s => rfl
  | stuck => rfl
theorem rangeD_ok {lo hi : Int} {l : List PD} (h : rangeD lo hi = some l) : -(2 ^ 62) ≤ lo ∧ lo < 2 ^ 62 ∧ -(2 ^ 62) ≤ hi ∧ hi < 2 ^ 62 := by
  unfold rangeD at h
  split at h
  · assumption
  · cases h
theorem evL1 {env : En} : evL F (.cons ca .nil) env st = (evE F ca env st).bind fun x s => .ok [x] s := rfl
theorem evL2 {env : En} : evL F (.cons ca (.cons cb .nil)) env st = (evE F ca env st).bind fun x s => (evE F cb env s).bind fun y s => .ok [x, y] s := by
  simp only [evL]
  cases evE F ca env st with
  | ok x s => simp only [Rs.bind]; cases evE F cb env s <;> rfl
  | exc c xs s => rfl
  | stuck => rfl
theorem bind_bind {α β γ : Type} (r : Rs α) (f : α → Sto → Rs β) (g : β → Sto → Rs γ) : (r.bind f).bind g = r.bind fun a s => (f a s).bind g := by cases r <;> rfl
theorem sw_rng1 {tg a : Expr} {p : Pos} (hg : Gl X "range") (hm : X.mg "range" = none) (ha : PE X a (rdE C F W₀ ca)) (hn : nostar a = true) : PI X tg (.Call (.Name "range" p) [a] [] pos) (rdW C F W₀ (.rng (.cons ca .nil))) :=
  piW (pi_range1 hg hm (pa_cons ha pa_nil (star_eq hn)) (star_eq hn)) fun σ H R ⟨env, st, ms, en, sr, h⟩ => by
    simp only [evE, rngR_eq, walk_bind, evL1, bind_bind] at h
    refine rd_bind en sr h fun x w st1 H1 ms1 en1 sr1 e1 r1 h1 => ?_
    obtain ⟨d, l, e, el, q⟩ := walk_of h1
    have q := q H1 ms1 Ext.refl sr1
    obtain ⟨xs, ex, e⟩ := Option.bind_eq_some_iff.mp e
    obtain ⟨p, ep, ex⟩ := Option.bind_eq_some_iff.mp ex
    cases ex
    have n := r1.now sr1 ep
    unfold rngD at e
    split at e <;> (try contradiction)
    · rename_i hh
      cases hh
      obtain ⟨l', er, rfl⟩ := Option.map_eq_some_iff.mp e
      cases el
      have hb := rangeD_ok er
      have := wk_rng (C := C) (H := H1) (ms := ms1) er
      rw [Int.sub_zero] at this
      exact ⟨_, by rw [n.int], hb.2.2.1, hb.2.2.2, q _ this⟩
    · rename_i hh
      cases hh
theorem sw_rng2 {tg a b : Expr} {p : Pos} (hg : Gl X "range") (hm : X.mg "range" = none) (ha : PE X a (rdE C F W₀ ca)) (hb : PE X b (rdE C F W₀ cb)) (hn : nostar a = true) (hn2 : nostar b = true) : PI X tg (.Call (.Name "range" p) [a, b] [] pos) (rdW C F W₀ (.rng (.cons ca (.cons cb .nil)))) :=
  piW (pi_range2 hg hm (pa_cons ha (pa_cons hb pa_nil (star_eq hn2)) (star_eq hn)) (by rw [star_eq hn, star_eq hn2]; rfl) (star_eq hn2)) fun σ H R ⟨env, st, ms, en, sr, h⟩ => by
    simp only [evE, rngR_eq, walk_bind, evL2, bind_bind] at h
    refine rd_bind en sr h fun x w st1 H1 ms1 en1 sr1 e1 r1 h1 => rd_bind en1 sr1 h1 fun y w2 st2 H2 ms2 en2 sr2 e2 r2 h2 => ?_
    obtain ⟨d, l, e, el, q⟩ := walk_of h2
    have q := q H2 ms2 Ext.refl sr2
    obtain ⟨xs, ex, e⟩ := Option.bind_eq_some_iff.mp e
    obtain ⟨p, ep, ex⟩ := Option.bind_eq_some_iff.mp ex
    obtain ⟨ys, ey, rfl⟩ := Option.map_eq_some_iff.mp ex
    obtain ⟨p2, ep2, ey⟩ := Option.bind_eq_some_iff.mp ey
    cases ey
    have n1 := (r1.mono e2).now sr2 ep
    have n2 := r2.now sr2 ep2
    unfold rngD at e
    split at e <;> (try contradiction)
    · rename_i hh
      cases hh
    · rename_i hh
      cases hh
      obtain ⟨l', er, rfl⟩ := Option.map_eq_some_iff.mp e
      cases el
      exact ⟨_, _, by rw [n1.int, n2.int], rangeD_ok er, q _ (wk_rng er)⟩
theorem zipR_walk {env : En} : walk (zipR (evE F ca env st) (evE F cb env)) = (evE F ca env st).bind fun x s => (evE F cb env s).bind fun y s => walk (match x, y with
  | .d x, .d y => .of ((zipD x y).map fun l => W.d (.list l)) s
  | _, _ => .stuck) := by
  unfold zipR
  rw [walk_bind]
  congr 1
  funext x s
  exact walk_bind _ _
theorem sw_zip {a b : Expr} {elts : List Expr} {kk : Nat} {p tpos : Pos} (hK : X.K = C.K) (hg : Gl X "zip") (hm : X.mg "zip" = none) (ha : PE X a (rdE C F W₀ ca)) (hb : PE X b (rdE C F W₀ cb)) (hn : nostar a = true) (hn2 : nostar b = true) :
    PI X (.Tuple elts kk tpos) (.Call (.Name "zip" p) [a, b] [] pos) (rdW C F W₀ (.zip ca cb)) :=
  piW (pi_zipX hg hm (pa_cons ha (pa_cons hb pa_nil (star_eq hn2)) (star_eq hn)) (star_eq hn) (star_any (by rw [List.all_cons, hn2]; rfl))) fun σ H R ⟨env, st, ms, en, sr, h⟩ => by
    simp only [evE, zipR_walk] at h
    refine rd_bind en sr h fun x w st1 H1 ms1 en1 sr1 e1 r1 h1 => rd_bind en1 sr1 h1 fun y w2 st2 H2 ms2 en2 sr2 e2 r2 h2 => ?_
    have r1 := r1.mono e2
    cases w with
    | ref n => exact h2.elim
    | fn n => exact h2.elim
    | err _ _ => exact h2.elim
    | d x1 =>
      cases w2 with
      | ref n => exact h2.elim
      | fn n => exact h2.elim
      | err _ _ => exact h2.elim
      | d y1 =>
        obtain ⟨d, l, e, el, q⟩ := walk_of (o := (zipD x1 y1).map PyData.list) (by rw [Option.map_map]; exact h2)
        have q := q H2 ms2 Ext.refl sr2
        obtain ⟨l', ez, rfl⟩ := Option.map_eq_some_iff.mp e
        cases el
        obtain ⟨a, ea, ez⟩ := Option.bind_eq_some_iff.mp ez
        obtain ⟨b, eb, rfl⟩ := Option.map_eq_some_iff.mp ez
        obtain ⟨d1, xs, v1, g1, rr1, k1⟩ := side_of (C := C) r1 ea
        obtain ⟨d2, ys, v2, g2, rr2, k2⟩ := side_of (C := C) r2 eb
        rw [hK]
        exact ⟨x, y, d1, d2, xs, ys, rfl, v1, v2, g1, g2, q _ (wk_zipX k1 k2 rr1.length.symm rr2.length.symm)⟩
end
end Mini

set_option Elab.async false
set_option linter.all false
set_option maxRecDepth 100000
set_option maxHeartbeats 2000000
/-! Mini, part H: targets, comprehensions. -/
namespace Mini
open PySem PySem.Spec PyProof.Rows L2
def Tg.slots : Tg → List Nat
  | .nm i => [i]
  | .tp is => is
  | .pr a is => a :: is
/-- the reading of a target -/
def rdG (C : Cn) (t : Tg) : TG := fun v σ H Q => ∃ env st ms w env', EnRep C H ms σ env ∧ StRep C H ms st ∧ WRep C H ms w v ∧ putT t w st env = some env' ∧ ∀ σ', EnRep C H ms σ' env' → (∀ j, j ∉ t.slots → σ'[j]? = σ[j]?) → σ'.length = σ.length → Q σ' H
section
variable {C : Cn} {F : Fe} {W₀ : WX} {X : Cx} {ca cb cc : E} {pos : Pos} {H : Hp} {ms : List Addr} {st : Sto} {σ : L2.St}
theorem pgW {tg : Expr} {t t' : TG} (h : PG X tg t) (k : ∀ v σ H Q, t' v σ H Q → t v σ H Q) : PG X tg t' := ⟨fun pins s σ H v u Q I r q => h.run pins s σ H v u Q I r (k v σ H Q q)⟩
theorem set_off {i : Nat} {v : Option V} (σ : L2.St) : (∀ j, j ∉ [i] → (σ.set i v)[j]? = σ[j]?) ∧ (σ.set i v).length = σ.length :=
  ⟨fun j hj => List.getElem?_set_ne (fun z => hj (by simp [z])), List.length_set⟩
theorem sg_nm {i : Nat} {x : Str} (hN : X.N.Nodup) (hi : X.N[i]? = some x) (hx : Loc X.env.scope x) (hf : X.fn x = true ∨ X.env.scope.names.lookup x = some .local) : PG X (.Name x pos) (rdG C (.nm i)) :=
  pgW (pg_name hN hi hx hf) fun v σ H Q ⟨env, st, ms, w, env', en, sr, r, e, q⟩ => q _ (en.put r e) (set_off σ).1 (set_off σ).2
def gNames : List Nat → TGs
  | [] => gNil
  | i :: is => gCons (gName i) (gNames is)
theorem gNames_of : ∀ (is : List Nat) {ds : List PD} {xs : List V} {σ : L2.St} {env env' : En} {Q : L2.St → Hp → Prop}, EnRep C H ms σ env → RepL C.K H ms ds xs → putAll is ds env = some env' →
    (∀ σ', EnRep C H ms σ' env' → (∀ j, j ∉ is → σ'[j]? = σ[j]?) → σ'.length = σ.length → Q σ' H) → gNames is xs σ H Q
  | [], ds, xs, σ, env, env', Q, en, r, e, q => by
    cases ds with
    | nil =>
      cases e
      exact ⟨r, q σ en (fun _ _ => rfl) rfl⟩
    | cons d ds => cases e
  | i :: is, ds, xs, σ, env, env', Q, en, r, e, q => by
    cases ds with
    | nil => cases e
    | cons d ds =>
      obtain ⟨v, vs, rfl, r1, r2⟩ := r
      obtain ⟨env1, e1, e2⟩ := Option.bind_eq_some_iff.mp e
      refine ⟨v, vs, rfl, ?_⟩
      refine gNames_of is (en.put (w := .d d) r1 e1) r2 e2 fun σ' en' h1 h2 => q σ' en' (fun j hj => ?_) ?_
      · rw [h1 j fun z => hj (List.mem_cons_of_mem _ z)]
        exact (set_off σ).1 j fun z => hj (by simp at z; simp [z])
      · rw [h2]; exact (set_off σ).2
/-- the names of a written target -/
inductive NamesAt (X : Cx) : List Expr → List Nat → Prop
  | nil : NamesAt X [] []
  | cons {x : Str} {p : Pos} {i : Nat} {es : List Expr} {is : List Nat} (hi : X.N[i]? = some x) (hx : Loc X.env.scope x) (hf : X.fn x = true ∨ X.env.scope.names.lookup x = some .local) (r : NamesAt X es is) : NamesAt X (.Name x p :: es) (i :: is)
theorem names_pgs (hN : X.N.Nodup) : ∀ {es : List Expr} {is : List Nat}, NamesAt X es is → PGs X es (gNames is)
  | _, _, .nil => pgs_nil
  | _, _, .cons hi hx hf r => pgs_cons (pg_name hN hi hx hf) (names_pgs hN r)
theorem names_len {env : Env} : ∀ {es : List Expr} {is : List Nat}, NamesAt X es is → (assignEach es env).length = is.length
  | _, _, .nil => rfl
  | _, _, .cons _ _ _ r => by
    show (_ :: assignEach _ env).length = _
    rw [List.length_cons, names_len r]; rfl
theorem names_idx {env : Env} : ∀ {es : List Expr} {is : List Nat}, NamesAt X es is → (assignEach es env).findIdx? (·.1) = none
  | _, _, .nil => rfl
  | _, _, .cons (x := x) (p := p) (es := es) _ _ _ r => by
    show ((false, assign (.Name x p) env) :: assignEach es env).findIdx? (·.1) = none
    rw [List.findIdx?_cons, names_idx r]
    rfl
theorem putAll_len : ∀ {is : List Nat} {ds : List PD} {env env' : En}, putAll is ds env = some env' → ds.length = is.length
  | [], [], _, _, _ => rfl
  | [], _ :: _, _, _, e => by cases e
  | _ :: _, [], _, _, e => by cases e
  | i :: is, d :: ds, _, _, e => by
    obtain ⟨env1, e1, e2⟩ := Option.bind_eq_some_iff.mp e
    rw [List.length_cons, List.length_cons, putAll_len e2]
theorem sg_tp {es : List Expr} {is : List Nat} {k : Nat} (hK : X.K = C.K) (hc : X.calm = true) (hN : X.N.Nodup) (h : NamesAt X es is) : PG X (.Tuple es k pos) (rdG C (.tp is)) := by
  refine ⟨fun pins s σ H v u Q I rv ⟨env, st, ms, w, env', en, sr, r, e, q⟩ => ?_⟩
  obtain ⟨d, ed, e⟩ := Option.bind_eq_some_iff.mp e
  split at e
  · have n := r.now sr ed
    obtain ⟨a, vs, rfl, hq, rr⟩ := n.tuple
    exact (pg_tup hc (names_pgs hN h) (names_len h) (names_idx h)).run pins s σ H _ u Q I rv ⟨a, vs, rfl, by rw [hK]; exact hq, by rw [rr.length, putAll_len e], gNames_of is en rr e q⟩
  · have n := r.now sr ed
    obtain ⟨a, vs, rfl, hq, rr⟩ := n.list
    exact (pg_lst hc (names_pgs hN h) (names_len h) (names_idx h)).run pins s σ H _ u Q I rv ⟨a, vs, rfl, by rw [hK]; exact hq, by rw [rr.length, putAll_len e], gNames_of is en rr e q⟩
  · cases e
theorem sg_pr {x : Str} {px p2 : Pos} {a : Nat} {es : List Expr} {is : List Nat} {k k2 : Nat} (hK : X.K = C.K) (hc : X.calm = true) (hN : X.N.Nodup) (hi : X.N[a]? = some x) (hx : Loc X.env.scope x) (hf : X.fn x = true ∨ X.env.scope.names.lookup x = some .local) (h : NamesAt X es is) :
    PG X (.Tuple [.Name x px, .Tuple es k2 p2] k pos) (rdG C (.pr a is)) := by
  refine ⟨fun pins s σ H v u Q I rv ⟨env, st, ms, w, env', en, sr, r, e, q⟩ => ?_⟩
  obtain ⟨d, ed, e⟩ := Option.bind_eq_some_iff.mp e
  split at e
  · rename_i y ys
    have n := r.now sr ed
    obtain ⟨b, vs, rfl, hq, rr⟩ := n.tuple
    obtain ⟨v1, r1, rfl, g1, v2, r2, rfl, g2, g3⟩ := rr
    have g3 : r2 = [] := g3
    subst g3
    obtain ⟨c, zs, rfl, hz, rz⟩ := g2
    obtain ⟨env1, e1, e2⟩ := Option.bind_eq_some_iff.mp e
    refine (pg_tup (n := 2) hc (pgs_cons (pg_name hN hi hx hf) (pgs_cons (pg_tup hc (names_pgs hN h) (names_len h) (names_idx h)) pgs_nil)) rfl rfl).run pins s σ H _ u Q I rv
      ⟨b, _, rfl, by rw [hK]; exact hq, rfl, _, _, rfl, _, _, rfl, c, zs, rfl, by rw [hK]; exact SqT_of hz, by rw [rz.length, putAll_len e2], ?_⟩
    refine gNames_of is (en.put (w := .d y) g1 e1) rz e2 fun σ' en' h1 h2 => ⟨rfl, q σ' en' (fun j hj => ?_) ?_⟩
    · rw [h1 j fun z => hj (List.mem_cons_of_mem _ z)]
      exact (set_off σ).1 j fun z => hj (by
        have z : j = a := by simpa using z
        subst z
        exact List.mem_cons_self)
    · rw [h2]; exact (set_off σ).2
  · cases e
/-! ### slots forgotten -/
theorem wipe_in {σ : L2.St} {i : Nat} : ∀ {vs : List Nat}, i ∈ vs → i < σ.length → (L2.wipe σ vs)[i]? = some none
  | [], h, _ => by cases h
  | v :: vs, h, hl => by
    unfold L2.wipe
    by_cases hi : v = i
    · subst hi
      exact List.getElem?_set_self (by rw [wipe_length]; exact hl)
    · rw [List.getElem?_set_ne hi]
      rcases List.mem_cons.mp h with z | z
      · exact absurd z.symm hi
      · exact wipe_in z hl
theorem wipe_eq {σ σ' : L2.St} {vs : List Nat} (hl : σ'.length = σ.length) (h : ∀ j, j ∉ vs → σ'[j]? = σ[j]?) : L2.wipe σ' vs = L2.wipe σ vs := by
  apply List.ext_getElem?
  intro j
  by_cases hj : j ∈ vs
  · by_cases hlt : j < σ.length
    · rw [wipe_in hj hlt, wipe_in hj (by rw [hl]; exact hlt)]
    · rw [List.getElem?_eq_none (by rw [wipe_length]; omega), List.getElem?_eq_none (by rw [wipe_length]; omega)]
  · rw [wipe_out hj, wipe_out hj]
    exact h j hj
/-! ### the evaluator's comprehension, turn by turn -/
theorem compL_exc {g : Sto → Bool} {f : PD → Sto → Rs (Option PD)} : ∀ {ds : List PD} {s s' : Sto} {c : Nat} {xs : List PD}, compL g f ds s ≠ .exc c xs s'
  | [], s, s', c, xs => by
    unfold compL
    split <;> nofun
  | d :: ds, s, s', c, xs => by
    unfold compL
    split
    · split
      · exact compL_exc
      · rename_i y s1 _
        intro e
        cases q : compL g f ds s1 with
        | ok ys s2 =>
          rw [q] at e
          simp only [Rs.bind] at e
          split at e <;> cases e
        | exc c xs s2 => exact compL_exc q
        | stuck => rw [q] at e; cases e
      · nofun
    · nofun
theorem compL_nil {g : Sto → Bool} {f : PD → Sto → Rs (Option PD)} {s s' : Sto} {ys : List PD} (h : compL g f [] s = .ok ys s') : g s = true ∧ ys = [] ∧ s' = s := by
  unfold compL at h
  split at h
  · cases h
    exact ⟨by assumption, rfl, rfl⟩
  · cases h
theorem compL_cons {g : Sto → Bool} {f : PD → Sto → Rs (Option PD)} {d : PD} {ds : List PD} {s s' : Sto} {ys : List PD} (h : compL g f (d :: ds) s = .ok ys s') :
    g s = true ∧ ∃ o s1, f d s = .ok o s1 ∧ ((o = none ∧ compL g f ds s1 = .ok ys s') ∨ ∃ y yr, o = some y ∧ compL g f ds s1 = .ok yr s' ∧ ys = y :: yr ∧ yr.length < LIM) := by
  unfold compL at h
  split at h
  · rename_i hg
    refine ⟨hg, ?_⟩
    split at h
    · rename_i s1 e
      exact ⟨none, s1, e, .inl ⟨rfl, h⟩⟩
    · rename_i y s1 e
      refine ⟨some y, s1, e, .inr ?_⟩
      cases q : compL g f ds s1 with
      | ok yr s2 =>
        rw [q] at h
        simp only [Rs.bind] at h
        split at h
        · cases h
          exact ⟨y, yr, rfl, rfl, rfl, by assumption⟩
        · cases h
      | exc c xs s2 => exact absurd q compL_exc
      | stuck => rw [q] at h; cases h
    · cases h
  · cases h
theorem turnC_ok {t : Tg} {v : En} {c elt : En → Sto → Rs W} {x : PD} {s s1 : Sto} {o : Option PD} (h : turnC t v c elt x s = .ok o s1) :
    ∃ v', putT t (.d x) s v = some v' ∧ ∃ b s2, tst (c v' s) = .ok b s2 ∧ ((b = false ∧ o = none ∧ s1 = s2) ∨ (b = true ∧ ∃ y, elt v' s2 = .ok (.d y) s1 ∧ o = some y)) := by
  unfold turnC at h
  split at h
  · rename_i v' e
    refine ⟨v', e, ?_⟩
    cases q : tst (c v' s) with
    | ok b s2 =>
      rw [q] at h
      refine ⟨b, s2, rfl, ?_⟩
      simp only [Rs.bind] at h
      cases b with
      | false =>
        simp only [Bool.false_eq_true, if_false] at h
        cases h
        exact .inl ⟨rfl, rfl, rfl⟩
      | true =>
        simp only [if_true] at h
        refine .inr ⟨rfl, ?_⟩
        cases q2 : elt v' s2 with
        | ok w s3 =>
          rw [q2] at h
          cases w with
          | d y => cases h; exact ⟨y, rfl, rfl⟩
          | ref n => cases h
          | fn n => cases h
          | err _ _ => cases h
        | exc c xs s3 => rw [q2] at h; cases h
        | stuck => rw [q2] at h; cases h
    | exc c xs s2 => rw [q] at h; cases h
    | stuck => rw [q] at h; cases h
  · cases h
/-! ### a list under way -/
abbrev Cn.up (C : Cn) : Cn := { C with k := C.k + 1 }
mutual
theorem Rep.up {K : PySem.W.Frag} {D : Addr} {o : HO} (hD : H D = none) : ∀ (d : PD) (v : V), Rep K H ms d v → Rep K (upd H D o) (D :: ms) d v
  | .none, _, h => h
  | .bool _, _, h => h
  | .int _, _, h => h
  | .str _, _, h => h
  | .list ds, _, h => by
    obtain ⟨a, xs, e, h1, h2⟩ := h
    refine ⟨a, xs, e, h1.imp (fun q => ?_) (fun q => q.imp (fun ⟨ob, z⟩ => ⟨ob, by rw [upd_ne (ne_of_none z hD)]; exact z⟩) fun q => q), RepL.up hD ds xs h2⟩
    rcases q.2 with z | ⟨ob, z⟩
    · have ne := ne_of_none z hD
      exact ⟨fun w => (List.mem_cons.mp w).elim ne q.1, .inl (by rw [upd_ne ne]; exact z)⟩
    · have ne := ne_of_none z hD
      exact ⟨fun w => (List.mem_cons.mp w).elim ne q.1, .inr ⟨ob, by rw [upd_ne ne]; exact z⟩⟩
  | .tuple ds, _, h => by
    obtain ⟨a, xs, e, h1, h2⟩ := h
    refine ⟨a, xs, e, h1.imp (fun q => ?_) (fun q => q), RepL.up hD ds xs h2⟩
    rcases q.2 with z | ⟨ob, z⟩
    · have ne := ne_of_none z hD
      exact ⟨fun w => (List.mem_cons.mp w).elim ne q.1, .inl (by rw [upd_ne ne]; exact z)⟩
    · have ne := ne_of_none z hD
      exact ⟨fun w => (List.mem_cons.mp w).elim ne q.1, .inr ⟨ob, by rw [upd_ne ne]; exact z⟩⟩
  | .dict _, _, h => h
theorem RepL.up {K : PySem.W.Frag} {D : Addr} {o : HO} (hD : H D = none) : ∀ (ds : List PD) (vs : List V), RepL K H ms ds vs → RepL K (upd H D o) (D :: ms) ds vs
  | [], _, h => h
  | d :: ds, _, h => by
    obtain ⟨v, r, e, h1, h2⟩ := h
    exact ⟨v, r, e, Rep.up hD d v h1, RepL.up hD ds r h2⟩
end
mutual
theorem Rep.less {K : PySem.W.Frag} {ms' : List Addr} (hs : ∀ a, a ∈ ms → a ∈ ms') : ∀ (d : PD) (v : V), Rep K H ms' d v → Rep K H ms d v
  | .none, _, h => h
  | .bool _, _, h => h
  | .int _, _, h => h
  | .str _, _, h => h
  | .list ds, _, h => by
    obtain ⟨a, xs, e, h1, h2⟩ := h
    exact ⟨a, xs, e, h1.imp (fun q => ⟨fun z => q.1 (hs a z), q.2⟩) (fun q => q), RepL.less hs ds xs h2⟩
  | .tuple ds, _, h => by
    obtain ⟨a, xs, e, h1, h2⟩ := h
    exact ⟨a, xs, e, h1.imp (fun q => ⟨fun z => q.1 (hs a z), q.2⟩) (fun q => q), RepL.less hs ds xs h2⟩
  | .dict _, _, h => h
theorem RepL.less {K : PySem.W.Frag} {ms' : List Addr} (hs : ∀ a, a ∈ ms → a ∈ ms') : ∀ (ds : List PD) (vs : List V), RepL K H ms' ds vs → RepL K H ms ds vs
  | [], _, h => h
  | d :: ds, _, h => by
    obtain ⟨v, r, e, h1, h2⟩ := h
    exact ⟨v, r, e, Rep.less hs d v h1, RepL.less hs ds r h2⟩
end
theorem up_get (C : Cn) (D : Addr) (ms : List Addr) (n : Nat) : (D :: ms)[C.up.k + n]? = ms[C.k + n]? := by
  show (D :: ms)[C.k + 1 + n]? = _
  rw [show C.k + 1 + n = (C.k + n) + 1 by omega, List.getElem?_cons_succ]
theorem ExRep.up {D : Addr} {o : HO} {c : Nat} {xs : List PD} {cls : Value} {d : Option Addr} (hD : H D = none) (h : ExRep C H ms c xs cls d) : ExRep C.up (upd H D o) (D :: ms) c xs cls d := by
  obtain ⟨Ca, names, h1, h2, h3, h4⟩ := h
  refine ⟨Ca, names, h1, h2, h3, fun q => ?_⟩
  obtain ⟨dd, fs, a, b, c, r⟩ := h4 q
  have ne := ne_of_none c hD
  refine ⟨dd, fs, a, fun z => (List.mem_cons.mp z).elim ne b, by rw [upd_ne ne]; exact c, fun i name y e1 e2 => ?_⟩
  obtain ⟨v, z1, z2⟩ := r i name y e1 e2
  exact ⟨v, z1, Rep.up hD y v z2⟩
theorem EnRep.up {D : Addr} {o : HO} {env : En} (hD : H D = none) (en : EnRep C H ms σ env) : EnRep C.up (upd H D o) (D :: ms) σ env :=
  ⟨en.len, fun i w e => by
    obtain ⟨v, e1, r⟩ := en.at_ i w e
    refine ⟨v, e1, ?_⟩
    cases w with
    | d x => exact Rep.up hD x v r
    | ref n => obtain ⟨a, ha, q⟩ := r; exact ⟨a, by rw [up_get]; exact ha, q⟩
    | fn i => exact r
    | err c xs =>
      obtain ⟨a, cls, d, e2, e3, q⟩ := r
      exact ⟨a, cls, d, e2, e3, ExRep.up hD q⟩⟩
theorem StRep.up {D : Addr} {o : HO} (hD : H D = none) (sr : StRep C H ms st) : StRep C.up (upd H D o) (D :: ms) st :=
  ⟨by rw [List.length_cons, sr.len]; show C.k + st.length + 1 = C.k + 1 + st.length; omega, List.nodup_cons.mpr ⟨sr.free hD, sr.nd⟩, fun n a u e1 e2 => by
    rw [up_get] at e1
    exact ObRep.mapR (fun d v => Rep.up hD d v) (fun u e => by rw [upd_ne (ne_of_none e hD)]; exact e) (sr.ob n a u e1 e2), fun a ha => by
    rcases List.mem_cons.mp ha with z | z
    · subst z; exact ⟨_, upd_same⟩
    · obtain ⟨u, e⟩ := sr.there a z
      exact ⟨u, by rw [upd_ne (ne_of_none e hD)]; exact e⟩⟩
theorem StRep.down {D : Addr} (sr : StRep C.up H (D :: ms) st) : StRep C H ms st :=
  ⟨by have := sr.len; rw [List.length_cons] at this; have : ms.length + 1 = C.k + 1 + st.length := this; omega, (List.nodup_cons.mp sr.nd).2, fun n a u e1 e2 => by
    exact ObRep.mapR (fun d v => Rep.less (fun a ha => List.mem_cons_of_mem _ ha) d v) (fun u e => e) (sr.ob n a u (by rw [up_get]; exact e1) e2), fun a ha => sr.there a (List.mem_cons_of_mem _ ha)⟩
/-- what runs beside a list under way leaves it -/
theorem Ext.viaUp {D : Addr} {H1 H4 : Hp} {ms1 ms2 ms' : List Addr} (hD : H1 D = none) (x : Ext C.k H1 ms1 H ms2) (y : Ext C.up.k H (D :: ms2) H4 ms') : ∃ ms4, ms' = D :: ms4 ∧ Ext C.k H1 ms1 H4 ms4 ∧ (∀ o, H D = some o → H4 D = some o) ∧ ∀ (n : Nat) a, ms2[n]? = some a → ms4[n]? = some a := by
  obtain ⟨new', rfl, hn'⟩ := y.more
  refine ⟨ms2 ++ new', rfl, ⟨fun a u ha e => ?_, ?_, fun i a o hi ha e => ?_, fun a o u e => y.frz a o u (x.frz a o u e)⟩, fun o e => y.keep 0 D o (Nat.succ_pos _) rfl e, fun n a h => by rw [List.getElem?_append_left (List.getElem?_eq_some_iff.mp h).1]; exact h⟩
  · have ne := ne_of_none e hD
    exact y.old a u (fun z => (List.mem_cons.mp z).elim ne (x.notin ha e)) (x.old a u ha e)
  · obtain ⟨new, rfl, hn⟩ := x.more
    refine ⟨new ++ new', by rw [List.append_assoc], more_trans hn x.old fun a ha => ?_⟩
    obtain ⟨h1, h2⟩ := hn' a ha
    exact ⟨fun z => h1 (List.mem_cons_of_mem _ z), h2⟩
  · exact y.keep (i + 1) a o (Nat.succ_lt_succ hi) (by rw [List.getElem?_cons_succ]; exact x.get ha) (x.keep i a o hi ha e)
theorem Ext.app {D : Addr} {H1 : Hp} {ms1 : List Addr} {o : HO} (hD : H1 D = none) (x : Ext C.k H1 ms1 H ms) : Ext C.k H1 ms1 (upd H D o) ms :=
  ⟨fun a u ha e => by rw [upd_ne (ne_of_none e hD)]; exact x.old a u ha e, x.more, fun i a u hi ha e => by rw [upd_ne (ne_of_none e hD)]; exact x.keep i a u hi ha e, fun a o u e => by rw [upd_ne (ne_of_none e hD)]; exact x.frz a o u e⟩
theorem Sub.own {D : Addr} {o : HO} (nf : ∀ o u, H D ≠ some (.frz o u)) : Sub H (D :: ms) (upd H D o) (D :: ms) :=
  ⟨fun a u ha e => ⟨by rw [upd_ne (fun z => ha (by rw [z]; exact List.mem_cons_self))]; exact e, ha⟩, fun a o u e => by rw [upd_ne (fun z => nf o u (by rw [← z]; exact e))]; exact e⟩
theorem StRep.app {D : Addr} {o : HO} (nf : ∀ o u, H D ≠ some (.frz o u)) (sr : StRep C.up H (D :: ms) st) : StRep C.up (upd H D o) (D :: ms) st :=
  ⟨sr.len, sr.nd, fun n a u e1 e2 => by
    have q := sr.ob n a u e1 e2
    have ne : a ≠ D := fun z => by
      subst z
      rw [up_get] at e1
      exact (List.nodup_cons.mp sr.nd).1 (List.mem_of_getElem? e1)
    exact ObRep.mapR (fun d v => Rep.monoS (Sub.own nf) d v) (fun u e => by rw [upd_ne ne]; exact e) q, fun a ha => by
    by_cases ne : a = D
    · subst ne; exact ⟨_, upd_same⟩
    · obtain ⟨u, e⟩ := sr.there a ha
      exact ⟨u, by rw [upd_ne ne]; exact e⟩⟩
/-- a list that was under way comes to the store -/
theorem StRep.land {D : Addr} {acc : List V} {ys : List PD} (sr : StRep C.up H (D :: ms) st) (hD : H D = some (.lst acc)) (r : RepL C.K H (D :: ms) ys acc) : StRep C H (ms ++ [D]) (st ++ [.lst ys]) := by
  have hlen : ms.length = C.k + st.length := sr.down.len
  have inc : ∀ a, a ∈ ms ++ [D] → a ∈ D :: ms := fun a ha => by
    rcases List.mem_append.mp ha with z | z
    · exact List.mem_cons_of_mem _ z
    · have : a = D := by simpa using z
      rw [this]; exact List.mem_cons_self
  refine ⟨by simp [hlen]; omega, ?_, fun n a o e1 e2 => ?_, fun a ha => sr.there a (inc a ha)⟩
  · rw [List.nodup_append]
    refine ⟨(List.nodup_cons.mp sr.nd).2, by simp, fun a ha b hb => ?_⟩
    have : b = D := by simpa using hb
    subst this
    intro z; subst z
    exact (List.nodup_cons.mp sr.nd).1 ha
  · by_cases hn : n < st.length
    · rw [List.getElem?_append_left (by omega)] at e1
      rw [List.getElem?_append_left hn] at e2
      exact ObRep.mapR (fun d v => Rep.less inc d v) (fun u e => e) (sr.ob n a o (by rw [up_get]; exact e1) e2)
    · have hl := (List.getElem?_eq_some_iff.mp e2).1
      have : n = st.length := by simp at hl; omega
      subst this
      rw [List.getElem?_append_right (by omega), ← hlen, Nat.sub_self] at e1
      rw [List.getElem?_append_right (Nat.le_refl _), Nat.sub_self] at e2
      simp at e1 e2
      subst e1; subst e2
      exact ⟨acc, hD, RepL.less inc _ _ r⟩
theorem compL_len {g : Sto → Bool} {f : PD → Sto → Rs (Option PD)} : ∀ {ds : List PD} {s s' : Sto} {ys : List PD}, compL g f ds s = .ok ys s' → ys.length ≤ LIM
  | [], s, s', ys, h => by rw [(compL_nil h).2.1]; exact Nat.zero_le _
  | d :: ds, s, s', ys, h => by
    obtain ⟨_, o, s1, _, h | ⟨y, yr, _, _, rfl, hl⟩⟩ := compL_cons h
    · exact compL_len h.2
    · rw [List.length_cons]; exact hl
/-- no error is let out -/
def Wno : WX := fun _ _ _ _ => False
theorem comp_rd {own : List (Str × Nat)} {t : Tg} {cit celt : E} {new : Bool} {Q : VK} (hsl : ∀ i ∈ t.slots, i ∈ own.map (·.2)) (h0 : rdE C F W₀ (.comp new celt t cit cc (own.map (·.2))) σ H Q) :
    tLc (rdW C F W₀ cit) (rdG C.up t) (rdB C.up F Wno cc) (rdE C.up F Wno celt) (own.map (·.2)) σ H Q := by
  obtain ⟨env, st, ms, en, sr, h⟩ := h0
  refine ⟨env, st, ms, en, sr, h.bind.imp fun p st1 H1 ms1 x1 sr1 h1 J wk D hD => ?_⟩
  have en1 := en.mono x1
  obtain ⟨ds, g⟩ := p
  simp only at h1 wk
  generalize hf : turnC t (wipeE env (own.map (·.2))) (evE F cc) (evE F celt) = f at h1
  cases q : compL (kept g) f ds st1 with
  | exc c xs s => exact absurd q compL_exc
  | stuck => rw [q] at h1; exact h1.elim
  | ok ys st2 =>
    rw [q] at h1
    have hLIM := compL_len q
    have en2 : EnRep C.up (upd H1 D (.lst [])) (D :: ms1) (L2.wipe σ (own.map (·.2))) (wipeE env (own.map (·.2))) := (en1.wipe _).up hD
    refine ⟨fun i m H' => i ≤ ds.length ∧ m = ds.length - i ∧ ∃ s ms2 acc done rest, compL (kept g) f (ds.drop i) s = .ok rest st2 ∧ done ++ rest = ys ∧ Ext C.k H1 ms1 H' ms2 ∧ StRep C.up H' (D :: ms2) s ∧ H' D = some (.lst acc) ∧ RepL C.K H' (D :: ms2) done acc,
      ⟨ds.length, Nat.zero_le _, rfl, st1, ms1, [], [], ys, q, rfl, Ext.new hD, sr1.up hD, upd_same, rfl⟩, ?_⟩
    rintro i m H' ⟨hi, rfl, s, ms2, acc, done, rest, ec, ey, x2, s2, hDl, rr⟩
    have hDm : D ∉ ms2 := (List.nodup_cons.mp s2.nd).1
    have hsub : Sub H1 ms1 H' (D :: ms2) := ⟨fun a o ha e => ⟨x2.old a o ha e, fun z => (List.mem_cons.mp z).elim (ne_of_none e hD) (x2.notin ha e)⟩, x2.frz⟩
    have seen : kept g s = true → Seen C H1 ms1 g C.up.k H' (D :: ms2) s := fun hg => ⟨hsub, fun n a ha => by rw [up_get]; exact x2.get ha, s2, hg, x2.frz⟩
    rcases Nat.lt_or_ge i ds.length with hlt | hge
    · right
      have ed : ds.drop i = ds[i] :: ds.drop (i + 1) := List.drop_eq_getElem_cons hlt
      rw [ed] at ec
      obtain ⟨hg1, o, s1, ef, ho⟩ := compL_cons ec
      have sn := seen hg1
      have edi : ds[i]? = some ds[i] := List.getElem?_eq_getElem hlt
      refine ⟨wk.go i _ _ _ _ _ sn edi, _, fun H2 h2 => ⟨ds.length - (i + 1), by omega, h2⟩, fun x H2 y => ?_⟩
      obtain ⟨x3, s3, r3, k3⟩ := wk.yld i _ _ _ _ _ x H2 sn edi y
      rw [← hf] at ef
      obtain ⟨v', ev, b, sb, eb, hb⟩ := turnC_ok ef
      obtain ⟨ms3, e3, x23, kD, _⟩ := Ext.viaUp hD x2 x3
      obtain rfl : ms2 = ms3 := (List.cons.inj e3).2
      have enH : EnRep C.up H2 (D :: ms2) (L2.wipe σ (own.map (·.2))) (wipeE env (own.map (·.2))) := by
        refine ⟨en2.len, fun j w e => ?_⟩
        obtain ⟨v, e1, r⟩ := (en1.wipe (own.map (·.2))).at_ j w e
        refine ⟨v, e1, ?_⟩
        have hsub2 : Sub H1 ms1 H2 (D :: ms2) := ⟨fun a o ha e => ⟨x23.old a o ha e, fun z => (List.mem_cons.mp z).elim (ne_of_none e hD) (x23.notin ha e)⟩, x23.frz⟩
        cases w with
        | d y => exact Rep.monoS hsub2 y v r
        | ref n =>
          obtain ⟨a, ha, q⟩ := r
          exact ⟨a, by rw [up_get]; exact x2.get ha, q⟩
        | fn i => exact r
        | err c xs =>
          obtain ⟨a, cls, d, e2, e3, q⟩ := r
          exact ⟨a, cls, d, e2, e3, ExRep.monoS hsub2 q⟩
      refine ⟨_, s, D :: ms2, .d ds[i], v', enH, s3, r3, ev, fun σ' en' hoff hlen => ⟨?_, ?_⟩⟩
      · rw [wipe_eq (σ := L2.wipe σ (own.map (·.2))) (by rw [hlen]) fun j hj => hoff j fun z => hj (hsl j z)]
        exact wipe_eq (wipe_length _ _) fun j hj => wipe_out hj
      · refine ⟨v', s, D :: ms2, en', s3, ?_⟩
        show Post C.up Wno σ' H2 (D :: ms2) (tst (evE F cc v' s)) _
        rw [eb]
        intro H4 ms4 x4 s4
        obtain ⟨ms4', rfl, x24, kD4, hix⟩ := Ext.viaUp hD x23 x4
        rcases hb with ⟨rfl, rfl, rfl⟩ | ⟨rfl, yv, ee, rfl⟩
        · simp only [Bool.false_eq_true, if_false]
          rcases ho with ⟨_, ho⟩ | ⟨y2, yr, z, _⟩
          · exact ⟨hlt, trivial, s1, ms4', acc, done, rest, ho, ey, x24, s4, kD4 _ (kD _ hDl), RepL.mono x4 _ _ (RepL.mono x3 _ _ rr)⟩
          · cases z
        · simp only [if_true]
          refine ⟨v', sb, D :: ms4', en'.mono x4, s4, ?_⟩
          rw [ee]
          intro H5 ms5 x5 s5 vv rv
          obtain ⟨ms5', rfl, x25, kD5, _⟩ := Ext.viaUp hD x24 x5
          rcases ho with ⟨z, _⟩ | ⟨y2, yr, z, ho, rfl, hl⟩
          · cases z
          · cases z
            have rr5 : RepL C.K H5 (D :: ms5') done acc := RepL.mono x5 _ _ (RepL.mono x4 _ _ (RepL.mono x3 _ _ rr))
            refine ⟨acc, kD5 _ (kD4 _ (kD _ hDl)), ?_, hlt, trivial, s1, ms5', acc ++ [vv], done ++ [yv], yr, ho, by rw [List.append_assoc]; exact ey, x25.app hD, s5.app (lst_nofrz (kD5 _ (kD4 _ (kD _ hDl)))), upd_same, ?_⟩
            · rw [rr.length]
              refine LIM_lt ?_
              rw [← ey, List.length_append, List.length_cons] at hLIM
              omega
            · exact RepL.monoS (Sub.own (lst_nofrz (kD5 _ (kD4 _ (kD _ hDl))))) _ _ (rr5.append (RepL.one rv))
    · left
      have e : i = ds.length := Nat.le_antisymm hi hge
      rw [e, List.drop_length] at ec
      obtain ⟨hg1, rfl, rfl⟩ := compL_nil ec
      rw [List.append_nil] at ey
      subst ey
      have sn := seen hg1
      refine ⟨wk.stop i _ _ _ _ sn hge, ?_⟩
      have h2 : Post C W₀ σ H1 ms1 (if new = true then Rs.ok (W.ref st2.length) (st2 ++ [.lst done]) else .ok (.d (.list done)) st2) _ := h1
      cases new with
      | true =>
        rw [if_pos rfl] at h2
        refine h2 H' (ms2 ++ [D]) ⟨x2.old, ?_, x2.keep, x2.frz⟩ (s2.land hDl rr) _ ⟨D, ?_, rfl⟩
        · obtain ⟨nw, rfl, hn⟩ := x2.more
          refine ⟨nw ++ [D], by rw [List.append_assoc], fun a ha => ?_⟩
          rcases List.mem_append.mp ha with z | z
          · exact hn a z
          · have : a = D := by simpa using z
            subst this
            exact ⟨sr1.free hD, hD⟩
        · rw [← s2.down.len, List.getElem?_append_right (Nat.le_refl _), Nat.sub_self]
          rfl
      | false =>
        rw [if_neg Bool.false_ne_true] at h2
        exact h2 H' ms2 x2 s2.down _ ⟨D, acc, rfl, .inl ⟨hDm, .inl hDl⟩, RepL.less (fun a ha => List.mem_cons_of_mem _ ha) _ _ rr⟩
theorem se_comp {elt tg iter : Expr} {ifs : List Expr} {scope : Scope} {own : List (Str × Nat)} {t : Tg} {cit celt : E} {new : Bool} (hK : X.K = C.K) (hc : X.calm = true) (hN : X.N.Nodup) (hi : PI X tg iter (rdW C F W₀ cit)) (ok : BlkOk X.N X.env.scope scope own)
    (hsl : ∀ i ∈ t.slots, i ∈ own.map (·.2))
    (hg : ∀ (s : Shared) (H : Hp) (A : Addr) (cl : List (Str × Addr)) (fp : List Addr), PG (X.blk s H scope (compEnvC scope cl A X.env) fp) tg (rdG C.up t))
    (ht : ∀ (s : Shared) (H : Hp) (A : Addr) (cl : List (Str × Addr)) (fp : List Addr), PTs (X.blk s H scope (compEnvC scope cl A X.env) fp) ifs (rdB C.up F Wno cc))
    (he : ∀ (s : Shared) (H : Hp) (A : Addr) (cl : List (Str × Addr)) (fp : List Addr), PE (X.blk s H scope (compEnvC scope cl A X.env) fp) elt (rdE C.up F Wno celt)) (hs : ∀ x, foldedSetIterable iter X.env x = pure x) :
    PE X (.ListComp elt [⟨tg, iter, ifs, 0⟩] scope pos) (rdE C F W₀ (.comp new celt t cit cc (own.map (·.2)))) := by 
  exact peW (pe_lc hc hN hi ok hg ht he hs) fun σ H Q h => comp_rd hsl h
end
end Mini

set_option Elab.async false
set_option linter.all false
set_option maxRecDepth 100000
set_option maxHeartbeats 2000000
/-! Mini, part I: defs and their calls. -/
namespace Mini
open PySem PySem.Spec PyProof.Rows L2
/-- a def keeps a promise, called where no repr is under way -/
structure FnG (P : Program) (w : World) (K : PySem.W.Frag) (mg : Str → Option Value) (base : Heap) (k : Nat) (f : Addr) (fd : FuncData) (ps : List Str) (sp : Sp) : Prop where
  len : ∀ vs H Q E, sp vs H Q E → vs.length = ps.length
  run : ∀ (A : Around) (outer : List Env) (s : Shared) (H : Hp) (args : Args) (us : List Value) (vs : List V) (Q : VK) (E : XK), A.guards = some [] → Room k A → Env0 P w K mg base A outer s H → BindsTo s fd args (ps.zip us) → Vals vs us → sp vs H Q E →
    codeAny (model P w) A (.call (.ref f) args) (CR (L2.CX P w) outer P w H s Q E) s
/-- by the def's body -/
theorem fng_of {P : Program} {w : World} {K : PySem.W.Frag} {mg : Str → Option Value} {base : Heap} {k : Nat} {f : Addr} {name qual : Str} {params : Arguments} {body : List Stmt} {scope : Scope} {dV kV doc pm cdv ct oc : Value} {an od : Option Addr}
    {osl : Array (Option Value)} {N ps : List Str} {sp : Sp} (lk : K.lookup f = some ⟨oc, od, .func (PySem.W.fnOf name qual params body scope dV kV doc pm an cdv ct), osl⟩) (hcd : PySem.W.codeIn K cdv qual = true) (S : FnScope N ps scope)
    (len : ∀ vs H Q E, sp vs H Q E → vs.length = ps.length)
    (hbody : ∀ (A : Around) (outer : List Env) (s : Shared) (H : Hp) (vs : List V) (Q : VK) (E : XK), A.guards = some [] → Room k (A.deeper (envOfC qual scope s.heap.objs.size f cdv)) → sp vs H Q E →
      ∃ t, PSs (cxOf (L2.CX P w) P w K mg base N qual scope f cdv A outer s H E) body t ∧ t { nx := fun _ H' => Q .non H', rt := Q } (start N vs) H) :
    FnG P w K mg base (k + 1) f (PySem.W.fnOf name qual params body scope dV kV doc pm an cdv ct) ps sp := by
  refine ⟨len, fun A outer s H args us vs Q E hgd hr e0 hb r hsp => ?_⟩
  have hl := len _ _ _ _ hsp
  have KX : K.In s.heap := e0.mod.kin.keeps fun b o e => (e0.bs b o e).1
  have lim : s.heap.NoLimit := e0.mod.nolimit.keeps fun b o e => (e0.bs b o e).1
  have kinds : ∀ y ∈ ps.zip us, scope.names.lookup y.1 = some .local ∨ (scope.names.lookup y.1 = some .cell ∧ ((cellsFrom (s.heap.objs.size + 1) scope.names []).lookup y.1).isSome = true) := fun ⟨n, v⟩ hy =>
    (S.par n (List.of_mem_zip hy).1).imp (fun q => q) fun q => ⟨q, PySem.W.cellsFrom_some _ _ _ (.inl q)⟩
  refine codeAny_call_function hr.depth (KX _ _ lk) rfl S.co S.gen rfl (PySem.W.codeRec_of KX hcd) (hb _ _ _ _ ?_)
  refine wpAny_newFunctionEnv_cells S.kind kinds fun env he s1 x => ?_
  subst he
  refine ⟨lim.keeps x.toInCall.keep, codeAny_func ?_⟩
  obtain ⟨t, ht, hq⟩ := hbody A outer s H vs Q E hgd (hr.deeper _) hsp
  have I : L2.Inv (cxOf (L2.CX P w) P w K mg base N qual scope f cdv A outer s H E) [] (start N vs) H s1 := inv_start S hr.hd e0 hl r x
  refine wpAny_mono (ht.run [] s1 (start N vs) H _ I hq) (fun fl s' hs => ?_) fun e s' hs => hs
  cases fl with
  | ret u =>
    obtain ⟨v, σ', H', J, rv, q⟩ := hs
    exact ⟨v, H', J.os, J.bare, J.base, J.hok, rv, q⟩
  | next =>
    obtain ⟨σ', H', J, q⟩ := hs
    exact ⟨V.non, H', J.os, J.bare, J.base, J.hok, rfl, q⟩
  | brk =>
    obtain ⟨_, _, _, q⟩ := hs
    exact q.elim
  | cont =>
    obtain ⟨_, _, _, q⟩ := hs
    exact q.elim
/-- the promise of the i-th def, by the evaluator -/
def spF (C : Cn) (P : Pg) (k i : Nat) : Sp := fun vs H Q E => ∃ (kk : Nat) (ms : List Addr) (st : Sto) (ws : List W), StRep (C.at kk) H ms st ∧ WReps (C.at kk) H ms ws vs ∧
  Post (C.at kk) (fun cls d _ H' => E cls d H') [] H ms (runF P k i ws st) fun w _ H' ms' => ∀ v, WRep (C.at kk) H' ms' w v → Q v H'
/-- all defs that the evaluator knows keep their promises -/
def Fns (C : Cn) (P : Pg) (k : Nat) (prog : Program) (w : World) (K : PySem.W.Frag) (mg : Str → Option Value) (base : Heap) : Prop :=
  ∀ i f, C.fa i = some f → ∃ fd ps, PySem.W.keepIn K (.ref f) = true ∧ Binds K fd ps [] ∧ FnG prog w K mg base k f fd ps (spF C P k i)
section
variable {C : Cn} {F : Fe} {W₀ : WX} {X : Cx} {P : Pg} {k : Nat} {ca : E} {pos : Pos} {H : Hp} {ms : List Addr} {st : Sto} {σ : L2.St}
theorem Fns.at (h : Fns C P k X.prog X.w X.K X.mg X.base) (kk : Nat) : Fns (C.at kk) P k X.prog X.w X.K X.mg X.base := h
/-- the callee runs -/
theorem run_fng {i : Nat} {f : Addr} {pins : List (Addr × Obj)} {s : Shared} {Q : VK} {us : List Value} {vs : List V} {ws : List W} (G : Fns C P k X.prog X.w X.K X.mg X.base) (hf : C.fa i = some f) (hg : X.A.guards = some []) (hr : Room k X.A) (tk : Takes X W₀)
    (I : L2.Inv X pins σ H s) (r : Vals vs us) (sr : StRep C H ms st) (rw' : WReps C H ms ws vs) (h : Post C W₀ σ H ms (runF P k i ws st) fun w _ H' ms' => ∀ v, WRep C H' ms' w v → Q v H') :
    wpAny (model X.prog X.w) X.A (call (.ref f) us) (EP X pins σ Q) X.xe s := by
  obtain ⟨fd, ps, hk, hb, g⟩ := G i f hf
  have sp : spF C P k i vs H Q (fun cls d H' => W₀ cls d σ H') := by
    refine ⟨C.k, ms, st, ws, sr, rw', ?_⟩
    cases q : runF P k i ws st with
    | ok w s1 => rw [q] at h; exact h
    | exc c xs s1 => rw [q] at h; exact h
    | stuck => rw [q] at h; exact h
  have hl : (us ++ []).length = ps.length := by rw [List.append_nil, ← r.length]; exact g.len _ _ _ _ sp
  have bd := hb s us I.kIn hl
  rw [List.append_nil] at bd
  refine wpAny_call (codeAny_mono (g.run X.A X.stack s H ⟨us, []⟩ us vs Q _ hg hr I.env0 bd r sp) fun res s' hq => ?_)
  cases res with
  | error e => exact tk _ _ (XE.of_call I (fun cls d H' z => z) hq)
  | ok fl =>
    cases fl with
    | ret u => exact I.after hq
    | next => exact hq.elim
    | brk => exact hq.elim
    | cont => exact hq.elim
theorem se_call {e : Expr} {es : List Expr} {i : Nat} {f : Addr} {x : Str} {p : Pos} (hF : F.call = runF P k) (G : Fns C P k X.prog X.w X.K X.mg X.base) (hf : C.fa i = some f) (hg : X.A.guards = some []) (hr : Room k X.A) (tk : Takes X W₀)
    (hgl : Gl X x) (hm : X.mg x = some (.ref f)) (hd : (x == ("__debug__" : Str)) = false) (ha : PA X (e :: es) (rdL C F W₀ ca)) (hn : (e :: es).all nostar = true) : PE X (.Call (.Name x p) (e :: es) [] pos) (rdE C F W₀ (.call i ca)) := by
  rw [List.all_cons, Bool.and_eq_true] at hn
  obtain ⟨fd, ps, hk, hb, g⟩ := G i f hf
  refine ⟨fun pins s σ H Q I ⟨env, st, ms, en, sr, h⟩ => ?_⟩
  refine wpAny_Call_Name_kw (ld_glob I hgl hm ?_ hd)
  have hq := rdL_bind (K := fun vs H1 => ∃ st1 ms1 ws, StRep C H1 ms1 st1 ∧ WReps C H1 ms1 ws vs ∧ Post C W₀ σ H1 ms1 (runF P k i ws st1) fun w _ H' ms' => ∀ v, WRep C H' ms' w v → Q v H') en sr h
    fun vs ws st1 H1 ms1 en1 sr1 e1 r1 h1 => ⟨st1, ms1, ws, sr1, r1, by rw [← hF]; exact h1⟩
  refine PySem.W.callWith_K (h₀ := X.base) I.ok.mod.kin hk (thn (ha.run pos pins s σ H _ I hq) fun us s1 ⟨vs, H1, I1, r, q⟩ => ⟨I1.kIn, ?_⟩) (star_eq hn.1) (star_any hn.2)
  obtain ⟨st1, ms1, ws, sr1, r1, h1⟩ := q
  exact run_fng G hf hg hr tk I1 r sr1 r1 h1
theorem se_call0 {i : Nat} {f : Addr} {x : Str} {p : Pos} (hF : F.call = runF P k) (G : Fns C P k X.prog X.w X.K X.mg X.base) (hf : C.fa i = some f) (hg : X.A.guards = some []) (hr : Room k X.A) (tk : Takes X W₀)
    (hgl : Gl X x) (hm : X.mg x = some (.ref f)) (hd : (x == ("__debug__" : Str)) = false) : PE X (.Call (.Name x p) [] [] pos) (rdE C F W₀ (.call i .nil)) := by
  obtain ⟨fd, ps, hk, hb, g⟩ := G i f hf
  refine ⟨fun pins s σ H Q I ⟨env, st, ms, en, sr, h⟩ => ?_⟩
  refine wpAny_Call_Name_kw (ld_glob I hgl hm ?_ hd)
  have h : Post C W₀ σ H ms (F.call i [] st) _ := h
  rw [hF] at h
  exact PySem.W.callWith_K0 I.kIn hk (run_fng (us := []) G hf hg hr tk I .nil sr .nil h)
theorem se_callv {e : Expr} {es : List Expr} {i : Nat} {x : Str} {p : Pos} (hF : F.call = runF P k) (G : Fns C P k X.prog X.w X.K X.mg X.base) (hg : X.A.guards = some []) (hr : Room k X.A) (tk : Takes X W₀)
    (hN : X.N[i]? = some x) (hv : Vis X.env.scope x) (hd : (x == ("__debug__" : Str)) = false) (hcd : (x == ("__classdict__" : Str)) = false) (ha : PA X (e :: es) (rdL C F W₀ ca)) (hn : (e :: es).all nostar = true) : PE X (.Call (.Name x p) (e :: es) [] pos) (rdE C F W₀ (.callv i ca)) := by
  rw [List.all_cons, Bool.and_eq_true] at hn
  refine ⟨fun pins s σ H Q I ⟨env, st, ms, en, sr, h⟩ => ?_⟩
  simp only [evE] at h
  split at h
  · rename_i j ej
    obtain ⟨v, ev, rj⟩ := en.at_ i _ ej
    obtain ⟨f, hf, rfl⟩ := rj
    obtain ⟨fd, ps, hk, hb, g⟩ := G j f hf
    refine wpAny_Call_Name_kw (thn ((pe_var (pos := p) hN hv hd hcd).run pins s σ H (fun v H1 => v = .ref f ∧ H1 = H) I ⟨.ref f, ev, rfl, rfl⟩) fun u s1 ⟨v, H1, I1, r1, q1⟩ => ?_)
    obtain ⟨rfl, rfl⟩ := q1
    cases r1
    have hq := rdL_bind (K := fun vs H2 => ∃ st1 ms1 ws, StRep C H2 ms1 st1 ∧ WReps C H2 ms1 ws vs ∧ Post C W₀ σ H2 ms1 (runF P k j ws st1) fun w _ H' ms' => ∀ v, WRep C H' ms' w v → Q v H') en sr h
      fun vs ws st1 H2 ms1 en1 sr1 e1 r1 h1 => ⟨st1, ms1, ws, sr1, r1, by rw [← hF]; exact h1⟩
    refine PySem.W.callWith_K (h₀ := X.base) I1.ok.mod.kin hk (thn (ha.run pos pins s1 σ _ _ I1 hq) fun us s2 ⟨vs, H2, I2, r, q⟩ => ⟨I2.kIn, ?_⟩) (star_eq hn.1) (star_any hn.2)
    obtain ⟨st1, ms1, ws, sr1, r1, h1⟩ := q
    exact run_fng G hf hg hr tk I2 r sr1 r1 h1
  · exact h.elim
end
end Mini

set_option Elab.async false
set_option linter.all false
set_option maxRecDepth 100000
set_option maxHeartbeats 2000000
/-! Mini, part J: statements. -/
namespace Mini
open PySem PySem.Spec PyProof.Rows L2
/-- what an outcome of the evaluator promises -/
def PostS (C : Cn) (W₀ : WX) (D : Ends) (H : Hp) (ms : List Addr) : Out → Prop
  | .nx v s => ∀ σ' H' ms', Ext C.k H ms H' ms' → EnRep C H' ms' σ' v → StRep C H' ms' s → D.nx σ' H'
  | .brk v s => ∀ σ' H' ms', Ext C.k H ms H' ms' → EnRep C H' ms' σ' v → StRep C H' ms' s → D.bk σ' H'
  | .cnt v s => ∀ σ' H' ms', Ext C.k H ms H' ms' → EnRep C H' ms' σ' v → StRep C H' ms' s → D.ct σ' H'
  | .ret w s => ∀ v H' ms', Ext C.k H ms H' ms' → StRep C H' ms' s → WRep C H' ms' w v → D.rt v H'
  | .exc c xs v s => ∀ cls d σ' H' ms', Ext C.k H ms H' ms' → EnRep C H' ms' σ' v → StRep C H' ms' s → ExRep C H' ms' c xs cls d → W₀ cls d σ' H'
  | .stuck => False
def rdS (C : Cn) (F : Fs) (W₀ : WX) (c : S) : TS := fun D σ H => ∃ env st ms, EnRep C H ms σ env ∧ StRep C H ms st ∧ PostS C W₀ D H ms (evS F c env st)
theorem psW {X : Cx} {s : Stmt} {t t' : TS} (h : PS X s t) (k : ∀ D σ H, t' D σ H → t D σ H) : PS X s t' := ⟨fun pins s σ H D I q => h.run pins s σ H D I (k D σ H q)⟩
theorem pssW {X : Cx} {s : List Stmt} {t t' : TS} (h : PSs X s t) (k : ∀ D σ H, t' D σ H → t D σ H) : PSs X s t' := ⟨fun pins s σ H D I q => h.run pins s σ H D I (k D σ H q)⟩
section
variable {C : Cn} {F : Fs} {W₀ : WX} {X : Cx} {α : Type} {H H' : Hp} {ms ms' : List Addr} {σ : L2.St} {env : En} {st : Sto} {D : Ends}
theorem PostS.mono {o : Out} (x : Ext C.k H ms H' ms') (h : PostS C W₀ D H ms o) : PostS C W₀ D H' ms' o := by
  cases o with
  | nx v s => exact fun σ2 H2 ms2 x2 => h σ2 H2 ms2 (x.trans x2)
  | brk v s => exact fun σ2 H2 ms2 x2 => h σ2 H2 ms2 (x.trans x2)
  | cnt v s => exact fun σ2 H2 ms2 x2 => h σ2 H2 ms2 (x.trans x2)
  | ret w s => exact fun σ2 H2 ms2 x2 => h σ2 H2 ms2 (x.trans x2)
  | exc c xs v s => exact fun cls d σ2 H2 ms2 x2 => h cls d σ2 H2 ms2 (x.trans x2)
  | stuck => exact h
theorem PostS.out {r : Rs α} {f : α → Sto → Out} (en : EnRep C H ms σ env) (h : PostS C W₀ D H ms (r.out env f)) : Post C W₀ σ H ms r fun a st' H' ms' => PostS C W₀ D H' ms' (f a st') := by
  cases r with
  | ok a s =>
    have h : PostS C W₀ D H ms (f a s) := h
    exact fun H2 ms2 x2 s2 => h.mono x2
  | exc c xs s => exact fun cls d H2 ms2 x2 s2 e => h cls d σ H2 ms2 x2 (en.mono x2) s2 e
  | stuck => exact h
theorem PostS.of {o : Option En} (h : PostS C W₀ D H ms (Out.of o st)) : ∃ v, o = some v ∧ PostS C W₀ D H ms (.nx v st) := by
  cases o with
  | none => exact h.elim
  | some v => exact ⟨v, rfl, h⟩
/-- an expression within a statement -/
theorem rs_bind {c : E} {f : W → Sto → Out} {K : VK} (en : EnRep C H ms σ env) (sr : StRep C H ms st) (h : PostS C W₀ D H ms ((evE F.fe c env st).out env f))
    (k : ∀ v w st' H' ms', EnRep C H' ms' σ env → StRep C H' ms' st' → Ext C.k H ms H' ms' → WRep C H' ms' w v → PostS C W₀ D H' ms' (f w st') → K v H') : rdE C F.fe W₀ c σ H K :=
  ⟨env, st, ms, en, sr, (h.out en).imp fun w st' H' ms' x s' q v r => k v w st' H' ms' (en.mono x) s' x r q⟩
theorem rsB_bind {c : E} {f : Bool → Sto → Out} {K : Bool → Hp → Prop} (en : EnRep C H ms σ env) (sr : StRep C H ms st) (h : PostS C W₀ D H ms ((tst (evE F.fe c env st)).out env f))
    (k : ∀ b st' H' ms', EnRep C H' ms' σ env → StRep C H' ms' st' → Ext C.k H ms H' ms' → PostS C W₀ D H' ms' (f b st') → K b H') : rdB C F.fe W₀ c σ H K :=
  ⟨env, st, ms, en, sr, (h.out en).imp fun w st' H' ms' x s' q => k w st' H' ms' (en.mono x) s' x q⟩
theorem rsL_bind {c : E} {f : List W → Sto → Out} {K : List V → Hp → Prop} (en : EnRep C H ms σ env) (sr : StRep C H ms st) (h : PostS C W₀ D H ms ((evL F.fe c env st).out env f))
    (k : ∀ vs ws st' H' ms', EnRep C H' ms' σ env → StRep C H' ms' st' → Ext C.k H ms H' ms' → WReps C H' ms' ws vs → PostS C W₀ D H' ms' (f ws st') → K vs H') : rdL C F.fe W₀ c σ H K :=
  ⟨env, st, ms, en, sr, (h.out en).imp fun w st' H' ms' x s' q v r => k v w st' H' ms' (en.mono x) s' x r q⟩
/-! ### blocks, small statements -/
variable {e : Expr} {ca cb cc : E} {a b : List Stmt} {sa sb : S} {pos : Pos}
theorem ss_nil : PSs X [] (rdS C F W₀ .skip) := pssW pss_nil fun D σ H ⟨env, st, ms, en, sr, h⟩ => h σ H ms Ext.refl en sr
theorem ss_cons {s : Stmt} {ss : List Stmt} (h1 : PS X s (rdS C F W₀ sa)) (h2 : PSs X ss (rdS C F W₀ sb)) : PSs X (s :: ss) (rdS C F W₀ (.seq sa sb)) :=
  pssW (pss_cons h1 h2) fun D σ H ⟨env, st, ms, en, sr, h⟩ => by
    refine ⟨env, st, ms, en, sr, ?_⟩
    have h : PostS C W₀ D H ms ((evS F sa env st).andThen (evS F sb)) := h
    cases q : evS F sa env st with
    | nx v s =>
      rw [q] at h
      have h : PostS C W₀ D H ms (evS F sb v s) := h
      exact fun σ' H' ms' x en' sr' => ⟨v, s, ms', en', sr', h.mono x⟩
    | brk v s => rw [q] at h; exact h
    | cnt v s => rw [q] at h; exact h
    | ret w s => rw [q] at h; exact h
    | exc c xs v s => rw [q] at h; exact h
    | stuck => rw [q] at h; exact h
theorem sx_pass : PS X (.Pass pos) (rdS C F W₀ .skip) := psW ps_pass fun D σ H ⟨env, st, ms, en, sr, h⟩ => h σ H ms Ext.refl en sr
theorem sx_break : PS X (.Break pos) (rdS C F W₀ .brk) := psW ps_break fun D σ H ⟨env, st, ms, en, sr, h⟩ => h σ H ms Ext.refl en sr
theorem sx_continue : PS X (.Continue pos) (rdS C F W₀ .cnt) := psW ps_continue fun D σ H ⟨env, st, ms, en, sr, h⟩ => h σ H ms Ext.refl en sr
def nocomp : Expr → Bool
  | .ListComp _ _ _ _ => false
  | .SetComp _ _ _ _ => false
  | .DictComp _ _ _ _ _ => false
  | _ => true
theorem sw_off {e : Expr} {t : Option Expr} {l : Nat} {env : Env} (h : nocomp e = true) : swapsWith e t l env = pure false := by
  cases e <;> first | rfl | cases h
theorem sx_expr (he : PE X e (rdE C F.fe W₀ ca)) (hn : nocomp e = true) : PS X (.Expr e pos) (rdS C F W₀ (.ex ca)) :=
  psW (ps_expr he (sw_off hn)) fun D σ H ⟨env, st, ms, en, sr, h⟩ => rs_bind en sr h fun v w st' H' ms' en' sr' x r q => q σ H' ms' Ext.refl en' sr'
theorem sx_ret (he : PE X e (rdE C F.fe W₀ ca)) : PS X (.Return (some e) pos) (rdS C F W₀ (.ret ca)) :=
  psW (ps_ret he) fun D σ H ⟨env, st, ms, en, sr, h⟩ => rs_bind en sr h fun v w st' H' ms' en' sr' x r q => q v H' ms' Ext.refl sr' r
theorem sx_retn : PS X (.Return none pos) (rdS C F W₀ .retn) :=
  psW ps_retN fun D σ H ⟨env, st, ms, en, sr, h⟩ => h .non H ms Ext.refl sr rfl
theorem sx_if (hc : PT X e (rdB C F.fe W₀ cc)) (ha : PSs X a (rdS C F W₀ sa)) (hb : PSs X b (rdS C F W₀ sb)) : PS X (.If e a b pos) (rdS C F W₀ (.ifs cc sa sb)) :=
  psW (ps_if hc ha hb) fun D σ H ⟨env, st, ms, en, sr, h⟩ => rsB_bind en sr h fun k st' H' ms' en' sr' x q => by
    cases k with
    | true => exact ⟨env, st', ms', en', sr', q⟩
    | false => exact ⟨env, st', ms', en', sr', q⟩
/-! ### assignments -/
theorem sx_set {i : Nat} {x : Str} {pos' : Pos} (hN : X.N.Nodup) (hi : X.N[i]? = some x) (hx : Loc X.env.scope x) (hf : X.fn x = true ∨ X.env.scope.names.lookup x = some .local) (he : PE X e (rdE C F.fe W₀ ca)) (hs : swapsWith e (some (.Name x pos')) pos.line X.env = pure false) :
    PS X (.Assign [.Name x pos'] e pos) (rdS C F W₀ (.set (.nm i) ca)) :=
  psW (ps_set hN hi hx he hs hf) fun D σ H ⟨env, st, ms, en, sr, h⟩ => rs_bind en sr h fun v w st' H' ms' en' sr' x r q => by
    obtain ⟨v', ev, q⟩ := q.of
    exact q _ H' ms' Ext.refl (en'.put r ev) sr'
theorem tup_sw {e : Expr} {ts : List Expr} {k : Nat} {p : Pos} {l : Nat} {env : Env} : swapsWithSole [.Tuple ts k p] e l env = pure false := by
  show swapsWith e (some (.Tuple ts k p)) l env = pure false
  cases e <;> rfl
theorem sx_tup {ts : List Expr} {is : List Nat} {k : Nat} {p : Pos} (hK : X.K = C.K) (hc : X.calm = true) (hN : X.N.Nodup) (hn : NamesAt X ts is) (he : PE X e (rdE C F.fe W₀ ca)) (hw : swappedStores [.Tuple ts k p] e X.env = pure none) :
    PS X (.Assign [.Tuple ts k p] e pos) (rdS C F W₀ (.set (.tp is) ca)) :=
  psW (ps_asg he (sg_tp (C := C) hK hc hN hn) tup_sw hw rfl) fun D σ H ⟨env, st, ms, en, sr, h⟩ => rs_bind en sr h fun v w st' H' ms' en' sr' x r q => by
    obtain ⟨v', ev, q⟩ := q.of
    exact ⟨env, st', ms', w, v', en', sr', r, ev, fun σ' en2 _ _ => q σ' H' ms' Ext.refl en2 sr'⟩
theorem sx_setLc {i : Nat} {x : Str} {py : Pos} {elt tg iter : Expr} {ifs : List Expr} {scope : Scope} {own : List (Str × Nat)} {t : Tg} {cit celt : E} {new : Bool} {lpos : Pos} (hK : X.K = C.K) (hc : X.calm = true) (hN : X.N.Nodup) (hy : X.N[i]? = some x) (hyl : X.env.scope.names.lookup x = some .local)
    (hsw : swapsWith (.ListComp elt [⟨tg, iter, ifs, 0⟩] scope lpos) (some (.Name x py)) pos.line X.env = pure true) (hi : PI X tg iter (rdW C F.fe W₀ cit)) (ok : BlkOk X.N X.env.scope scope own)
    (hsl : ∀ i ∈ t.slots, i ∈ own.map (·.2))
    (hg : ∀ (s : Shared) (H : Hp) (A : Addr) (cl : List (Str × Addr)) (fp : List Addr), PG (X.blk s H scope (compEnvC scope cl A X.env) fp) tg (rdG C.up t))
    (ht : ∀ (s : Shared) (H : Hp) (A : Addr) (cl : List (Str × Addr)) (fp : List Addr), PTs (X.blk s H scope (compEnvC scope cl A X.env) fp) ifs (rdB C.up F.fe Wno cc))
    (he : ∀ (s : Shared) (H : Hp) (A : Addr) (cl : List (Str × Addr)) (fp : List Addr), PE (X.blk s H scope (compEnvC scope cl A X.env) fp) elt (rdE C.up F.fe Wno celt)) (hs : ∀ x, foldedSetIterable iter X.env x = pure x) :
    PS X (.Assign [.Name x py] (.ListComp elt [⟨tg, iter, ifs, 0⟩] scope lpos) pos) (rdS C F W₀ (.set (.nm i) (.comp new celt t cit cc (own.map (·.2))))) :=
  psW (ps_setLc hc hN hy hyl hsw hi ok hg ht he hs) fun D σ H ⟨env, st, ms, en, sr, h⟩ => by
    refine comp_rd (new := new) hsl (Q := fun v H1 => D.nx (σ.set i (some v)) H1) ?_
    exact rs_bind en sr h fun v w st' H' ms' en' sr' x r q => by
      obtain ⟨v', ev, q⟩ := q.of
      exact q _ H' ms' Ext.refl (en'.put r ev) sr'
/-! ### a, b = x, y -/
theorem sx_par2 {i j : Nat} {x y : Str} {e1 e2 : Expr} {px py pt : Pos} {kt k2 : Nat} {pt2 : Pos} (hc : X.calm = true) (hN : X.N.Nodup) (hi : X.N[i]? = some x) (hj : X.N[j]? = some y) (hij : i ≠ j) (hx : X.env.scope.names.lookup x = some .local) (hy : X.env.scope.names.lookup y = some .local)
    (ha : PA X [e1, e2] (rdL C F.fe W₀ ca)) (hw : swappedStores [.Tuple [.Name x px, .Name y py] kt pt] (.Tuple [e1, e2] k2 pt2) X.env = pure (some [x, y])) :
    PS X (.Assign [.Tuple [.Name x px, .Name y py] kt pt] (.Tuple [e1, e2] k2 pt2) pos) (rdS C F W₀ (.par [i, j] ca)) :=
  psW (ps_par hc hN hi hj hij hx hy ha hw tup_sw) fun D σ H ⟨env, st, ms, en, sr, h⟩ => rsL_bind en sr h fun vs ws st' H' ms' en' sr' x r q => by
    obtain ⟨v', ev, q9⟩ := q.of
    clear q
    cases r with
    | nil => cases ev
    | cons r1 r =>
      obtain ⟨env1, p1, ev⟩ := Option.bind_eq_some_iff.mp ev
      cases r with
      | nil => cases ev
      | cons r2 r =>
        obtain ⟨env2, p2, ev⟩ := Option.bind_eq_some_iff.mp ev
        cases r with
        | nil =>
          cases ev
          exact ⟨_, _, rfl, q9 _ H' ms' Ext.refl ((en'.put r1 p1).put r2 p2) sr'⟩
        | cons _ _ => cases ev
theorem sx_par3 {i j l : Nat} {x y z : Str} {e1 e2 e3 : Expr} {px py pz pt : Pos} {kt k2 : Nat} {pt2 : Pos} (hc : X.calm = true) (hN : X.N.Nodup) (hi : X.N[i]? = some x) (hj : X.N[j]? = some y) (hl : X.N[l]? = some z) (hij : i ≠ j) (hil : i ≠ l) (hjl : j ≠ l)
    (hx : X.env.scope.names.lookup x = some .local) (hy : X.env.scope.names.lookup y = some .local) (hz : X.env.scope.names.lookup z = some .local)
    (ha : PA X [e1, e2, e3] (rdL C F.fe W₀ ca)) (hw : swappedStores [.Tuple [.Name x px, .Name y py, .Name z pz] kt pt] (.Tuple [e1, e2, e3] k2 pt2) X.env = pure (some [x, y, z])) :
    PS X (.Assign [.Tuple [.Name x px, .Name y py, .Name z pz] kt pt] (.Tuple [e1, e2, e3] k2 pt2) pos) (rdS C F W₀ (.par [i, j, l] ca)) :=
  psW (ps_par3 hc hN hi hj hl hij hil hjl hx hy hz ha hw tup_sw) fun D σ H ⟨env, st, ms, en, sr, h⟩ => rsL_bind en sr h fun vs ws st' H' ms' en' sr' x r q => by
    obtain ⟨v', ev, q9⟩ := q.of
    clear q
    cases r with
    | nil => cases ev
    | cons r1 r =>
      obtain ⟨env1, p1, ev⟩ := Option.bind_eq_some_iff.mp ev
      cases r with
      | nil => cases ev
      | cons r2 r =>
        obtain ⟨env2, p2, ev⟩ := Option.bind_eq_some_iff.mp ev
        cases r with
        | nil => cases ev
        | cons r3 r =>
          obtain ⟨env3, p3, ev⟩ := Option.bind_eq_some_iff.mp ev
          cases r with
          | nil =>
            cases ev
            exact ⟨_, _, _, rfl, q9 _ H' ms' Ext.refl (((en'.put r1 p1).put r2 p2).put r3 p3) sr'⟩
          | cons _ _ => cases ev
/-! ### x op= e -/
theorem so_aug (o : O2) : PIp X (opOf o) (rBin C (aug2 o)) := by
  have base : ∀ {o}, aug2 o = (fun _ _ => none) → PIp X (opOf o) (rBin C (aug2 o)) := fun hz pins s σ H x y v u Q I rx ry ⟨ms, st, p, q, d, sr, n1, n2, e, k⟩ => by
    rw [hz] at e
    cases e
  have none_of : ∀ o, (o = .mul ∨ o = .fdiv ∨ o = .mod ∨ o = .pow) → aug2 o = fun _ _ => none := fun o ho => by
    funext x y
    rcases ho with rfl | rfl | rfl | rfl <;> rfl
  cases o with
  | mul => exact base (none_of _ (.inl rfl))
  | fdiv => exact base (none_of _ (.inr (.inl rfl)))
  | mod => exact base (none_of _ (.inr (.inr (.inl rfl))))
  | pow => exact base (none_of _ (.inr (.inr (.inr rfl))))
  | sub =>
    refine opW (f := inplaceOp .Sub) iop_sub fun x y H Q h => ?_
    obtain ⟨ms, st, p, q, d, sr, n1, n2, e, k⟩ := h
    simp only [aug2] at e
    split at e <;> (try contradiction)
    cases e
    rw [n1.int, n2.int]
    exact ⟨_, _, rfl, rfl, k H Ext.refl sr _ rfl⟩
  | add =>
    refine opW (f := inplaceOp .Add) (OpR.or iop_add iop_add_str) fun x y H Q h => ?_
    obtain ⟨ms, st, p, q, d, sr, n1, n2, e, k⟩ := h
    simp only [aug2] at e
    split at e <;> (try contradiction)
    · cases e
      rw [n1.int, n2.int]
      exact .inl ⟨_, _, rfl, rfl, k H Ext.refl sr _ rfl⟩
    · split at e
      · cases e
        rw [n1.str, n2.str]
        exact .inr ⟨_, _, rfl, rfl, LIM_le (by assumption), k H Ext.refl sr _ rfl⟩
      · cases e
theorem out_bind {β : Type} (r : Rs α) (g : α → Sto → Rs β) (v : En) (f : β → Sto → Out) : (r.bind g).out v f = r.out v fun a s => (g a s).out v f := by cases r <;> rfl
theorem PostS.rs {o : Option α} {f : α → Sto → Out} (en : EnRep C H ms σ env) (sr : StRep C H ms st) (h : PostS C W₀ D H ms ((Rs.of o st).out env f)) : ∃ a, o = some a ∧ PostS C W₀ D H ms (f a st) := by
  cases o with
  | none => exact h.elim
  | some a => exact ⟨a, rfl, h⟩
theorem sx_aug {i : Nat} {x : Str} {pos' : Pos} (hN : X.N.Nodup) (hi : X.N[i]? = some x) (hx : Loc X.env.scope x) (hf : X.fn x = true ∨ X.env.scope.names.lookup x = some .local) (o : O2) (he : PE X e (rdE C F.fe W₀ ca)) :
    PS X (.AugAssign (.Name x pos') (opOf o) e pos) (rdS C F W₀ (.aug i o ca)) :=
  psW (ps_aug hN hi hx he (so_aug (C := C) o) hf) fun D σ H ⟨env, st, ms, en, sr, h⟩ => by
    simp only [evS] at h
    split at h
    · rename_i w ew
      obtain ⟨v, ev, rv⟩ := en.at_ i w ew
      simp only [augR, Rs.bind, out_bind] at h
      have h : PostS C W₀ D H ms ((evE F.fe ca env st).out env fun y s => (Rs.of ((view s w).bind fun x => (view s y).bind fun y => (aug2 o x y).map W.d) s).out env fun w s => .of (putS env i w) s) := by
        rw [← out_bind]
        exact h
      refine ⟨v, ev, rs_bind en sr h fun y w2 st' H' ms' en' sr' x2 r2 q => ?_⟩
      obtain ⟨z, ez, q⟩ := q.rs en' sr'
      obtain ⟨p, ep, ez⟩ := Option.bind_eq_some_iff.mp ez
      obtain ⟨p2, ep2, ez⟩ := Option.bind_eq_some_iff.mp ez
      obtain ⟨d, ed, rfl⟩ := Option.map_eq_some_iff.mp ez
      obtain ⟨env', ee, q⟩ := q.of
      exact ⟨ms', st', p, p2, d, sr', (rv.mono x2).now sr' ep, r2.now sr' ep2, ed, fun H2 x3 s3 v3 r3 => q _ H2 ms' x3 ((en'.mono x3).put (w := .d d) r3 ee) s3⟩
    · exact h.elim
/-! ### o[i] = x, o[i] op= x -/
theorem list_get : PGet X (fun o i H Q => ∃ p xs k v, o = .ref p ∧ i = .int k ∧ SqL X.K H p xs ∧ atI xs k = some v ∧ Q v H) := by
  intro pins s σ H o i ov iv Q I ro ri h
  obtain ⟨p, xs, k, z, rfl, rfl, hq, he, q⟩ := h
  cases ro
  obtain ⟨t, rfl⟩ := ri
  obtain ⟨its, r, pl, hz⟩ := I.list hq
  obtain ⟨j, h1, h2, h3, h4, h5⟩ := atI_get he
  obtain ⟨w, ew, rw'⟩ := r.get h2
  have hl := r.length
  have hn := line63
  have fin : EP X pins σ Q w s := ⟨z, H, I, rw', q⟩
  by_cases h0 : 0 ≤ k
  · have hj : k.toNat = j := by
      rw [seqIndex_of h0 h5] at h1
      exact Option.some.inj h1
    exact wpAny_getItem_list pl.isList h0 (by omega) (by rw [hj]; simpa using ew) fin
  · have hj : (k + (its.toArray.size : Int)).toNat = j := by
      rw [seqIndex_neg (by omega) h4] at h1
      rw [List.size_toArray, ← hl]
      exact Option.some.inj h1
    exact wpAny_getItem_list_neg pl.isList (by omega) (by rw [List.size_toArray] <;> omega) (by omega) (by rw [hj]; simpa using ew) fin
theorem setD_of {n : Nat} {i x : PD} {s s' : Sto} (h : setD n i x s = some s') : ∃ l k j, s[n]? = some (.lst l) ∧ i = .int k ∧ ixN l.length k = some j ∧ s' = s.set n (.lst (l.set j x)) := by
  unfold setD at h
  split at h
  · obtain ⟨j, e, rfl⟩ := Option.map_eq_some_iff.mp h
    exact ⟨_, _, j, by assumption, rfl, e, rfl⟩
  · cases h
theorem set_post {n : Nat} {i x : PD} {o iv xv : V} {s' : Sto} {Q : Hp → Prop} (sr : StRep C H ms st) (ro : WRep C H ms (.ref n) o) (hi : Now C.K H ms i iv) (rx : Rep C.K H ms x xv) (e : setD n i x st = some s')
    (q : ∀ H', Ext C.k H ms H' ms → StRep C H' ms s' → Q H') : rSetL o iv xv H Q := by
  obtain ⟨l, k, j, hl, rfl, hj, rfl⟩ := setD_of e
  obtain ⟨a, ha, rfl⟩ := ro
  obtain ⟨vs, hv, rr⟩ := sr.ob n a _ ha hl
  refine ⟨a, vs, k, j, rfl, hi.int, hv, by rw [rr.length]; exact hj, q _ (Ext.write sr ha (lst_nofrz hv)) (sr.write ha hv (rr.set j rx))⟩
theorem sx_augi {o i : Expr} {co ci : E} {q : O2} {tpos : Pos} (hK : X.K = C.K) (ho : PE X o (rdE C F.fe W₀ co)) (hi : PE X i (rdE C F.fe W₀ ci)) (he : PE X e (rdE C F.fe W₀ ca)) (hns : noslice i = true) :
    PS X (.AugAssign (.Subscript o i tpos) (opOf q) e pos) (rdS C F W₀ (.augi co ci q ca)) :=
  psW (ps_augS ho hi list_get he (so_aug (C := C) q) set_list (by cases i <;> first | (intros; rfl) | cases hns)) fun D σ H ⟨env, st, ms, en, sr, h⟩ =>
    rs_bind en sr h fun ov wo st1 H1 ms1 en1 sr1 e1 r1 h1 => rs_bind en1 sr1 h1 fun iv wi st2 H2 ms2 en2 sr2 e2 r2 h2 => by
      have r1 := r1.mono e2
      obtain ⟨x, ex, h3⟩ := h2.rs en2 sr2
      have : ∃ n k l, wo = .ref n ∧ view st2 wi = some (.int k) ∧ st2[n]? = some (.lst l) ∧ ((L2.ixN l.length k).bind fun j => l[j]?) = some x := by
        revert ex
        unfold getA
        split
        · split
          · exact fun ex => ⟨_, _, _, rfl, by assumption, by assumption, ex⟩
          · nofun
        · nofun
      obtain ⟨n, k, l, rfl, ek, el, ex⟩ := this
      obtain ⟨j, ej, ex⟩ := Option.bind_eq_some_iff.mp ex
      have hi := r2.now sr2 ek
      obtain ⟨a, ha, rfl⟩ := r1
      obtain ⟨vs, hv, rr⟩ := sr2.ob n a _ ha el
      obtain ⟨xv, exv, rx⟩ := rr.get ex
      refine ⟨a, vs, k, xv, rfl, hi.int, by rw [hK]; exact SqL.of hv, ?_, ?_⟩
      · unfold atI
        rw [rr.length, ej]
        exact exv
      · refine rs_bind en2 sr2 h3 fun yv wy st3 H3 ms3 en3 sr3 e3 r3 h4 => ?_
        obtain ⟨z, ez, h5⟩ := h4.rs en3 sr3
        obtain ⟨y, ey, ez⟩ := Option.bind_eq_some_iff.mp ez
        have rx3 := Rep.mono e3 _ _ rx
        refine ⟨ms3, st3, x, y, z, sr3, WRep.now (w := .d x) sr3 rx3 rfl, r3.now sr3 ey, ez, fun H4 e4 sr4 zv rz => ?_⟩
        have h5 : PostS C W₀ D H3 ms3 (Out.ofS env ((view st3 wi).bind fun i => setD n i z st3)) := h5
        cases q : (view st3 wi).bind fun i => setD n i z st3 with
        | none => rw [q] at h5; exact h5.elim
        | some s' =>
          rw [q] at h5
          obtain ⟨pi, epi, q⟩ := Option.bind_eq_some_iff.mp q
          exact set_post sr4 (WRep.mono (w := .ref n) e4 (WRep.mono (w := .ref n) e3 ⟨a, ha, rfl⟩)) (((r2.mono e3).mono e4).now sr4 epi) rz q fun H' x' s2 => h5 σ H' ms3 (e4.trans x') ((en3.mono e4).mono x') s2
/-! ### loops -/
theorem sx_while {b : List Stmt} (hp : PassesOwn (model X.prog X.w) X.A X.env X.xe) (hc : PT X e (rdB C F.fe W₀ cc)) (hb : PSs X b (rdS C F W₀ sb)) : PS X (.While e b [] pos) (rdS C F W₀ (.whl cc sb)) :=
  psW (ps_while hp hc hb) fun D σ H ⟨env, st, ms, en, sr, h⟩ => by
    refine ⟨fun m σ H => ∃ env st ms, EnRep C H ms σ env ∧ StRep C H ms st ∧ PostS C W₀ D H ms (whlL (fun v s => tst (evE F.fe cc v s)) (evS F sb) m env st), ⟨TURNS, env, st, ms, en, sr, h⟩, ?_⟩
    rintro m σ H ⟨env, st, ms, en, sr, h⟩
    cases m with
    | zero => exact h.elim
    | succ m =>
      refine rsB_bind (f := fun b s => if b then match evS F sb env s with
        | .nx v s => whlL (fun v s => tst (evE F.fe cc v s)) (evS F sb) m v s
        | .cnt v s => whlL (fun v s => tst (evE F.fe cc v s)) (evS F sb) m v s
        | .brk v s => .nx v s
        | o => o
        else .nx env s) en sr h fun b st1 H1 ms1 en1 sr1 e1 h1 => ?_
      cases b with
      | false =>
        rw [if_neg Bool.false_ne_true] at h1 ⊢
        exact h1 σ H1 ms1 Ext.refl en1 sr1
      | true =>
        rw [if_pos rfl] at h1 ⊢
        refine ⟨_, fun σ' H' h' => ⟨m, Nat.lt_succ_self m, h'⟩, env, st1, ms1, en1, sr1, ?_⟩
        cases q : evS F sb env st1 with
        | nx v s =>
          rw [q] at h1
          exact fun σ' H' ms' x en' sr' => ⟨v, s, ms', en', sr', PostS.mono x h1⟩
        | cnt v s =>
          rw [q] at h1
          exact fun σ' H' ms' x en' sr' => ⟨v, s, ms', en', sr', PostS.mono x h1⟩
        | brk v s => rw [q] at h1; exact h1
        | ret w s => rw [q] at h1; exact h1
        | exc c xs v s => rw [q] at h1; exact h1
        | stuck => rw [q] at h1; exact h1
theorem sx_for {b : List Stmt} {tg iter : Expr} {t : Tg} (hp : PassesOwn (model X.prog X.w) X.A X.env X.xe) (hc : X.calm = true) (hi : PI X tg iter (rdW C F.fe W₀ ca)) (hg : PG X tg (rdG C t)) (hb : PSs X b (rdS C F W₀ sb))
    (hs : ∀ x, foldedSetIterable iter X.env x = pure x) : PS X (.For tg iter b [] pos) (rdS C F W₀ (.for t ca sb)) :=
  psW (ps_for hp hc hi hg hb hs) fun D σ H ⟨env, st, ms, en, sr, h⟩ => by
    refine ⟨env, st, ms, en, sr, (h.out en).imp fun p st1 H1 ms1 x1 sr1 h1 J wk => ?_⟩
    obtain ⟨ds, g⟩ := p
    have en1 := en.mono x1
    let f : PD → En → Sto → Out := turnS t (evS F sb)
    have h1 : PostS C W₀ D H1 ms1 (forL (kept g) f ds env st1) := h1
    refine ⟨fun i m σ H => i ≤ ds.length ∧ m = ds.length - i ∧ ∃ env st ms, Ext C.k H1 ms1 H ms ∧ EnRep C H ms σ env ∧ StRep C H ms st ∧ PostS C W₀ D H ms (forL (kept g) f (ds.drop i) env st), ⟨ds.length, Nat.zero_le _, (Nat.sub_zero _).symm, env, st1, ms1, Ext.refl, en1, sr1, h1⟩, ?_⟩
    rintro i m σ H ⟨hi, rfl, env, st, ms, x2, en, sr, h⟩
    have seen : kept g st = true → Seen C H1 ms1 g C.k H ms st := fun hg => ⟨x2.sub, fun n a ha => x2.get ha, sr, hg, x2.frz⟩
    rcases Nat.lt_or_ge i ds.length with hlt | hge
    · right
      have ed : ds.drop i = ds[i] :: ds.drop (i + 1) := List.drop_eq_getElem_cons hlt
      rw [ed] at h
      unfold forL at h
      split at h
      · rename_i hg1
        have sn := seen hg1
        have edi : ds[i]? = some ds[i] := List.getElem?_eq_getElem hlt
        refine ⟨wk.go i _ _ _ _ _ sn edi, _, fun σ2 H2 h2 => ⟨ds.length - (i + 1), by omega, h2⟩, fun x H2 y => ?_⟩
        obtain ⟨x3, s3, r3, k3⟩ := wk.yld i _ _ _ _ _ x H2 sn edi y
        have x3 : Ext C.k H ms H2 ms := x3
        cases ev : putT t (.d ds[i]) st env with
        | none =>
          simp only [f, turnS, ev] at h
          exact h.elim
        | some v' =>
          simp only [f, turnS, ev] at h
          refine ⟨env, st, ms, .d ds[i], v', en.mono x3, s3, r3, ev, fun σ' en' _ _ => ⟨v', st, ms, en', s3, ?_⟩⟩
          have h := PostS.mono x3 h
          have turn : ∀ {v s} {H3 : Hp} {ms3 : List Addr} {σ3 : L2.St}, PostS C W₀ D H2 ms (forL (kept g) f (ds.drop (i + 1)) v s) → Ext C.k H2 ms H3 ms3 → EnRep C H3 ms3 σ3 v → StRep C H3 ms3 s →
              i + 1 ≤ ds.length ∧ ds.length - (i + 1) = ds.length - (i + 1) ∧ ∃ env st ms, Ext C.k H1 ms1 H3 ms ∧ EnRep C H3 ms σ3 env ∧ StRep C H3 ms st ∧ PostS C W₀ D H3 ms (forL (kept g) f (ds.drop (i + 1)) env st) := fun {v s H3 ms3 σ3} h x en sr =>
            ⟨hlt, rfl, v, s, ms3, (x2.trans x3).trans x, en, sr, h.mono x⟩
          cases q : evS F sb v' st with
          | nx v s =>
            rw [q] at h
            exact fun σ3 H3 ms3 x en sr => turn h x en sr
          | cnt v s =>
            rw [q] at h
            exact fun σ3 H3 ms3 x en sr => turn h x en sr
          | brk v s => rw [q] at h; exact h
          | ret w s => rw [q] at h; exact h
          | exc c xs v s => rw [q] at h; exact h
          | stuck => rw [q] at h; exact h
      · exact h.elim
    · left
      have e : i = ds.length := Nat.le_antisymm hi hge
      rw [e, List.drop_length] at h
      unfold forL at h
      split at h
      · rename_i hg1
        exact ⟨wk.stop i _ _ _ _ (seen hg1) hge, h σ H ms Ext.refl en sr⟩
      · exact h.elim
end
end Mini

set_option Elab.async false
set_option linter.all false
set_option maxRecDepth 100000
set_option maxHeartbeats 2000000
/-! Mini, part S: error classes whose __init__ hands its arguments up and keeps two of them as fields. -/
namespace Mini
open PySem PySem.Spec PySem.Calls PyProof.Rows L2
/-- the text of such an __init__ -/
structure Init2 (stm : Stmt) (n1 n2 : Str) : Prop where
  body : ∃ q1 q2 q3 q4 q5 q6 q7 q8 q9 r1 r2 r3 r4 r5 r6, (q3.endLine == q6.line) = true ∧ defBody stm = [.Expr (.Call (.Attribute (.Call (.Name "super" q1) [] [] q2) "__init__" q3) [.Name n1 q4, .Name n2 q5] [] q6) q7,
    .Assign [.Attribute (.Name "self" q8) n1 q9] (.Name n1 r1) r2, .Assign [.Attribute (.Name "self" r3) n2 r4] (.Name n2 r5) r6]
  bind : ∀ (name qual : Str) (doc pm : Value) (an : Option Addr) (cdv ct : Value) (cc : Addr) (a b c : Value), bindArgs (PySem.W.ksFn name qual (defArgs stm) (defBody stm) (defScope stm) .none .none doc pm an cdv ct cc) ⟨[a, b, c], []⟩ = pure [(("self" : Str), a), (n1, b), (n2, c)]
  first : ∃ ar, ((defArgs stm).posonlyargs ++ (defArgs stm).args).head? = some ar ∧ ar.arg = "self"
  kind : (defScope stm).kind = .function
  co : (defScope stm).isCoroutine = false
  gen : (defScope stm).isGenerator = false
  nocell : ∀ x ∈ (defScope stm).names, x.2 ≠ .cell
  sup : (defScope stm).names.lookup ("super" : Str) = some .globalImplicit
  cls : (defScope stm).names.lookup ("__class__" : Str) = some .free
  self : (defScope stm).names.lookup ("self" : Str) = some .local
  l1 : (defScope stm).names.lookup n1 = some .local
  l2 : (defScope stm).names.lookup n2 = some .local
  d1 : (n1 == ("__debug__" : Str)) = false
  d2 : (n2 == ("__debug__" : Str)) = false
  ne1 : n1 ≠ "self"
  ne2 : n2 ≠ "self"
  ne : n1 ≠ n2
/-- what the written part tells of the class at C, its __init__ at fI, its cell at cc -/
structure Er2 (K : PySem.W.Frag) (prog : Program) (mg : Str → Option Value) (C cc cda fI : Addr) (x : Str) (stm : Stmt) (qual : Str) (n1 n2 : Str) : Prop where
  gC : mg x = some (.ref C)
  gs : mg "super" = none
  oex : OexC K C
  iC : PySem.W.findIn K (.ref C) "__init__" = some (some (.ref fI))
  tI : PySem.W.typeIn K (.ref fI) = some (.type "function")
  f1 : PySem.W.findIn K (.ref C) n1 = some none
  f2 : PySem.W.findIn K (.ref C) n2 = some none
  fn : ∃ (oc : Value) (od : Option Addr) (doc pm : Value) (an : Option Addr) (ct : Value) (osl : Array (Option Value)), K.lookup fI = some ⟨oc, od, .func (PySem.W.ksFn "__init__" qual (defArgs stm) (defBody stm) (defScope stm) .none .none doc pm an (.ref cda) ct cc), osl⟩
  code : PySem.W.codeIn K (.ref cda) qual = true
  file : ∃ ccl cdd vs ccs fl tf, K.lookup cda = some ⟨ccl, cdd, .fields vs, ccs⟩ ∧ vs[2]? = some (.str fl tf) ∧ ((prog.main.file : Str) == fl) = true
  cell : ∃ cl cld csl, K.lookup cc = some ⟨cl, cld, .cell (some (.ref C)), csl⟩
  top : (prog.main.scope.names.lookup ("super" : Str)).isSome = false
  opq : PySem.W.nsIn K cStatics "thirdparty.any" = some none
  sIn : PySem.W.ks_superIn K C C "__init__" = some (some (.builtin "ValueError.__init__"))
  sB : PySem.W.subIn K (.ref C) (.type "ValueError") = some true
  txt : Init2 stm n1 n2
section
variable {prog : Program} {w : World} {A : Around} {E : Value → Shared → Prop} {R : Result → Shared → Prop} {K : PySem.W.Frag} {mg mb : Str → Option Value} {C cc cda fI : Addr} {x : Str} {stm : Stmt} {qual n1 n2 : Str}
variable {h : Heap} {g : Array GenState} {d : Drawn} {t : Nat} {os : OsState}
/-- the built-in __init__, bound: called, it lays the arguments anew -/
theorem bound_call {u e t0 : Addr} {rest : List Value} {Q : Value → Shared → Prop} (T : OexC K C) (X : K.In h) (he : h.get? e = some (HandSPX.excO C t0)) (hu : h.get? u = some (PySem.W.kxs_mw "ValueError.__init__" e)) (hz : rest.length ≤ sizeLine)
    (hq : ∀ h' t1, (∀ b o, b ≠ e → h.get? b = some o → h'.get? b = some o) → h'.get? e = some (HandSPX.excO C t1) → Q .none ⟨h', g, d, t, os⟩) : wpAny (model prog w) A (call (.ref u) rest) Q E ⟨h, g, d, t, os⟩ := by
  obtain ⟨nm, q, N, bs, bm, sn, sub, ab, col, dd, k0, k1, k2, k3, k5, hC, hbm⟩ := T.cls
  have FB := F.excBase_ValueError
  refine wpAny_call (codeAny_of_tree ?_)
  show wpAny _ A.in1 (callAny (.ref u) ⟨rest, []⟩) _ _ _
  simp only [callAny]
  refine wpAny_bind (wpAny_load hu ?_)
  have e1 : (Value.type "method-wrapper" == Value.type "method" || Value.type "method-wrapper" == Value.type "builtin_function_or_method" || Value.type "method-wrapper" == Value.type "method-wrapper") = true := by decide
  simp only [PySem.W.kxs_mw, e1, if_true]
  refine PySem.W.KFB.if_so (by decide) ?_
  refine wpAny_bind (PySem.W.check_bound_init FB.toExcCallFacts (X _ _ hC) he rfl ?_)
  refine wpAny_bind (wpAny_pure (wpAny_pure ?_))
  refine ⟨plainId_quiet FB.init.plain _, codeAny_builtin FB.initEntry ?_⟩
  rw [Around.under_plainId FB.init.plain _]
  exact PySem.W.exc_init_tree (cls := .ref C) (t0 := t0) (dv := none) (c2 := .none) (c3 := .none) (b4 := .bool false) he hz fun h' k e' _ => hq h' _ k e'
/-- what __init__ leaves of a fresh error at e -/
structure Left2 (h h' : Heap) (e C dx t1 : Addr) (n1 n2 : Str) (a b : Value) : Prop where
  keep : ∀ y o, y ≠ e → h.get? y = some o → h'.get? y = some o
  obj : h'.get? e = some { cls := .ref C, dict := some dx, data := .fields #[.ref t1, .none, .none, .none, .bool false, .none] }
  dbig : h.objs.size ≤ dx
  dne : dx ≠ e
  ns : ∃ m, h'.Ns1 dx m ∧ m n1 = some a ∧ m n2 = some b ∧ ∀ y, y ≠ n1 → y ≠ n2 → m y = none
theorem ld_arg {s : Shared} {env : Env} {m : Str → Option Value} {y : Str} {pos : Pos} {v : Value} {Q : Value → Shared → Prop} (hn : s.heap.Ns env.locals m) (hv : m y = some v) (hk : env.scope.kind = .function) (hl : env.scope.names.lookup y = some .local) (hd : (y == ("__debug__" : Str)) = false) (hq : Q v s) :
    wpAny (model prog w) A (eval (.Name y pos) env) Q E s := wpAny_Name (wpAny_loadName_local hk hl hn hv hq) hd
theorem init2_run (T : Er2 K prog mg C cc cda fI x stm qual n1 n2) {s : Shared} {e t0 : Addr} {a b : Value} (X : K.In s.heap) (hg : s.heap.Ns mainGlobals mg) (hb : s.heap.Ns builtinsNs mb) (hbb : ∀ y : Str, y ≠ "__name__" → mb y = bootBuiltins y) (hlim : s.heap.NoLimit)
    (he : s.heap.get? e = some (HandSPX.excO C t0)) (hne : K.lookup e = none) (hroom : A.depth < recursionLimit) (hq : ∀ h' tk dx t1, Left2 s.heap h' e C dx t1 n1 n2 a b → R (.ok (.ret .none)) { s with heap := h', toks := tk }) :
    codeAny (model prog w) A (.call (.ref fI) ⟨[.ref e, a, b], []⟩) R s := by
  obtain ⟨oc, od, doc, pm, an, ct, osl, ho⟩ := T.fn
  obtain ⟨q1, q2, q3, q4, q5, q6, q7, q8, q9, r1, r2, r3, r4, r5, r6, hline, hbody⟩ := T.txt.body
  obtain ⟨ar, har, hself⟩ := T.txt.first
  obtain ⟨ccl, cdd, vs, ccs, fl, tf, hcda, hvs, hfl⟩ := T.file
  obtain ⟨cl, cld, csl, hcc⟩ := T.cell
  obtain ⟨nm, q, N, bs, bm, sn, sub, ab, col, dd, k0, k1, k2, k3, k5, hC, hbm⟩ := T.oex.cls
  have hcl : PySem.W.clsIn K C = some { name := nm, bases := bs, mro := .ref C :: bm, ns := N, qualname := q, hasDict := true, slotNames := sn, subclasses := sub, abstract := ab, collection := col, hasDel := false } := by
    unfold PySem.W.clsIn
    rw [hC] <;> rfl
  refine ks_codeAny_call_defAt (body := defBody stm) (binds := [(("self" : Str), .ref e), (n1, a), (n2, b)]) hroom (X _ _ ho) rfl hlim (PySem.W.codeRec_of X T.code) rfl (BindsTo.of_eq (T.txt.bind ..)) T.txt.nocell (fun y hy => ?_) (fun h1 hns k1 => ?_) T.txt.co T.txt.gen T.txt.kind
  · simp only [List.mem_cons, List.not_mem_nil, or_false] at hy
    rcases hy with rfl | rfl | rfl
    · exact T.txt.self
    · exact T.txt.l1
    · exact T.txt.l2
  obtain ⟨env, henv⟩ : ∃ env, env = callEnv (PySem.W.ksFn "__init__" qual (defArgs stm) (defBody stm) (defScope stm) .none .none doc pm an (.ref cda) ct cc) s.heap.objs.size fI := ⟨_, rfl⟩
  rw [← henv]
  have eL : env.locals = s.heap.objs.size := by rw [henv]; rfl
  have eS : env.scope = defScope stm := by rw [henv]; rfl
  have eG : env.globals = mainGlobals := by rw [henv]; rfl
  have eB : env.builtins = builtinsNs := by rw [henv]; rfl
  have eC : env.cells = [(("__class__" : Str), cc)] := by rw [henv]; rfl
  have eF : env.func = some fI := by rw [henv]; rfl
  have eD : env.code = .ref cda := by rw [henv]; rfl
  have sne : e ≠ s.heap.objs.size := Nat.ne_of_lt (Heap.lt_size he)
  -- the names
  have m0 : ([(("self" : Str), Value.ref e), (n1, a), (n2, b)].reverse.lookup ("self" : Str)) = some (.ref e) := by
    have z1 : (("self" : Str) == n2) = false := by simpa using fun z : ("self" : Str) = n2 => T.txt.ne2 z.symm
    have z2 : (("self" : Str) == n1) = false := by simpa using fun z : ("self" : Str) = n1 => T.txt.ne1 z.symm
    simp [List.lookup, z1, z2]
  have m1 : ([(("self" : Str), Value.ref e), (n1, a), (n2, b)].reverse.lookup n1) = some a := by
    have z1 : (n1 == n2) = false := by simpa using T.txt.ne
    simp [List.lookup, z1]
  have m2 : ([(("self" : Str), Value.ref e), (n1, a), (n2, b)].reverse.lookup n2) = some b := by simp [List.lookup]
  generalize hm : (fun y => [(("self" : Str), Value.ref e), (n1, a), (n2, b)].reverse.lookup y) = m at hns
  have m0 : m "self" = some (.ref e) := by rw [← hm]; exact m0
  have m1 : m n1 = some a := by rw [← hm]; exact m1
  have m2 : m n2 = some b := by rw [← hm]; exact m2
  obtain ⟨h0, g0, d0, t0', os0⟩ := s
  have hkind : env.scope.kind = .function := by rw [eS]; exact T.txt.kind
  have ld : ∀ {y : Str} {v : Value} {h' : Heap} {tk : Nat} {pos : Pos} {Q : Value → Shared → Prop} {E : Value → Shared → Prop} {A : Around}, h'.Ns h0.objs.size m → m y = some v → (defScope stm).names.lookup y = some .local → (y == ("__debug__" : Str)) = false → Q v ⟨h', g0, d0, tk, os0⟩ →
      wpAny (model prog w) A (eval (.Name y pos) env) Q E ⟨h', g0, d0, tk, os0⟩ := fun {y v h' tk pos Q E A} hn hv hl hd hq => ld_arg (by rw [eL]; exact hn) hv hkind (by rw [eS]; exact hl) hd hq
  rw [hbody]
  have X1 : K.In h1 := X.keeps k1
  have hC1 := X1 _ _ hC
  have he1 := k1 _ _ he
  have neC : e ≠ C := fun z => by rw [z, hC] at hne; cases hne
  have mro1 : PySem.W.mroIn K C (.ref C) = some true := by
    unfold PySem.W.mroIn
    rw [hcl, Option.bind_some, if_neg (show ¬ (List.isEmpty (Value.ref C :: bm) = true) from Bool.false_ne_true), List.contains_cons, beq_self_eq_true]
    rfl
  have hev : eval (.Call (.Attribute (.Call (.Name "super" q1) [] [] q2) "__init__" q3) [.Name n1 q4, .Name n2 q5] [] q6) env = (do
      let ov ← attributeBase (.Call (.Name "super" q1) [] [] q2) "__init__" env (eval (.Call (.Name "super" q1) [] [] q2) env)
      standAt q3.atName
      let (f, first) ← holding [ov] (getMethod ov "__init__" (do return (← importBound (.Call (.Name "super" q1) [] [] q2) env).getD true))
      callWith q6 f first (backTo q6 (starEach [.Name n1 q4, .Name n2 q5] env)) []) := by
    rw [arm_eval_Call]
    have e1 : methodCallForm ([Expr.Name n1 q4, Expr.Name n2 q5].length + ([] : List Keyword).length) (backTo q6 (starEach [.Name n1 q4, .Name n2 q5] env)) (backToKw q6 (keywordEach [] env)) = true := rfl
    simp only [methodCall, e1, calleeOf, methodCallPos, hline, Bool.not_true, Bool.false_or, if_true, pure_bind]
    rfl
  refine ks_wpAt_execs_cons (ks_wpAt_Expr_any (ks_wpAt_MethodCall (he := hev) (ks_wpAt_super_base (by show env.scope.names.lookup _ = _; rw [eS]; exact T.txt.sup) (by show env.scope.names.lookup _ = _; rw [eS]; exact T.txt.cls) (by decide) eF (X1 _ _ ho) rfl har eD (X1 _ _ hcda) rfl hvs hfl T.top ?_)) (by unfold interactive; rw [hkind]; rfl) rfl)
  refine PySem.W.ks_loadName_global hkind (by show env.scope.names.lookup _ = _; rw [eS]; exact T.txt.sup) (loadGlobal_builtin (mg := mg) (mb := mb) (by rw [eG]; exact hg.keeps k1) T.gs (by rw [eB]; exact hb.keeps k1) ((hbb _ (by decide +kernel)).trans (by first | boot_by_name | rfl | kernel_rfl)) ⟨rfl, ?_⟩)
  refine wpAny_loadName_free (c := cc) hkind (by show env.scope.names.lookup _ = _; rw [eS]; exact T.txt.cls) (by rw [eC]; rfl) ⟨_, X1 _ _ hcc, rfl⟩ ?_
  rw [hself]
  refine wpAny_loadName_local hkind (by show env.scope.names.lookup _ = _; rw [eS]; exact T.txt.self) (by rw [eL]; exact hns) m0 ?_
  refine ks_wpAny_isType_cls hC1 rfl ⟨rfl, ?_⟩
  refine ks_wpAny_call_super hC1 rfl he1 rfl (fun c z => by cases z) (PySem.W.looks_mroIn X1 mro1) (fun h2 so k2 => ?_)
  have X2 : K.In h2 := X1.keeps k2
  have he2 := k2 _ _ he1
  have I2 : PySem.W.InstAt h2 e (HandSPX.excO C t0) C none := ⟨he2, rfl, rfl, trivial⟩
  have hI : PySem.W.Looks (model prog w) h2 (isInstance (.ref e) (.type "ValueError")) true := I2.type.andThen (PySem.W.looks_subIn X2 T.sB)
  have hf : PySem.W.alongIn K "__init__" (((Value.ref C :: bm).dropWhile (· != .ref C)).drop 1) = some (some (.builtin "ValueError.__init__")) := by
    have z := T.sIn
    unfold PySem.W.ks_superIn at z
    rw [hcl, Option.bind_some] at z
    exact z
  refine PySem.W.kxs_getMethod PySem.W.kxs_ValueError so (PySem.W.looks_opaque X2 T.opq) (l₀ := Value.ref C :: bm) ((PySem.W.looks_clsIn X2 hcl).andThen .now) rfl X2 hf hI neC (by decide) ?_
  have k3 : ∀ y o, h2.get? y = some o → (h2.push (PySem.W.kxs_mw "ValueError.__init__" e)).get? y = some o := fun y o z => Heap.get?_push_of_some _ z
  have hu : (h2.push (PySem.W.kxs_mw "ValueError.__init__" e)).get? h2.objs.size = some (PySem.W.kxs_mw "ValueError.__init__" e) := Heap.get?_push_at rfl rfl
  have X3 := X2.keeps k3
  have he3 := k3 _ _ he2
  have hns3 := (hns.keeps k2).keeps k3
  have hst : starEach [.Name n1 q4, .Name n2 q5] env = [(false, eval (.Name n1 q4) env), (false, eval (.Name n2 q5) env)] := rfl
  refine PySem.W.kxs_callWith (i := "ValueError.__init__") (x := e) (by rw [hst]; rfl) ?_
  rw [hst]
  refine evalArgs_plain (spliced_cons (ld hns3 m1 T.txt.l1 T.txt.d1 (spliced_cons (ld hns3 m2 T.txt.l2 T.txt.d2 (spliced_nil ⟨hu, ?_⟩)))))
  refine bound_call T.oex X3 he3 hu (by show 2 ≤ sizeLine; rw [sizeLine_eq]; omega) fun h4 t1 k4 he4 => ?_
  have neL : h0.objs.size ≠ e := fun z => sne z.symm
  have hns4 : h4.Ns h0.objs.size m := hns3.at fun o z => k4 _ o neL z
  have X4 : K.In h4 := fun y o z => k4 y o (fun w => by rw [w, hne] at z; cases z) (X3 y o z)
  -- the two fields
  refine wpAt_of_wpAny (wpAny_execs_cons (plainObj_wpAny_Assign_Attribute ?_))
  refine ld hns4 m1 T.txt.l1 T.txt.d1 (ld hns4 m0 T.txt.self (by decide) ?_)
  refine PySem.W.set_plain X4 (ox := HandSPX.excO C t1) (od := none) ⟨he4, rfl, rfl, trivial⟩ T.oex.sa ?_
  refine HandSPX.exc_osa X4 he4 hcl (show HandSPX.refsVE (.ref C :: bm) = true from hbm) rfl T.f1 (fun h5 tk5 dx k5 dn dne he5 hn5 => ?_)
  have hns5 : h5.Ns h0.objs.size m := hns4.at fun o z => k5 _ o neL z
  have X5 : K.In h5 := fun y o z => k5 y o (fun w => by rw [w, hne] at z; cases z) (X4 y o z)
  refine wpAny_execs_cons (plainObj_wpAny_Assign_Attribute ?_)
  refine ld hns5 m2 T.txt.l2 T.txt.d2 (ld hns5 m0 T.txt.self (by decide) ?_)
  have hw : Within (fun y => if y = n1 then some a else none) [n1] := fun y hy => by
    by_cases hyn : y = n1
    · rw [hyn]
      exact List.mem_cons_self
    · exact absurd (if_neg hyn) hy
  obtain ⟨oD, _, _, hoD, _, _⟩ := hn5.count hw
  refine PySem.W.set_plain X5 (ox := { cls := .ref C, dict := some dx, data := .fields #[.ref t1, .none, .none, .none, .bool false, .none] }) (od := some oD) ⟨he5, rfl, rfl, hoD⟩ T.oex.sa ?_
  refine PySem.OEX.osa_old X5 he5 hn5 hw (by show 1 ≤ 1000; decide) hcl (show HandSPX.refsVE (.ref C :: bm) = true from hbm) rfl T.f2 (fun h6 tk6 k6 hn6 => ?_)
  have big : h0.objs.size ≤ dx := Nat.le_trans (Nat.le_of_lt hns4.lt) dn
  refine wpAny_execs_nil (hq h6 tk6 dx t1 ⟨fun y o hy z => ?_, k6 e _ dne.symm he5, big, dne, _, hn6, ?_, ?_, fun y h1 h2 => ?_⟩)
  · have z4 := k4 y o hy (k3 _ _ (k2 _ _ (k1 _ _ z)))
    exact k6 y o (Nat.ne_of_lt (Nat.lt_of_lt_of_le (Heap.lt_size z) big)) (k5 y o hy z4)
  · rw [if_neg T.txt.ne, if_pos rfl]
  · rw [if_pos rfl]
  · rw [if_neg h2, if_neg h1]
end
theorem xd_two {n1 n2 : Str} {v1 v2 : V} {a b : Value} {m : Str → Option Value} (r1 : RelV v1 a) (r2 : RelV v2 b) (h1 : m n1 = some a) (h2 : m n2 = some b) (h3 : ∀ y, y ≠ n1 → y ≠ n2 → m y = none) (f : Str) : RelO (List.lookup f [(n1, v1), (n2, v2)]) (m f) := by
  by_cases e1 : f = n1
  · subst e1
    have z : List.lookup f [(f, v1), (n2, v2)] = some v1 := by simp [List.lookup]
    rw [z, h1]
    exact r1
  · have q1 : (f == n1) = false := by simpa using e1
    by_cases e2 : f = n2
    · subst e2
      have z : List.lookup f [(n1, v1), (f, v2)] = some v2 := by simp [List.lookup, q1]
      rw [z, h2]
      exact r2
    · have q2 : (f == n2) = false := by simpa using e2
      have z : List.lookup f [(n1, v1), (n2, v2)] = none := by simp [List.lookup, q1, q2]
      rw [z, h3 f e1 e2]
      trivial
section
variable {X : Cx} {C cc cda fI : Addr} {x : Str} {stm : Stmt} {qual n1 n2 : Str} {e1 e2 : Expr} {ta : TA} {p pos : Pos} {k : Nat}
/-- C(e1, e2) -/
def tMk2 (C : Addr) (n1 n2 : Str) (ta : TA) : L2.St → Hp → XK → Prop := fun σ H Q => ta σ H fun vs H1 => ∃ v1 v2, vs = [v1, v2] ∧ ∀ d, H1 d = none → Q (.ref C) (some d) (upd H1 d (.xd [(n1, v1), (n2, v2)]))
theorem pmk2 (T : Er2 X.K X.prog X.mg C cc cda fI x stm qual n1 n2) (hr : Room k X.A) (ha : PA X [e1, e2] ta) (hg : Gl X x) (hd : (x == ("__debug__" : Str)) = false) (hs : nostar e1 = true) (hs2 : nostar e2 = true) : PMk X (.Call (.Name x p) [e1, e2] [] pos) (tMk2 C n1 n2 ta) := by
  intro pins s σ H Q I h
  refine wpAny_Call_Name_kw (ld_glob I hg T.gC ?_ hd)
  refine PySem.W.callWith_K (h₀ := X.base) I.ok.mod.kin T.oex.kC (thn (ha.run pos pins s σ H _ I h) fun us s1 made => ?_) (star_eq hs) (star_any (by rw [List.all_cons, hs2]; rfl))
  obtain ⟨vs, H1, I1, rv, v1, v2, rfl, q⟩ := made
  refine ⟨I1.kIn, ?_⟩
  match us, rv with
  | [u1, u2], .cons ru1 (.cons ru2 .nil) =>
    show wpAny _ _ (call (.ref C) [u1, u2]) _ _ _
    obtain ⟨nm, q', N, bs, bm, sn, sub, ab, col, dd, k0, k1, k2, k3, k5, hC, hbm⟩ := T.oex.cls
    have hlim := I1.nolimit
    obtain ⟨mb, hmb, hbb⟩ := I1.ok.mod.blt
    have hgl := I1.ok.mod.glob.keeps I1.bk
    have hmb := hmb.keeps I1.bk
    have kin := I1.kIn
    obtain ⟨hp, g, dr, tk, os⟩ := s1
    obtain ⟨h2, e2'⟩ : ∃ h2, h2 = (hp.push (PySem.W.kdv_tup [u1, u2])).push (HandSPX.excO C hp.objs.size) := ⟨_, rfl⟩
    have up : ∀ y o, hp.get? y = some o → h2.get? y = some o := fun y o z => by
      rw [e2']
      exact Heap.get?_push_of_some _ (Heap.get?_push_of_some _ z)
    have hget : h2.get? (hp.objs.size + 1) = some (HandSPX.excO C hp.objs.size) := by
      rw [e2']
      heap_get
    have fresh : X.K.lookup (hp.objs.size + 1) = none := by
      cases z : X.K.lookup (hp.objs.size + 1) with
      | none => rfl
      | some o => exact absurd (Heap.lt_size (kin _ _ z)) (Nat.not_lt.mpr (Nat.le_succ _))
    refine wpAny_call (HandSPX.call_own F.excBase_ValueError (fun Y => HandSPX.refsVE_contains Y bm hbm) (kin _ _ hC) (PySem.W.looks_findIn kin T.iC) (fun self => PySem.W.bind_fn kin self T.tI) (by show 2 ≤ sizeLine; rw [sizeLine_eq]; omega) ?_)
    rw [← e2']
    refine init2_run (s := ⟨h2, g, dr, tk, os⟩) T (kin.keeps up) (hgl.keeps up) (hmb.keeps up) hbb (hlim.keeps up) hget fresh (by rw [make_depth]; have := hr.dp; omega) fun h' tk' d t1 L => ?_
    obtain ⟨mA, hns, a1, a2, a3⟩ := L.ns
    have sz : hp.objs.size ≤ hp.objs.size + 1 := Nat.le_succ _
    have sz2 : hp.objs.size ≤ d := by
      have := L.dbig
      rw [e2', Heap.size_push, Heap.size_push] at this
      omega
    obtain ⟨G, gk, ge⟩ := restrict h' fun y => decide (y ≠ hp.objs.size + 1)
    have gk : ∀ y, y ≠ hp.objs.size + 1 → G.get? y = h'.get? y := fun y hy => gk y (decide_eq_true hy)
    have ge : G.get? (hp.objs.size + 1) = none := ge _ (by simp)
    have old : ∀ y o, hp.get? y = some o → G.get? y = some o := fun y o z => by
      have ny : y ≠ hp.objs.size + 1 := Nat.ne_of_lt (Nat.lt_succ_of_lt (Heap.lt_size z))
      rw [gk y ny]
      exact L.keep y o ny (up y o z)
    have ob : ObjOk X.prog X.w (upd H1 d (.xd [(n1, v1), (n2, v2)])) G d (.xd [(n1, v1), (n2, v2)]) := ⟨mA, hns.at (fun o z => (gk d L.dne).trans z), xd_two ru1 ru2 a1 a2 a3⟩
    have J : L2.Inv X pins σ (upd H1 d (.xd [(n1, v1), (n2, v2)])) ⟨G, g, dr, tk', os⟩ := I1.laid (t' := tk') old sz2 ob
    refine ⟨rfl, ⟨hp.objs.size + 1, _, _, ⟨G, g, dr, tk', os⟩, _, .ref C, some d, rfl, J, fun y o z => ?_, ge, L.obj, ⟨rfl, rfl⟩, rfl, rfl, ?_, rfl, I1.bare, raises_own T.oex.exC T.oex.tyC, q d (I1.hok.fresh sz2)⟩⟩
    · by_cases hy : y = hp.objs.size + 1
      · have z : G.get? y = some o := z
        rw [hy, ge] at z
        cases z
      · exact (gk y hy).symm.trans z
    · rw [upd_ne (Ne.symm L.dne)]
      exact I1.hok.fresh sz
/-- C(), C an own error class without __init__ -/
theorem pmk0 {bmB : List Value} {B newId initId : String} (F : ExcBaseFacts B newId initId bmB) (q : PySem.W.excIn X.K C bmB newId = true) (gC : X.mg x = some (.ref C)) (kC : PySem.W.keepIn X.K (.ref C) = true) (r : Raises X (.ref C)) (hg : Gl X x) (hd : (x == ("__debug__" : Str)) = false) :
    PMk X (.Call (.Name x p) [] [] pos) (fun _ H Q => Q (.ref C) none H) := by
  intro pins s σ H Q I h
  refine wpAny_Call_Name_kw (ld_glob I hg gC ?_ hd)
  refine PySem.W.callWith_K0 I.kIn kC ?_
  obtain ⟨bm, N, nm, qn, bs, hdct, sn, sub, ab, col, dd, k0, k1, k2, k3, k5, mN, hC, hN, hni, T⟩ := exc_obj I.kIn q
  exact wpAny_call_exc_subT F T hC hN hni (fun h' e hm => mk_of I hm r h (I.hok.gone hm.new)) (Nat.zero_le _)
end
end Mini

set_option Elab.async false
set_option linter.all false
set_option maxRecDepth 100000
set_option maxHeartbeats 2000000
/-! Mini, part T: raise, try. -/
namespace Mini
open PySem PySem.Spec PyProof.Rows L2
section
variable {C : Cn} {F : Fs} {W₀ : WX} {X : Cx} {D : Ends} {σ : L2.St} {H : Hp} {ms : List Addr} {env : En} {st : Sto} {pos : Pos}
/-- raise C() -/
theorem sx_raise0 {x : Str} {Ca : Addr} {c : Nat} {p pos2 : Pos} {bmB : List Value} {B newId initId : String} (hc : X.calm = true) (tk : Takes X W₀) (FB : ExcBaseFacts B newId initId bmB) (q : PySem.W.excIn X.K Ca bmB newId = true) (gC : X.mg x = some (.ref Ca)) (kC : PySem.W.keepIn X.K (.ref Ca) = true)
    (r : Raises X (.ref Ca)) (hg : Gl X x) (hd : (x == ("__debug__" : Str)) = false) (hk : C.cls c = some (Ca, [])) : PS X (.Raise (some (.Call (.Name x p) [] [] pos)) none pos2) (rdS C F W₀ (.raise c 0 .nil)) :=
  psW (ps_raise hc tk (pmk0 FB q gC kC r hg hd)) fun D σ H ⟨env, st, ms, en, sr, h⟩ => h (.ref Ca) none σ H ms Ext.refl en sr ⟨Ca, [], hk, rfl, rfl, fun z => absurd rfl z⟩
/-- raise C(e1, e2) -/
theorem sx_raise2 {x : Str} {Ca cc cda fI : Addr} {stm : Stmt} {qual n1 n2 : Str} {e1 e2 : Expr} {c k : Nat} {ca : E} {p pos2 : Pos} (hc : X.calm = true) (tk : Takes X W₀) (T : Er2 X.K X.prog X.mg Ca cc cda fI x stm qual n1 n2) (hr : Room k X.A) (ha : PA X [e1, e2] (rdL C F.fe W₀ ca)) (hg : Gl X x) (hd : (x == ("__debug__" : Str)) = false)
    (hs : nostar e1 = true) (hs2 : nostar e2 = true) (hk : C.cls c = some (Ca, [n1, n2])) : PS X (.Raise (some (.Call (.Name x p) [e1, e2] [] pos)) none pos2) (rdS C F W₀ (.raise c 2 ca)) :=
  psW (ps_raise hc tk (pmk2 T hr ha hg hd hs hs2)) fun D σ H ⟨env, st, ms, en, sr, h⟩ => rsL_bind en sr h fun vs ws st1 H1 ms1 en1 sr1 x1 r1 h1 => by
    cases q : pures ws with
    | none => rw [q] at h1; exact h1.elim
    | some xs =>
      rw [q] at h1
      simp only at h1
      split at h1
      · rename_i hl
        have rr := pures_rep r1 q
        match xs, hl, vs, rr with
        | [y1, y2], _, _, ⟨v1, _, rfl, ry1, v2, _, rfl, ry2, rfl⟩ =>
          refine ⟨v1, v2, rfl, fun d hd => ?_⟩
          have ext : Ext C.k H1 ms1 (upd H1 d (.xd [(n1, v1), (n2, v2)])) ms1 := Ext.new hd
          refine h1 (.ref Ca) (some d) σ _ ms1 ext (en1.mono ext) (sr1.new hd) ⟨Ca, [n1, n2], hk, rfl, rfl, fun _ => ⟨d, _, rfl, sr1.free hd, upd_same, fun i name y e1 e2 => ?_⟩⟩
          have ne := T.txt.ne
          match i, e1, e2 with
          | 0, e1, e2 =>
            cases e1
            cases e2
            exact ⟨v1, by simp [List.lookup], Rep.mono ext _ _ ry1⟩
          | 1, e1, e2 =>
            cases e1
            cases e2
            have z : (n2 == n1) = false := by simpa using fun z : n2 = n1 => ne z.symm
            exact ⟨v2, by simp [List.lookup, z], Rep.mono ext _ _ ry2⟩
          | i + 2, e1, e2 => cases e1
      · exact h1.elim
end
/-! ### try -/
abbrev Cn.warm (C : Cn) (a : Addr) (cls : Value) (d : Option Addr) : Cn := { C with hot := some (a, cls, d) }
/-- the clauses -/
inductive HdOk (X : Cx) (C : Cn) (F : Fs) : List ExceptHandler → S → Prop
  | nil : HdOk X C F [] .skip
  | cons {x : Str} {k : Nat} {Ck : Addr} {names : List Str} {n : Option Str} {i : Option Nat} {b₀ : Stmt} {suite : List Stmt} {np pos' : Pos} {hds : List ExceptHandler} {c h : S} (hc : Names X x (.ref Ck)) (hk : C.cls k = some (Ck, names))
      (hn : (n = none ∧ i = none) ∨ ∃ nm j, n = some nm ∧ i = some j ∧ X.N[j]? = some nm ∧ X.env.kindOf nm = some .local)
      (hsu : ∀ (a : Addr) (oe : Obj) (cls : Value) (d : Option Addr) (pn : List (Addr × Obj)), Zc cls d oe → (∃ vs, oe.data = .fields vs) → PSs (X.suite a ((a, oe) :: pn)) (b₀ :: suite) (rdS (C.warm a cls d) F Wno c)) (r : HdOk X C F hds h) :
      HdOk X C F (.ExceptHandler (some (.Name x np)) n (b₀ :: suite) pos' :: hds) (.hnd k i c h)
section
variable {C : Cn} {F : Fs} {W₀ : WX} {X : Cx} {D : Ends} {σ : L2.St} {H : Hp} {ms : List Addr} {env : En} {st : Sto} {pos : Pos}
/-- what the clauses wish of an error of the body -/
def WH (C : Cn) (F : Fs) (W₀ : WX) (D : Ends) (h : S) : WX := fun cls d σ H => ∃ env st ms c xs, EnRep C H ms σ env ∧ StRep C H ms st ∧ ExRep C H ms c xs cls d ∧ PostS C W₀ D H ms (evH F c xs h env st)
theorem noerr_at {v : En} (h : noerr v = true) {i : Nat} {w : W} (e : v[i]? = some (some w)) : isErr w = false := by
  unfold noerr at h
  rw [List.all_eq_true] at h
  have := h _ (List.mem_of_getElem? e)
  simpa using this
theorem wrep_cool {a : Addr} {cls : Value} {d : Option Addr} {w : W} {v : V} (hw : isErr w = false) : WRep (C.warm a cls d) H ms w v ↔ WRep C H ms w v := by
  cases w with
  | err c xs => cases hw
  | _ => exact Iff.rfl
theorem EnRep.warm {a : Addr} {cls : Value} {d : Option Addr} (en : EnRep C H ms σ env) (hn : noerr env = true) : EnRep (C.warm a cls d) H ms σ env :=
  ⟨en.len, fun i w e => let ⟨v, e1, r⟩ := en.at_ i w e; ⟨v, e1, (wrep_cool (noerr_at hn e)).mpr r⟩⟩
theorem EnRep.cool {a : Addr} {cls : Value} {d : Option Addr} (en : EnRep (C.warm a cls d) H ms σ env) (hn : noerr env = true) : EnRep C H ms σ env :=
  ⟨en.len, fun i w e => let ⟨v, e1, r⟩ := en.at_ i w e; ⟨v, e1, (wrep_cool (noerr_at hn e)).mp r⟩⟩
theorem EnRep.unset (en : EnRep C H ms σ env) (i : Nat) : EnRep C H ms (σ.set i none) (env.set i none) :=
  ⟨by rw [List.length_set, List.length_set, en.len], fun j w e => by
    by_cases hj : i = j
    · subst hj
      by_cases hl : i < env.length
      · rw [List.getElem?_set_self hl] at e
        cases e
      · rw [List.getElem?_eq_none (by rw [List.length_set]; omega)] at e
        cases e
    · rw [List.getElem?_set_ne hj] at e
      obtain ⟨v, e1, r⟩ := en.at_ j w e
      exact ⟨v, by rw [List.getElem?_set_ne hj]; exact e1, r⟩⟩
/-- the slots as the clause's name finds them, and as it leaves them -/
def nameOn (i : Option Nat) (a : Addr) (σ : L2.St) : L2.St := match i with | some i => σ.set i (some (.ref a)) | none => σ
def nameOff (i : Option Nat) (σ : L2.St) : L2.St := match i with | some i => σ.set i none | none => σ
theorem EnRep.on {a : Addr} {cls : Value} {d : Option Addr} {c : Nat} {xs : List PD} {i : Option Nat} {env' : En} (en : EnRep C H ms σ env) (ex : ExRep C H ms c xs cls d) (e : onH i c xs env = some env') : EnRep (C.warm a cls d) H ms (nameOn i a σ) env' := by
  unfold onH at e
  split at e
  · rename_i hn
    cases i with
    | none =>
      cases e
      exact en.warm hn
    | some i =>
      simp only at e
      split at e
      · rename_i hi
        cases e
        exact EnRep.put (C := C.warm a cls d) (en.warm hn) (w := .err c xs) (v := .ref a) ⟨a, cls, d, rfl, rfl, ex⟩ (by unfold putS; rw [if_pos hi])
      · cases e
  · cases e
theorem EnRep.off {a : Addr} {cls : Value} {d : Option Addr} {i : Option Nat} (en : EnRep (C.warm a cls d) H ms σ env) (hn : noerr (offH i env) = true) : EnRep C H ms (nameOff i σ) (offH i env) := by
  cases i with
  | none => exact en.cool hn
  | some i => exact EnRep.cool (EnRep.unset en i) hn
theorem StRep.warm {a : Addr} {cls : Value} {d : Option Addr} : StRep (C.warm a cls d) H ms st ↔ StRep C H ms st := ⟨fun h => ⟨h.len, h.nd, h.ob, h.there⟩, fun h => ⟨h.len, h.nd, h.ob, h.there⟩⟩
/-- the ends of a suite, its name's slot forgotten -/
def endsOff (i : Option Nat) (D : Ends) : Ends := { nx := fun σ H => D.nx (nameOff i σ) H, bk := fun σ H => D.bk (nameOff i σ) H, ct := fun σ H => D.ct (nameOff i σ) H, rt := D.rt }
theorem suite_post {a : Addr} {cls : Value} {d : Option Addr} {i : Option Nat} {o : Out} (h : PostS C W₀ D H ms (clauseOut i o)) : PostS (C.warm a cls d) Wno (endsOff i D) H ms o := by
  cases o with
  | nx v s =>
    have h : PostS C W₀ D H ms (if noerr (offH i v) then .nx (offH i v) s else .stuck) := h
    split at h
    · rename_i hn
      exact fun σ' H' ms' x en sr => h _ H' ms' x (en.off hn) (StRep.warm.mp sr)
    · exact h.elim
  | brk v s =>
    have h : PostS C W₀ D H ms (if noerr (offH i v) then .brk (offH i v) s else .stuck) := h
    split at h
    · rename_i hn
      exact fun σ' H' ms' x en sr => h _ H' ms' x (en.off hn) (StRep.warm.mp sr)
    · exact h.elim
  | cnt v s =>
    have h : PostS C W₀ D H ms (if noerr (offH i v) then .cnt (offH i v) s else .stuck) := h
    split at h
    · rename_i hn
      exact fun σ' H' ms' x en sr => h _ H' ms' x (en.off hn) (StRep.warm.mp sr)
    · exact h.elim
  | ret w s =>
    have h : PostS C W₀ D H ms (if isErr w then .stuck else .ret w s) := h
    split at h
    · exact h.elim
    · rename_i hw
      exact fun v H' ms' x sr r => h v H' ms' x (StRep.warm.mp sr) ((wrep_cool (by simpa using hw)).mp r)
  | exc c xs v s => exact h.elim
  | stuck => exact h.elim
/-- try: body, clauses -/
theorem sx_try {body : List Stmt} {h₀ : ExceptHandler} {hds : List ExceptHandler} {sb sh : S} (hst : X.stack = X.env :: X.outer) (hfr : X.env.frame = some X.env.locals) (hN : X.N.Nodup) (tk : Takes X W₀)
    (hsub : ∀ c k Ca na Ck nk, C.cls c = some (Ca, na) → C.cls k = some (Ck, nk) → PySem.W.exmOne X.K (.ref Ca) (.ref Ck) = some (F.sub c k))
    (hb : ∀ (W : WX) (pn : List (Addr × Obj)) (xe : Value → Shared → Prop), Takes (X.tr pn xe) W → PassesOwn (model X.prog X.w) X.A X.env xe → PSs (X.tr pn xe) body (rdS C F W sb)) (hh : HdOk X C F (h₀ :: hds) sh) :
    PS X (.Try body (h₀ :: hds) [] [] pos) (rdS C F W₀ (.try sb sh)) := by
  refine ⟨fun pins s σ H D I ⟨env, st, ms, en, sr, h⟩ => ?_⟩
  have okX := I.ok
  have frX : X.A.frames = some (X.env :: X.outer) := by
    rw [okX.frames, hst]
  have hbody : PostS C (WH C F W₀ D sh) D H ms (evS F sb env st) := by
    have h : PostS C W₀ D H ms (match evS F sb env st with
      | .exc c xs v s => evH F c xs sh v s
      | o => o) := h
    cases q : evS F sb env st with
    | nx v s => rw [q] at h; exact h
    | brk v s => rw [q] at h; exact h
    | cnt v s => rw [q] at h; exact h
    | ret w s => rw [q] at h; exact h
    | stuck => rw [q] at h; exact h
    | exc c xs v s =>
      rw [q] at h
      exact fun cls d σ' H' ms' x en' sr' ex => ⟨v, s, ms', c, xs, en', sr', ex, PostS.mono x h⟩
  refine wpAny_Try_except (wpAny_mono ((hb (WH C F W₀ D sh) (X.pn ++ pins) (fun e z => wpAny (model X.prog X.w) X.A (noteFrame e X.env) (fun _ z => wpAny (model X.prog X.w) X.A (setFlight e none) (fun _ z =>
    wpAny (model X.prog X.w) X.A (handleBy e X.env (h₀ :: hds)) (SP X pins D) X.xe z) X.xe z) X.xe z) (fun u z caught => ?_) PassesOwn.looking).run [] s σ H D (I.toTry _) ⟨env, st, ms, en, sr, hbody⟩) (fun fl z end_ => ?_) fun _ _ z => z)
  · obtain ⟨a, B, sI, pins', σ', H', cls, d, rfl, J', nb, up, sky, na, os, ag, env', st', ms', c, xs, en', sr', ex, post⟩ := caught
    have J : L2.Inv X pins σ' H' sI := J'.ofTry okX
    rw [show (X.tr (X.pn ++ pins) _).stack = X.env :: X.outer from hst] at sky
    show wpAny (model X.prog X.w) X.A (noteFrame (.ref a) X.env) _ _ _
    refine Sky.land Zc.steady frX hfr sky fun hp fl up2 => ?_
    have JL : L2.Inv X pins σ' H' { z with heap := hp } := J.landed nb fl.1 (up.trans up2) os ag
    obtain ⟨oe, vs, hoe, hz, hdat⟩ := fl.there
    have apart : ∀ {h : Heap} {o : Obj} {vs : Array Value}, h.FunFrames B (X.env :: X.outer) → h.get? a = some o → o.data = .fields vs → a ≠ X.env.locals ∧ a ∉ X.fs := fun {h o vs} ff e dd => by
      have out : a ∉ frs (X.env :: X.outer) := fun hm => by
        obtain ⟨_, o', e', nofr⟩ := ff.mem hm
        rw [e] at e'
        cases e'
        exact nofr _ dd
      refine ⟨fun w => out (List.mem_filterMap.mpr ⟨X.env, List.mem_cons_self, by rw [hfr, w]⟩), fun hm => ?_⟩
      obtain ⟨fr, hm1, hm2⟩ := List.mem_filterMap.mp hm
      exact out (List.mem_filterMap.mpr ⟨fr, List.mem_cons_of_mem _ hm1, hm2⟩)
    obtain ⟨nL, nF⟩ := apart fl.2.2.1 hoe hdat
    have SL := JL.suite hoe hdat na nL nF
    have walk : ∀ {hs : List ExceptHandler} {sh : S}, HdOk X C F hs sh → PostS C W₀ D H' ms' (evH F c xs sh env' st') → wpAny (model X.prog X.w) X.A (handleBy (.ref a) X.env hs) (SP X pins D) X.xe { z with heap := hp } := by
      intro hs sh ok
      induction ok with
      | nil =>
        intro post
        have wish : W₀ cls d σ' H' := post cls d σ' H' ms' Ext.refl en' sr' ex
        refine wpAny_handleBy_nil ?_
        obtain ⟨k1, k2, k3, oe, vs, T, oT, ts, q1, q2, q3, q4, q5⟩ := id fl
        unfold PySem.passOn
        refine wpAny_bind (wpAny_field q1 q3 q4 ?_)
        have nn : ¬ ((Value.ref T == Value.none) = true) := by simp
        rw [if_neg nn]
        have flies : wpAny (model X.prog X.w) X.A (setFlight (.ref a) X.env.frame) (fun _ z => wpAny (model X.prog X.w) X.A (throw (.ref a) : Sem Flow) (SP X pins D) X.xe z) X.xe { z with heap := hp } := by
          rw [hfr]
          refine HandSPX.setFlight_upZ fl fun h4 held up4 => wpAny_throw (tk _ _ ⟨a, B, sI, pins, σ', H', cls, d, rfl, J, nb, (up.trans up2).trans up4, ?_, na, os, ag, wish⟩)
          rw [hst]
          exact .inr (.inr held)
        first
          | exact wpAny_bind (wpAny_pure (wpAny_bind flies))
          | exact wpAny_bind flies
      | @cons x k Ck names n i b₀ suite np pos' hs2 cS hS hc hk hn hsu r ih =>
        intro post
        obtain ⟨Ca, nameC, e1, e2, _⟩ := id ex
        have mt := hsub c k Ca nameC Ck names e1 hk
        rw [← e2] at mt
        refine wpAny_handleBy_cons (codeAny_handlers_test ?_) (fun w => by cases w)
        have lt : PySem.W.Looks (model X.prog X.w) hp (typeOf (.ref a)) cls := fun A Q E s k w => wpAny_typeOf_ref (k _ _ hoe) (by rw [hz.1]; exact w)
        have lm := PySem.W.exm_one (M := model X.prog X.w) JL.kIn lt mt
        have named : ∀ {Q : Value → Shared → Prop} {E : Value → Shared → Prop}, Q (.ref Ck) { z with heap := hp } → wpAny (model X.prog X.w) (X.A.mark (some (.ref a))) (eval (.Name x np) X.env) Q E { z with heap := hp } := fun {Q E} w => by
          obtain ⟨g1, g2, g3 | ⟨g3, g4, g5⟩⟩ := hc
          · exact ld_glob (X := X.suite a ((a, oe) :: (X.pn ++ pins))) SL g1 g3 w g2
          · exact ld_blt (X := X.suite a ((a, oe) :: (X.pn ++ pins))) SL g1 g3 g4 w g5 g2
        refine named (lm.here ?_)
        cases hb2 : F.sub c k with
        | false =>
          rw [evH, hb2, if_neg Bool.false_ne_true] at post
          show wpAny _ X.A (handleBy (.ref a) X.env hs2) _ _ _
          exact ih post
        | true =>
          rw [evH, hb2, if_pos rfl] at post
          cases ho : onH i c xs env' with
          | none => rw [ho] at post; exact post.elim
          | some env2 =>
            rw [ho] at post
            have post2 : PostS (C.warm a cls d) Wno (endsOff i D) H' ms' (evS F cS env2 st') := suite_post post
            have en2 := en'.on (a := a) ex ho
            have sr2 : StRep (C.warm a cls d) H' ms' st' := StRep.warm.mpr sr'
            rcases hn with ⟨rfl, rfl⟩ | ⟨nm, j, rfl, rfl, hj, hl⟩
            · refine codeAny_handlers_suite (HandSPX.lands_againZ fl fun h4 fl4 up4 => ?_)
              have J4 : L2.Inv X pins σ' H' { z with heap := h4 } := J.landed nb fl4.1 ((up.trans up2).trans up4) os ag
              obtain ⟨oe4, vs4, he4, hz4, hd4⟩ := fl4.there
              refine wpAny_mono ((hsu a oe4 cls d (X.pn ++ pins) hz4 ⟨_, hd4⟩).run [] _ _ H' _ (J4.suite he4 hd4 na nL nF) ⟨env2, st', ms', en2, sr2, post2⟩) (fun f z6 e6 => ?_) fun _ _ w => False.elim w
              cases f with
              | next => obtain ⟨σ6, H6, S6, q6⟩ := e6; exact ⟨_, _, S6.unsuite okX, q6⟩
              | brk => obtain ⟨σ6, H6, S6, q6⟩ := e6; exact ⟨_, _, S6.unsuite okX, q6⟩
              | cont => obtain ⟨σ6, H6, S6, q6⟩ := e6; exact ⟨_, _, S6.unsuite okX, q6⟩
              | ret u => obtain ⟨v6, σ6, H6, S6, r6, q6⟩ := e6; exact ⟨_, _, _, S6.unsuite okX, r6, q6⟩
            · refine codeAny_handlers_suite_as (HandSPX.lands_againZ fl fun h4 fl4 up4 => ?_)
              have J4 : L2.Inv X pins σ' H' { z with heap := h4 } := J.landed nb fl4.1 ((up.trans up2).trans up4) os ag
              obtain ⟨oe4, vs4, he4, hz4, hd4⟩ := fl4.there
              refine store_ok (X := X.suite a ((a, oe4) :: (X.pn ++ pins))) (v := .ref a) (J4.suite he4 hd4 na nL nF) hN hj (.inl hl) rfl (fun z5 S5 => ?_) (.inr hl)
              refine wpAny_mono ((hsu a oe4 cls d (X.pn ++ pins) hz4 ⟨_, hd4⟩).run [] z5 _ H' _ S5 ⟨env2, st', ms', en2, sr2, post2⟩) (fun f z6 e6 => ?_) fun _ _ w => False.elim w
              have gone : ∀ {σ6 : L2.St} {H6 : Hp} {Q : Shared → Prop}, L2.Inv (X.suite a ((a, oe4) :: (X.pn ++ pins))) [] σ6 H6 z6 → (∀ z7, L2.Inv X pins (σ6.set j none) H6 z7 → Q z7) →
                  wpAny (model X.prog X.w) X.A (do bindName X.env nm .none; unbindBehindTheSuite X.env nm pos') (fun _ z7 => Q z7) X.xe z6 := fun {σ6 H6 Q} S6 hq => gone_ok (S6.unsuite okX) hN hj hl hq
              cases f with
              | next => obtain ⟨σ6, H6, S6, q6⟩ := e6; exact gone S6 fun z7 J7 => ⟨_, _, J7, q6⟩
              | brk => obtain ⟨σ6, H6, S6, q6⟩ := e6; exact gone S6 fun z7 J7 => ⟨_, _, J7, q6⟩
              | cont => obtain ⟨σ6, H6, S6, q6⟩ := e6; exact gone S6 fun z7 J7 => ⟨_, _, J7, q6⟩
              | ret u => obtain ⟨v6, σ6, H6, S6, r6, q6⟩ := e6; exact gone S6 fun z7 J7 => ⟨_, _, _, J7, r6, q6⟩
    exact walk hh post
  · cases fl with
    | next => obtain ⟨σ', H', J', q⟩ := end_; exact wpAny_execs_nil ⟨σ', H', J'.ofTry okX, q⟩
    | brk => obtain ⟨σ', H', J', q⟩ := end_; exact ⟨σ', H', J'.ofTry okX, q⟩
    | cont => obtain ⟨σ', H', J', q⟩ := end_; exact ⟨σ', H', J'.ofTry okX, q⟩
    | ret u => obtain ⟨v, σ', H', J', r, q⟩ := end_; exact ⟨v, σ', H', J'.ofTry okX, r, q⟩
end
end Mini

set_option Elab.async false
set_option linter.all false
set_option maxRecDepth 100000
set_option maxHeartbeats 2000000
/-! Mini, part U: methods of lists; what an except suite reads of the error. -/
namespace Mini
open PySem PySem.Spec PyProof.Rows L2
section
variable {C : Cn} {F : Fe} {W₀ : WX} {X : Cx} {a : Expr} {ca co : E} {H : Hp} {ms : List Addr} {st : Sto} {σ : L2.St}
/-- a list of the store -/
theorem store_lst (sr : StRep C H ms st) {n : Nat} {p : Addr} (hp : ms[C.k + n]? = some p) (hl : isLst st n = true) : ∃ xs vs, st[n]? = some (.lst xs) ∧ H p = some (.lst vs) ∧ RepL C.K H ms xs vs := by
  unfold isLst at hl
  split at hl
  · rename_i xs e
    obtain ⟨vs, h1, h2⟩ := sr.ob n p _ hp e
    exact ⟨xs, vs, e, h1, h2⟩
  · cases hl
theorem se_append {y : Str} {py apos cpos : Pos} (hK : X.K = C.K) (ho : PE X (.Name y py) (rdE C F W₀ co)) (ha : PE X a (rdE C F W₀ ca)) (hn : nostar a = true) (hline : (apos.endLine == cpos.line) = true) :
    PE X (.Call (.Attribute (.Name y py) "append" apos) [a] [] cpos) (rdE C F W₀ (.meth .append co (.cons ca .nil))) :=
  peW (pe_bm PySem.F.plainAttrs_list PySem.F.slot_list_append PySem.F.type_list_append mt_append ho (sl_cons ha sl_nil hn) rfl (by rw [star_eq hn]; rfl) hline (star_eq hn) rfl) fun σ H Q ⟨env, st, ms, en, sr, h⟩ =>
    rd_bind (f := methOn .append (evL F (.cons ca .nil) env)) en sr h fun x w st1 H1 ms1 en1 sr1 x1 r1 h1 => by
      cases w with
      | d _ => exact h1.elim
      | fn _ => exact h1.elim
      | err _ _ => exact h1.elim
      | ref n =>
        obtain ⟨p, hp, rfl⟩ := r1
        have h1 : Post C W₀ σ H1 ms1 (if isLst st1 n = true then (evL F (.cons ca .nil) env st1).bind (methGo .append n) else .stuck) fun w _ H' ms' => ∀ v, WRep C H' ms' w v → Q v H' := h1
        cases hL : isLst st1 n with
        | false =>
          rw [hL] at h1
          exact h1.elim
        | true =>
        rw [hL, if_pos rfl] at h1
        obtain ⟨xs0, vs0, _, hv0, _⟩ := store_lst sr1 hp hL
        refine ⟨.inl ⟨rfl, vs0, SqL.of hv0⟩, rdL_bind en1 sr1 h1 fun vs ws st2 H2 ms2 en2 sr2 x2 r2 h2 => ?_⟩
        have hp2 := x2.get hp
        have h2 : Post C W₀ σ H2 ms2 (methGo .append n ws st2) fun w _ H' ms' => ∀ v, WRep C H' ms' w v → Q v H' := h2
        cases hL2 : isLst st2 n with
        | false =>
          have e0 : ∀ ys, meth .append n ys st2 = none := fun ys => by
            cases hq : st2[n]? with
            | none => simp [meth, hq]
            | some o =>
              cases o with
              | lst l => simp [isLst, hq] at hL2
              | dct _ _ _ => simp [meth, hq]
              | gone => simp [meth, hq]
          unfold methGo methArgs at h2
          cases q : pures ws with
          | none => rw [q] at h2; exact h2.elim
          | some ys => rw [q, Option.bind_some, e0] at h2; exact h2.elim
        | true =>
        obtain ⟨xs, us, hst, hv, rr⟩ := store_lst sr2 hp2 hL2
        unfold methGo methArgs at h2
        cases q : pures ws with
        | none =>
          rw [q] at h2
          exact h2.elim
        | some ys =>
          rw [q, Option.bind_some] at h2
          have ry := pures_rep r2 q
          match ys, vs, ry with
          | [], _, _ =>
            rw [show meth .append n [] st2 = none by unfold meth; rw [hst]] at h2
            exact h2.elim
          | _ :: _ :: _, _, _ =>
            rw [show meth .append n (_ :: _ :: _) st2 = none by unfold meth; rw [hst]] at h2
            exact h2.elim
          | [d], _, ⟨v, _, rfl, rv, rfl⟩ =>
            have em : meth .append n [d] st2 = if xs.length < LIM then some (.none, st2.set n (.lst (xs ++ [d]))) else none := by
              unfold meth
              rw [hst]
            rw [em] at h2
            by_cases hl : xs.length < LIM
            · rw [if_pos hl] at h2
              refine ⟨p, us, v, rfl, rfl, hv, by rw [rr.length]; exact LIM_lt hl, ?_⟩
              exact h2 _ ms2 (Ext.write sr2 hp2 (lst_nofrz hv)) (sr2.write hp2 hv (rr.append (RepL.one rv))) .non rfl
            · rw [if_neg hl] at h2
              exact h2.elim
/-- a field of the error at hand -/
theorem se_fld {a0 Ca : Addr} {oe : Obj} {cls : Value} {d : Option Addr} {pn : List (Addr × Obj)} {pos p : Pos} {n f : Str} {i c k : Nat} {names : List Str} (T : XfC X.K Ca) (hno : PySem.W.findIn X.K (.ref Ca) f = some none) (hk : C.cls c = some (Ca, names)) (hf : names[k]? = some f)
    (hz : Zc cls d oe) (hd : ∃ vs, oe.data = .fields vs) (hN : X.N[i]? = some n) (hv : Vis X.env.scope n) (hdb : (n == ("__debug__" : Str)) = false) (hcd : (n == ("__classdict__" : Str)) = false) :
    PE (X.suite a0 ((a0, oe) :: pn)) (.Attribute (.Name n p) f pos) (rdE (C.warm a0 cls d) F W₀ (.fld i c k)) :=
  peW (pe_xf T hno hz hd (pe_var (X := X.suite a0 ((a0, oe) :: pn)) (i := i) hN hv hdb hcd)) fun σ H Q ⟨env, st, ms, en, sr, h⟩ => by
    simp only [evE] at h
    split at h
    · rename_i c' xs e1
      split at h
      · rename_i hc
        subst hc
        obtain ⟨v, e2, a', cls', d', e3, rfl, Ca', names', h1, h2, h3, h4⟩ := en.at_ i _ e1
        cases e3
        have h1 : C.cls c' = some (Ca', names') := h1
        rw [hk] at h1
        cases h1
        obtain ⟨w9, ew9, q⟩ := h.of
        obtain ⟨y, ey, rfl⟩ := Option.map_eq_some_iff.mp ew9
        obtain ⟨dd, fs, f1, f2, f3, f4⟩ := h4 (fun z => by rw [z] at hf; cases hf)
        obtain ⟨u, f5, f6⟩ := f4 k f y hf ey
        exact ⟨_, e2, rfl, h2, dd, fs, u, f1, f3, f5, q H ms Ext.refl sr u f6⟩
      · exact h.elim
    · exact h.elim
end
end Mini

set_option Elab.async false
set_option linter.all false
set_option maxRecDepth 100000
set_option maxHeartbeats 2000000
/-! Mini, part V: dicts whose keys are tuples of ints and texts. -/
namespace Mini
open PySem PySem.Spec PyProof.Rows L2
/-! ### keys -/
theorem nkeys_some {x : PD} {xs : List PD} {ks : List NestedKey} (h : nkeys (x :: xs) = some ks) : ∃ k r, nkey x = some k ∧ nkeys xs = some r ∧ ks = k :: r := by
  have h : (nkey x).bind (fun k => (nkeys xs).map (k :: ·)) = some ks := h
  obtain ⟨k, e1, e2⟩ := Option.bind_eq_some_iff.mp h
  obtain ⟨r, e3, rfl⟩ := Option.map_eq_some_iff.mp e2
  exact ⟨k, r, e1, e3, rfl⟩
theorem nkey_tup {xs : List PD} {k : NestedKey} (h : nkey (.tuple xs) = some k) : ∃ ks, nkeys xs = some ks ∧ k = .tup ks := by
  have h : (nkeys xs).map NestedKey.tup = some k := h
  obtain ⟨ks, e, rfl⟩ := Option.map_eq_some_iff.mp h
  exact ⟨ks, e, rfl⟩
mutual
theorem nkOk_key : ∀ (d : Nat) (x : PD), nkOk d x = true → ∃ k, nkey x = some k ∧ k.depth ≤ d
  | d, .none, _ => ⟨.none, rfl, Nat.zero_le _⟩
  | d, .int i, _ => ⟨.num i, rfl, Nat.zero_le _⟩
  | d, .str x, _ => ⟨.text x, rfl, Nat.zero_le _⟩
  | d, .tuple xs, h => by
    have h : (Nat.blt 0 d && nkOkL (d - 1) xs) = true := by rw [nkOk] at h; exact h
    rw [Bool.and_eq_true] at h
    have h0 : 0 < d := by have := h.1; simp [Nat.blt] at this; omega
    obtain ⟨ks, e, hd⟩ := nkOkL_keys (d - 1) xs h.2
    refine ⟨.tup ks, by show (nkeys xs).map NestedKey.tup = _; rw [e]; rfl, ?_⟩
    show NestedKey.depthAll ks + 1 ≤ d
    omega
  | d, .bool _, h => by rw [nkOk] at h <;> first | cases h | (intros; contradiction)
  | d, .list _, h => by rw [nkOk] at h <;> first | cases h | (intros; contradiction)
  | d, .dict _, h => by rw [nkOk] at h <;> first | cases h | (intros; contradiction)
theorem nkOkL_keys : ∀ (d : Nat) (xs : List PD), nkOkL d xs = true → ∃ ks, nkeys xs = some ks ∧ NestedKey.depthAll ks ≤ d
  | d, [], _ => ⟨[], rfl, Nat.zero_le _⟩
  | d, x :: xs, h => by
    have h : (nkOk d x && nkOkL d xs) = true := by rw [nkOkL] at h; exact h
    rw [Bool.and_eq_true] at h
    obtain ⟨k, e, hk⟩ := nkOk_key d x h.1
    obtain ⟨ks, e2, hks⟩ := nkOkL_keys d xs h.2
    refine ⟨k :: ks, by show (nkey x).bind _ = _; rw [e, Option.bind_some, e2]; rfl, ?_⟩
    show max k.depth (NestedKey.depthAll ks) ≤ d
    omega
end
theorem okKey_tup {k : PD} (h : okKey true k = true) : ∃ xs kk, k = .tuple xs ∧ nkey k = some kk ∧ kk.depth ≤ 8 := by
  cases k with
  | tuple xs =>
    have h : (true && nkOk 8 (.tuple xs)) = true := h
    obtain ⟨kk, e, hd⟩ := nkOk_key 8 (.tuple xs) (by simpa using h)
    exact ⟨xs, kk, rfl, e, hd⟩
  | _ => cases h
theorem beq_dec {α : Type} [DecidableEq α] (a b : α) : (a == b) = decide (a = b) := by
  by_cases h : a = b <;> simp [h]
mutual
theorem sameD_nkey : ∀ (a b : PD) (x y : NestedKey), nkey a = some x → nkey b = some y → sameD a b = NestedKey.beq x y
  | .none, b, x, y, h, h' => by
    cases h
    cases b with
    | none => cases h'; rfl
    | int j => cases h'; rfl
    | str j => cases h'; rfl
    | tuple ys => obtain ⟨ks, e, rfl⟩ := nkey_tup h'; rfl
    | _ => cases h'
  | .int i, b, x, y, h, h' => by
    cases h
    cases b with
    | none => cases h'; rfl
    | int j => cases h'; exact beq_dec i j
    | str j => cases h'; rfl
    | tuple ys => obtain ⟨ks, e, rfl⟩ := nkey_tup h'; rfl
    | _ => cases h'
  | .str i, b, x, y, h, h' => by
    cases h
    cases b with
    | none => cases h'; rfl
    | int j => cases h'; rfl
    | str j => cases h'; exact beq_dec i j
    | tuple ys => obtain ⟨ks, e, rfl⟩ := nkey_tup h'; rfl
    | _ => cases h'
  | .tuple xs, b, x, y, h, h' => by
    obtain ⟨ks, e, rfl⟩ := nkey_tup h
    cases b with
    | none => cases h'; rfl
    | int j => cases h'; rfl
    | str j => cases h'; rfl
    | tuple ys =>
      obtain ⟨ks', e', rfl⟩ := nkey_tup h'
      exact sameL_nkeys xs ys ks ks' e e'
    | _ => cases h'
  | .bool _, b, x, y, h, h' => by cases h
  | .list _, b, x, y, h, h' => by cases h
  | .dict _, b, x, y, h, h' => by cases h
theorem sameL_nkeys : ∀ (a b : List PD) (x y : List NestedKey), nkeys a = some x → nkeys b = some y → sameL a b = NestedKey.beqAll x y
  | [], [], x, y, h, h' => by cases h; cases h'; rfl
  | [], b :: bs, x, y, h, h' => by
    cases h
    obtain ⟨k, r, _, _, rfl⟩ := nkeys_some h'
    rfl
  | a :: as, [], x, y, h, h' => by
    cases h'
    obtain ⟨k, r, _, _, rfl⟩ := nkeys_some h
    rfl
  | a :: as, b :: bs, x, y, h, h' => by
    obtain ⟨k, r, e1, e2, rfl⟩ := nkeys_some h
    obtain ⟨k', r', e1', e2', rfl⟩ := nkeys_some h'
    show (sameD a b && sameL as bs) = (NestedKey.beq k k' && NestedKey.beqAll r r')
    rw [sameD_nkey a b k k' e1 e1', sameL_nkeys as bs r r' e2 e2']
end
theorem sameD_key {a b : PD} {x y : NestedKey} (h : nkey a = some x) (h' : nkey b = some y) : sameD a b = decide (x = y) := (sameD_nkey a b x y h h').trans (NestedKey.decide_eq x y).symm
mutual
theorem nested_of {h : Heap} : ∀ (d : PD) (u : Value) (as : List Addr) (k : NestedKey), Reads h u d as → nkey d = some k → NestedIs h k u
  | .none, u, as, k, r, e => by cases e; cases r; exact .none
  | .int i, u, as, k, r, e => by cases e; cases r; exact .int _ _
  | .str x, u, as, k, r, e => by cases e; cases r; exact .text _ _
  | .tuple xs, u, as, k, r, e => by
    obtain ⟨ks, e2, rfl⟩ := nkey_tup e
    cases r with
    | tuple h1 h2 h3 h4 => exact .tup h1 h2 h3 (nested_all xs _ _ ks h4 e2)
  | .bool _, u, as, k, r, e => by cases e
  | .list _, u, as, k, r, e => by cases e
  | .dict _, u, as, k, r, e => by cases e
theorem nested_all {h : Heap} : ∀ (ds : List PD) (us : List Value) (as : List Addr) (ks : List NestedKey), ReadsAll h us ds as → nkeys ds = some ks → NestedAll h ks us
  | [], us, as, ks, r, e => by cases e; cases r; exact .nil
  | d :: ds, us, as, ks, r, e => by
    obtain ⟨k, r', e1, e2, rfl⟩ := nkeys_some e
    cases r with
    | cons h1 h2 => exact .cons (nested_of d _ _ k h1 e1) (nested_all ds _ _ r' h2 e2)
end
section
variable {X : Cx} {pins : List (Addr × Obj)} {σ : L2.St} {H : Hp} {s : Shared} {ms : List Addr} {a : Addr} {o : Obj} {kvs : List (PD × PD)} {K : PySem.W.Frag} {w : World}
theorem rep_nested (I : Inv X pins σ H s) (hK : X.K = K) {d : PD} {v : V} {u : Value} {k : NestedKey} (r : Rep K H ms d v) (ru : RelV v u) (hk : nkey d = some k) : NestedIs s.heap k u := by
  subst hK
  obtain ⟨as, rd⟩ := Dp.reads I d v u (Rep.dp d v r) ru
  exact nested_of d u as k rd hk
/-- the object stands in the heap -/
def NHold (H : Hp) (a : Addr) (o : Obj) : Prop := H a = some (dictO a o) ∨ H a = some (.frz o (dictO a o))
theorem NHold.get (I : Inv X pins σ H s) (h : NHold H a o) : s.heap.get? a = some o := by
  rcases h with h | h
  · have x : ObjOk X.prog X.w H s.heap a (dictO a o) := I.hok a _ h
    exact x.1
  · have x : ObjOk X.prog X.w H s.heap a (.frz o (dictO a o)) := I.hok a _ h
    exact x.1
/-- an entry of the dict, in the library's words -/
structure NRel (K : PySem.W.Frag) (H : Hp) (ms : List Addr) (p : PD × PD) (x : NestedKey × Addr × Value) : Prop where
  key : nkey p.1 = some x.1
  deep : x.1.depth ≤ 8
  rep : Rep K H ms p.1 (.ref x.2.1)
  val : ∃ v, RelV v x.2.2 ∧ Rep K H ms p.2 v
theorem ent_rel {p : PD × PD} {e : DictEntry} (hk : okKey true p.1 = true) (h : EntR w K H ms p e) : ∃ x : NestedKey × Addr × Value, NRel K H ms p x ∧ e = ⟨x.1.hash w, .ref x.2.1, x.2.2⟩ := by
  obtain ⟨xs, kk, e1, e2, hd⟩ := okKey_tup hk
  obtain ⟨v, rv, rp⟩ := h.key
  obtain ⟨u, ru, rp2⟩ := h.val
  obtain ⟨k, e3, e4, hd2⟩ := h.hash
  rw [e1] at rp
  obtain ⟨b, ys, rfl, q⟩ := rp
  have rv'' : e.key = .ref b := rv
  refine ⟨(k, b, e.val), ⟨e3, hd2, by rw [e1]; exact ⟨b, ys, rfl, q⟩, u, ru, rp2⟩, ?_⟩
  cases e
  simp only at rv'' e4
  rw [rv'', e4]
theorem ents_rel : ∀ {kvs : List (PD × PD)} {es : List DictEntry}, (∀ p ∈ kvs, okKey true p.1 = true) → Paired (EntR w K H ms) kvs es → ∃ xs : List (NestedKey × Addr × Value), Paired (NRel K H ms) kvs xs ∧ es = xs.map fun x => ⟨x.1.hash w, .ref x.2.1, x.2.2⟩
  | _, _, _, .nil => ⟨[], .nil, rfl⟩
  | p :: kvs, e :: es, hk, .cons h t => by
    obtain ⟨x, h1, h2⟩ := ent_rel (hk p List.mem_cons_self) h
    obtain ⟨xs, h3, h4⟩ := ents_rel (fun q hq => hk q (List.mem_cons_of_mem _ hq)) t
    exact ⟨x :: xs, .cons h1 h3, by rw [List.map_cons, h2, h4]⟩
theorem keys_eq : ∀ {kvs : List (PD × PD)} {xs : List (NestedKey × Addr × Value)}, Paired (NRel K H ms) kvs xs → kvs.map (fun p => nkey p.1) = xs.map fun x => some x.1
  | _, _, .nil => rfl
  | _, _, .cons h t => by rw [List.map_cons, List.map_cons, keys_eq t, h.key]
theorem nd_some {xs : List (NestedKey × Addr × Value)} (h : (xs.map fun x => some x.1).Nodup) : (xs.map (·.1)).Nodup := by
  have e : (xs.map fun x => some x.1) = (xs.map (·.1)).map some := by rw [List.map_map]; rfl
  rw [e] at h
  exact List.Pairwise.imp (fun hne he => hne (congrArg some he)) (List.pairwise_map.mp h)
theorem some_nd {xs : List (NestedKey × Addr × Value)} (h : (xs.map (·.1)).Nodup) : (xs.map fun x => some x.1).Nodup := by
  have e : (xs.map fun x => some x.1) = (xs.map (·.1)).map some := by rw [List.map_map]; rfl
  rw [e]
  exact List.pairwise_map.mpr (List.Pairwise.imp (fun hne he => hne (Option.some.inj he)) h)
theorem nrel_mem : ∀ {kvs : List (PD × PD)} {xs : List (NestedKey × Addr × Value)} {x : NestedKey × Addr × Value}, Paired (NRel K H ms) kvs xs → x ∈ xs → ∃ p, NRel K H ms p x
  | _, _, _, .nil, h => nomatch h
  | _, _, _, .cons q t, h => by
    rcases List.mem_cons.mp h with rfl | h
    · exact ⟨_, q⟩
    · exact nrel_mem t h
/-- the dict in the library's words -/
theorem dct_of (I : Inv X pins σ H s) (hK : X.K = K) (hw : X.w = w) (hh : NHold H a o) (ok : ∀ p ∈ kvs, okKey true p.1 = true) (h : DctR w K H ms a kvs o) :
    ∃ xs, Paired (NRel K H ms) kvs xs ∧ s.heap.DictOfH (nestedKind X.prog X.w) a xs := by
  obtain ⟨es, ep, e, r⟩ := h.ents
  obtain ⟨xs, h1, h2⟩ := ents_rel ok r
  refine ⟨xs, h1, o, es, ep, hh.get I, h.cls, e, ?_, fun x hx => ?_, ?_⟩
  · subst hw
    exact h2
  · obtain ⟨p, q⟩ := nrel_mem h1 hx
    exact ⟨rep_nested I hK q.rep rfl q.key, q.deep⟩
  · have := h.nd
    rw [keys_eq h1] at this
    exact nd_some this
end
end Mini

set_option Elab.async false
set_option linter.all false
set_option maxRecDepth 100000
set_option maxHeartbeats 2000000
/-! Mini, part V2: what is done with dicts. -/
namespace Mini
open PySem PySem.Spec PyProof.Rows L2
section
variable {H : Hp} {ms : List Addr} {K : PySem.W.Frag}
theorem look_cons (p : PD × PD) (kvs : List (PD × PD)) (k : PD) : lookD (p :: kvs) k = if sameD p.1 k = true then some p.2 else lookD kvs k := by
  unfold lookD
  rw [List.find?_cons]
  cases sameD p.1 k <;> rfl
theorem at_cons (x : NestedKey × Addr × Value) (xs : List (NestedKey × Addr × Value)) (k : NestedKey) : atKey (x :: xs) k = if x.1 = k then some x.2 else atKey xs k := by
  unfold atKey
  rw [List.find?_cons]
  by_cases h : x.1 = k
  · rw [decide_eq_true h, if_pos h]; rfl
  · rw [decide_eq_false h, if_neg h]
theorem look_at {k : PD} {kk : NestedKey} (hk : nkey k = some kk) : ∀ {kvs : List (PD × PD)} {xs : List (NestedKey × Addr × Value)}, Paired (NRel K H ms) kvs xs →
    (∀ v, lookD kvs k = some v → ∃ b u v', atKey xs kk = some (b, u) ∧ RelV v' u ∧ Rep K H ms v v') ∧ (lookD kvs k = none → atKey xs kk = none)
  | _, _, .nil => ⟨(fun v e => by cases e), fun _ => rfl⟩
  | p :: kvs, x :: xs, .cons h t => by
    obtain ⟨h1, h2⟩ := look_at hk t
    rw [look_cons, at_cons, sameD_key h.key hk]
    by_cases e : x.1 = kk
    · rw [decide_eq_true e, if_pos rfl, if_pos e]
      obtain ⟨v', r1, r2⟩ := h.val
      exact ⟨fun v ev => by cases ev; exact ⟨_, _, v', rfl, r1, r2⟩, fun ev => by cases ev⟩
    · rw [decide_eq_false e, if_neg Bool.false_ne_true, if_neg e]
      exact ⟨h1, h2⟩
theorem look_some {k : PD} {kk : NestedKey} (hk : nkey k = some kk) {kvs : List (PD × PD)} {xs : List (NestedKey × Addr × Value)} (h : Paired (NRel K H ms) kvs xs) : (lookD kvs k).isSome = (atKey xs kk).isSome := by
  obtain ⟨h1, h2⟩ := look_at hk h
  cases e : lookD kvs k with
  | none => rw [h2 e]; rfl
  | some v => obtain ⟨b, u, v', e2, _⟩ := h1 v e; rw [e2]; rfl
theorem put_rel {k v : PD} {kk : NestedKey} {b : Addr} {u : Value} {v' : V} (hk : nkey k = some kk) (hd : kk.depth ≤ 8) (rk : Rep K H ms k (.ref b)) (ru : RelV v' u) (rv : Rep K H ms v v') {kvs : List (PD × PD)} {xs : List (NestedKey × Addr × Value)} (h : Paired (NRel K H ms) kvs xs) :
    Paired (NRel K H ms) (putD kvs k v) (storedH xs kk b u) := by
  unfold putD storedH
  rw [look_some hk h]
  split
  · have go : ∀ {kvs : List (PD × PD)} {xs : List (NestedKey × Addr × Value)}, Paired (NRel K H ms) kvs xs → Paired (NRel K H ms) (kvs.map fun p => if sameD p.1 k = true then (p.1, v) else p) (xs.map (putAt kk u)) := by
      intro kvs xs h
      induction h with
      | nil => exact .nil
      | @cons p x l₁ l₂ q t ih =>
        rw [List.map_cons, List.map_cons]
        refine .cons ?_ ih
        unfold putAt
        rw [sameD_key q.key hk]
        by_cases e : x.1 = kk
        · rw [decide_eq_true e, if_pos rfl, if_pos e]
          exact ⟨q.key, q.deep, q.rep, v', ru, rv⟩
        · rw [decide_eq_false e, if_neg Bool.false_ne_true, if_neg e]
          exact q
    exact go h
  · have go : ∀ {kvs : List (PD × PD)} {xs : List (NestedKey × Addr × Value)}, Paired (NRel K H ms) kvs xs → Paired (NRel K H ms) (kvs ++ [(k, v)]) (xs ++ [(kk, b, u)]) := by
      intro kvs xs h
      induction h with
      | nil => exact .cons ⟨hk, hd, rk, v', ru, rv⟩ .nil
      | cons q t ih => exact .cons q ih
    exact go h
theorem nrel_mapR {H' : Hp} {ms' : List Addr} (f : ∀ d v, Rep K H ms d v → Rep K H' ms' d v) {kvs : List (PD × PD)} {xs : List (NestedKey × Addr × Value)} (h : Paired (NRel K H ms) kvs xs) : Paired (NRel K H' ms') kvs xs :=
  Paired.mapP h fun p x q => ⟨q.key, q.deep, f _ _ q.rep, let ⟨v, a, b⟩ := q.val; ⟨v, a, f _ _ b⟩⟩
theorem ents_back {w : World} : ∀ {kvs : List (PD × PD)} {xs : List (NestedKey × Addr × Value)}, Paired (NRel K H ms) kvs xs → Paired (EntR w K H ms) kvs (xs.map fun x => ⟨x.1.hash w, .ref x.2.1, x.2.2⟩)
  | _, _, .nil => .nil
  | _, x :: _, .cons h t => .cons ⟨⟨V.ref x.2.1, rfl, h.rep⟩, h.val, _, h.key, rfl, h.deep⟩ (ents_back t)
theorem dct_back {P : Program} {w : World} {h : Heap} {a : Addr} {kvs : List (PD × PD)} {xs : List (NestedKey × Addr × Value)} (hm : h.DictOfH (nestedKind P w) a xs) (r : Paired (NRel K H ms) kvs xs) (hd : (a == sysModules) = false) (hl : kvs.length ≤ sizeLine) :
    ∃ o, h.get? a = some o ∧ DctR w K H ms a kvs o := by
  obtain ⟨o, es, ep, h1, h2, h3, h4, _, h5⟩ := hm
  refine ⟨o, h1, h2, hd, hl, ⟨es, ep, h3, by rw [h4]; exact ents_back r⟩, ?_⟩
  rw [keys_eq r]
  exact some_nd h5
theorem put_ok {n : Bool} {kvs : List (PD × PD)} {k v : PD} (h : ∀ p ∈ kvs, okKey n p.1 = true) (hk : okKey n k = true) : ∀ p ∈ putD kvs k v, okKey n p.1 = true := by
  intro p hp
  unfold putD at hp
  split at hp
  · obtain ⟨q, hq, rfl⟩ := List.mem_map.mp hp
    split
    · exact h q hq
    · exact h q hq
  · rcases List.mem_append.mp hp with hp | hp
    · exact h p hp
    · obtain rfl := List.mem_singleton.mp hp
      exact hk
theorem put_len {kvs : List (PD × PD)} {k v : PD} : (putD kvs k v).length ≤ kvs.length + 1 := by
  unfold putD
  split
  · rw [List.length_map]; omega
  · rw [List.length_append]; exact Nat.le_refl _
end
/-! ### keys that are numbers and texts -/
section
variable {H : Hp} {ms : List Addr} {K : PySem.W.Frag} {w : World}
def fk : PD → Option Key
  | .int i => some (.inl i)
  | .str x => some (.inr x)
  | _ => none
def knk : Key → NestedKey
  | .inl i => .num i
  | .inr x => .text x
theorem knk_inj {a b : Key} (h : knk a = knk b) : a = b := by
  cases a <;> cases b <;> simp [knk] at h <;> rw [h]
theorem fk_ok {k : PD} (h : okKey false k = true) : ∃ q, fk k = some q ∧ nkey k = some (knk q) := by
  cases k with
  | int i => exact ⟨_, rfl, rfl⟩
  | str x => exact ⟨_, rfl, rfl⟩
  | tuple xs => cases h
  | _ => cases h
theorem ok_fk {k : PD} {q : Key} (h : fk k = some q) : okKey false k = true := by
  cases k with
  | int i => rfl
  | str x => rfl
  | _ => cases h
theorem fk_rep {k : PD} {q : Key} (h : fk k = some q) : ∀ {y : V}, Rep K H ms k y ↔ y = kV q := by
  intro y
  cases k with
  | int i => cases h; exact Iff.rfl
  | str x => cases h; exact Iff.rfl
  | _ => cases h
theorem fk_same {a b : PD} {x y : Key} (h : fk a = some x) (h' : fk b = some y) : sameD a b = decide (x = y) := by
  cases a with
  | int i =>
    cases h
    cases b with
    | int j => cases h'; exact (beq_dec i j).trans (by by_cases e : i = j <;> simp [e])
    | str j => cases h'; rfl
    | _ => cases h'
  | str i =>
    cases h
    cases b with
    | int j => cases h'; rfl
    | str j => cases h'; exact (beq_dec i j).trans (by by_cases e : i = j <;> simp [e])
    | _ => cases h'
  | _ => cases h
structure FRel (K : PySem.W.Frag) (H : Hp) (ms : List Addr) (p : PD × PD) (q : Key × Value) : Prop where
  key : fk p.1 = some q.1
  val : ∃ v, RelV v q.2 ∧ Rep K H ms p.2 v
theorem flats_of (P : Program) : ∀ {kvs : List (PD × PD)} {es : List DictEntry}, (∀ p ∈ kvs, okKey false p.1 = true) → Paired (EntR w K H ms) kvs es →
    ∃ vs, Paired (FRel K H ms) kvs vs ∧ Pairs (mixKind P w) es vs ∧ ∀ e ∈ es, ∃ k, (mixKind P w).is k e.key = true ∧ e.hash = (mixKind P w).hash k
  | _, _, _, .nil => ⟨[], .nil, .nil, fun e h => nomatch h⟩
  | p :: kvs, e :: es, hk, .cons h t => by
    obtain ⟨vs, h1, h2, h3⟩ := flats_of P (fun q hq => hk q (List.mem_cons_of_mem _ hq)) t
    obtain ⟨q, f1, f2⟩ := fk_ok (hk p List.mem_cons_self)
    obtain ⟨y, r1, r2⟩ := h.key
    obtain ⟨k, g1, g2, _⟩ := h.hash
    rw [fk_rep f1] at r2
    subst r2
    rw [f2] at g1
    cases g1
    have is : (mixKind P w).is q e.key = true := kV_is r1
    have hh : e.hash = (mixKind P w).hash q := by rw [g2]; cases q <;> rfl
    refine ⟨(q, e.val) :: vs, .cons ⟨f1, h.val⟩ h1, .cons is rfl h2, fun x hx => ?_⟩
    rcases List.mem_cons.mp hx with rfl | hx
    · exact ⟨q, is, hh⟩
    · exact h3 x hx
theorem fkeys_eq : ∀ {kvs : List (PD × PD)} {vs : List (Key × Value)}, Paired (FRel K H ms) kvs vs → kvs.map (fun p => nkey p.1) = vs.map fun q => some (knk q.1)
  | _, _, .nil => rfl
  | _, _, .cons h t => by
    obtain ⟨q, f1, f2⟩ := fk_ok (ok_fk h.key)
    rw [h.key] at f1
    cases f1
    rw [List.map_cons, List.map_cons, fkeys_eq t, f2]
theorem fnd_of {vs : List (Key × Value)} (h : (vs.map fun q => some (knk q.1)).Nodup) : (vs.map (·.1)).Nodup := by
  have e : (vs.map fun q => some (knk q.1)) = (vs.map (·.1)).map fun k => some (knk k) := by rw [List.map_map]; rfl
  rw [e] at h
  exact List.Pairwise.imp (fun hne he => hne (congrArg (fun k => some (knk k)) he)) (List.pairwise_map.mp h)
theorem fnd_back {vs : List (Key × Value)} (h : (vs.map (·.1)).Nodup) : (vs.map fun q => some (knk q.1)).Nodup := by
  have e : (vs.map fun q => some (knk q.1)) = (vs.map (·.1)).map fun k => some (knk k) := by rw [List.map_map]; rfl
  rw [e]
  exact List.pairwise_map.mpr (List.Pairwise.imp (fun hne he => hne (knk_inj (Option.some.inj he))) h)
theorem valueAt_cons (x : Key × Value) (xs : List (Key × Value)) (k : Key) : valueAt (x :: xs) k = if x.1 = k then some x.2 else valueAt xs k := by
  unfold valueAt
  rw [List.find?_cons]
  by_cases h : x.1 = k
  · rw [decide_eq_true h, if_pos h]; rfl
  · rw [decide_eq_false h, if_neg h]
theorem flook_at {k : PD} {q : Key} (hk : fk k = some q) : ∀ {kvs : List (PD × PD)} {vs : List (Key × Value)}, Paired (FRel K H ms) kvs vs →
    (∀ v, lookD kvs k = some v → ∃ u v', valueAt vs q = some u ∧ RelV v' u ∧ Rep K H ms v v') ∧ (lookD kvs k = none → valueAt vs q = none)
  | _, _, .nil => ⟨(fun v e => by cases e), fun _ => rfl⟩
  | p :: kvs, x :: xs, .cons h t => by
    obtain ⟨h1, h2⟩ := flook_at hk t
    rw [look_cons, valueAt_cons, fk_same h.key hk]
    by_cases e : x.1 = q
    · rw [decide_eq_true e, if_pos rfl, if_pos e]
      obtain ⟨v', r1, r2⟩ := h.val
      exact ⟨fun v ev => by cases ev; exact ⟨_, v', rfl, r1, r2⟩, fun ev => by cases ev⟩
    · rw [decide_eq_false e, if_neg Bool.false_ne_true, if_neg e]
      exact ⟨h1, h2⟩
theorem flook_some {k : PD} {q : Key} (hk : fk k = some q) {kvs : List (PD × PD)} {vs : List (Key × Value)} (h : Paired (FRel K H ms) kvs vs) : (lookD kvs k).isSome = (valueAt vs q).isSome := by
  obtain ⟨h1, h2⟩ := flook_at hk h
  cases e : lookD kvs k with
  | none => rw [h2 e]; rfl
  | some v => obtain ⟨u, v', e2, _⟩ := h1 v e; rw [e2]; rfl
theorem any_valueAt (vs : List (Key × Value)) (q : Key) : (vs.any fun kv => decide (kv.1 = q)) = (valueAt vs q).isSome := by
  induction vs with
  | nil => rfl
  | cons x xs ih =>
    rw [List.any_cons, valueAt_cons, ih]
    by_cases e : x.1 = q
    · rw [decide_eq_true e, if_pos e]; rfl
    · rw [decide_eq_false e, if_neg e]; rfl
theorem fput_rel {k v : PD} {q : Key} {u : Value} {v' : V} (hk : fk k = some q) (ru : RelV v' u) (rv : Rep K H ms v v') {kvs : List (PD × PD)} {vs : List (Key × Value)} (h : Paired (FRel K H ms) kvs vs) : Paired (FRel K H ms) (putD kvs k v) (stored vs q u) := by
  unfold putD stored
  rw [flook_some hk h, any_valueAt]
  split
  · have go : ∀ {kvs : List (PD × PD)} {vs : List (Key × Value)}, Paired (FRel K H ms) kvs vs → Paired (FRel K H ms) (kvs.map fun p => if sameD p.1 k = true then (p.1, v) else p) (vs.map fun kv => if kv.1 = q then (kv.1, u) else kv) := by
      intro kvs vs h
      induction h with
      | nil => exact .nil
      | @cons p x l₁ l₂ r t ih =>
        rw [List.map_cons, List.map_cons]
        refine .cons ?_ ih
        rw [fk_same r.key hk]
        by_cases e : x.1 = q
        · rw [decide_eq_true e, if_pos rfl, if_pos e]
          exact ⟨r.key, v', ru, rv⟩
        · rw [decide_eq_false e, if_neg Bool.false_ne_true, if_neg e]
          exact r
    exact go h
  · have go : ∀ {kvs : List (PD × PD)} {vs : List (Key × Value)}, Paired (FRel K H ms) kvs vs → Paired (FRel K H ms) (kvs ++ [(k, v)]) (vs ++ [(q, u)]) := by
      intro kvs vs h
      induction h with
      | nil => exact .cons ⟨hk, v', ru, rv⟩ .nil
      | cons r t ih => exact .cons r ih
    exact go h
theorem fents_back {P : Program} : ∀ {kvs : List (PD × PD)} {vs : List (Key × Value)} {es : List DictEntry}, Paired (FRel K H ms) kvs vs → Pairs (mixKind P w) es vs → (∀ e ∈ es, ∃ k, (mixKind P w).is k e.key = true ∧ e.hash = (mixKind P w).hash k) → Paired (EntR w K H ms) kvs es
  | _, _, _, .nil, .nil, _ => .nil
  | p :: kvs, q :: vs, e :: es, .cons h t, .cons i1 i2 i3, hh => by
    refine .cons ?_ (fents_back t i3 fun x hx => hh x (List.mem_cons_of_mem _ hx))
    obtain ⟨k, g1, g2⟩ := hh e List.mem_cons_self
    have ek := (mixKind P w).inj _ _ _ g1 i1
    subst ek
    obtain ⟨z, f1, f2⟩ := fk_ok (ok_fk h.key)
    rw [h.key] at f1
    cases f1
    refine ⟨⟨kV q.1, ?_, (fk_rep h.key).mpr rfl⟩, by rw [i2]; exact h.val, knk q.1, f2, ?_, ?_⟩
    · rcases keyIs_shape i1 with ⟨i, t', e1, e2⟩ | ⟨x, t', e1, e2⟩
      · rw [e1, e2]; exact ⟨t', rfl⟩
      · rw [e1, e2]; exact ⟨t', rfl⟩
    · rw [g2]; cases q.1 <;> rfl
    · cases q.1 <;> exact Nat.zero_le _
theorem fdct_back {P : Program} {h : Heap} {a : Addr} {kvs : List (PD × PD)} {vs : List (Key × Value)} (hm : h.DictOf (mixKind P w) a vs) (r : Paired (FRel K H ms) kvs vs) (hd : (a == sysModules) = false) (hl : kvs.length ≤ sizeLine) :
    ∃ o, h.get? a = some o ∧ DctR w K H ms a kvs o := by
  obtain ⟨o, es, ep, h1, h2, h3, h4, h5, h6⟩ := hm
  refine ⟨o, h1, h2, hd, hl, ⟨es, ep, h3, fents_back r h5 fun e he => h4 e (Array.mem_toList_iff.mp he)⟩, ?_⟩
  rw [fkeys_eq r]
  exact fnd_back h6
end
section
variable {X : Cx} {C : Cn} {pins : List (Addr × Obj)} {σ : L2.St} {H : Hp} {s : Shared} {ms : List Addr} {a : Addr} {o : Obj} {kvs : List (PD × PD)} {k : PD} {y : V} {u : Value} {A : Around} {E : Value → Shared → Prop}
/-- a dict stands at a -/
def NAt (C : Cn) (n : Bool) (H : Hp) (ms : List Addr) (a : Addr) (kvs : List (PD × PD)) : Prop := (∀ p ∈ kvs, okKey n p.1 = true) ∧ ∃ o, DctR C.w C.K H ms a kvs o ∧ NHold H a o
theorem NAt.of {fz n : Bool} (h : ObRep C.K C.w H ms a (.dct n fz kvs)) : NAt C n H ms a kvs := by
  obtain ⟨_, h2, o, h3, h4⟩ := h
  refine ⟨h2, o, h3, ?_⟩
  cases fz
  · exact .inl h4
  · exact .inr h4
theorem NAt.dct (hK : X.K = C.K) (hw : X.w = C.w) (I : Inv X pins σ H s) (h : NAt C true H ms a kvs) : ∃ o xs, DctR C.w C.K H ms a kvs o ∧ NHold H a o ∧ Paired (NRel C.K H ms) kvs xs ∧ s.heap.DictOfH (nestedKind X.prog X.w) a xs := by
  obtain ⟨h1, o, h2, h3⟩ := h
  obtain ⟨xs, h4, h5⟩ := dct_of I hK hw h3 h1 h2
  exact ⟨o, xs, h2, h3, h4, h5⟩
theorem NAt.flat (hw : X.w = C.w) (I : Inv X pins σ H s) (h : NAt C false H ms a kvs) : ∃ o vs, DctR C.w C.K H ms a kvs o ∧ NHold H a o ∧ Paired (FRel C.K H ms) kvs vs ∧ s.heap.DictOf (mixKind X.prog X.w) a vs := by
  obtain ⟨h1, o, h2, h3⟩ := h
  obtain ⟨es, ep, e, r⟩ := h2.ents
  rw [← hw] at r
  obtain ⟨vs, g1, g2, g3⟩ := flats_of X.prog h1 r
  refine ⟨o, vs, h2, h3, g1, o, es, ep, h3.get I, h2.cls, e, fun x hx => g3 x (Array.mem_toList_iff.mpr hx), g2, ?_⟩
  have := h2.nd
  rw [fkeys_eq g1] at this
  exact fnd_of this
theorem room_n (hu : A.units + 65 < cLine) : (nestedKind X.prog X.w).room A.in1 := by
  show A.units + 1 + 8 < cLine
  omega
/-- a flat key's value -/
theorem fkey_val {w : World} (hk : okKey false k = true) (rk : Rep C.K H ms k y) (ru : RelV y u) : ∃ q, fk k = some q ∧ (mixKind X.prog w).is q u = true := by
  obtain ⟨q, f1, _⟩ := fk_ok hk
  rw [fk_rep f1] at rk
  subst rk
  exact ⟨q, f1, kV_is ru⟩
/-- the key's value -/
theorem key_val (I : Inv X pins σ H s) (hK : X.K = C.K) (hk : okKey true k = true) (rk : Rep C.K H ms k y) (ru : RelV y u) : ∃ kk b, nkey k = some kk ∧ kk.depth ≤ 8 ∧ y = .ref b ∧ u = .ref b ∧ (nestedKind X.prog X.w).is s.heap kk b := by
  obtain ⟨xs, kk, e1, e2, hd⟩ := okKey_tup hk
  subst e1
  obtain ⟨b, ys, rfl, q⟩ := id rk
  have e : u = .ref b := ru
  subst e
  exact ⟨kk, b, e2, hd, rfl, rfl, rep_nested I hK rk rfl e2, hd⟩
theorem n_getItem {n : Bool} {v : PD} {Q : Value → Shared → Prop} (hu : A.units + 65 < cLine) (hK : X.K = C.K) (hw : X.w = C.w) (I : Inv X pins σ H s) (hd : NAt C n H ms a kvs) (hk : okKey n k = true) (rk : Rep C.K H ms k y) (ru : RelV y u) (hv : lookD kvs k = some v)
    (h : ∀ w' z s', Inv X pins σ H s' → RelV z w' → Rep C.K H ms v z → Q w' s') : wpAny (model X.prog X.w) A (getItem (.ref a) u) Q E s := by
  cases n with
  | true =>
    obtain ⟨o, xs, d1, d2, rel, dd⟩ := hd.dct hK hw I
    obtain ⟨kk, b, e1, _, rfl, rfl, is⟩ := key_val I hK hk rk ru
    obtain ⟨b', u', v', e2, r1, r2⟩ := (look_at e1 rel).1 v hv
    exact wpAny_getItem_heap (room_n hu) is dd e2 (h _ v' _ (I.tok _) r1 r2)
  | false =>
    obtain ⟨o, vs, d1, d2, rel, dd⟩ := hd.flat hw I
    obtain ⟨q, f1, is⟩ := fkey_val (X := X) (C := C) (w := X.w) hk rk ru
    obtain ⟨u', v', e2, r1, r2⟩ := (flook_at f1 rel).1 v hv
    exact wpAny_getItem_of is dd.mapOf e2 (h _ v' _ (I.tok _) r1 r2)
theorem n_get {n : Bool} {z : V} {r : Value} {Q : Value → Shared → Prop} (hu : A.units + 65 < cLine) (hK : X.K = C.K) (hw : X.w = C.w) (I : Inv X pins σ H s) (hd : NAt C n H ms a kvs) (hk : okKey n k = true) (rk : Rep C.K H ms k y) (ru : RelV y u) (rz : RelV z r)
    (h : ∀ w' z' s', Inv X pins σ H s' → RelV z' w' → (match lookD kvs k with | some v => Rep C.K H ms v z' | none => z' = z) → Q w' s') : wpAny (model X.prog X.w) A (call (.builtin "dict.get") [.ref a, u, r]) Q E s := by
  cases n with
  | true =>
    obtain ⟨o, xs, d1, d2, rel, dd⟩ := hd.dct hK hw I
    obtain ⟨kk, b, e1, _, rfl, rfl, is⟩ := key_val I hK hk rk ru
    refine call_meetsIn PySem.F.slot_dict_get dd.typeIs PySem.F.entry_dict_get (PySem.F.args_dict_get_3 _ _ _) (meetsH_dict_get_default (nestedKind X.prog X.w) a b d1.mods r) ⟨room_n hu, kk, xs, is, dd, ?_⟩
    obtain ⟨l1, l2⟩ := look_at e1 rel
    cases e : lookD kvs k with
    | none =>
      rw [l2 e]
      exact h r z _ (I.tok _) rz (by rw [e])
    | some v =>
      obtain ⟨b', u', v', e2, r1, r2⟩ := l1 v e
      rw [e2]
      exact h u' v' _ (I.tok _) r1 (by rw [e]; exact r2)
  | false =>
    obtain ⟨o, vs, d1, d2, rel, dd⟩ := hd.flat hw I
    obtain ⟨q, f1, is⟩ := fkey_val (X := X) (C := C) (w := X.w) hk rk ru
    refine call_meetsIn PySem.F.slot_dict_get dd.typeIs PySem.F.entry_dict_get (PySem.F.args_dict_get_3 _ _ _) (meets_dict_get_default (mixKind X.prog X.w) a is d1.mods r) ⟨_, dd.mapOf, ?_⟩
    obtain ⟨l1, l2⟩ := flook_at f1 rel
    cases e : lookD kvs k with
    | none =>
      rw [l2 e]
      exact h r z _ (I.tok _) rz (by rw [e])
    | some v =>
      obtain ⟨u', v', e2, r1, r2⟩ := l1 v e
      rw [e2]
      exact h u' v' _ (I.tok _) r1 (by rw [e]; exact r2)
theorem n_in {n : Bool} {Q : Value → Shared → Prop} (hu : A.units + 65 < cLine) (hK : X.K = C.K) (hw : X.w = C.w) (I : Inv X pins σ H s) (hd : NAt C n H ms a kvs) (hk : okKey n k = true) (rk : Rep C.K H ms k y) (ru : RelV y u)
    (h : ∀ s', Inv X pins σ H s' → Q (.bool (lookD kvs k).isSome) s') : wpAny (model X.prog X.w) A (compareOp .In u (.ref a)) Q E s := by
  cases n with
  | true =>
    obtain ⟨o, xs, d1, d2, rel, dd⟩ := hd.dct hK hw I
    obtain ⟨kk, b, e1, _, rfl, rfl, is⟩ := key_val I hK hk rk ru
    refine wpAny_in_heap (room_n hu) is d1.mods dd ?_
    rw [← look_some e1 rel]
    exact h _ (I.tok _)
  | false =>
    obtain ⟨o, vs, d1, d2, rel, dd⟩ := hd.flat hw I
    obtain ⟨q, f1, is⟩ := fkey_val (X := X) (C := C) (w := X.w) hk rk ru
    refine wpAny_in_of is d1.mods dd.mapOf ?_
    rw [← flook_some f1 rel]
    exact h _ (I.tok _)
theorem n_notIn {n : Bool} {Q : Value → Shared → Prop} (hu : A.units + 65 < cLine) (hK : X.K = C.K) (hw : X.w = C.w) (I : Inv X pins σ H s) (hd : NAt C n H ms a kvs) (hk : okKey n k = true) (rk : Rep C.K H ms k y) (ru : RelV y u)
    (h : ∀ s', Inv X pins σ H s' → Q (.bool (!(lookD kvs k).isSome)) s') : wpAny (model X.prog X.w) A (compareOp .NotIn u (.ref a)) Q E s := by
  cases n with
  | true =>
    obtain ⟨o, xs, d1, d2, rel, dd⟩ := hd.dct hK hw I
    obtain ⟨kk, b, e1, _, rfl, rfl, is⟩ := key_val I hK hk rk ru
    refine wpAny_notIn_heap (room_n hu) is d1.mods dd ?_
    rw [← look_some e1 rel]
    exact h _ (I.tok _)
  | false =>
    obtain ⟨o, vs, d1, d2, rel, dd⟩ := hd.flat hw I
    obtain ⟨q, f1, is⟩ := fkey_val (X := X) (C := C) (w := X.w) hk rk ru
    refine wpAny_notIn_of is d1.mods dd.mapOf ?_
    rw [← flook_some f1 rel]
    exact h _ (I.tok _)
theorem n_set {v : PD} {z : V} {r : Value} {n : Nat} {st : Sto} {m : Bool} {Q : Unit → Shared → Prop} (hu : A.units + 65 < cLine) (hK : X.K = C.K) (hw : X.w = C.w) (I : Inv X pins σ H s) (sr : StRep C H ms st) (ha : ms[C.k + n]? = some a) (hst : st[n]? = some (.dct m false kvs)) (hl : kvs.length < LIM)
    (hk : okKey m k = true) (rk : Rep C.K H ms k y) (ru : RelV y u) (rz : RelV z r) (rv : Rep C.K H ms v z)
    (h : ∀ H' s', Inv X pins σ H' s' → Ext C.k H ms H' ms → StRep C H' ms (st.set n (.dct m false (putD kvs k v))) → Q () s') : wpAny (model X.prog X.w) A (setItem (.ref a) u r) Q E s := by
  cases m with
  | true =>
    have ob := sr.ob n a _ ha hst
    have hd := NAt.of ob
    obtain ⟨hm, ok, o1, q1, q2⟩ := ob
    have q2 : H a = some (dictO a o1) := q2
    obtain ⟨o, xs, d1, d2, rel, dd⟩ := hd.dct hK hw I
    obtain ⟨kk, b, e1, dp, rfl, rfl, is⟩ := key_val I hK hk rk ru
    have hz : xs.length ≤ sizeLine := by rw [← Paired.length rel]; exact d1.len
    refine wpAny_setItem_heap (hsz := hz) (room_n hu) is dd fun h' dd' hs => ?_
    have rel2 := put_rel e1 dp rk rz rv rel
    have len2 : (putD kvs k v).length ≤ sizeLine := by
      have := put_len (kvs := kvs) (k := k) (v := v)
      have := LIM_lt hl
      omega
    obtain ⟨o', g1, g2⟩ := dct_back dd' rel2 d1.mods len2
    have nf : ∀ o u, H a ≠ some (.frz o u) := fun o u e => by rw [q2] at e; cases e
    have new : ObjOk X.prog X.w (upd H a (dictO a o')) h' a (dictO a o') := ⟨g1, ⟨o', g1⟩, fun h1 h2 p q => q _ p⟩
    have I' : Inv X pins σ (upd H a (dictO a o')) { s with heap := h', toks := s.toks + (nestedKind X.prog X.w).draws kk } :=
      I.write (x := a) (e := a) (by rw [q2]; trivial) (.inl rfl) (fun b q hb z => (hs.2 b hb).trans z) ⟨o', g1⟩ new
    have x : Ext C.k H ms (upd H a (dictO a o')) ms := Ext.write sr ha nf
    refine h _ _ I' x (sr.writeO ha nf ⟨hm, put_ok ok hk, o', ?_, upd_same⟩)
    have := g2.monoS x.sub
    rw [hw] at this
    exact this
  | false =>
    have ob := sr.ob n a _ ha hst
    have hd := NAt.of ob
    obtain ⟨hm, ok, o1, q1, q2⟩ := ob
    have q2 : H a = some (dictO a o1) := q2
    obtain ⟨o, vs, d1, d2, rel, dd⟩ := hd.flat hw I
    obtain ⟨q, f1, is⟩ := fkey_val (X := X) (C := C) (w := X.w) hk rk ru
    have hz : vs.length ≤ sizeLine := by rw [← Paired.length rel]; exact d1.len
    refine wpAny_setItem_pairs (hsz := hz) is dd fun h' dd' hs => ?_
    have rel2 := fput_rel f1 rz rv rel
    have len2 : (putD kvs k v).length ≤ sizeLine := by
      have := put_len (kvs := kvs) (k := k) (v := v)
      have := LIM_lt hl
      omega
    obtain ⟨o', g1, g2⟩ := fdct_back dd' rel2 d1.mods len2
    have nf : ∀ o u, H a ≠ some (.frz o u) := fun o u e => by rw [q2] at e; cases e
    have new : ObjOk X.prog X.w (upd H a (dictO a o')) h' a (dictO a o') := ⟨g1, ⟨o', g1⟩, fun h1 h2 p q => q _ p⟩
    have I' : Inv X pins σ (upd H a (dictO a o')) { s with heap := h', toks := s.toks + 1 } :=
      I.write (x := a) (e := a) (by rw [q2]; trivial) (.inl rfl) (fun b q hb z => (hs.2 b hb).trans z) ⟨o', g1⟩ new
    have x : Ext C.k H ms (upd H a (dictO a o')) ms := Ext.write sr ha nf
    refine h _ _ I' x (sr.writeO ha nf ⟨hm, put_ok ok hk, o', ?_, upd_same⟩)
    have := g2.monoS x.sub
    rw [hw] at this
    exact this
end
end Mini

set_option Elab.async false
set_option linter.all false
set_option maxRecDepth 100000
set_option maxHeartbeats 2000000
/-! Mini, part V3: expressions and statements with dicts, and what walks them. -/
namespace Mini
open PySem PySem.Spec PyProof.Rows L2
theorem relV_inj : ∀ {x y : V} {u : Value}, RelV x u → RelV y u → x = y := by
  intro x y u h1 h2
  cases u <;> cases x <;> (try simp [L2.RelV] at h1) <;> cases y <;> (try simp [L2.RelV] at h2) <;> simp_all
theorem paired_at {α β : Type} {G : α → β → Prop} {l₁ : List α} {l₂ : List β} (h : Paired G l₁ l₂) {i : Nat} {a : α} (e : l₁[i]? = some a) : ∃ b, l₂[i]? = some b ∧ G a b := L2.paired_get h e
section
variable {X : Cx} {C : Cn} {F : Fe} {W₀ : WX} {σ : L2.St} {H : Hp} {ms : List Addr} {st : Sto}
/-- the dict that a value is -/
theorem dictAt_rep (sr : StRep C H ms st) {w : W} {v : V} {n : Bool} {kvs : List (PD × PD)} (r : WRep C H ms w v) (e : dictAt st w = some (n, kvs)) : ∃ a m fz, w = .ref m ∧ v = .ref a ∧ ms[C.k + m]? = some a ∧ st[m]? = some (.dct n fz kvs) ∧ NAt C n H ms a kvs := by
  cases w with
  | ref m =>
    obtain ⟨a, ha, rfl⟩ := r
    have e : (match st[m]? with | some (.dct m fz kvs) => some (m, kvs) | _ => none) = some (n, kvs) := e
    cases q : st[m]? with
    | none => rw [q] at e; cases e
    | some o =>
      rw [q] at e
      cases o with
      | lst _ => cases e
      | gone => cases e
      | dct n' fz kvs' =>
        cases e
        have ob := sr.ob m a _ ha q
        exact ⟨a, m, fz, rfl, rfl, ha, q, NAt.of ob⟩
  | _ => cases e
theorem key_rep {m : Bool} {k : PD} {v : V} (hk : okKey m k = true) (n : Now C.K H ms k v) : Rep C.K H ms k v := by
  cases m with
  | true =>
    obtain ⟨xs, kk, rfl, _, _⟩ := okKey_tup hk
    exact n.tupleR
  | false =>
    cases k with
    | int i => exact n.int
    | str x => exact n.str
    | tuple xs => cases hk
    | _ => cases hk
/-! ### subscripts -/
def rNix (C : Cn) : R2 := fun x y H Q => ∃ ms a m kvs k v, x = .ref a ∧ NAt C m H ms a kvs ∧ okKey m k = true ∧ Rep C.K H ms k y ∧ lookD kvs k = some v ∧ ∀ z, Rep C.K H ms v z → Q z H
theorem NHold.typeIs {pins : List (Addr × Obj)} {s : Shared} {a : Addr} {o : Obj} (I : Inv X pins σ H s) (h : NHold H a o) (c : o.ExactDict) : s.TypeIs (.ref a) "dict" := ⟨o, h.get I, c.1⟩
theorem ix_nd (hu : X.A.units + 65 < cLine) (hK : X.K = C.K) (hw : X.w = C.w) : IxR X (rNix C) := by
  intro value slice pins s σ H x y v u Q I rx ry q hs
  obtain ⟨ms, a, m, kvs, k, z, rfl, hd, hk, rk, hv, q⟩ := q
  obtain rfl : v = Value.ref a := rx
  have hT : s.TypeIs (.ref a) "dict" := by
    obtain ⟨_, o, d, hh⟩ := id hd
    exact hh.typeIs I d.cls
  unfold subscriptTail
  refine wpAny_bind ?_
  rw [getitemInPython_of_ne hT.not_modules]
  refine wpAny_bind (wpAny_specialOf hT PySem.F.slot_dict_getitem.lookup ?_)
  have fin : wpAny (model X.prog X.w) X.A (subscripted slice false (.ref a) u) (fun r s₃ => wpAny (model X.prog X.w) X.A (letTemporaryGo value (.ref a) r >>= fun _ => pure r) (EP X pins σ Q) X.xe s₃) X.xe s := by
    rw [hs]
    exact wpAny_operating (n_getItem hu hK hw I hd hk rk ry hv fun w' z' s' I' r1 r2 => wpAny_bind (wpAny_letTemporaryGo (wpAny_pure ⟨z', H, I', r1, q z' r2⟩)))
  first
    | exact wpAny_pure (wpAny_bind fin)
    | exact wpAny_bind (wpAny_pure (wpAny_bind fin))
    | exact wpAny_bind fin
theorem se_ix {a b : Expr} {ca cb : E} {pos : Pos} (hK : X.K = C.K) (hw : X.w = C.w) (hu : X.A.units + 65 < cLine) (ha : PE X a (rdE C F W₀ ca)) (hb : PE X b (rdE C F W₀ cb)) (hn : noslice b = true) : PE X (.Subscript a b pos) (rdE C F W₀ (.ix ca cb)) :=
  peW (pe_ix (ix_seq.or (ix_nd hu hK hw)) ha hb (plain_ix hn)) fun σ H Q ⟨env, st, ms, en, sr, h⟩ =>
    rd_bind en sr h fun x w st1 H1 ms1 en1 sr1 e1 r1 h1 => rd_bind en1 sr1 h1 fun y w2 st2 H2 ms2 en2 sr2 e2 r2 h2 => by
      obtain ⟨d, e, q⟩ := h2.of
      obtain ⟨z, e0, rfl⟩ := Option.map_eq_some_iff.mp e
      clear e
      have e := e0
      have q := q H2 ms2 Ext.refl sr2
      cases e' : ((view st2 w).bind fun x => (view st2 w2).bind fun y => ixD x y) with
      | some z' =>
        rw [e'] at e
        cases e
        obtain ⟨p, ep, e⟩ := Option.bind_eq_some_iff.mp e'
        obtain ⟨p2, ep2, ez⟩ := Option.bind_eq_some_iff.mp e
        have n1 := (r1.mono e2).now sr2 ep
        have n2 := r2.now sr2 ep2
        unfold ixD at ez
        split at ez <;> (try contradiction)
        · obtain ⟨aa, xs, rfl, hq, rr⟩ := n1.list
          obtain ⟨v, ev, rv⟩ := atI_rep rr ez
          exact .inl (.inl ⟨aa, xs, _, v, rfl, n2.int, by rw [hK]; exact hq, ev, q v rv⟩)
        · obtain ⟨aa, xs, rfl, hq, rr⟩ := n1.tuple
          obtain ⟨v, ev, rv⟩ := atI_rep rr ez
          exact .inl (.inr (.inl ⟨aa, xs, _, v, rfl, n2.int, by rw [hK]; exact hq, ev, q v rv⟩))
      | none =>
        rw [e'] at e
        have e : dixD st2 w w2 = some z := e
        obtain ⟨⟨n, kvs⟩, ed, e⟩ := Option.bind_eq_some_iff.mp e
        obtain ⟨k, ek, e7⟩ := Option.bind_eq_some_iff.mp e
        obtain ⟨a, m, fz, rfl, rfl, ha, hst, hd⟩ := dictAt_rep sr2 (r1.mono e2) ed
        have e7 : (if okKey n k = true then lookD kvs k else none) = some z := e7
        split at e7
        · rename_i hk
          exact .inr ⟨ms2, a, n, kvs, k, z, rfl, hd, hk, key_rep hk (r2.now sr2 ek), e7, fun u ru => q u ru⟩
        · cases e7
/-! ### in -/
theorem opR_or {f : Value → Value → Sem Value} {r r' : R2} (h : OpR X f r) (h' : OpR X f r') : OpR X f (fun x y H Q => r x y H Q ∨ r' x y H Q) := fun pins s σ H x y v u Q I rx ry q => q.elim (h pins s σ H x y v u Q I rx ry) (h' pins s σ H x y v u Q I rx ry)
def rNin (C : Cn) (neg : Bool) : R2 := fun y x H Q => ∃ ms a m kvs k, x = .ref a ∧ NAt C m H ms a kvs ∧ okKey m k = true ∧ Rep C.K H ms k y ∧ Q (.bl (neg != (lookD kvs k).isSome)) H
theorem op_nin (hu : X.A.units + 65 < cLine) (hK : X.K = C.K) (hw : X.w = C.w) : OpR X (compareOp .In) (rNin C false) := by
  intro pins s σ H y x u v Q I ry rx q
  obtain ⟨ms, a, m, kvs, k, rfl, hd, hk, rk, q⟩ := q
  obtain rfl : v = Value.ref a := rx
  exact n_in hu hK hw I hd hk rk ry fun s' I' => ⟨.bl _, H, I', rfl, by simpa using q⟩
theorem op_nnin (hu : X.A.units + 65 < cLine) (hK : X.K = C.K) (hw : X.w = C.w) : OpR X (compareOp .NotIn) (rNin C true) := by
  intro pins s σ H y x u v Q I ry rx q
  obtain ⟨ms, a, m, kvs, k, rfl, hd, hk, rk, q⟩ := q
  obtain rfl : v = Value.ref a := rx
  exact n_notIn hu hK hw I hd hk rk ry fun s' I' => ⟨.bl _, H, I', rfl, by simpa using q⟩
def rCmW (C : Cn) (o : Cm) : R2 := fun x y H Q => ∃ ms st w w2 b, StRep C H ms st ∧ WRep C H ms w x ∧ WRep C H ms w2 y ∧ (((view st w).bind fun x => (view st w2).bind fun y => cmp2 o x y) <|> dinC o st w w2) = some b ∧ Q (.bl b) H
theorem din_rep (sr : StRep C H ms st) {w w2 : W} {x y : V} {b : Bool} (r1 : WRep C H ms w x) (r2 : WRep C H ms w2 y) (e : dinD st w w2 = some b) : ∃ a m kvs k, y = .ref a ∧ NAt C m H ms a kvs ∧ okKey m k = true ∧ Rep C.K H ms k x ∧ b = (lookD kvs k).isSome := by
  obtain ⟨⟨n, kvs⟩, ed, e⟩ := Option.bind_eq_some_iff.mp e
  obtain ⟨k, ek, e7⟩ := Option.bind_eq_some_iff.mp e
  obtain ⟨a, m, fz, rfl, rfl, ha, hst, hd⟩ := dictAt_rep sr r2 ed
  have e7 : (if okKey n k = true then some (lookD kvs k).isSome else none) = some b := e7
  split at e7
  · rename_i hk
    cases e7
    exact ⟨a, n, kvs, k, rfl, hd, hk, key_rep hk (r1.now sr ek), rfl⟩
  · cases e7
theorem so_cmpW (hK : X.K = C.K) (hw : X.w = C.w) (hu : X.A.units + 65 < cLine) (o : Cm) : OpR X (compareOp (cmOf o)) (rCmW C o) := by
  have base : ∀ {x y : V} {H : Hp} {Q : VK}, rCmW C o x y H Q → rCm C (cmp2 o) x y H Q ∨ ∃ ms st w w2 b, StRep C H ms st ∧ WRep C H ms w x ∧ WRep C H ms w2 y ∧ dinC o st w w2 = some b ∧ Q (.bl b) H := by
    intro x y H Q ⟨ms, st, w, w2, b, sr, r1, r2, e, q⟩
    cases e' : ((view st w).bind fun x => (view st w2).bind fun y => cmp2 o x y) with
    | some b' =>
      rw [e'] at e
      cases e
      obtain ⟨p, ep, e⟩ := Option.bind_eq_some_iff.mp e'
      obtain ⟨p2, ep2, ez⟩ := Option.bind_eq_some_iff.mp e
      exact .inl ⟨ms, st, p, p2, b, sr, r1.now sr ep, r2.now sr ep2, ez, q⟩
    | none =>
      rw [e'] at e
      exact .inr ⟨ms, st, w, w2, b, sr, r1, r2, e, q⟩
  have plain := so_cmp (X := X) (C := C) hK hu o
  cases o with
  | mem =>
    refine opW (opR_or plain (op_nin hu hK hw)) fun x y H Q h => (base h).imp id ?_
    rintro ⟨ms, st, w, w2, b, sr, r1, r2, e, q⟩
    obtain ⟨a, m, kvs, k, h1, h2, h3, h4, rfl⟩ := din_rep sr r1 r2 e
    exact ⟨ms, a, m, kvs, k, h1, h2, h3, h4, by simpa using q⟩
  | nmem =>
    refine opW (opR_or plain (op_nnin hu hK hw)) fun x y H Q h => (base h).imp id ?_
    rintro ⟨ms, st, w, w2, b, sr, r1, r2, e, q⟩
    obtain ⟨b', e2, rfl⟩ := Option.map_eq_some_iff.mp (show (dinD st w w2).map (!·) = some b from e)
    obtain ⟨a, m, kvs, k, h1, h2, h3, h4, rfl⟩ := din_rep sr r1 r2 e2
    exact ⟨ms, a, m, kvs, k, h1, h2, h3, h4, by simpa using q⟩
  | _ =>
    refine opW plain fun x y H Q h => (base h).elim id ?_
    rintro ⟨ms, st, w, w2, b, sr, r1, r2, e, q⟩
    cases e
theorem se_cmp {a b : Expr} {ca cb : E} {pos : Pos} (hK : X.K = C.K) (hw : X.w = C.w) (hu : X.A.units + 65 < cLine) (o : Cm) (ha : PE X a (rdE C F W₀ ca)) (hb : PE X b (rdE C F W₀ cb)) (hm : behindInMarks (cmOf o) b = false) : PE X (.Compare a [cmOf o] [b] pos) (rdE C F W₀ (.cmp o ca cb)) :=
  peW (pe_cmpR (so_cmpW (C := C) hK hw hu o) ha hb hm) fun σ H Q ⟨env, st, ms, en, sr, h⟩ =>
    rd_bind en sr h fun x w st1 H1 ms1 en1 sr1 e1 r1 h1 => rd_bind en1 sr1 h1 fun y w2 st2 H2 ms2 en2 sr2 e2 r2 h2 => by
      obtain ⟨d, e, q⟩ := h2.of
      obtain ⟨z, ez, rfl⟩ := Option.map_eq_some_iff.mp e
      exact ⟨ms2, st2, w, w2, z, sr2, r1.mono e2, r2, ez, q H2 ms2 Ext.refl sr2 _ rfl⟩
theorem st_cmp {a b : Expr} {ca cb : E} {pos : Pos} (hK : X.K = C.K) (hw : X.w = C.w) (hu : X.A.units + 65 < cLine) (o : Cm) (ha : PE X a (rdE C F W₀ ca)) (hb : PE X b (rdE C F W₀ cb)) (hm : behindInMarks (cmOf o) b = false) : PT X (.Compare a [cmOf o] [b] pos) (rdB C F W₀ (.cmp o ca cb)) :=
  ptW (pt_cmpR (so_cmpW (C := C) hK hw hu o) ha hb hm) fun σ H Q ⟨env, st, ms, en, sr, h⟩ => by
    simp only [evE, cmpR, tst_bind] at h
    refine rd_bind en sr h fun x w st1 H1 ms1 en1 sr1 e1 r1 h1 => rd_bind en1 sr1 h1 fun y w2 st2 H2 ms2 en2 sr2 e2 r2 h2 => ?_
    obtain ⟨d, e, q⟩ := (Post.bind h2).of
    obtain ⟨z, ez, rfl⟩ := Option.map_eq_some_iff.mp e
    exact ⟨ms2, st2, w, w2, z, sr2, r1.mono e2, r2, ez, z, rfl, (q H2 ms2 Ext.refl sr2) H2 ms2 Ext.refl sr2⟩
/-! ### {} -/
theorem se_newd {n : Bool} {pos : Pos} : PE X (.Dict [] [] pos) (rdE C F W₀ (.newd n)) := ⟨fun pins s σ H Q I ⟨env, st, ms, en, sr, h⟩ => by
  have hb : sysModules < s.heap.objs.size := I.big
  have hp := I.hok.fresh (Nat.le_refl s.heap.objs.size)
  have g : (s.heap.push { cls := .type "dict", data := .dict #[] }).get? s.heap.objs.size = some { cls := .type "dict", data := .dict #[] } := Heap.get?_push_size _ rfl
  have new : ObjOk X.prog X.w (upd H s.heap.objs.size (dictO s.heap.objs.size { cls := .type "dict", data := .dict #[] })) (s.heap.push { cls := .type "dict", data := .dict #[] }) s.heap.objs.size (dictO s.heap.objs.size { cls := .type "dict", data := .dict #[] }) :=
    ⟨g, ⟨_, g⟩, fun h1 h2 p q => q _ p⟩
  refine wpAny_Dict_empty ⟨.ref s.heap.objs.size, _, I.laid (a := s.heap.objs.size) (t' := s.toks) (fun _ _ q => Heap.get?_push_of_some _ q) (Nat.le_refl _) new, rfl, ?_⟩
  have x : Ext C.k H ms (upd H s.heap.objs.size (dictO s.heap.objs.size { cls := .type "dict", data := .dict #[] })) (ms ++ [s.heap.objs.size]) := Ext.newS sr hp
  refine h _ _ x (sr.newO hp ⟨trivial, fun p hp => (nomatch hp), _, ⟨⟨rfl, rfl, rfl⟩, beq_eq_false_iff_ne.mpr (Ne.symm (Nat.ne_of_lt hb)), Nat.zero_le _, ⟨#[], 0, rfl, .nil⟩, List.nodup_nil⟩, upd_same⟩) _ ⟨s.heap.objs.size, ?_, rfl⟩
  rw [List.getElem?_append_right (by rw [sr.len]; exact Nat.le_refl _), sr.len, Nat.sub_self]
  rfl⟩
end
end Mini

set_option Elab.async false
set_option linter.all false
set_option maxRecDepth 100000
set_option maxHeartbeats 2000000
/-! Mini, part V4: d.get, d[k] = v, walks over lists, tuples, dicts and their items. -/
namespace Mini
open PySem PySem.Spec PyProof.Rows L2
section
variable {X : Cx} {C : Cn} {F : Fe} {W₀ : WX} {σ : L2.St} {H : Hp} {ms : List Addr} {st : Sto}
/-! ### d.get(k, z) -/
def tNGet (C : Cn) (td ty tx : TE) : TE := fun σ H Q => td σ H fun x H1 => ∃ a o, x = .ref a ∧ NHold H1 a o ∧ o.ExactDict ∧ ty σ H1 fun y H2 => tx σ H2 fun z H3 => ∃ ms m kvs k, NAt C m H3 ms a kvs ∧ okKey m k = true ∧ Rep C.K H3 ms k y ∧
  ∀ z', (match lookD kvs k with | some v => Rep C.K H3 ms v z' | none => z' = z) → Q z' H3
theorem pe_nget {o e f : Expr} {td ty tx : TE} {apos cpos : Pos} (hu : X.A.units + 65 < cLine) (hK : X.K = C.K) (hw : X.w = C.w) (ho : PE X o td) (he : PE X e ty) (hf : PE X f tx) (m : M2 X o "get" apos e f cpos) : PE X (.Call (.Attribute o "get" apos) [e, f] [] cpos) (tNGet C td ty tx) := by
  refine ⟨fun pins s σ H Q I h => ?_⟩
  refine wpAny_Call_method m.base m.few m.line PySem.F.plainAttrs_dict PySem.F.slot_dict_get PySem.F.type_dict_get (thn (ho.run pins s σ H _ I h) fun u s1 ⟨x, H1, I1, rx, a, ob, ex, hh, hc, q1⟩ => ?_)
  subst ex
  obtain rfl : u = Value.ref a := rx
  refine ⟨hh.typeIs I1 hc, fun b q => by cases q; exact ⟨ob, hh.get I1, hc.2.1⟩, ?_⟩
  rw [m.trees]
  refine Calls.callWith_builtin rfl (Calls.evalArgs_plain (Calls.spliced_cons (thn (he.run pins s1 σ H1 _ I1 q1) fun iv s2 ⟨y, H2, I2, ry, q2⟩ =>
    Calls.spliced_cons (thn (hf.run pins s2 σ H2 _ I2 q2) fun fv s3 ⟨z, H3, I3, rz, ms, m9, kvs, k, hd, hk, rk, q3⟩ => Calls.spliced_nil ?_))))
  exact n_get hu hK hw I3 hd hk rk ry rz fun w' z' s4 I4 r1 r2 => ⟨z', H3, I4, r1, q3 z' r2⟩
theorem se_dget {y : Str} {py apos cpos : Pos} {e f : Expr} {co ce cf : E} (hK : X.K = C.K) (hw : X.w = C.w) (hu : X.A.units + 65 < cLine) (ho : PE X (.Name y py) (rdE C F W₀ co)) (he : PE X e (rdE C F W₀ ce)) (hf : PE X f (rdE C F W₀ cf)) (hn : nostar e = true) (hn2 : nostar f = true) (hline : (apos.endLine == cpos.line) = true) :
    PE X (.Call (.Attribute (.Name y py) "get" apos) [e, f] [] cpos) (rdE C F W₀ (.dget co ce cf)) := by
  have tr : backTo cpos (starEach [e, f] X.env) = [(false, eval e X.env), (false, eval f X.env)] := by rw [star_eq hn, star_eq hn2]; rfl
  refine peW (pe_nget (C := C) hu hK hw ho he hf ⟨rfl, by rw [tr]; rfl, hline, tr⟩) fun σ H Q ⟨env, st, ms, en, sr, h⟩ => ?_
  refine rd_bind en sr h fun x w st1 H1 ms1 en1 sr1 e1 r1 h1 => ?_
  cases hd : dictAt st1 w with
  | none => rw [hd] at h1; exact h1.elim
  | some p =>
    obtain ⟨n, kvs⟩ := p
    rw [hd] at h1
    have h1 : Post C W₀ σ H1 ms1 ((evE F ce env st1).bind fun y s => (evE F cf env s).bind fun z s => .of (getR s w y z) s) fun w _ H' ms' => ∀ v, WRep C H' ms' w v → Q v H' := h1
    obtain ⟨a, m, fz, rfl, rfl, ha, hst, ok, o, d, hh⟩ := dictAt_rep sr1 r1 hd
    refine ⟨a, o, rfl, hh, d.cls, rd_bind en1 sr1 h1 fun y wy st2 H2 ms2 en2 sr2 e2 r2 h2 => rd_bind en2 sr2 h2 fun z wz st3 H3 ms3 en3 sr3 e3 r3 h3 => ?_⟩
    obtain ⟨w', e', q⟩ := h3.of
    obtain ⟨⟨n2, kvs2⟩, ed, e'⟩ := Option.bind_eq_some_iff.mp e'
    obtain ⟨k, ek, e5⟩ := Option.bind_eq_some_iff.mp e'
    clear e'
    obtain ⟨a2, m2, fz2, hm, hv, ha2, _, hd2⟩ := dictAt_rep sr3 ((r1.mono e2).mono e3) ed
    cases hv
    simp only at e5
    split at e5
    · rename_i hk
      refine ⟨ms3, n2, kvs2, k, hd2, hk, key_rep hk ((r2.mono e3).now sr3 ek), fun z' hz => q H3 ms3 Ext.refl sr3 z' ?_⟩
      cases el : lookD kvs2 k with
      | some v =>
        rw [el] at e5 hz
        simp only at e5 hz
        cases e5
        exact hz
      | none =>
        rw [el] at e5 hz
        simp only at e5 hz
        cases wz with
        | d x => cases e5; rw [hz]; exact r3
        | _ => cases e5
    · cases e5
/-! ### d[k] = v -/
def rNset (C : Cn) : TSet := fun o i v H Q => ∃ ms st n a m kvs k x, StRep C H ms st ∧ ms[C.k + n]? = some a ∧ st[n]? = some (.dct m false kvs) ∧ kvs.length < LIM ∧ okKey m k = true ∧ o = .ref a ∧ Rep C.K H ms k i ∧ Rep C.K H ms x v ∧
  ∀ H', Ext C.k H ms H' ms → StRep C H' ms (st.set n (.dct m false (putD kvs k x))) → Q H'
theorem set_nd (hu : X.A.units + 65 < cLine) (hK : X.K = C.K) (hw : X.w = C.w) : PSet X (rNset C) := by
  intro pins s σ H o i v ov iv u Q I ro ri rv h
  obtain ⟨ms, st, n, a, m, kvs, k, x, sr, ha, hst, hl, hk, rfl, rk, rx, q⟩ := h
  obtain rfl : ov = Value.ref a := ro
  exact n_set hu hK hw I sr ha hst hl hk rk ri rv rx fun H' s' I' x' s2 => ⟨H', I', q H' x' s2⟩
theorem pset_or {t t' : TSet} (h : PSet X t) (h' : PSet X t') : PSet X (fun o i v H Q => t o i v H Q ∨ t' o i v H Q) := fun pins s σ H o i v ov iv u Q I ro ri rv q => q.elim (h pins s σ H o i v ov iv u Q I ro ri rv) (h' pins s σ H o i v ov iv u Q I ro ri rv)
theorem sx_seti {Fs' : Fs} {e o i : Expr} {ca co ci : E} {pos tpos : Pos} (hK : X.K = C.K) (hw : X.w = C.w) (hu : X.A.units + 65 < cLine) (ho : PE X o (rdE C Fs'.fe W₀ co)) (hi : PE X i (rdE C Fs'.fe W₀ ci)) (he : PE X e (rdE C Fs'.fe W₀ ca)) (hn : nocomp e = true) (hns : noslice i = true) :
    PS X (.Assign [.Subscript o i tpos] e pos) (rdS C Fs' W₀ (.seti co ci ca)) :=
  psW (ps_asg he (pg_sub ho hi (pset_or set_list (set_nd hu hK hw)) (by intro v; cases i <;> first | rfl | cases hns)) (by cases e <;> first | rfl | cases hn) rfl rfl) fun D σ H ⟨env, st, ms, en, sr, h⟩ =>
    rs_bind en sr h fun x w st1 H1 ms1 en1 sr1 e1 r1 h1 => rs_bind en1 sr1 h1 fun ov wo st2 H2 ms2 en2 sr2 e2 r2 h2 => rs_bind en2 sr2 h2 fun iv wi st3 H3 ms3 en3 sr3 e3 r3 h3 => by
      have r2 := r2.mono e3
      have r1 := (r1.mono e2).mono e3
      cases wo with
      | d _ => exact h3.elim
      | fn _ => exact h3.elim
      | err _ _ => exact h3.elim
      | ref n =>
        cases w with
        | ref _ => exact h3.elim
        | fn _ => exact h3.elim
        | err _ _ => exact h3.elim
        | d x =>
          have h3 : PostS C W₀ D H3 ms3 (Out.ofS env ((view st3 wi).bind fun i => setD n i x st3 <|> dputD n i x st3)) := h3
          cases q : (view st3 wi).bind fun i => setD n i x st3 <|> dputD n i x st3 with
          | none => rw [q] at h3; exact h3.elim
          | some s' =>
            rw [q] at h3
            obtain ⟨pi, epi, q⟩ := Option.bind_eq_some_iff.mp q
            cases q1 : setD n pi x st3 with
            | some s2 =>
              rw [q1] at q
              cases q
              exact .inl (set_post sr3 r2 (r3.now sr3 epi) r1 q1 fun H' x' s2 => h3 σ H' ms3 x' (en3.mono x') s2)
            | none =>
              rw [q1] at q
              have q : dputD n pi x st3 = some s' := q
              obtain ⟨a, ha, rfl⟩ := r2
              unfold dputD at q
              cases hst : st3[n]? with
              | none => rw [hst] at q; cases q
              | some ob =>
                rw [hst] at q
                cases ob with
                | lst _ => cases q
                | gone => cases q
                | dct m fz kvs =>
                  cases fz with
                  | true => cases q
                  | false =>
                    have q : (if (okKey m pi && decide (kvs.length < LIM)) = true then some (st3.set n (.dct m false (putD kvs pi x))) else none) = some s' := q
                    split at q
                    · rename_i hh
                      rw [Bool.and_eq_true, decide_eq_true_eq] at hh
                      cases q
                      exact .inr ⟨ms3, st3, n, a, m, kvs, pi, x, sr3, ha, hst, hh.2, hh.1, rfl, key_rep hh.1 (r3.now sr3 epi), r1, fun H' x' s2 => h3 σ H' ms3 x' (en3.mono x') s2⟩
                    · cases q
/-! ### a dict that is walked -/
theorem Inv.lockN {pins : List (Addr × Obj)} {s : Shared} {a : Addr} {o : Obj} (I : L2.Inv X pins σ H s) (h : NHold H a o) : ∃ H', H' a = some (.frz o (dictO a o)) ∧ L2.Inv X pins σ H' s ∧ (H' = H ∨ (H a = some (dictO a o) ∧ H' = upd H a (.frz o (dictO a o)))) := by
  rcases id h with h1 | h1
  · obtain ⟨od, I2⟩ := I.lock h1 trivial
    have x : ObjOk X.prog X.w (upd H a (.frz od (dictO a o))) s.heap a (.frz od (dictO a o)) := I2.hok a _ upd_same
    have e := x.1
    rw [h.get I] at e
    cases e
    exact ⟨_, upd_same, I2, .inr ⟨h1, rfl⟩⟩
  · exact ⟨H, h1, I, .inl rfl⟩
/-- the keys -/
def ItN (a : Addr) (o : Obj) (es : Array DictEntry) : It :=
  ⟨fun i H => H a = some (.frz o (dictO a o)) ∧ i < es.size, fun i H x H' => H' = H ∧ ∃ e, es[i]? = some e ∧ RelV x e.key, fun i H => H a = some (.frz o (dictO a o)) ∧ es.size ≤ i⟩
/-- the items, each a new tuple -/
def ItNi (a : Addr) (o : Obj) (es : Array DictEntry) : It :=
  ⟨fun i H => H a = some (.frz o (dictO a o)) ∧ i < es.size, fun i H x H' => ∃ T e k v, es[i]? = some e ∧ RelV k e.key ∧ RelV v e.val ∧ x = .ref T ∧ H T = none ∧ H' = upd H T (.tup [k, v]), fun i H => H a = some (.frz o (dictO a o)) ∧ es.size ≤ i⟩
theorem turn_n {P : Program} {w : World} {K : PySem.W.Frag} {tg : Expr} {a : Addr} {o : Obj} {es : Array DictEntry} {ep : Nat} (it : Addr) (hod : o.data = .dict es ep) (hv : ∀ e ∈ es.toList, ∃ v, RelV v e.key) : Turn P w K tg (ItN a o es) [it] it (fun i h => h.IsKeyIter it a i es.size ep) where
  mem := by simp
  obj := fun i h st b hb => by
    have e : b = it := by simpa using hb
    subst e
    obtain ⟨oi, e, c, dd⟩ := st
    exact ⟨oi, e, fun v z => by rw [dd] at z; cases z⟩
  keep := fun i h h' st k => st.at fun oi e => k it (by simp) oi e
  item := by
    intro X hP hw hK hc i pins s σ H E I hf st hg
    subst hP hw hK
    obtain ⟨hd, hi⟩ := hg
    obtain ⟨f0, f1, f2, f3, f4, f5⟩ := hf it (by simp)
    have hgd := NHold.get I (.inr hd)
    have hen : es[i]? = some es[i] := by simp [hi]
    refine next_key_item st hgd hod rfl hen fun h' st' sb => ?_
    have I1 : L2.Inv X pins σ H { s with heap := h' } := I.turned (t' := s.toks) (fun b ob hb e => (sb.2 b hb).trans e) f0 f1 f3 f4 f5
    obtain ⟨oi, e, c, dd⟩ := id st'
    obtain ⟨v, rv⟩ := hv es[i] (Array.mem_toList_iff.mpr (Array.getElem_mem hi))
    exact ⟨es[i].key, rfl, go_of (s := { s with heap := h' }) e c dd (by decide) ⟨v, H, I1, rv, ⟨rfl, es[i], hen, rv⟩, st', fun b hb => (hf b hb).1⟩⟩
  done := by
    intro X hP hw hK hc i pins s σ H E I hf st hg
    subst hP hw hK
    obtain ⟨hd, hi⟩ := hg
    obtain ⟨f0, f1, f2, f3, f4, f5⟩ := hf it (by simp)
    have hgd := NHold.get I (.inr hd)
    exact next_key_end (I.ok.hd hc) st hgd hod rfl hi fun h' eb => ⟨rfl, I.turned (t' := s.toks) (fun b ob hb e => eb b ob hb e) f0 f1 f3 f4 f5⟩
  self := fun A i s Q E st h => by
    refine wpAny_pyIter_slot st.typeIs F.slot_dict_keyiterator_iter (wpAny_call_entry F.slot_dict_keyiterator_iter st.typeIs F.entry_dict_keyiterator_iter ?_ (F.args_dict_keyiterator_iter_1 _))
    show wpAny _ _ (ret (.ref it)) _ _ s
    exact wpAny_pure ⟨_, rfl, "dict_keyiterator", _, st.typeIs, F.slot_dict_keyiterator_next.lookup, h⟩
theorem turn_ni {P : Program} {w : World} {K : PySem.W.Frag} {a : Addr} {o : Obj} {es : Array DictEntry} {ep : Nat} {elts : List Expr} {kk : Nat} {tpos : Pos} (it : Addr) (hod : o.data = .dict es ep) (hx : o.ExactDict) (hv : ∀ e ∈ es.toList, (∃ v, RelV v e.key) ∧ ∃ v, RelV v e.val) :
    Turn P w K (.Tuple elts kk tpos) (ItNi a o es) [it] it (fun i h => ∃ ok ov, IsItemIter h it a i es.size ep ok ov) where
  mem := by simp
  obj := fun i h st b hb => by
    have e : b = it := by simpa using hb
    subst e
    obtain ⟨ok, ov, e⟩ := st
    exact ⟨_, e, fun v z => nomatch z⟩
  keep := fun i h h' st k => let ⟨ok, ov, e⟩ := st; ⟨ok, ov, k it (by simp) _ e⟩
  item := by
    intro X hP hw hK hc i pins s σ H E I hf st hg
    subst hP hw hK
    obtain ⟨hd, hi⟩ := hg
    have hgd := NHold.get I (.inr hd)
    have hm : s.heap.DictRaw a es ep := ⟨o, hgd, hx, hod⟩
    obtain ⟨ok, ov, he⟩ := st
    have hlt : it < s.heap.objs.size := Heap.lt_size he
    obtain ⟨⟨k, rk⟩, v, rv⟩ := hv es[i] (Array.mem_toList_iff.mpr (Array.getElem_mem hi))
    refine wpAny_pyNext_items_item_raw he hm hi fun h' ho hT hz hk => ?_
    refine ⟨_, rfl, wpAny_letOwnedTupleGo_items (s := { s with heap := h' }) ho fun h'' he' sb => ?_⟩
    have hT2 : h''.get? s.heap.objs.size = some { cls := .type "tuple", data := .seq #[es[i].key, es[i].val] } := (sb.2 _ (Nat.ne_of_gt hlt)).trans hT
    have new : ObjOk X.prog X.w (upd H s.heap.objs.size (.tup [k, v])) h'' s.heap.objs.size (.tup [k, v]) :=
      ⟨by show 2 ≤ sizeLine; decide, [es[i].key, es[i].val], .cons rk (.cons rv .nil), ⟨_, hT2, rfl, _, rfl⟩⟩
    have I1 : L2.Inv X pins σ (upd H s.heap.objs.size (.tup [k, v])) { s with heap := h'' } :=
      I.turnedNew (t' := s.toks) (ch := [it]) (fun b ob hb e => (sb.2 b (by simpa using hb)).trans (hk b ob (by simpa using hb) e)) hf (Nat.le_refl _) new
    refine ⟨.ref s.heap.objs.size, _, I1, rfl, ⟨_, es[i], k, v, by simp [hi], rk, rv, rfl, I.hok.fresh (Nat.le_refl _), rfl⟩, ⟨es[i].key, es[i].val, he'⟩, fun b hb => ?_⟩
    have e : b = it := by simpa using hb
    rw [e, upd_ne (Nat.ne_of_lt hlt)]
    exact (hf it (by simp)).1
  done := by
    intro X hP hw hK hc i pins s σ H E I hf st hg
    subst hP hw hK
    obtain ⟨hd, hi⟩ := hg
    obtain ⟨f0, f1, f2, f3, f4, f5⟩ := hf it (by simp)
    have hgd := NHold.get I (.inr hd)
    obtain ⟨ok, ov, he⟩ := st
    exact wpAny_pyNext_items_end_raw (I.ok.hd hc) he ⟨o, hgd, hx, hod⟩ hi fun h' eb => ⟨rfl, I.turned (t' := s.toks) (fun b ob hb e => eb b ob hb e) f0 f1 f3 f4 f5⟩
  self := fun A i s Q E st h => let ⟨_, _, e⟩ := st; PySem.W.kcp_self e h
/-- what may be walked: the dict stands, or is already walked -/
def iN (w : World) (td : TE) : TI := fun σ H R => td σ H fun x H1 => ∃ a o es ep, x = .ref a ∧ NHold H1 a o ∧ o.ExactDict ∧ (a == sysModules) = false ∧ o.data = .dict es ep ∧ (∀ e ∈ es.toList, ∃ v, RelV v e.key) ∧
  ∀ H', H' a = some (.frz o (dictO a o)) → (H' = H1 ∨ (H1 a = some (dictO a o) ∧ H' = upd H1 a (.frz o (dictO a o)))) → R (ItN a o es) H'
def iNi (w : World) (td : TE) : TI := fun σ H R => td σ H fun x H1 => ∃ a o es ep, x = .ref a ∧ NHold H1 a o ∧ o.ExactDict ∧ (a == sysModules) = false ∧ o.data = .dict es ep ∧ (∀ e ∈ es.toList, (∃ v, RelV v e.key) ∧ ∃ v, RelV v e.val) ∧
  ∀ H', H' a = some (.frz o (dictO a o)) → (H' = H1 ∨ (H1 a = some (dictO a o) ∧ H' = upd H1 a (.frz o (dictO a o)))) → R (ItNi a o es) H'
theorem pi_n {tg e : Expr} {td : TE} (he : PE X e td) : PI X tg e (iN X.w td) := by
  refine ⟨fun pins s σ H R I h => ?_⟩
  refine thn (he.run pins s σ H _ I h) fun u s1 ⟨x, H1, I1, rx, a, o, es, ep, ex, hh, hx, hs, hod, hv, q⟩ => ?_
  subst ex
  obtain rfl : u = Value.ref a := rx
  obtain ⟨H2, g1, I2, g2⟩ := Inv.lockN I1 hh
  exact iter_keys hs (hh.get I1) hx hod (pi_one (tk := s1.toks) I2 _ (turn_n _ hod hv) ⟨_, Heap.get?_push_size _ rfl, rfl, rfl⟩ (q H2 g1 g2))
theorem pi_ni {e : Expr} {td : TE} {apos cpos : Pos} {elts : List Expr} {kk : Nat} {tpos : Pos} (he : PE X e td) (hbase : attributeBase e "items" X.env (eval e X.env) = eval e X.env := by rfl) (hline : (apos.endLine == cpos.line) = true := by rfl) :
    PI X (.Tuple elts kk tpos) (.Call (.Attribute e "items" apos) [] [] cpos) (iNi X.w td) := by
  refine ⟨fun pins s σ H R I h => ?_⟩
  refine wpAny_Call_method (T := "dict") (id := "dict.items") hbase rfl hline F.plainAttrs_dict F.slot_dict_items F.type_dict_items (thn (he.run pins s σ H _ I h) fun u s1 ⟨x, H1, I1, rx, a, o, es, ep, ex, hh, hx, hs, hod, hv, q⟩ => ?_)
  subst ex
  obtain rfl : u = Value.ref a := rx
  have hm : s1.heap.DictRaw a es ep := ⟨o, hh.get I1, hx, hod⟩
  refine ⟨hm.typeIs, fun b q => by cases q; exact ⟨o, hh.get I1, hx.2.1⟩, ?_⟩
  obtain ⟨H2, g1, I3, g2⟩ := Inv.lockN I1 hh
  have I2 : L2.Inv X pins σ H2 { s1 with heap := s1.heap.push { cls := .type "dict_items", data := .fields #[.ref a] } } := I3.kept (t' := s1.toks) fun b ob q => Heap.get?_push_of_some _ q
  have fin : wpAny (model X.prog X.w) X.A (pyIter (.ref s1.heap.objs.size)) (PIE X pins σ (.Tuple elts kk tpos) R) X.xe { s1 with heap := s1.heap.push { cls := .type "dict_items", data := .fields #[.ref a] } } :=
    wpAny_pyIter_items_raw (d := a) ⟨_, Heap.get?_push_size _ rfl, rfl, rfl⟩ (hm.at fun o q => Heap.get?_push_of_some _ q) (pi_one (tk := s1.toks) I2 _ (turn_ni _ hod hx hv) ⟨.none, .none, Heap.get?_push_size _ rfl⟩ (q H2 g1 g2))
  show wpAny _ _ (callWith cpos (.builtin "dict.items") [.ref a] [] []) _ X.xe s1
  exact method_meetsIn F.slot_dict_items F.entry_dict_items rfl (PySem.evalArgs_none ⟨rfl, hm.typeIs, F.args_dict_items_1 _, _, meets_dict_items_raw a hs, ⟨es, ep, hm⟩, fin⟩)
end
end Mini

set_option Elab.async false
set_option linter.all false
set_option maxRecDepth 100000
set_option maxHeartbeats 2000000
/-! Mini, part V5: walks over dicts, sorted. -/
namespace Mini
open PySem PySem.Spec PyProof.Rows L2
section
variable {X : Cx} {C : Cn} {F : Fe} {W₀ : WX} {σ : L2.St} {H : Hp} {ms : List Addr} {st : Sto}
theorem wk_n {a : Addr} {o : Obj} {es : Array DictEntry} {kvs : List (PD × PD)} {w : World} (hf : H a = some (.frz o (dictO a o))) (r : Paired (EntR w C.K H ms) kvs es.toList) : Wk C (ItN a o es) [] (kvs.map (·.1)) H ms := by
  have hl : kvs.length = es.size := by rw [Paired.length r, Array.length_toList]
  refine ⟨fun i x k H' ms' st sn e => ⟨sn.frz _ _ _ hf, ?_⟩, fun i d k H' ms' st x H2 sn e y => ?_, fun i k H' ms' st sn e => ⟨sn.frz _ _ _ hf, by rw [List.length_map] at e; omega⟩⟩
  · have := (List.getElem?_eq_some_iff.mp e).1
    rw [List.length_map] at this
    omega
  · obtain ⟨rfl, en, h1, h2⟩ := y
    rw [List.getElem?_map] at e
    obtain ⟨p, ep, rfl⟩ := Option.map_eq_some_iff.mp e
    obtain ⟨en', h3, h4⟩ := paired_at r ep
    rw [Array.getElem?_toList, h1] at h3
    cases h3
    obtain ⟨v, r1, r2⟩ := h4.key
    rw [relV_inj h2 r1]
    exact ⟨Ext.refl, sn.sr, Rep.monoS sn.sub _ _ r2, fun _ _ e => e⟩
theorem wk_ni {a : Addr} {o : Obj} {es : Array DictEntry} {kvs : List (PD × PD)} {w : World} (hf : H a = some (.frz o (dictO a o))) (r : Paired (EntR w C.K H ms) kvs es.toList) : Wk C (ItNi a o es) [] (kvs.map fun p => .tuple [p.1, p.2]) H ms := by
  have hl : kvs.length = es.size := by rw [Paired.length r, Array.length_toList]
  refine ⟨fun i x k H' ms' st sn e => ⟨sn.frz _ _ _ hf, ?_⟩, fun i d k H' ms' st x H2 sn e y => ?_, fun i k H' ms' st sn e => ⟨sn.frz _ _ _ hf, by rw [List.length_map] at e; omega⟩⟩
  · have := (List.getElem?_eq_some_iff.mp e).1
    rw [List.length_map] at this
    omega
  · obtain ⟨T, en, kv, vv, h1, h2, h2', rfl, hT, rfl⟩ := y
    rw [List.getElem?_map] at e
    obtain ⟨p, ep, rfl⟩ := Option.map_eq_some_iff.mp e
    obtain ⟨en', h3, h4⟩ := paired_at r ep
    rw [Array.getElem?_toList, h1] at h3
    cases h3
    obtain ⟨v, r1, r2⟩ := h4.key
    obtain ⟨u, r3, r4⟩ := h4.val
    rw [relV_inj h2 r1, relV_inj h2' r3]
    exact pair_yld sn.sr hT (Rep.monoS sn.sub _ _ r2) (Rep.monoS sn.sub _ _ r4)
/-- walked, a dict stands as it is from now on -/
theorem freeze_rep (sr : StRep C H ms st) {a : Addr} {m : Nat} {fz : Bool} {kvs : List (PD × PD)} (ha : ms[C.k + m]? = some a) {n : Bool} (hst : st[m]? = some (.dct n fz kvs)) :
    ∃ o es ep, NHold H a o ∧ o.ExactDict ∧ (a == sysModules) = false ∧ o.data = .dict es ep ∧ Paired (EntR C.w C.K H ms) kvs es.toList ∧
      ∀ H', H' a = some (.frz o (dictO a o)) → (H' = H ∨ (H a = some (dictO a o) ∧ H' = upd H a (.frz o (dictO a o)))) → Ext C.k H ms H' ms ∧ StRep C H' ms (freeze st (.ref m)) := by
  obtain ⟨_, ok, o, d, hh⟩ := sr.ob m a _ ha hst
  obtain ⟨es, ep, hod, r⟩ := d.ents
  have ef : freeze st (.ref m) = st.set m (.dct n true kvs) := by
    show (match st[m]? with | some (.dct n _ kvs) => st.set m (.dct n true kvs) | _ => st) = _
    rw [hst]
  have nh : NHold H a o := by
    cases fz
    · exact .inl hh
    · exact .inr hh
  refine ⟨o, es, ep, nh, d.cls, d.mods, hod, r, fun H' g1 g2 => ?_⟩
  rw [ef]
  rcases g2 with rfl | ⟨g2, rfl⟩
  · have efz : fz = true := by
      cases fz
      · have hh : H' a = some (dictO a o) := hh
        rw [hh] at g1
        cases g1
      · rfl
    subst efz
    have : st.set m (.dct n true kvs) = st := by
      refine List.ext_getElem? fun i => ?_
      rw [List.getElem?_set]
      split
      · rename_i e
        subst e
        rw [hst]
        split
        · rfl
        · rename_i hlt
          exact absurd (List.getElem?_eq_some_iff.mp hst).1 hlt
      · rfl
    rw [this]
    exact ⟨Ext.refl, sr⟩
  · have nf : ∀ o u, H a ≠ some (.frz o u) := fun o u e => by rw [g2] at e; cases e
    have x : Ext C.k H ms (upd H a (.frz o (dictO a o))) ms := Ext.write sr ha nf
    exact ⟨x, sr.writeO ha nf ⟨trivial, ok, o, d.monoS x.sub, upd_same⟩⟩
/-- a list, a tuple, a dict -/
def iAny (K : PySem.W.Frag) (tl : TE) : TI := fun σ H R => tl σ H fun x H1 => (∃ a xs, x = .ref a ∧ ((SqL K H1 a xs ∧ R (Itl K a) H1) ∨ (SqT K H1 a xs ∧ R (Itt K a) H1))) ∨
  ∃ a o es ep, x = .ref a ∧ NHold H1 a o ∧ o.ExactDict ∧ (a == sysModules) = false ∧ o.data = .dict es ep ∧ (∀ e ∈ es.toList, ∃ v, RelV v e.key) ∧
  ∀ H', H' a = some (.frz o (dictO a o)) → (H' = H1 ∨ (H1 a = some (dictO a o) ∧ H' = upd H1 a (.frz o (dictO a o)))) → R (ItN a o es) H'
theorem pi_any {tg l : Expr} {tl : TE} (hl : PE X l tl) : PI X tg l (iAny X.K tl) := by
  refine ⟨fun pins s σ H R I h => ?_⟩
  refine thn (hl.run pins s σ H _ I h) fun v s1 ⟨x, H1, I1, r1, q1⟩ => ?_
  rcases q1 with ⟨a, xs, e, q⟩ | ⟨a, o, es, ep, ex, hh, hx, hs, hod, hv, q⟩
  · subst e
    cases r1
    rcases q with ⟨hq, q⟩ | ⟨hq, q⟩
    · obtain ⟨its, rv, p, hz⟩ := I1.list hq
      refine wpAny_pyIter_list p.isList ?_
      refine ⟨s1.heap.objs.size, [s1.heap.objs.size], _, _, H1, rfl, I1.kept (t' := s1.toks) fun b o e => Heap.get?_push_of_some _ e, turn_list a _, ⟨_, Heap.get?_push_size _ rfl, rfl, rfl⟩, fun b hb => ?_, q⟩
      have e : b = s1.heap.objs.size := by simpa using hb
      subst e
      exact I1.fpOk (Nat.le_refl _) (I1.hok.fresh (Nat.le_refl _))
    · obtain ⟨its, rv, p, hz⟩ := I1.tuple hq
      refine wpAny_pyIter_tuple (show s1.heap.IsTuple a its.toArray from p) ?_
      refine ⟨s1.heap.objs.size, [s1.heap.objs.size], _, _, H1, rfl, I1.kept (t' := s1.toks) fun b o e => Heap.get?_push_of_some _ e, turn_tuple a _, ⟨_, Heap.get?_push_size _ rfl, rfl, rfl⟩, fun b hb => ?_, q⟩
      have e : b = s1.heap.objs.size := by simpa using hb
      subst e
      exact I1.fpOk (Nat.le_refl _) (I1.hok.fresh (Nat.le_refl _))
  · subst ex
    obtain rfl : v = Value.ref a := r1
    obtain ⟨H2, g1, I2, g2⟩ := Inv.lockN I1 hh
    exact iter_keys hs (hh.get I1) hx hod (pi_one (tk := s1.toks) I2 _ (turn_n _ hod hv) ⟨_, Heap.get?_push_size _ rfl, rfl, rfl⟩ (q H2 g1 g2))
theorem entr_key {w : World} {K : PySem.W.Frag} : ∀ {kvs : List (PD × PD)} {es : List DictEntry}, Paired (EntR w K H ms) kvs es → ∀ e ∈ es, (∃ v, RelV v e.key) ∧ ∃ v, RelV v e.val
  | _, _, .nil, e, h => nomatch h
  | _, _, .cons q t, e, h => by
    rcases List.mem_cons.mp h with rfl | h
    · obtain ⟨v, r1, _⟩ := q.key
      obtain ⟨u, r2, _⟩ := q.val
      exact ⟨⟨v, r1⟩, u, r2⟩
    · exact entr_key t e h
theorem sw_seq {tg l : Expr} {ca : E} (hK : X.K = C.K) (hl : PE X l (rdE C F W₀ ca)) : PI X tg l (rdW C F W₀ ca) :=
  piW (pi_any hl) fun σ H R ⟨env, st, ms, en, sr, h⟩ => rd_bind en sr h fun x w st1 H1 ms1 en1 sr1 e1 r1 h1 => by
    cases hd : dictAt st1 w with
    | some p =>
      obtain ⟨n, kvs⟩ := p
      rw [hd] at h1
      obtain ⟨a, m, fz, rfl, rfl, ha, hst, _⟩ := dictAt_rep sr1 r1 hd
      obtain ⟨o, es, ep, g1, g2, g3, g4, g5, g6⟩ := freeze_rep sr1 ha hst
      refine .inr ⟨a, o, es, ep, rfl, g1, g2, g3, g4, fun e he => (entr_key g5 e he).1, fun H' q1 q2 => ?_⟩
      obtain ⟨x1, s1⟩ := g6 H' q1 q2
      exact h1 H' ms1 x1 s1 _ (wk_n q1 (Paired.mapP g5 fun _ _ q => q.monoS x1.sub))
    | none =>
    rw [hd] at h1
    obtain ⟨p, e, q⟩ := h1.of
    obtain ⟨d, ed, e⟩ := Option.bind_eq_some_iff.mp e
    obtain ⟨l', el, rfl⟩ := Option.map_eq_some_iff.mp e
    have q := q H1 ms1 Ext.refl sr1
    have n := r1.now sr1 ed
    rw [hK]
    left
    unfold itemsD at el
    split at el <;> (try contradiction)
    · cases el
      cases w with
      | d y =>
        cases ed
        obtain ⟨a, xs, rfl, h1, rr⟩ := r1
        refine ⟨a, xs, rfl, .inl ⟨SqL_of h1, q _ (wk_list fun k H' ms' st' sn => ⟨xs, ?_, RepL.monoS sn.sub _ _ rr⟩)⟩⟩
        rcases h1 with h1 | ⟨o, h1⟩ | h1
        · exact .inl (sn.sub.rd h1.1 h1.2).1
        · exact .inl (.inr ⟨o, sn.sub.frz _ _ _ h1⟩)
        · exact .inr h1
      | fn i => cases ed
      | err c xs => cases ed
      | ref m =>
        obtain ⟨a, ha, rfl⟩ := r1
        have hm : st1[m]? = some (.lst l') := by
          simp only [view] at ed
          split at ed
          · cases ed; assumption
          · cases ed
          · cases ed
          · cases ed
        obtain ⟨vs, hv, rr⟩ := sr1.ob m a _ ha hm
        refine ⟨a, vs, rfl, .inl ⟨SqL.of hv, q _ ?_⟩⟩
        have eg : guardOf (.ref m) st1 = [(m, l')] := by simp only [guardOf, hm]
        rw [eg]
        refine wk_list fun k H' ms' st' sn => ?_
        obtain ⟨vs', hv', rr'⟩ := sn.sr.ob m a _ (sn.idx m a ha) (kept_one sn.kp)
        exact ⟨vs', SqL.of hv', rr'⟩
    · cases el
      have hw : w = .d (.tuple l') := by
        cases w with
        | d y => cases ed; rfl
        | fn i => cases ed
        | err c xs => cases ed
        | ref m =>
          simp only [view] at ed
          split at ed <;> cases ed
      subst hw
      obtain ⟨a, xs, rfl, h1, rr⟩ := r1
      refine ⟨a, xs, rfl, .inr ⟨SqT_of h1, q _ (wk_tup fun k H' ms' st' sn => ⟨xs, ?_, RepL.monoS sn.sub _ _ rr⟩)⟩⟩
      rcases h1 with h1 | h1
      · exact .inl (sn.sub.rd h1.1 h1.2).1
      · exact .inr h1
theorem sw_items {y : Str} {py apos cpos : Pos} {ca : E} {elts : List Expr} {kk : Nat} {tpos : Pos} (ha : PE X (.Name y py) (rdE C F W₀ ca)) (hline : (apos.endLine == cpos.line) = true) :
    PI X (.Tuple elts kk tpos) (.Call (.Attribute (.Name y py) "items" apos) [] [] cpos) (rdW C F W₀ (.items ca)) :=
  piW (pi_ni ha rfl hline) fun σ H R ⟨env, st, ms, en, sr, h⟩ => by
    have h : Post C W₀ σ H ms ((evE F ca env st).bind fun x s => walk (match dictAt s x with
        | some p => .ok (.d (.list (p.2.map fun q => .tuple [q.1, q.2]))) (freeze s x)
        | none => .stuck)) fun p st' H' ms' => ∀ J, Wk C J p.2 p.1 H' ms' → R J H' := by
      have e : walk (evE F (.items ca) env st) = (evE F ca env st).bind fun x s => walk (match dictAt s x with
        | some p => .ok (.d (.list (p.2.map fun q => .tuple [q.1, q.2]))) (freeze s x)
        | none => .stuck) := by
        rw [evE, itemsR, walk_bind] <;> rfl
      rw [e] at h
      exact h
    refine rd_bind en sr h fun x w st1 H1 ms1 en1 sr1 e1 r1 h1 => ?_
    cases hd : dictAt st1 w with
    | none => rw [hd] at h1; exact h1.elim
    | some p =>
      obtain ⟨n, kvs⟩ := p
      rw [hd] at h1
      obtain ⟨a, m, fz, rfl, rfl, ha, hst, _⟩ := dictAt_rep sr1 r1 hd
      obtain ⟨o, es, ep, g1, g2, g3, g4, g5, g6⟩ := freeze_rep sr1 ha hst
      refine ⟨a, o, es, ep, rfl, g1, g2, g3, g4, fun e he => entr_key g5 e he, fun H' q1 q2 => ?_⟩
      obtain ⟨x1, s1⟩ := g6 H' q1 q2
      exact h1 H' ms1 x1 s1 _ (wk_ni q1 (Paired.mapP g5 fun _ _ q => q.monoS x1.sub))
/-! ### sorted -/
abbrev RV (K : PySem.W.Frag) (H : Hp) (ms : List Addr) (v : Value) (d : PD) : Prop := ∃ x, RelV x v ∧ Rep K H ms d x
theorem each_of {K : PySem.W.Frag} : ∀ {ds : List PD} {xs : List V} {vs : List Value}, RepL K H ms ds xs → Vals xs vs → PySem.W.EachIs (RV K H ms) vs ds
  | [], _, _, h, r => by rw [show _ = [] from h] at r; cases r; exact .nil
  | d :: ds, _, _, h, r => by
    obtain ⟨v, t, rfl, h1, h2⟩ := h
    cases r with
    | cons a b => exact .cons ⟨v, a, h1⟩ (each_of h2 b)
theorem each_back {K : PySem.W.Frag} : ∀ {ds : List PD} {vs : List Value}, PySem.W.EachIs (RV K H ms) vs ds → ∃ xs, Vals xs vs ∧ RepL K H ms ds xs
  | _, _, .nil => ⟨[], .nil, rfl⟩
  | _, _, .cons ⟨x, r, h⟩ t => by
    obtain ⟨xs, h1, h2⟩ := each_back t
    exact ⟨x :: xs, .cons r h1, x, xs, rfl, h, h2⟩
mutual
theorem reads_nil {h : Heap} : ∀ (d : PD) (u : Value) (as : List Addr) (k : NestedKey), Reads h u d as → nkey d = some k → as = []
  | .none, u, as, k, r, e => by cases r; rfl
  | .int i, u, as, k, r, e => by cases r; rfl
  | .str x, u, as, k, r, e => by cases r; rfl
  | .tuple xs, u, as, k, r, e => by
    obtain ⟨ks, e2, rfl⟩ := nkey_tup e
    cases r with
    | tuple h1 h2 h3 h4 => exact readsAll_nil xs _ _ ks h4 e2
  | .bool _, u, as, k, r, e => by cases e
  | .list _, u, as, k, r, e => by cases e
  | .dict _, u, as, k, r, e => by cases e
theorem readsAll_nil {h : Heap} : ∀ (ds : List PD) (us : List Value) (as : List Addr) (ks : List NestedKey), ReadsAll h us ds as → nkeys ds = some ks → as = []
  | [], us, as, ks, r, e => by cases r; rfl
  | d :: ds, us, as, ks, r, e => by
    obtain ⟨k, r', e1, e2, rfl⟩ := nkeys_some e
    cases r with
    | cons h1 h2 => rw [reads_nil d _ _ k h1 e1, readsAll_nil ds _ _ r' h2 e2]; rfl
end
theorem each_reads {pins : List (Addr × Obj)} {s : Shared} (I : L2.Inv X pins σ H s) (hK : X.K = C.K) : ∀ {vs : List Value} {ds : List PD}, PySem.W.EachIs (RV C.K H ms) vs ds → PySem.W.EachIs (fun v d => ∃ as, Reads s.heap v d as) vs ds
  | _, _, .nil => .nil
  | _, _, .cons ⟨x, r, h⟩ t => .cons (by
      have := Rep.dp _ _ h
      rw [← hK] at this
      exact Dp.reads I _ _ _ this r) (each_reads I hK t)
theorem sortD_some {l l' : List PD} (h : sortD l = some l') : l.length ≤ 1000000 ∧ PySem.W.AllAlike (l.map fun x => x) ∧ PySem.W.Sortable (l.map fun x => x) ∧ (∀ x ∈ l, x.depth ≤ 50) ∧ l' = l.mergeSort (PySem.W.dataLe false fun x => x) := by
  unfold sortD at h
  split at h
  · rename_i hh
    cases h
    obtain ⟨⟨h1, h2⟩, h3, h4⟩ := hh
    refine ⟨h1, ?_, ?_, fun x hx => of_decide_eq_true (List.all_eq_true.mp h4 x hx), rfl⟩
    · rw [List.map_id'']
      · exact fun d hd d' hd' => List.all_eq_true.mp (List.all_eq_true.mp h2 d hd) d' hd'
      · exact fun _ => rfl
    · rw [List.map_id'']
      · rw [Bool.or_eq_true] at h3
        rcases h3 with h3 | h3
        · refine .inl fun d hd => ?_
          have := List.all_eq_true.mp h3 d hd
          split at this
          · exact ⟨_, _, rfl⟩
          · cases this
        · refine .inr fun d hd => ?_
          have := List.all_eq_true.mp h3 d hd
          split at this
          · cases this
          · cases this
          · rename_i n1 n2
            exact ⟨fun z => n1 z, fun xs z => n2 xs z⟩
      · exact fun _ => rfl
  · cases h
def rSrt (C : Cn) : List V → Hp → VK → Prop := fun vs H Q => ∃ ms st w v l, vs = [v] ∧ StRep C H ms st ∧ WRep C H ms w v ∧ (srcD st w).bind sortD = some l ∧ ∀ H', Ext C.k H ms H' ms → StRep C H' ms st → ∀ u, Rep C.K H' ms (.list l) u → Q u H'
theorem each_len {α β : Type} {R : α → β → Prop} {l : List α} {m : List β} (h : PySem.W.EachIs R l m) : l.length = m.length := h.length
/-- the new list -/
theorem srt_end {pins : List (Addr × Obj)} {s : Shared} {Q : VK} {l' : List PD} {out : List Value} {h' : Heap} {d : Addr} {t : Nat} (I : L2.Inv X pins σ H s) (sr : StRep C H ms st) (hR : PySem.W.EachIs (RV C.K H ms) out l') (hl : l'.length ≤ 1000000)
    (kp : ∀ b o, s.heap.get? b = some o → h'.get? b = some o) (hd : s.heap.objs.size ≤ d) (hg : ∃ n, h'.get? d = some (seqObj "list" out.toArray n))
    (q : ∀ H', Ext C.k H ms H' ms → StRep C H' ms st → ∀ u, Rep C.K H' ms (.list l') u → Q u H') : EP X pins σ Q (.ref d) { s with heap := h', toks := t } := by
  obtain ⟨xs, h1, h2⟩ := each_back hR
  obtain ⟨n, hn⟩ := hg
  have hp := I.hok.fresh hd
  have x : Ext C.k H ms (upd H d (.lst xs)) ms := Ext.new hp
  refine ⟨.ref d, upd H d (.lst xs), I.laid (t' := t) kp hd ⟨?_, out, n, h1, hn⟩, rfl, q _ x (sr.new hp) _ ⟨d, xs, rfl, .inl ⟨sr.free hp, .inl upd_same⟩, RepL.mono x _ _ h2⟩⟩
  rw [h2.length, sizeLine_eq]
  omega
theorem each_keys {w : World} {K : PySem.W.Frag} : ∀ {kvs : List (PD × PD)} {es : List DictEntry}, Paired (EntR w K H ms) kvs es → PySem.W.EachIs (RV K H ms) (es.map (·.key)) (kvs.map (·.1))
  | _, _, .nil => .nil
  | _, _, .cons q t => .cons q.key (each_keys t)
theorem each_apart {h h2 : Heap} {a : Addr} (kp : ∀ b o, h.get? b = some o → h2.get? b = some o) : ∀ {vs : List Value} {ds : List PD}, PySem.W.EachIs (fun v d => ∃ as, Reads h v d as) vs ds → (∀ d ∈ ds, ∃ k, nkey d = some k) → PySem.W.EachIs (fun v d => ∃ as, Reads h2 v d as ∧ a ∉ as) vs ds
  | _, _, .nil, _ => .nil
  | _, _, .cons ⟨as, r⟩ t, ok => .cons (by
      obtain ⟨kk, e2⟩ := ok _ List.mem_cons_self
      refine ⟨as, PyProof.Rows.Reads.keeps kp r, ?_⟩
      rw [reads_nil _ _ _ _ r e2]
      simp) (each_apart kp t fun d hd => ok d (List.mem_cons_of_mem _ hd))
theorem cr_srt (hc : X.calm = true) (hK : X.K = C.K) (hw : X.w = C.w) (hu : X.A.units + 65 < cLine) : CallR X (.builtin "sorted") (rSrt C) := by
  intro pins s σ H vs us Q I r h
  obtain ⟨ms, st, w, v, l, rfl, sr, rw', e, q⟩ := h
  obtain ⟨u, rfl, ru⟩ := vals1 r
  obtain ⟨l0, es, el⟩ := Option.bind_eq_some_iff.mp e
  obtain ⟨hl, hal, hsk, hdp, rfl⟩ := sortD_some el
  have hlen : (l0.mergeSort (PySem.W.dataLe false fun x => x)).length ≤ 1000000 := by rw [List.length_mergeSort]; exact hl
  unfold srcD at es
  cases hd : dictAt st w with
  | none =>
    rw [hd] at es
    obtain ⟨p, ep, es⟩ := Option.bind_eq_some_iff.mp es
    cases p with
    | list l1 =>
      cases es
      obtain ⟨a, xs, rfl, hs, rr⟩ := (rw'.now sr ep).list
      obtain rfl : u = Value.ref a := ru
      rw [← hK] at hs
      obtain ⟨its, rv, hp, hz⟩ := I.list hs
      have ei := each_of rr rv
      exact PySem.W.sorted_data (R := RV C.K H ms) (enc := fun x => x) hp.isList ei (each_reads I hK ei) hal hsk (by rw [sizeLine_eq]; omega) (fun b hb => by
          have := hdp b hb
          show X.A.units + 2 + b.depth < cLine
          omega) fun out ho hR => srt_end (t := s.toks) I sr hR hlen (fun b o q => sortedAll_old q) (Nat.le_succ _) (sortedAll_at _ _ _) q
    | _ => cases es
  | some p =>
    obtain ⟨n, kvs⟩ := p
    rw [hd] at es
    cases es
    obtain ⟨a, m, fz, rfl, rfl, ha, hst, ok, o, d, hh⟩ := dictAt_rep sr rw' hd
    obtain rfl : u = Value.ref a := ru
    obtain ⟨es, ep, hod, rel⟩ := d.ents
    have hm : s.heap.DictRaw a es ep := ⟨o, hh.get I, d.cls, hod⟩
    have hsz : kvs.length = es.size := by rw [Paired.length rel, Array.length_toList]
    have hl : kvs.length ≤ 1000000 := by rw [List.length_map] at hl; exact hl
    refine Calls.call_function_entry PyProof.Rows.kind_sorted PyProof.Rows.plain_sorted PyProof.Rows.entry_sorted (PyProof.Rows.args_sorted1 _) ?_
    unfold Builtin.«sorted»
    refine wpAny_bind (m := checkCount "sorted" 1 1 _) (wpAny_pure ?_)
    refine wpAny_bind (PySem.W.kdu_collect (A := X.A.in1) (PySem.KdlSrc.rawDict (es := es) (ep := ep) d.mods) (I.ok.hd hc) hm (by rw [sizeLine_eq]; omega) fun h' tk acc hk hacc => ?_)
    have hal' : acc.toList.length = es.size := by rw [Array.length_toList, hacc.1]
    have hkeys : acc.toList = es.toList.map (·.key) := by
      refine List.ext_getElem? fun j => ?_
      cases hj : acc.toList[j]? with
      | none =>
        have := List.getElem?_eq_none_iff.mp hj
        rw [List.getElem?_eq_none]
        rw [List.length_map, Array.length_toList]
        omega
      | some v =>
        obtain ⟨hi, rfl⟩ := hacc.2 j v (by rw [← Array.getElem?_toList]; exact hj)
        rw [List.getElem?_map, Array.getElem?_toList]
        simp [hi]
    have I1 : L2.Inv X pins σ H { s with heap := h', toks := tk } := I.kept hk
    have ei : PySem.W.EachIs (RV C.K H ms) acc.toList (kvs.map (·.1)) := by
      rw [hkeys]
      exact each_keys rel
    refine wpAny_bind (wpAny_newList ?_ (by rw [hal', ← hsz, sizeLine_eq]; omega))
    have hoL : (h'.push (seqObj "list" acc.toList.toArray 0)).get? h'.objs.size = some (seqObj "list" acc.toList.toArray 0) := Heap.get?_push_size _ rfl
    show wpAny _ _ _ _ _ { s with heap := h'.push (seqObj "list" acc.toList.toArray 0), toks := tk }
    have kp : ∀ b o, s.heap.get? b = some o → (h'.push (seqObj "list" acc.toList.toArray 0)).get? b = some o := fun b o q => Heap.get?_push_of_some _ (hk b o q)
    have er := each_apart (a := h'.objs.size) kp (each_reads I hK ei) fun d hd => by
      obtain ⟨p, hp, rfl⟩ := List.mem_map.mp hd
      have h9 := ok p hp
      cases n with
      | true =>
        obtain ⟨xs, kk, e, e2, _⟩ := okKey_tup h9
        exact ⟨kk, e2⟩
      | false =>
        obtain ⟨q, _, f2⟩ := fk_ok h9
        exact ⟨_, f2⟩
    refine wpAny_bind (wpAny_holding (PySem.W.list_sort_data (R := RV C.K H ms) (enc := fun x => x) (s := { s with heap := h'.push (seqObj "list" acc.toList.toArray 0), toks := tk }) hoL ei er hal hsk (by rw [List.length_map, sizeLine_eq]; omega) (fun b hb => ?_) fun out ho hR => ?_))
    · have := hdp b hb
      show X.A.units + 1 + 1 + b.depth < cLine
      omega
    · refine wpAny_pure ⟨_, rfl, srt_end (s := { s with heap := h', toks := tk }) (t := tk) I1 sr hR hlen (fun b o q => ?_) (Nat.le_refl _) (PyProof.Rows.sortedHeap_at (vs := acc.toList) (out := out.toArray) hoL) q⟩
      have hb : b < h'.objs.size := Heap.lt_size q
      rw [PyProof.Rows.sortedHeap_old (Nat.ne_of_lt hb) (by rw [size_push']; exact Nat.lt_succ_of_lt hb)]
      exact Heap.get?_push_of_some _ q
theorem se_srt {p pos : Pos} {a : Expr} {ca : E} (hc : X.calm = true) (hK : X.K = C.K) (hw : X.w = C.w) (hu : X.A.units + 65 < cLine) (hg : Gl X "sorted") (hm : X.mg "sorted" = none) (ha : PE X a (rdE C F W₀ ca)) (hn : nostar a = true) :
    PE X (.Call (.Name "sorted" p) [a] [] pos) (rdE C F W₀ (.srt ca)) :=
  peW (pe_callB (cr_srt (C := C) hc hK hw hu) hg hm (by decide +kernel) (sl_cons ha sl_nil hn) (by decide +kernel) (by decide +kernel) (star_eq hn) (star_any rfl)) fun σ H Q ⟨env, st, ms, en, sr, h⟩ => by
    have h : Post C W₀ σ H ms ((evL F (.cons ca .nil) env st).bind fun ws s => match ws with | [x] => .of (((srcD s x).bind sortD).map fun l => W.d (.list l)) s | _ => .stuck) fun w _ H' ms' => ∀ v, WRep C H' ms' w v → Q v H' := by
      have e : (evL F (.cons ca .nil) env st).bind (fun ws s => match ws with | [x] => .of (((srcD s x).bind sortD).map fun l => W.d (.list l)) s | _ => .stuck) = evE F (.srt ca) env st := by
        rw [evL1, evE, srtR, bind_bind]
        rfl
      rw [e]
      exact h
    refine rdL_bind en sr h fun vs ws st1 H1 ms1 en1 sr1 e1 r1 h1 => ?_
    match ws, vs, r1 with
    | [x], [v], .cons r .nil =>
      obtain ⟨w, e, q⟩ := h1.of
      obtain ⟨l, el, rfl⟩ := Option.map_eq_some_iff.mp e
      exact ⟨ms1, st1, x, v, l, rfl, sr1, r, el, fun H' x' s' u ru => q H' ms1 x' s' u ru⟩
    | [], [], .nil => exact h1.elim
    | _ :: _ :: _, _, .cons _ (.cons _ _) => exact h1.elim
/-! ### a, b = x, y in order, by a tuple -/
theorem gNames_ofW : ∀ (is : List Nat) {ws : List W} {xs : List V} {σ : L2.St} {env env' : En} {Q : L2.St → Hp → Prop}, EnRep C H ms σ env → WReps C H ms ws xs → putAllW is ws env = some env' →
    (∀ σ', EnRep C H ms σ' env' → Q σ' H) → gNames is xs σ H Q
  | [], ws, xs, σ, env, env', Q, en, r, e, q => by
    cases r with
    | nil =>
      cases e
      exact ⟨rfl, q σ en⟩
    | cons _ _ => cases e
  | i :: is, ws, xs, σ, env, env', Q, en, r, e, q => by
    cases r with
    | nil => cases e
    | cons r1 r2 =>
      obtain ⟨env1, e1, e2⟩ := Option.bind_eq_some_iff.mp e
      exact ⟨_, _, rfl, gNames_ofW is (en.put r1 e1) r2 e2 q⟩
theorem putAllW_len : ∀ {is : List Nat} {ws : List W} {env env' : En}, putAllW is ws env = some env' → ws.length = is.length
  | [], [], _, _, _ => rfl
  | [], _ :: _, _, _, e => by cases e
  | _ :: _, [], _, _, e => by cases e
  | i :: is, d :: ds, _, _, e => by
    obtain ⟨env1, e1, e2⟩ := Option.bind_eq_some_iff.mp e
    rw [List.length_cons, List.length_cons, putAllW_len e2]
theorem sx_parN {Fs' : Fs} {ts es : List Expr} {is : List Nat} {ca : E} {k k2 : Nat} {p p2 pos : Pos} (hc : X.calm = true) (hN : X.N.Nodup) (hn : NamesAt X ts is) (hl : is.length ≤ 100) (ha : PA X es (rdL C Fs'.fe W₀ ca)) (hw : swappedStores [.Tuple ts k p] (.Tuple es k2 p2) X.env = pure none) :
    PS X (.Assign [.Tuple ts k p] (.Tuple es k2 p2) pos) (rdS C Fs' W₀ (.par is ca)) :=
  psW (ps_asg (pe_tup ha) (pg_tup hc (names_pgs hN hn) (names_len hn) (names_idx hn)) tup_sw hw rfl) fun D σ H ⟨env, st, ms, en, sr, h⟩ => rsL_bind en sr h fun vs ws st' H' ms' en' sr' x r q => by
    obtain ⟨v', ev, q9⟩ := q.of
    have len : vs.length = is.length := by rw [← putAllW_len ev]; exact (Paired.length r).symm
    refine ⟨by rw [len, sizeLine_eq]; omega, fun T hT => ?_⟩
    have x2 : Ext C.k H' ms' (upd H' T (.tup vs)) ms' := Ext.new hT
    have sr2 : StRep C (upd H' T (.tup vs)) ms' st' := sr'.new hT
    exact ⟨T, vs, rfl, .inl (.inl upd_same), len, gNames_ofW is (en'.mono x2) (r.mono x2) ev fun σ' en2 => q9 σ' _ ms' x2 en2 sr2⟩
end
end Mini

set_option Elab.async false
set_option linter.all false
set_option maxRecDepth 100000
set_option maxHeartbeats 2000000
/-! Mini, part V6: list(range(..)), insert, extend, index. -/
namespace Mini
open PySem PySem.Spec PyProof.Rows L2
section
variable {C : Cn} {F : Fe} {W₀ : WX} {X : Cx} {a b : Expr} {ca cb co : E} {H : Hp} {ms : List Addr} {st : Sto} {σ : L2.St} {p p2 pos pos2 : Pos}
theorem repL_ints : ∀ (l : List Int), RepL C.K H ms (l.map .int) (l.map V.int)
  | [] => rfl
  | i :: l => ⟨.int i, l.map V.int, rfl, rfl, repL_ints l⟩
theorem rgV_rep (lo hi : Int) : RepL C.K H ms ((List.range (hi - lo).toNat).map fun (i : Nat) => .int (lo + i)) (rgV lo hi) := by
  have h := repL_ints (C := C) (H := H) (ms := ms) ((List.range (hi - lo).toNat).map fun (i : Nat) => lo + i)
  rw [List.map_map, List.map_map] at h
  exact h
theorem lrange_ok {lo hi : Int} {l : List PD} (hc : hi - lo ≤ LIM) (e : rangeD lo hi = some l) : RgOk lo hi ∧ l = (List.range (hi - lo).toNat).map fun (i : Nat) => .int (lo + i) := by
  unfold rangeD at e
  split at e
  · rename_i h
    cases e
    have hL : LIM = 16777216 := rfl
    exact ⟨⟨h.1, h.2.1, h.2.2.1, h.2.2.2, by omega⟩, rfl⟩
  · cases e
theorem se_lrng1 (hc : X.calm = true) (hg : Gl X "list") (hm : X.mg "list" = none) (hg2 : Gl X "range") (hm2 : X.mg "range" = none) (ha : PE X a (rdE C F W₀ ca)) (hn : nostar a = true) :
    PE X (.Call (.Name "list" p) [.Call (.Name "range" p2) [a] [] pos2] [] pos) (rdE C F W₀ (.lrng (.cons ca .nil))) :=
  peW (pe_listRg hc hg hm (prg_1 hg2 hm2 ha (star_eq hn))) fun σ H Q ⟨env, st, ms, en, sr, h⟩ => by
    simp only [evE, evL] at h
    unfold lrngR at h
    cases e1 : evE F ca env st with
    | stuck => rw [e1] at h; exact h.elim
    | exc c xs s =>
      refine ⟨env, st, ms, en, sr, ?_⟩
      rw [e1] at h ⊢
      exact h
    | ok w st1 =>
      refine ⟨env, st, ms, en, sr, ?_⟩
      rw [e1] at h ⊢
      have h : Post C W₀ σ H ms (Rs.of ((datas st1 [w]).bind _) st1) _ := h
      refine fun H1 ms1 x1 sr1 v rv => ?_
      obtain ⟨z, ez, q⟩ := h.of
      obtain ⟨xs, ed, ez⟩ := Option.bind_eq_some_iff.mp ez
      have hnow := datas_now sr1 (.cons rv .nil : WReps C H1 ms1 [w] [v]) ed
      split at ez
      · split at ez
        · rename_i hle
          obtain ⟨l, el, rfl⟩ := Option.map_eq_some_iff.mp ez
          obtain ⟨ok, rfl⟩ := lrange_ok (by omega) el
          obtain ⟨u, eu, r1⟩ := now1 hnow
          cases eu
          refine ⟨_, r1.int, ok, mkLst sr1 (rgV_rep 0 _) fun H' x' s' v' rv' => ?_⟩
          exact q H' ms1 (x1.trans x') s' v' rv'
        · cases ez
      · cases hnow with
        | cons _ t => cases t
      · cases ez
theorem se_lrng2 (hc : X.calm = true) (hg : Gl X "list") (hm : X.mg "list" = none) (hg2 : Gl X "range") (hm2 : X.mg "range" = none) (ha : PE X a (rdE C F W₀ ca)) (hb : PE X b (rdE C F W₀ cb)) (hn : nostar a = true) (hn' : nostar b = true) :
    PE X (.Call (.Name "list" p) [.Call (.Name "range" p2) [a, b] [] pos2] [] pos) (rdE C F W₀ (.lrng (.cons ca (.cons cb .nil)))) :=
  peW (pe_listRg hc hg hm (prg_2 hg2 hm2 ha hb (star_eq hn) (star_eq hn') (by rw [star_eq hn']; rfl))) fun σ H Q ⟨env, st, ms, en, sr, h⟩ => by
    have e0 : evE F (.lrng (.cons ca (.cons cb .nil))) env st = (evE F ca env st).bind fun x s => (evE F cb env s).bind fun y s => lrngR (.ok [x, y] s) := by
      simp only [evE, evL, lrngR]
      cases evE F ca env st with
      | ok x s =>
        simp only [Rs.bind]
        cases evE F cb env s <;> rfl
      | _ => rfl
    rw [e0] at h
    refine rd_bind en sr h fun v w st1 H1 ms1 en1 sr1 x1 r1 h1 => ?_
    refine rd_bind en1 sr1 h1 fun v2 w2 st2 H2 ms2 en2 sr2 x2 r2 h2 => ?_
    obtain ⟨z, ez, q⟩ := h2.of
    obtain ⟨xs, ed, ez⟩ := Option.bind_eq_some_iff.mp ez
    have hnow := datas_now sr2 (.cons (r1.mono x2) (.cons r2 .nil) : WReps C H2 ms2 [w, w2] [v, v2]) ed
    split at ez
    · cases hnow with
      | cons _ t => cases t
    · split at ez
      · rename_i hle
        obtain ⟨l, el, rfl⟩ := Option.map_eq_some_iff.mp ez
        obtain ⟨ok, rfl⟩ := lrange_ok (by omega) el
        obtain ⟨u, u2, eu, n1, n2⟩ := now2 hnow
        cases eu
        refine ⟨_, _, n1.int, n2.int, ok, mkLst sr2 (rgV_rep _ _) fun H' x' s' v' rv' => ?_⟩
        exact q H' ms2 x' s' v' rv'
      · cases ez
    · cases ez
/-! ### xs.index(x) -/
theorem eqv_first : ∀ (ds : List PD) (y : PD) (j : Nat), ds.findIdx? (fun z => PyData.eqv z y) = some j → ∃ z, ds[j]? = some z ∧ PyData.eqv z y = true ∧ ∀ (m : Nat) (z' : PD), m < j → ds[m]? = some z' → PyData.eqv z' y = false := by
  intro ds y j h
  obtain ⟨hlt, h1, h2⟩ := List.findIdx?_eq_some_iff_getElem.mp h
  refine ⟨ds[j], List.getElem?_eq_getElem hlt, h1, fun m z' hm e => ?_⟩
  obtain ⟨hl, rfl⟩ := List.getElem?_eq_some_iff.mp e
  have := h2 m hm
  simpa using this
theorem se_index {y : Str} {py apos cpos : Pos} (hK : X.K = C.K) (hu : X.A.units + 65 < cLine) (ho : PE X (.Name y py) (rdE C F W₀ co)) (ha : PE X a (rdE C F W₀ ca)) (hn : nostar a = true) (hline : (apos.endLine == cpos.line) = true) :
    PE X (.Call (.Attribute (.Name y py) "index" apos) [a] [] cpos) (rdE C F W₀ (.index co (.cons ca .nil))) :=
  peW (pe_bm PySem.F.plainAttrs_list PySem.F.slot_list_index PySem.F.type_list_index (mt_indexD hu) ho (sl_cons ha sl_nil hn) rfl (by rw [star_eq hn]; rfl) hline (star_eq hn) rfl) fun σ H Q ⟨env, st, ms, en, sr, h⟩ => by
    simp only [evE] at h
    unfold idxR at h
    refine rd_bind en sr h fun x w st1 H1 ms1 en1 sr1 x1 r1 h1 => ?_
    cases hL : lstW st1 w with
    | false => rw [hL] at h1; exact h1.elim
    | true =>
    rw [hL, if_pos rfl] at h1
    have hty : tyV X.K "list" x H1 := by
      unfold lstW at hL
      cases hv : view st1 w with
      | none => rw [hv] at hL; cases hL
      | some d =>
        rw [hv] at hL
        cases d with
        | list ds =>
          obtain ⟨a0, xs, rfl, q1, _⟩ := (r1.now sr1 hv).list
          exact .inl ⟨rfl, xs, by rw [hK]; exact q1⟩
        | _ => cases hL
    refine ⟨hty, rdL_bind en1 sr1 h1 fun vs ws st2 H2 ms2 en2 sr2 x2 r2 h2 => ?_⟩
    obtain ⟨z, ez, q⟩ := h2.of
    obtain ⟨d, ed, rfl⟩ := Option.map_eq_some_iff.mp ez
    obtain ⟨d1, e1, ed⟩ := Option.bind_eq_some_iff.mp ed
    obtain ⟨l, e2, ed⟩ := Option.bind_eq_some_iff.mp ed
    have nx := (r1.mono x2).now sr2 e1
    have nl := datas_now sr2 r2 e2
    split at ed
    · rename_i y0
      obtain ⟨v, rfl, ny⟩ := now1 nl
      unfold idxD at ed
      cases d1 with
      | list ds =>
        have ed : (if (SeqAt.shaped (.list ds) && SeqAt.shaped y0) = true then (ds.findIdx? fun z => PyData.eqv z y0).map fun (j : Nat) => PyData.int j else none) = some d := ed
        split at ed
        · rename_i hsh
          rw [Bool.and_eq_true] at hsh
          obtain ⟨j, ej, rfl⟩ := Option.map_eq_some_iff.mp ed
          obtain ⟨z, h5, h6, h7⟩ := eqv_first ds y0 j ej
          obtain ⟨a0, xs, rfl, q1, q2⟩ := nx.list
          exact ⟨a0, v, y0, ds, j, z, rfl, rfl, by rw [hK]; exact .lst q1 (RepL.dp _ _ q2), by rw [hK]; exact ny.dp, hsh.1, hsh.2, h5, h6, h7, q H2 ms2 Ext.refl sr2 _ rfl⟩
        · cases ed
      | _ => cases ed
    · cases ed
/-! ### insert, extend -/
/-- as the library's row, the source with any slots -/
theorem extend_any (l : Addr) (items : Array Value) (n : Nat) (b : Addr) (items2 : Array Value) (n2 : Nat) (sl : Array (Option Value)) (hc0 : ¬(!items.isEmpty && Builtin.List.listTooLong (items.size + items2.size)) = true) (hc1 : items.size ≤ sizeLine) (hs2 : items.size + items2.size ≤ sizeLine + 1) :
    Meets (Builtin.«list.extend» ⟨[.ref l, .ref b], []⟩) (fun _ R s => s.heap.get? l = some { cls := .type "list", dict := none, data := .seq items n, slots := #[] } ∧ s.heap.get? b = some { cls := .type "list", dict := none, data := .seq items2 n2, slots := sl } ∧ R (.ok (.ret Value.none)) { s with heap := s.heap.update l (Obj.mapSeq fun x => x ++ items2), toks := s.toks }) :=
  .of_wp fun prog w A R s h => by
    obtain ⟨hp, g, d, tk, os⟩ := s
    obtain ⟨hl, hb, h⟩ := h
    have f1 := AutoSeq1.idx_int
    have f2 := AutoSeq1.sub_tuple_tuple
    have f3 := AutoSeq1.sub_list_list
    have f4 := AutoSeq1.sub_tuple_list
    have f5 := AutoSeq1.sub_list_tuple
    have hz' : (items ++ items2).size ≤ sizeLine + 1 := by rw [Array.size_append]; exact hs2
    wp_walk using (wpAny_updateSeq hl rfl (hz := hc1) (_hz' := hz')), wpAny_loadPart' hl, wpAny_loadPart' hb
    exact ⟨_, rfl, h⟩
/-- xs.extend(ys), ys any list -/
theorem mt_extendS : MtM X "list.extend" (fun x vs H Q => ∃ l b xs zs, x = .ref l ∧ vs = [.ref b] ∧ H l = some (.lst xs) ∧ SqL X.K H b zs ∧ xs.length + zs.length ≤ sizeLine ∧ Q .non (upd H l (.lst (xs ++ zs)))) := by
  intro pins s σ H x vs v us Q I rx rv h
  obtain ⟨l, b, xs, zs, rfl, rfl, hH, hB, hz, q⟩ := h
  cases rx
  obtain ⟨u, rfl, ru⟩ := rv.one
  cases ru
  obtain ⟨z, its, n, r, hl, e⟩ := I.lstM hH
  obtain ⟨its2, r2, ⟨⟨ocls, odict, odata, osl⟩, n2, e2, hcls, hdict, hdata⟩, z2⟩ := I.list hB
  simp only at hcls hdict hdata
  subst hcls hdict hdata
  have hl2 := r2.length
  have hsz : its.toArray.size + its2.toArray.size ≤ sizeLine := by rw [List.size_toArray, List.size_toArray]; omega
  have hlong : ¬ (!its.toArray.isEmpty && Builtin.List.listTooLong (its.toArray.size + its2.toArray.size)) = true := by
    rw [notLongL hsz, Bool.and_false]
    exact Bool.false_ne_true
  refine call_meets F.slot_list_extend ⟨_, e, rfl⟩ F.entry_list_extend (F.args_list_extend_2 _ _)
    (extend_any l its.toArray n b its2.toArray n2 _ hlong (by rw [List.size_toArray]; omega) (by omega)) ⟨e, e2, ?_⟩
  refine ⟨.non, _, I.lset (its' := its ++ its2) hH e (by simp) (r.append r2) ?_, rfl, q⟩
  rw [List.length_append]
  omega
/-- a method that changes a list of the store -/
theorem se_methL {m : Me} {name : Str} {id : String} {r : V → List V → Hp → VK → Prop} {es : List Expr} {e1 : Expr} {cs : E} {y : Str} {py apos cpos : Pos} (hK : X.K = C.K) (slot : Slot "list" name id) (hty : typeOf (.builtin id) = pure (.type "method_descriptor")) (hm : MtR X id r)
    (hb : attributeBase (.Name y py) name X.env (eval (.Name y py) X.env) = eval (.Name y py) X.env) (hst : ((backTo cpos (starEach (e1 :: es) X.env)).all (fun x => !x.1) && (backToKw cpos (keywordEach [] X.env)).all (fun x => x.1.isSome)
      && decide ((e1 :: es).length + ([] : List Keyword).length + (if ([] : List Keyword).isEmpty then 0 else 1) < 30)) = true) (hst2 : ((backTo cpos (starEach es X.env)).any (·.1)) = false)
    (ho : PE X (.Name y py) (rdE C F W₀ co)) (ha : PA X (e1 :: es) (rdL C F W₀ cs)) (hn : nostar e1 = true) (hline : (apos.endLine == cpos.line) = true)
    (hr : ∀ {H ms st ws vs n p xs us pr Q}, StRep C H ms st → ms[C.k + n]? = some p → st[n]? = some (.lst xs) → H p = some (.lst us) → RepL C.K H ms xs us → WReps C H ms ws vs → ((methArgs m ws st).bind fun ys => meth m n ys st) = some pr →
      (∀ H', Ext C.k H ms H' ms → StRep C H' ms pr.2 → ∀ v, Rep C.K H' ms pr.1 v → Q v H') → r (.ref p) vs H Q) (hno : ∀ st n ys, isLst st n = false → meth m n ys st = none) :
    PE X (.Call (.Attribute (.Name y py) name apos) (e1 :: es) [] cpos) (rdE C F W₀ (.meth m co cs)) :=
  peW (pe_bm PySem.F.plainAttrs_list slot hty hm ho ha hb hst hline (star_eq hn) hst2) fun σ H Q ⟨env, st, ms, en, sr, h⟩ =>
    rd_bind (f := methOn m (evL F cs env)) en sr h fun x w st1 H1 ms1 en1 sr1 x1 r1 h1 => by
      cases w with
      | d _ => exact h1.elim
      | fn _ => exact h1.elim
      | err _ _ => exact h1.elim
      | ref n =>
        obtain ⟨p, hp, rfl⟩ := r1
        have h1 : Post C W₀ σ H1 ms1 (if isLst st1 n = true then (evL F cs env st1).bind (methGo m n) else .stuck) fun w _ H' ms' => ∀ v, WRep C H' ms' w v → Q v H' := h1
        cases hL : isLst st1 n with
        | false =>
          rw [hL] at h1
          exact h1.elim
        | true =>
        rw [hL, if_pos rfl] at h1
        obtain ⟨xs0, vs0, _, hv0, _⟩ := store_lst sr1 hp hL
        refine ⟨.inl ⟨rfl, vs0, SqL.of hv0⟩, rdL_bind en1 sr1 h1 fun vs ws st2 H2 ms2 en2 sr2 x2 r2 h2 => ?_⟩
        have hp2 := x2.get hp
        have h2 : Post C W₀ σ H2 ms2 (methGo m n ws st2) fun w _ H' ms' => ∀ v, WRep C H' ms' w v → Q v H' := h2
        unfold methGo at h2
        cases hq : (methArgs m ws st2).bind fun ys => meth m n ys st2 with
        | none => rw [hq] at h2; exact h2.elim
        | some pr =>
          rw [hq] at h2
          cases hL2 : isLst st2 n with
          | false =>
            obtain ⟨ys, _, e2⟩ := Option.bind_eq_some_iff.mp hq
            rw [hno _ _ _ hL2] at e2
            cases e2
          | true =>
            obtain ⟨xs, us, hst2, hv, rr⟩ := store_lst sr2 hp2 hL2
            exact hr sr2 hp2 hst2 hv rr r2 hq fun H' x' s' v rv => h2 H' ms2 x' s' v rv
theorem meth_no {m : Me} {st : Sto} {n : Nat} {ys : List PD} (h : isLst st n = false) : meth m n ys st = none := by
  cases hq : st[n]? with
  | none => cases m <;> simp [meth, hq]
  | some o =>
    cases o with
    | lst l => simp [isLst, hq] at h
    | dct _ _ _ => cases m <;> simp [meth, hq]
    | gone => cases m <;> simp [meth, hq]
theorem se_insert {y : Str} {py apos cpos : Pos} (hK : X.K = C.K) (ho : PE X (.Name y py) (rdE C F W₀ co)) (ha : PE X a (rdE C F W₀ ca)) (hb : PE X b (rdE C F W₀ cb)) (hn : nostar a = true) (hn' : nostar b = true) (hline : (apos.endLine == cpos.line) = true) :
    PE X (.Call (.Attribute (.Name y py) "insert" apos) [a, b] [] cpos) (rdE C F W₀ (.meth .insert co (.cons ca (.cons cb .nil)))) :=
  se_methL hK PySem.F.slot_list_insert PySem.F.type_list_insert mt_insert rfl (by rw [star_eq hn, star_eq hn']; rfl) (by rw [star_eq hn']; rfl) ho (sl_cons ha (sl_cons hb sl_nil hn') hn) hn hline
    (fun {H ms st ws vs n p xs us pr Q} sr hp hst hv rr rw' e q => by
      obtain ⟨ys, e1, e2⟩ := Option.bind_eq_some_iff.mp e
      have ry := pures_rep rw' e1
      unfold meth at e2
      rw [hst] at e2
      split at e2 <;> (try contradiction)
      rename_i l i x _ h4
      cases h4
      split at e2
      · rename_i hc
        cases e2
        obtain ⟨v1, r1, rfl, q1, v2, r2, rfl, q2, rfl⟩ := ry
        obtain rfl : v1 = V.int i := q1
        refine ⟨p, us, i, v2, rfl, rfl, hv, by rw [rr.length]; exact LIM_lt hc.1, hc.2.1, by omega, ?_⟩
        exact q _ (Ext.write sr hp (lst_nofrz hv)) (sr.write hp hv (((rr.take _).append (RepL.one q2)).append (rr.drop _))) .non rfl
      · cases e2) (fun st n ys h => meth_no h)
theorem se_extend {y : Str} {py apos cpos : Pos} (hK : X.K = C.K) (ho : PE X (.Name y py) (rdE C F W₀ co)) (ha : PE X a (rdE C F W₀ ca)) (hn : nostar a = true) (hline : (apos.endLine == cpos.line) = true) :
    PE X (.Call (.Attribute (.Name y py) "extend" apos) [a] [] cpos) (rdE C F W₀ (.meth .extend co (.cons ca .nil))) :=
  se_methL hK PySem.F.slot_list_extend PySem.F.type_list_extend mt_extendS rfl (by rw [star_eq hn]; rfl) rfl ho (sl_cons ha sl_nil hn) hn hline
    (fun {H ms st ws vs n p xs us pr Q} sr hp hst hv rr rw' e q => by
      obtain ⟨ys, e1, e2⟩ := Option.bind_eq_some_iff.mp e
      have ny := datas_now sr rw' e1
      unfold meth at e2
      rw [hst] at e2
      split at e2 <;> (try contradiction)
      rename_i l x h4
      cases h4
      split at e2
      · rename_i hc
        cases e2
        obtain ⟨v, rfl, nv⟩ := now1 ny
        obtain ⟨b0, zs, rfl, h1, r1⟩ := nv.list
        refine ⟨p, b0, us, zs, rfl, rfl, hv, by rw [hK]; exact h1, by rw [rr.length, r1.length]; exact LIM_le hc, ?_⟩
        exact q _ (Ext.write sr hp (lst_nofrz hv)) (sr.write hp hv (rr.append r1)) .non rfl
      · cases e2) (fun st n ys h => meth_no h)
end
end Mini

set_option Elab.async false
set_option linter.all false
set_option maxRecDepth 100000
set_option maxHeartbeats 2000000
/-! Mini, part V7: a list that has just been made, taken as data. -/
namespace Mini
open PySem PySem.Spec PyProof.Rows L2
section
variable {C : Cn} {W₀ : WX} {H H' : Hp} {ms ms' : List Addr} {st s' : Sto} {σ : L2.St}
/-! ### behind a call: what the callee made for itself is forgotten -/
theorem StRep.cut (sr : StRep C H' ms' s') (x : Ext C.k H ms H' ms') (s0 : StRep C H ms st) : StRep C H' ms (s'.take st.length) := by
  obtain ⟨new, rfl, _⟩ := x.more
  have hl := sr.len
  rw [List.length_append] at hl
  have h0 := s0.len
  have hn : (s'.take st.length).length = st.length := by rw [List.length_take]; omega
  refine ⟨by rw [hn]; exact h0, (List.nodup_append.mp sr.nd).1, fun n a u e1 e2 => ?_, fun a ha => sr.there a (List.mem_append_left _ ha)⟩
  have hlt : n < (s'.take st.length).length := (List.getElem?_eq_some_iff.mp e2).1
  rw [List.getElem?_take] at e2
  split at e2
  · have q := sr.ob n a u (by rw [List.getElem?_append_left (List.getElem?_eq_some_iff.mp e1).1]; exact e1) e2
    exact ObRep.mapR (fun d v => Rep.less (fun a ha => List.mem_append_left _ ha) d v) (fun u e => e) q
  · cases e2
theorem Ext.sublist (x : Ext C.k H ms H' ms') : ∀ a, a ∈ ms → a ∈ ms' := by
  obtain ⟨new, rfl, _⟩ := x.more
  exact fun a ha => List.mem_append_left _ ha
end
section
variable {C : Cn} {F : Fe} {W₀ : WX} {X : Cx} {a : Expr} {ca : E}
theorem se_frz (ha : PE X a (rdE C F W₀ ca)) : PE X a (rdE C F W₀ (.frz ca)) := peW ha fun σ H Q ⟨env, st, ms, en, sr, h⟩ => by
  simp only [evE] at h
  unfold frzR at h
  refine ⟨env, st, ms, en, sr, ?_⟩
  cases e : evE F ca env st with
  | stuck => rw [e] at h; exact h
  | exc c xs s1 => rw [e] at h; exact h
  | ok w s1 =>
    rw [e] at h
    intro H1 ms1 x s1r v r
    cases w with
    | ref m =>
      obtain ⟨p, hp, rfl⟩ := r
      have h : Post C W₀ σ H ms (if st.length ≤ m then match s1[m]? with | some (.lst xs) => Rs.ok (W.d (.list xs)) (s1.take st.length) | _ => .stuck else .stuck) fun w _ H' ms' => ∀ v, WRep C H' ms' w v → Q v H' := h
      split at h
      · rename_i hm
        cases e2 : s1[m]? with
        | none => rw [e2] at h; exact h.elim
        | some o =>
          rw [e2] at h
          cases o with
          | dct _ _ _ => exact h.elim
          | gone => exact h.elim
          | lst xs =>
            obtain ⟨vs, h1, h2⟩ := s1r.ob m p _ hp e2
            have hno : p ∉ ms := fun z => by
              obtain ⟨new, rfl, _⟩ := x.more
              obtain ⟨i, hi, e1⟩ := List.getElem_of_mem z
              have h0 := sr.len
              obtain ⟨hl, e2⟩ := List.getElem?_eq_some_iff.mp hp
              have e3 : (ms ++ new)[i]'(by rw [List.length_append]; omega) = p := by rw [List.getElem_append_left hi]; exact e1
              have := (List.getElem_inj s1r.nd).mp (e2.trans e3.symm)
              omega
            exact h H1 ms x.cut (s1r.cut x sr) _ ⟨p, vs, rfl, .inl ⟨hno, .inl h1⟩, RepL.less x.sublist _ _ h2⟩
      · exact h.elim
    | d y => exact h H1 ms1 x s1r v r
    | fn _ => exact h.elim
    | err _ _ => exact h.elim
end
end Mini

set_option Elab.async false
set_option linter.all false
set_option maxRecDepth 100000
set_option maxHeartbeats 2000000
/-! Mini, part V8: dict of pairs, dict(zip(..)). -/
namespace PySem
section
variable {prog : Program} {w : World} {A : Around} {E : Value → Shared → Prop} {s : Shared} {z TI TO T i1 i2 : Addr} {fp1 fp2 : List Addr} {n1 n2 i : Nat} {P1 P2 : Nat → Value → Prop} {St1 St2 : Nat → Heap → Prop} {f : Bool} {oT : Obj}
/-- a zip's next while its last tuple is still there -/
theorem zipDh_next_item {Q : Value → Shared → Prop} (S : ZipSep2 z TI TO i1 i2 fp1 fp2) (D1 : Draws prog w A i1 fp1 n1 P1 St1) (D2 : Draws prog w A i2 fp2 n2 P2 St2)
    (hz : IsZipHeld s.heap z TI TO T f) (hT : s.heap.get? T = some oT) (hTI : IsTupOf2 s.heap TI (.ref i1) (.ref i2)) (st1 : St1 i s.heap) (st2 : St2 i s.heap) (hlt1 : i < n1) (hlt2 : i < n2)
    (hQ : ∀ x1 x2 h' tk, P1 i x1 → P2 i x2 → IsZipHeld h' z TI TO T true → St1 (i + 1) h' → St2 (i + 1) h' → IsTupOf2 h' s.heap.objs.size x1 x2 →
      (∀ c o, c ≠ z → c ≠ i1 → c ≠ i2 → s.heap.get? c = some o → h'.get? c = some o) → Q (.ref s.heap.objs.size) { s with heap := h', toks := tk }) :
    wpAny (model prog w) A (Builtin.«zip.__next__» ⟨[.ref z], []⟩) (fun fin s' => ∃ v, fin = .done (.ret v) ∧ Q v s') E s := by
  obtain ⟨hp, g, d, tk0, os⟩ := s
  show wpAny _ _ (field (.ref z) 2 >>= _) _ _ _
  refine wpAny_bind (wpAny_field hz rfl (x := .bool false) rfl ?_)
  show wpAny _ _ (field (.ref z) 3 >>= _) _ _ _
  refine wpAny_bind (wpAny_field hz rfl (x := .ref TI) rfl ?_)
  refine wpAny_bind (wpAny_seqItems hTI rfl ?_)
  show wpAny _ _ (Builtin.SmallTypes.ownedTupleIsFree (.ref z) >>= _) _ _ _
  refine wpAny_bind (wpAny_tupleHeld_zip hz hT fun h₁ hz₁ hs₁ => ?_)
  replace hs₁ : Heap.SameBut z hp h₁ := hs₁
  simp only [Bool.false_eq_true, if_false]
  refine wpAny_bind ?_
  rw [← Array.forIn_toList]
  simp only [List.forIn_cons, List.forIn_nil]
  refine wpAny_bind (wpAny_bind (wpAny_holding ?_))
  show wpAny _ _ (Builtin.SmallTypes.nextOf (.ref i1) >>= _) _ _ ⟨h₁, g, d, tk0, os⟩
  refine wpAny_bind (D1.item i _ _ _ hlt1 (D1.over st1 hs₁ S.zf1) fun x1 p1 tk1 hx1 sn1 hp1 => wpAny_pure ?_)
  replace hp1 : Heap.SameBut i1 h₁ p1 := hp1
  refine wpAny_pure ?_
  refine wpAny_bind (wpAny_bind (wpAny_holding ?_))
  show wpAny _ _ (Builtin.SmallTypes.nextOf (.ref i2) >>= _) _ _ ⟨p1, g, d, tk1, os⟩
  refine wpAny_bind (D2.item i _ _ _ hlt2 (D2.over (D2.over st2 hs₁ S.zf2) hp1 S.sep1_2) fun x2 p2 tk2 hx2 sn2 hp2 => wpAny_pure ?_)
  replace hp2 : Heap.SameBut i2 p1 p2 := hp2
  refine wpAny_pure (wpAny_pure ?_)
  show wpAny _ _ (newTuple [x1, x2] >>= _) _ _ _
  refine wpAny_bind (wpAny_newTuple ?_)
  have hsz : p2.objs.size = hp.objs.size := by rw [hp2.1, hp1.1, hs₁.1]
  have hz₃ : IsZipHeld p2 z TI TO T true := hp2.extBut _ _ S.zi2 (hp1.extBut _ _ S.zi1 hz₁)
  have hk : ∀ c o, c ≠ z → c ≠ i1 → c ≠ i2 → hp.get? c = some o → p2.get? c = some o := fun c o c1 c2 c3 e => hp2.extBut _ _ c3 (hp1.extBut _ _ c2 (hs₁.extBut _ _ c1 e))
  have hj1 : St1 (i + 1) p2 := D1.over sn1 hp2 S.sep2_1
  refine wpAny_pure ⟨_, rfl, ?_⟩
  show Q (.ref p2.objs.size) _
  have hpr : IsTupOf2 (p2.push { cls := .type "tuple", data := .seq #[x1, x2] }) p2.objs.size x1 x2 := Heap.get?_push_size _ rfl
  rw [hsz] at hpr ⊢
  exact hQ x1 x2 _ tk2 hx1 hx2 (Heap.get?_push_of_some _ hz₃) (D1.frame _ _ _ hj1 fun b _ o e => Heap.get?_push_of_some _ e) (D2.frame _ _ _ sn2 fun b _ o e => Heap.get?_push_of_some _ e) hpr fun c o c1 c2 c3 e => Heap.get?_push_of_some _ (hk c o c1 c2 c3 e)
theorem zipDh_next_end {Q : Fin → Shared → Prop} (S : ZipSep2 z TI TO i1 i2 fp1 fp2) (D1 : Draws prog w A i1 fp1 n1 P1 St1) (D2 : Draws prog w A i2 fp2 n2 P2 St2)
    (hz : IsZipHeld s.heap z TI TO T f) (hT : s.heap.get? T = some oT) (hTI : IsTupOf2 s.heap TI (.ref i1) (.ref i2)) (st1 : St1 i s.heap) (st2 : St2 i s.heap) (hle1 : i ≤ n1) (hle2 : i ≤ n2) (hend : i = n1 ∨ i = n2)
    (hE : ∀ h' tk e, (∀ c o, c ≠ z → c ≠ i1 → c ≠ i2 → s.heap.get? c = some o → h'.get? c = some o) → (∃ o, h'.get? e = some o ∧ o.cls = .type "StopIteration") → E (.ref e) { s with heap := h', toks := tk }) :
    wpAny (model prog w) A (Builtin.«zip.__next__» ⟨[.ref z], []⟩) Q E s := by
  obtain ⟨hp, g, d, tk0, os⟩ := s
  show wpAny _ _ (field (.ref z) 2 >>= _) _ _ _
  refine wpAny_bind (wpAny_field hz rfl (x := .bool false) rfl ?_)
  show wpAny _ _ (field (.ref z) 3 >>= _) _ _ _
  refine wpAny_bind (wpAny_field hz rfl (x := .ref TI) rfl ?_)
  refine wpAny_bind (wpAny_seqItems hTI rfl ?_)
  show wpAny _ _ (Builtin.SmallTypes.ownedTupleIsFree (.ref z) >>= _) _ _ _
  refine wpAny_bind (wpAny_tupleHeld_zip hz hT fun h₁ hz₁ hs₁ => ?_)
  replace hs₁ : Heap.SameBut z hp h₁ := hs₁
  simp only [Bool.false_eq_true, if_false]
  refine wpAny_bind ?_
  rw [← Array.forIn_toList]
  simp only [List.forIn_cons, List.forIn_nil]
  refine wpAny_bind (wpAny_bind (wpAny_holding ?_))
  show wpAny _ _ (Builtin.SmallTypes.nextOf (.ref i1) >>= _) _ _ ⟨h₁, g, d, tk0, os⟩
  by_cases hlt1 : i < n1
  · refine wpAny_bind (D1.item i _ _ _ hlt1 (D1.over st1 hs₁ S.zf1) fun x1 p1 tk1 hx1 sn1 hp1 => wpAny_pure ?_)
    replace hp1 : Heap.SameBut i1 h₁ p1 := hp1
    have hi2 : i = n2 := by omega
    refine wpAny_pure ?_
    refine wpAny_bind (wpAny_bind (wpAny_holding ?_))
    show wpAny _ _ (Builtin.SmallTypes.nextOf (.ref i2) >>= _) _ _ ⟨p1, g, d, tk1, os⟩
    refine wpAny_bind (D2.done ⟨p1, g, d, tk1, os⟩ _ _ (by rw [← hi2]; exact D2.over (D2.over st2 hs₁ S.zf2) hp1 S.sep1_2) fun q e hq he => ?_)
    replace hq : Heap.ExtBut i2 p1 q := hq
    exact hE q tk1 e (fun c o cz c1 c2 x => hq _ _ c2 (hp1.extBut _ _ c1 (hs₁.extBut _ _ cz x))) he
  · have hi1 : i = n1 := by omega
    refine wpAny_bind (D1.done ⟨h₁, g, d, tk0, os⟩ _ _ (by rw [← hi1]; exact D1.over st1 hs₁ S.zf1) fun q e hq he => ?_)
    replace hq : Heap.ExtBut i1 h₁ q := hq
    exact hE q tk0 e (fun c o cz c1 c2 x => hq _ _ c1 (hs₁.extBut _ _ cz x)) he
theorem wpAny_pyNext_zipDh_item {Q : Option Value → Shared → Prop} (S : ZipSep2 z TI TO i1 i2 fp1 fp2) (D1 : Draws prog w A.in1 i1 fp1 n1 P1 St1) (D2 : Draws prog w A.in1 i2 fp2 n2 P2 St2)
    (hz : IsZipHeld s.heap z TI TO T f) (hT : s.heap.get? T = some oT) (hTI : IsTupOf2 s.heap TI (.ref i1) (.ref i2)) (st1 : St1 i s.heap) (st2 : St2 i s.heap) (hlt1 : i < n1) (hlt2 : i < n2)
    (hQ : ∀ x1 x2 h' tk, P1 i x1 → P2 i x2 → IsZipHeld h' z TI TO T true → St1 (i + 1) h' → St2 (i + 1) h' → IsTupOf2 h' s.heap.objs.size x1 x2 →
      (∀ c o, c ≠ z → c ≠ i1 → c ≠ i2 → s.heap.get? c = some o → h'.get? c = some o) → Q (some (.ref s.heap.objs.size)) { s with heap := h', toks := tk }) : wpAny (model prog w) A (pyNext (.ref z)) Q E s := by
  have hTy : s.TypeIs (.ref z) "zip" := ⟨_, hz, rfl⟩
  unfold pyNext
  exact wpAny_bind (wpAny_attempt (wpAny_callSpecial?_slot (name := Str.ofString "__next__") hTy F.slot_zip_next
    (wpAny_call_entry F.slot_zip_next hTy F.entry_zip_next
      (zipDh_next_item S D1 D2 hz hT hTI st1 st2 hlt1 hlt2 fun x1 x2 h' tk y1 y2 b1 b2 d1 d2 b5 => wpAny_pure (hQ x1 x2 h' tk y1 y2 b1 b2 d1 d2 b5)) (F.args_zip_next_1 _))))
theorem wpAny_pyNext_zipDh_end {Q : Option Value → Shared → Prop} (S : ZipSep2 z TI TO i1 i2 fp1 fp2) (D1 : Draws prog w A.in1 i1 fp1 n1 P1 St1) (D2 : Draws prog w A.in1 i2 fp2 n2 P2 St2)
    (hz : IsZipHeld s.heap z TI TO T f) (hT : s.heap.get? T = some oT) (hTI : IsTupOf2 s.heap TI (.ref i1) (.ref i2)) (st1 : St1 i s.heap) (st2 : St2 i s.heap) (hle1 : i ≤ n1) (hle2 : i ≤ n2) (hend : i = n1 ∨ i = n2)
    (hQ : ∀ h' tk, (∀ c o, c ≠ z → c ≠ i1 → c ≠ i2 → s.heap.get? c = some o → h'.get? c = some o) → Q none { s with heap := h', toks := tk }) : wpAny (model prog w) A (pyNext (.ref z)) Q E s := by
  have hTy : s.TypeIs (.ref z) "zip" := ⟨_, hz, rfl⟩
  unfold pyNext
  refine wpAny_bind (wpAny_attempt (wpAny_callSpecial?_slot (name := Str.ofString "__next__") hTy F.slot_zip_next
    (wpAny_call_entry F.slot_zip_next hTy F.entry_zip_next (zipDh_next_end S D1 D2 hz hT hTI st1 st2 hle1 hle2 hend fun h' tk e hk he => ?_) (F.args_zip_next_1 _))))
  obtain ⟨o, ho, hc⟩ := he
  refine wpAny_bind (wpAny_isInstance (T := "StopIteration") (b := true) ⟨o, ho, hc⟩ isSubtype_stop ?_)
  exact wpAny_pure (hQ _ _ hk)
end
/-- zip over two iterators, as the argument of dict -/
theorem PairArg.zipD {prog : Program} {w : World} {z TI TO i1 i2 : Addr} {fp1 fp2 : List Addr} {n1 n2 : Nat} {P1 P2 : Nat → Value → Prop} {St1 St2 : Nat → Heap → Prop} (A0 : Around) (hA0 : A0.handled = none) (S : ZipSep2 z TI TO i1 i2 fp1 fp2)
    (D1 : ∀ A : Around, A.handled = none → Draws prog w A i1 fp1 n1 P1 St1) (D2 : ∀ A : Around, A.handled = none → Draws prog w A i2 fp2 n2 P2 St2) :
    PairArg prog w "zip" z (z :: TI :: TO :: (fp1 ++ fp2)) [z, TO, i1, i2] (min n1 n2) (fun i k v => P1 i k ∧ P2 i v)
      (fun h => IsZip h z TI TO .none ∧ IsTupOf2 h TI (.ref i1) (.ref i2) ∧ (∃ a b, IsTupOf2 h TO a b) ∧ St1 0 h ∧ St2 0 h ∧ ∀ b ∈ fp1 ++ fp2, ∃ o, h.get? b = some o) where
  type := fun s ok => ⟨_, ok.1, rfl⟩
  notDict := by decide
  keep := fun h h' ok hk => by
    obtain ⟨hz, hTI, ⟨a, b, hTO⟩, h1, h2, hf⟩ := ok
    exact ⟨hk _ _ hz, hk _ _ hTI, ⟨a, b, hk _ _ hTO⟩, (D1 A0 hA0).frame _ _ _ h1 fun b _ o e => hk _ o e, (D2 A0 hA0).frame _ _ _ h2 fun b _ o e => hk _ o e, fun b hb => let ⟨o, e⟩ := hf b hb; ⟨o, hk _ _ e⟩⟩
  there := fun h ok b hb => by
    obtain ⟨hz, hTI, ⟨a, c, hTO⟩, h1, h2, hf⟩ := ok
    rcases List.mem_cons.mp hb with rfl | hb
    · exact ⟨_, hz⟩
    rcases List.mem_cons.mp hb with rfl | hb
    · exact ⟨_, hTI⟩
    rcases List.mem_cons.mp hb with rfl | hb
    · exact ⟨_, hTO⟩
    exact hf b hb
  sub := fun b hb => by
    have m1 := S.mem1
    have m2 := S.mem2
    simp at hb ⊢
    rcases hb with rfl | rfl | rfl | rfl <;> simp [m1, m2]
  noKeys := fun A s Q E hA ok h => getAttrOr_miss_zip ok.1 rfl rfl rfl zip_no_keys (by decide +kernel) hA h
  iter := fun A s d Q E hA ok hd hdf h => by
    obtain ⟨hz, hTI, ⟨a, b, hTO⟩, h1, h2, _⟩ := ok
    simp only [List.mem_cons, List.mem_append, not_or] at hdf
    obtain ⟨dz, dTI, dTO, df1, df2⟩ := hdf
    have E1 := D1 A.in1 hA
    have E2 := D2 A.in1 hA
    have di1 : d ≠ i1 := fun e => df1 (e ▸ S.mem1)
    have di2 : d ≠ i2 := fun e => df2 (e ▸ S.mem2)
    refine wpAny_pyIter_zip hz (h z [z, TO, i1, i2] (fun i h => IsTupOf2 h TI (.ref i1) (.ref i2) ∧ St1 i h ∧ St2 i h ∧
      ((IsZip h z TI TO .none ∧ ∃ a b, IsTupOf2 h TO a b) ∨ ∃ T f oT, IsZipHeld h z TI TO T f ∧ h.get? T = some oT ∧ T ≠ z ∧ T ≠ i1 ∧ T ≠ i2 ∧ T ≠ d)) s.heap s.toks ?_
      ⟨hTI, h1, h2, .inl ⟨hz, a, b, hTO⟩⟩ (fun _ _ e => e) fun b hb => .inl hb)
    exact {
      off := fun hm => by
        simp only [List.mem_cons, List.not_mem_nil, or_false] at hm
        rcases hm with e | e | e | e
        · exact dz e
        · exact dTO e
        · exact di1 e
        · exact di2 e
      frame := fun i h₁ h₂ st hk => by
        obtain ⟨hTI, h1, h2, hz⟩ := st
        refine ⟨hk _ _ (Ne.symm dTI) hTI, E1.frame _ _ _ h1 fun b hb o e => hk _ o (fun q => df1 (q ▸ hb)) e, E2.frame _ _ _ h2 fun b hb o e => hk _ o (fun q => df2 (q ▸ hb)) e, ?_⟩
        rcases hz with ⟨hz, a, b, hTO⟩ | ⟨T, f, oT, hz, hT, r1, r2, r3, r4⟩
        · exact .inl ⟨hk _ _ (Ne.symm dz) hz, a, b, hk _ _ (Ne.symm dTO) hTO⟩
        · exact .inr ⟨T, f, oT, hk _ _ (Ne.symm dz) hz, hk _ _ r4 hT, r1, r2, r3, r4⟩
      item := fun i s₁ Q₁ E₁ hi st hds hQ => by
        obtain ⟨hTI, h1, h2, hz⟩ := st
        have hix : i < n1 := Nat.lt_of_lt_of_le hi (Nat.min_le_left ..)
        have hiy : i < n2 := Nat.lt_of_lt_of_le hi (Nat.min_le_right ..)
        have lt : ∀ {c o}, s₁.heap.get? c = some o → s₁.heap.objs.size ≠ c := fun e => Nat.ne_of_gt (Heap.lt_size e)
        have m1 : s₁.heap.objs.size ≠ i1 := let ⟨_, e⟩ := E1.live _ _ h1; lt e
        have m2 : s₁.heap.objs.size ≠ i2 := let ⟨_, e⟩ := E2.live _ _ h2; lt e
        rcases hz with ⟨hz, a, b, hTO⟩ | ⟨T, f, oT, hz, hT, r1, r2, r3, r4⟩
        · refine wpAny_pyNext_zipD2_item S E1 E2 hz hTI hTO h1 h2 hix hiy fun x1 x2 h' tk p1 p2 a1 a2 a3 a4 a5 a6 hk => ?_
          exact hQ s₁.heap.objs.size _ _ h' tk ⟨p1, p2⟩ (.inl ⟨_, a5, rfl, _, rfl⟩)
            ⟨hk _ _ S.TIz S.TITO S.TIi1 S.TIi2 hTI, a3, a4, .inr ⟨s₁.heap.objs.size, false, _, a1, a5, lt hz, m1, m2, Nat.ne_of_gt hds⟩⟩
            fun c o hc e => hk c o (fun x => hc (by simp [x])) (fun x => hc (by simp [x])) (fun x => hc (by simp [x])) (fun x => hc (by simp [x])) e
        · refine wpAny_pyNext_zipDh_item S E1 E2 hz hT hTI h1 h2 hix hiy fun x1 x2 h' tk p1 p2 a1 a3 a4 a5 hk => ?_
          exact hQ s₁.heap.objs.size _ _ h' tk ⟨p1, p2⟩ (.inl ⟨_, a5, rfl, _, rfl⟩)
            ⟨hk _ _ S.TIz S.TIi1 S.TIi2 hTI, a3, a4, .inr ⟨T, true, oT, a1, hk _ _ r1 r2 r3 hT, r1, r2, r3, r4⟩⟩
            fun c o hc e => hk c o (fun x => hc (by simp [x])) (fun x => hc (by simp [x])) (fun x => hc (by simp [x])) e
      done := fun s₁ Q₁ E₁ st hQ => by
        obtain ⟨hTI, h1, h2, hz⟩ := st
        have l1 : min n1 n2 ≤ n1 := Nat.min_le_left ..
        have l2 : min n1 n2 ≤ n2 := Nat.min_le_right ..
        have l3 : min n1 n2 = n1 ∨ min n1 n2 = n2 := by omega
        rcases hz with ⟨hz, a, b, hTO⟩ | ⟨T, f, oT, hz, hT, r1, r2, r3, r4⟩
        · exact wpAny_pyNext_zipD2_end S E1 E2 hz hTI hTO h1 h2 l1 l2 l3 fun h' tk hk => hQ h' tk fun c o hc e => hk c o (fun x => hc (by simp [x])) (fun x => hc (by simp [x])) (fun x => hc (by simp [x])) (fun x => hc (by simp [x])) e
        · exact wpAny_pyNext_zipDh_end S E1 E2 hz hT hTI h1 h2 l1 l2 l3 fun h' tk hk => hQ h' tk fun c o hc e => hk c o (fun x => hc (by simp [x])) (fun x => hc (by simp [x])) (fun x => hc (by simp [x])) e }
end PySem
namespace Mini
open PySem PySem.Spec PyProof.Rows L2
section
variable {H : Hp} {ms : List Addr} {K : PySem.W.Frag}
theorem fmerge_rel : ∀ {kvs : List (PD × PD)} {prs : List (Key × Value)} {acc : List (PD × PD)} {vs : List (Key × Value)}, Paired (FRel K H ms) kvs prs → Paired (FRel K H ms) acc vs → Paired (FRel K H ms) (putAllD kvs acc) (merged vs prs)
  | [], _, _, _, .nil, h => h
  | p :: kvs, x :: prs, acc, vs, .cons h t, r => by
    obtain ⟨v', r1, r2⟩ := h.val
    show Paired (FRel K H ms) (putAllD kvs (putD acc p.1 p.2)) (merged (stored vs x.1 x.2) prs)
    exact fmerge_rel t (fput_rel h.key r1 r2 r)
theorem foldPut_len : ∀ (kvs acc : List (PD × PD)), (putAllD kvs acc).length ≤ acc.length + kvs.length
  | [], acc => Nat.le_refl _
  | p :: kvs, acc => by
    have h := foldPut_len kvs (putD acc p.1 p.2)
    have h2 := put_len (kvs := acc) (k := p.1) (v := p.2)
    rw [List.length_cons]
    show (putAllD kvs (putD acc p.1 p.2)).length ≤ _
    omega
theorem foldPut_ok {n : Bool} : ∀ (kvs acc : List (PD × PD)), (∀ p ∈ acc, okKey n p.1 = true) → (∀ p ∈ kvs, okKey n p.1 = true) → ∀ p ∈ putAllD kvs acc, okKey n p.1 = true
  | [], _, h, _ => h
  | p :: kvs, acc, h, h2 => foldPut_ok kvs (putD acc p.1 p.2) (put_ok h (h2 p List.mem_cons_self)) fun q hq => h2 q (List.mem_cons_of_mem _ hq)
theorem pairs_len : ∀ {l : List PD} {kvs : List (PD × PD)}, pairsD l = some kvs → kvs.length = l.length
  | [], _, e => by cases e; rfl
  | x :: r, _, e => by
    obtain ⟨p, _, e⟩ := Option.bind_eq_some_iff.mp e
    obtain ⟨kvs, ek, rfl⟩ := Option.map_eq_some_iff.mp e
    rw [List.length_cons, List.length_cons, pairs_len ek]
theorem pair_some {x : PD} {p : PD × PD} (e : pairD x = some p) : x = .tuple [p.1, p.2] ∧ okKey false p.1 = true := by
  unfold pairD at e
  split at e
  · split at e
    · rename_i h
      cases e
      exact ⟨rfl, h⟩
    · cases e
  · cases e
theorem pairs_ok : ∀ {l : List PD} {kvs : List (PD × PD)}, pairsD l = some kvs → ∀ p ∈ kvs, okKey false p.1 = true
  | [], _, e, p, hp => by cases e; cases hp
  | x :: r, _, e, p, hp => by
    obtain ⟨q, eq, e⟩ := Option.bind_eq_some_iff.mp e
    obtain ⟨kvs, ek, rfl⟩ := Option.map_eq_some_iff.mp e
    rcases List.mem_cons.mp hp with rfl | hp
    · exact (pair_some eq).2
    · exact pairs_ok ek p hp
end
section
variable {X : Cx} {C : Cn} {F : Fe} {W₀ : WX} {pins : List (Addr × Obj)} {σ : L2.St} {H : Hp} {s : Shared} {ms : List Addr} {st : Sto} {a b : Expr} {ca cb : E}
theorem prs_of (hK : X.K = C.K) (I : L2.Inv X pins σ H s) : ∀ {l : List PD} {xs : List V} {its : List Value} {kvs : List (PD × PD)}, RepL C.K H ms l xs → Vals xs its → pairsD l = some kvs →
    ∃ prs : List (Key × Value), Paired (FRel C.K H ms) kvs prs ∧ prs.length = its.length ∧ ∀ (j : Nat) (q : Key × Value), prs[j]? = some q → ∃ (b : Addr) (u : Value), its[j]? = some (.ref b) ∧ IsTup s.heap b #[u, q.2] ∧ keyIs q.1 u = true
  | [], _, _, _, h, hv, e => by
    rw [show _ = [] from h] at hv
    cases hv
    cases e
    exact ⟨[], .nil, rfl, fun j q e => by simp at e⟩
  | d :: ds, _, _, kvs, h, hv, e => by
    obtain ⟨v, r, rfl, h1, h2⟩ := h
    cases hv with
    | @cons _ u _ ut rv rt =>
      obtain ⟨p, ep, e⟩ := Option.bind_eq_some_iff.mp e
      obtain ⟨kvs', ek, rfl⟩ := Option.map_eq_some_iff.mp e
      obtain ⟨prs, g1, g2, g3⟩ := prs_of hK I h2 rt ek
      obtain ⟨rfl, hk⟩ := pair_some ep
      obtain ⟨b, ys, rfl, hT, rr⟩ := h1
      have hT' : SqT C.K H b ys := hT.elim (fun q => .inl q.2) .inr
      rw [← hK] at hT'
      obtain ⟨its2, rv2, ht, _⟩ := I.tuple hT'
      obtain ⟨vk, r3, rfl, rk, r4⟩ := rr
      obtain ⟨vz, r5, rfl, rz, r6⟩ := r4
      rw [show r5 = [] from r6] at rv2
      obtain ⟨u1, u2, e2, ru1, ru2⟩ := vals2 rv2
      subst e2
      obtain ⟨q, f1, _⟩ := fk_ok hk
      rw [fk_rep f1] at rk
      subst rk
      obtain rfl : u = Value.ref b := rv
      refine ⟨(q, u2) :: prs, .cons ⟨f1, vz, ru2, rz⟩ g1, by rw [List.length_cons, List.length_cons, g2], fun j q' e => ?_⟩
      cases j with
      | zero =>
        have e' : (q, u2) = q' := Option.some.inj e
        subst e'
        exact ⟨b, u1, rfl, ht, kV_is (P := X.prog) (w := X.w) ru1⟩
      | succ j =>
        obtain ⟨b', u', e1, e2, e3⟩ := g3 j q' (by simpa using e)
        exact ⟨b', u', by simpa using e1, e2, e3⟩
def QDof (C : Cn) (H : Hp) (ms : List Addr) (st : Sto) (kvs : List (PD × PD)) (Q : VK) : Prop :=
  ∀ D H', Ext C.k H ms H' (ms ++ [D]) → StRep C H' (ms ++ [D]) (st ++ [.dct false false (putAllD kvs [])]) → ∀ u, WRep C H' (ms ++ [D]) (.ref st.length) u → Q u H'
theorem dof_end {kvs : List (PD × PD)} {prs : List (Key × Value)} {h' : Heap} {D : Addr} {t : Nat} {Q : VK} (hw : X.w = C.w) (I : L2.Inv X pins σ H s) (sr : StRep C H ms st) (rel : Paired (FRel C.K H ms) kvs prs) (hk : ∀ p ∈ kvs, okKey false p.1 = true) (hz : kvs.length ≤ LIM)
    (kp : ∀ b o, s.heap.get? b = some o → h'.get? b = some o) (hD : s.heap.objs.size ≤ D) (dd : h'.DictOf (mixKind X.prog X.w) D (merged [] prs)) (q : QDof C H ms st kvs Q) :
    EP X pins σ Q (.ref D) { s with heap := h', toks := t } := by
  have hp := I.hok.fresh hD
  have big : (D == sysModules) = false := beq_eq_false_iff_ne.mpr (Nat.ne_of_gt (Nat.lt_of_lt_of_le I.big hD))
  have hl : (putAllD kvs []).length ≤ sizeLine := by
    have h1 := foldPut_len kvs []
    have h2 : LIM = 16777216 := rfl
    rw [List.length_nil] at h1
    rw [sizeLine_eq]
    omega
  obtain ⟨o, g1, g2⟩ := fdct_back dd (fmerge_rel rel .nil) big hl
  have new : ObjOk X.prog X.w (upd H D (dictO D o)) h' D (dictO D o) := ⟨g1, ⟨o, g1⟩, fun h1 h2 p q => q _ p⟩
  have x : Ext C.k H ms (upd H D (dictO D o)) (ms ++ [D]) := Ext.newS sr hp
  refine ⟨.ref D, upd H D (dictO D o), I.laid (t' := t) kp hD new, rfl, q D _ x (sr.newO hp ⟨trivial, foldPut_ok kvs [] (fun p hp => nomatch hp) hk, o, ?_, upd_same⟩) _ ⟨D, ?_, rfl⟩⟩
  · have := g2.monoS x.sub
    rw [hw] at this
    exact this
  · rw [List.getElem?_append_right (by rw [sr.len]; exact Nat.le_refl _), sr.len, Nat.sub_self]
    rfl
def rDof (C : Cn) : List V → Hp → VK → Prop := fun vs H Q => ∃ ms st w v l kvs, vs = [v] ∧ StRep C H ms st ∧ WRep C H ms w v ∧ view st w = some (.list l) ∧ l.length ≤ LIM ∧ pairsD l = some kvs ∧ QDof C H ms st kvs Q
theorem cr_dof (hc : X.calm = true) (hK : X.K = C.K) (hw : X.w = C.w) : CallR X (.type "dict") (rDof C) := by
  intro pins s σ H vs us Q I r h
  obtain ⟨ms, st, w, v, l, kvs, rfl, sr, rv, hv, hl, hp, q⟩ := h
  obtain ⟨u, rfl, ru⟩ := vals1 r
  obtain ⟨a, xs, rfl, hs, rr⟩ := (rv.now sr hv).list
  obtain rfl : u = Value.ref a := ru
  rw [← hK] at hs
  obtain ⟨its, rv2, ⟨o, n, ho, hcl, hd, hdat⟩, hz⟩ := I.list hs
  obtain ⟨prs, rel, hlen, hpr⟩ := prs_of hK I rr rv2 hp
  have hl2 : prs.length = kvs.length := (Paired.length rel).symm
  have hl3 := pairs_len hp
  refine L2.call_dict_pairs (prs := prs) (I.ok.hd hc) ho hcl hd hdat (by rw [List.size_toArray, hlen]) (by
      have h2 : LIM = 16777216 := rfl
      rw [sizeLine_eq]; omega) (fun j q e => ?_) fun h' tk dd k => dof_end hw I sr rel (pairs_ok hp) (by omega) k (Nat.le_refl _) dd q
  obtain ⟨b, u, e1, e2, e3⟩ := hpr j q e
  exact ⟨b, u, by simpa using e1, e2, e3⟩
theorem dof_some {d : PD} {kvs : List (PD × PD)} (e : dofD d = some kvs) : ∃ l k, d = .list l ∧ l.length ≤ LIM ∧ pairsD l = some k ∧ kvs = putAllD k [] := by
  unfold dofD at e
  split at e
  · split at e
    · rename_i h
      obtain ⟨k, ek, rfl⟩ := Option.map_eq_some_iff.mp e
      exact ⟨_, k, rfl, h, ek, rfl⟩
    · cases e
  · cases e
theorem se_dof {p pos : Pos} (hc : X.calm = true) (hK : X.K = C.K) (hw : X.w = C.w) (hg : Gl X "dict") (hm : X.mg "dict" = none) (ha : PE X a (rdE C F W₀ ca)) (hn : nostar a = true) :
    PE X (.Call (.Name "dict" p) [a] [] pos) (rdE C F W₀ (.dof ca)) :=
  peW (pe_callTy (cr_dof hc hK hw) hg hm PyProof.Rows.boot_dict (pa_cons ha pa_nil (star_eq hn)) (by decide) (by decide) (star_eq hn) rfl) fun σ H Q ⟨env, st, ms, en, sr, h⟩ => by
    simp only [evE] at h
    unfold dofR at h
    refine rd_bind en sr h fun v w st1 H1 ms1 en1 sr1 x1 r1 h1 => ?_
    cases e : (view st1 w).bind dofD with
    | none => rw [e] at h1; exact h1.elim
    | some kvs0 =>
      rw [e] at h1
      obtain ⟨d, ed, e⟩ := Option.bind_eq_some_iff.mp e
      obtain ⟨l, kvs, rfl, hl, hp, rfl⟩ := dof_some e
      exact ⟨ms1, st1, w, v, l, kvs, rfl, sr1, r1, ed, hl, hp, fun D H' x' s' u ru => h1 H' (ms1 ++ [D]) x' s' u ru⟩
theorem sideP_of {p : PD} {v : V} {l : List PD} (n : Now C.K H ms p v) (e : itemsP p = some l) : ∃ a xs, v = .ref a ∧ (SqL C.K H a xs ∨ SqT C.K H a xs) ∧ RepL C.K H ms l xs := by
  cases p with
  | list l' =>
    cases e
    obtain ⟨a, xs, rfl, q, rr⟩ := n.list
    exact ⟨a, xs, rfl, .inl q, rr⟩
  | tuple l' =>
    cases e
    obtain ⟨a, xs, rfl, q, rr⟩ := n.tuple
    exact ⟨a, xs, rfl, .inr q, rr⟩
  | _ => cases e
theorem sideP_draws (I : L2.Inv X pins σ H s) {a : Addr} {xs : List V} (h : SqL X.K H a xs ∨ SqT X.K H a xs) :
    ∃ (its : List Value) (o : Obj) (B : Heap → Prop), Vals xs its ∧ Begins (.ref a) o B ∧ B s.heap ∧ (∃ u, s.heap.get? a = some u) ∧
      ∀ it, a ≠ it → ∃ St : Nat → Heap → Prop, (∀ A : Around, A.handled = none → Draws X.prog X.w A it [it, a] its.toArray.size (fun i v => its.toArray[i]? = some v) St) ∧
        ∀ h, h.get? it = some o → (∀ b u, s.heap.get? b = some u → h.get? b = some u) → St 0 h := by
  rcases h with h | h
  · obtain ⟨its, rv, p, _⟩ := I.list h
    obtain ⟨o, n, ho, _⟩ := id p
    exact ⟨its, _, _, rv, begins_list a its.toArray, p.isList, ⟨o, ho⟩, fun it hne => ⟨_, fun A hh => Draws.list hh it a hne its.toArray, fun h e k => ⟨⟨_, e, rfl, rfl⟩, p.isList.at fun o q => k _ o q⟩⟩⟩
  · obtain ⟨its, rv, p, _⟩ := I.tuple h
    obtain ⟨o, ho, _⟩ := id p
    exact ⟨its, _, _, rv, begins_tuple a its.toArray, p, ⟨o, ho⟩, fun it hne => ⟨_, fun A hh => Draws.tuple hh it a hne its.toArray, fun h e k => ⟨⟨_, e, rfl, rfl⟩, Heap.IsTuple.at p fun o q => k _ o q⟩⟩⟩
theorem prz_of (P : Program) (w : World) : ∀ {ds es : List PD} {xs ys : List V} {its jts : List Value} {kvs : List (PD × PD)}, RepL C.K H ms ds xs → Vals xs its → RepL C.K H ms es ys → Vals ys jts → pairsD (List.zipWith (fun u v => .tuple [u, v]) ds es) = some kvs →
    ∃ prs : List (Key × Value), Paired (FRel C.K H ms) kvs prs ∧ prs.length = min its.length jts.length ∧ ∀ (i : Nat) (key v : Value), its[i]? = some key → jts[i]? = some v → ∃ k, prs[i]? = some (k, v) ∧ (mixKind P w).is k key = true
  | [], _, _, _, _, _, _, h, hv, _, _, e => by
    rw [show _ = [] from h] at hv
    cases hv
    cases e
    exact ⟨[], .nil, by simp, fun i key v e => by simp at e⟩
  | _ :: _, [], _, _, _, _, _, _, _, h, hv, e => by
    rw [show _ = [] from h] at hv
    cases hv
    cases e
    exact ⟨[], .nil, by simp, fun i key v _ e => by simp at e⟩
  | d :: ds, f :: es, _, _, _, _, kvs, h, hv, h', hv', e => by
    obtain ⟨x, r, rfl, h1, h2⟩ := h
    obtain ⟨y, r', rfl, h1', h2'⟩ := h'
    cases hv with
    | @cons _ u _ ut rv rt =>
      cases hv' with
      | @cons _ u' _ ut' rv' rt' =>
        rw [List.zipWith_cons_cons] at e
        obtain ⟨p, ep, e⟩ := Option.bind_eq_some_iff.mp e
        obtain ⟨kvs', ek, rfl⟩ := Option.map_eq_some_iff.mp e
        obtain ⟨prs, g1, g2, g3⟩ := prz_of P w h2 rt h2' rt' ek
        obtain ⟨ee, hk⟩ := pair_some ep
        injection ee with ee
        injection ee with e1 ee
        injection ee with e2 _
        subst e1 e2
        obtain ⟨q, f1, _⟩ := fk_ok hk
        rw [fk_rep f1] at h1
        subst h1
        refine ⟨(q, u') :: prs, .cons ⟨f1, y, rv', h1'⟩ g1, by rw [List.length_cons, List.length_cons, List.length_cons, g2]; omega, fun i key v i1 i2 => ?_⟩
        cases i with
        | zero =>
          have i1 : u = key := Option.some.inj i1
          have i2 : u' = v := Option.some.inj i2
          subst i1 i2
          exact ⟨q, rfl, kV_is rv⟩
        | succ i =>
          obtain ⟨k, k1, k2⟩ := g3 i key v (by simpa using i1) (by simpa using i2)
          exact ⟨k, by simpa using k1, k2⟩
def rDofz (C : Cn) : List V → Hp → VK → Prop := fun vs H Q => ∃ ms st a1 a2 xs ys da db kvs, vs = [.ref a1, .ref a2] ∧ StRep C H ms st ∧ (SqL C.K H a1 xs ∨ SqT C.K H a1 xs) ∧ (SqL C.K H a2 ys ∨ SqT C.K H a2 ys) ∧ RepL C.K H ms da xs ∧ RepL C.K H ms db ys ∧
  pairsD (List.zipWith (fun u v => .tuple [u, v]) da db) = some kvs ∧ kvs.length ≤ LIM ∧ QDof C H ms st kvs Q
theorem pe_dofz {ta : TA} {p p2 pos pos2 : Pos} (hc : X.calm = true) (hK : X.K = C.K) (hw : X.w = C.w) (hg : Gl X "dict") (hm : X.mg "dict" = none) (hg2 : Gl X "zip") (hm2 : X.mg "zip" = none) (ha : PA X [a, b] ta)
    (hs : starEach [a, b] X.env = (false, eval a X.env) :: starEach [b] X.env) (hpl : (backTo pos2 (starEach [b] X.env)).any (·.1) = false)
    (na : starEach [.Call (.Name "zip" p2) [a, b] [] pos2] X.env = (false, eval (.Call (.Name "zip" p2) [a, b] [] pos2) X.env) :: starEach [] X.env := by rfl) :
    PE X (.Call (.Name "dict" p) [.Call (.Name "zip" p2) [a, b] [] pos2] [] pos) (fun σ H Q => ta σ H fun vs H1 => rDofz C vs H1 Q) := by
  refine ⟨fun pins s σ H Q I h => ?_⟩
  refine Call_ (ld_blt I hg hm PyProof.Rows.boot_dict (PyProof.Rows.callWith_type1 (args_cons ?_ na) na))
  refine Call_ (ld_blt (I.tok _) hg2 hm2 PyProof.Rows.boot_zip (PyProof.Rows.callWith_type1 (thn (ha.run pos2 pins _ σ H _ (I.tok _) h) fun us s1 ⟨vs, H1, I1, r1, q1⟩ => ?_) hs hpl))
  obtain ⟨ms, st, a1, a2, xs, ys, da, db, kvs, rfl, sr, hx, hy, rx, ry, hp, hl, q⟩ := q1
  obtain ⟨u1, u2, rfl, ru1, ru2⟩ := vals2 r1
  obtain rfl : u1 = Value.ref a1 := ru1
  obtain rfl : u2 = Value.ref a2 := ru2
  rw [← hK] at hx hy
  obtain ⟨its, o1, B1, v1, b1, p1, ⟨w1, l1⟩, D1⟩ := sideP_draws I1 hx
  obtain ⟨jts, o2, B2, v2, b2, p2', ⟨w2, l2⟩, D2⟩ := sideP_draws I1 hy
  have lt1 := Heap.lt_size l1
  have lt2 := Heap.lt_size l2
  refine zip_begins2 b1 b2 p1 p2' fun h' hz hTI hTO g1 g2 hsz hk => args_nil ?_
  obtain ⟨St1, D1, s1'⟩ := D1 s1.heap.objs.size (Nat.ne_of_lt lt1)
  obtain ⟨St2, D2, s2'⟩ := D2 (s1.heap.objs.size + 1) (Nat.ne_of_lt (Nat.lt_succ_of_lt lt2))
  have hh := I1.ok.hd hc
  have S := zip_sep2 (N := s1.heap.objs.size) (fp1 := [a1]) (fp2 := [a2]) (fun b hb => by rw [List.mem_singleton.mp hb]; exact lt1) (fun b hb => by rw [List.mem_singleton.mp hb]; exact lt2)
  obtain ⟨prs, rel, hlen, hpr⟩ := prz_of (C := C) (H := H1) (ms := ms) X.prog X.w rx v1 ry v2 hp
  have hl2 := Paired.length rel
  refine PySem.call_dict_pairs (knd := mixKind X.prog X.w) (kvs := prs) (PairArg.zipD X.A hh S D1 D2) hh ⟨hz, hTI, ⟨_, _, hTO⟩, s1' _ g1 hk, s2' _ g2 hk, fun b hb => ?_⟩ ⟨?_, fun i key v hr => ?_⟩ ?_ fun h'' tk dd k => ?_
  · have hb : b = s1.heap.objs.size ∨ b = a1 ∨ b = s1.heap.objs.size + 1 ∨ b = a2 := by simpa using hb
    rcases hb with rfl | rfl | rfl | rfl
    · exact ⟨_, g1⟩
    · exact ⟨_, hk _ _ l1⟩
    · exact ⟨_, g2⟩
    · exact ⟨_, hk _ _ l2⟩
  · rw [hlen, List.size_toArray, List.size_toArray]
  · exact hpr i key v (by simpa using hr.1) (by simpa using hr.2)
  · have h2 : LIM = 16777216 := rfl
    rw [List.size_toArray, List.size_toArray, ← hlen, ← hl2, sizeLine_eq]
    omega
  · refine dof_end (s := s1) (h' := h'') (D := h'.objs.size) (t := tk) hw I1 sr rel (pairs_ok hp) hl (fun c o e => k c o (fun hm => ?_) (hk c o e)) (by rw [hsz]; exact Nat.le_add_right _ _) dd q
    have hlt := Heap.lt_size e
    have key : ∀ n m : Nat, m < n → ¬ (m = n + 4 ∨ m = n + 3 ∨ m = n ∨ m = n + 1) := by omega
    exact key _ _ hlt (by simpa using hm)
theorem dofzR_bind {env : En} : dofzR (evE F ca env st) (evE F cb env) = (evE F ca env st).bind fun x s => (evE F cb env s).bind fun y s => match (view s x).bind fun x => (view s y).bind fun y => dofzD x y with
  | some kvs => .ok (.ref s.length) (s ++ [.dct false false kvs])
  | none => .stuck := rfl
theorem se_dofz {p p2 pos pos2 : Pos} (hc : X.calm = true) (hK : X.K = C.K) (hw : X.w = C.w) (hg : Gl X "dict") (hm : X.mg "dict" = none) (hg2 : Gl X "zip") (hm2 : X.mg "zip" = none) (ha : PE X a (rdE C F W₀ ca)) (hb : PE X b (rdE C F W₀ cb)) (hn : nostar a = true) (hn2 : nostar b = true) :
    PE X (.Call (.Name "dict" p) [.Call (.Name "zip" p2) [a, b] [] pos2] [] pos) (rdE C F W₀ (.dofz ca cb)) :=
  peW (pe_dofz hc hK hw hg hm hg2 hm2 (pa_cons ha (pa_cons hb pa_nil (star_eq hn2)) (star_eq hn)) (star_eq hn) (star_any (by rw [List.all_cons, hn2]; rfl))) fun σ H Q ⟨env, st, ms, en, sr, h⟩ => by
    simp only [evE, dofzR_bind] at h
    refine rd_bind en sr h fun x w st1 H1 ms1 en1 sr1 e1 r1 h1 => rd_bind en1 sr1 h1 fun y w2 st2 H2 ms2 en2 sr2 e2 r2 h2 => ?_
    cases e : (view st2 w).bind fun x => (view st2 w2).bind fun y => dofzD x y with
    | none => rw [e] at h2; exact h2.elim
    | some kvs0 =>
      rw [e] at h2
      obtain ⟨p1, ep1, e⟩ := Option.bind_eq_some_iff.mp e
      obtain ⟨p2, ep2, e⟩ := Option.bind_eq_some_iff.mp e
      obtain ⟨la, ea, e⟩ := Option.bind_eq_some_iff.mp e
      obtain ⟨lb, eb, e⟩ := Option.bind_eq_some_iff.mp e
      obtain ⟨l, kvs, el, hl, hp, rfl⟩ := dof_some e
      cases el
      obtain ⟨a1, xs, rfl, q1, rr1⟩ := sideP_of ((r1.mono e2).now sr2 ep1) ea
      obtain ⟨a2, ys, rfl, q2, rr2⟩ := sideP_of (r2.now sr2 ep2) eb
      have := pairs_len hp
      exact ⟨ms2, st2, a1, a2, xs, ys, la, lb, kvs, rfl, sr2, q1, q2, rr1, rr2, hp, by omega, fun D H' x' s' u ru => h2 H' (ms2 ++ [D]) x' s' u ru⟩
end
end Mini

set_option Elab.async false
set_option linter.all false
set_option maxRecDepth 100000
set_option maxHeartbeats 2000000
/-! Mini, part V9: a list of the store that is data from now on; xs * n as a list of the store. -/
namespace Mini
open PySem PySem.Spec PyProof.Rows L2
section
variable {X : Cx} {C : Cn} {F : Fe} {W₀ : WX} {a b : Expr} {ca cb : E}
theorem frl_rep {H : Hp} {ms : List Addr} {st : Sto} {m : Nat} {p : Addr} {vs : List V} {xs : List PD} (sr : StRep C H ms st) (hp : ms[C.k + m]? = some p) (h1 : H p = some (.lst vs)) (h2 : RepL C.K H ms xs vs) (od : Obj) :
    Ext C.k H ms (upd H p (.frz od (.lst vs))) ms ∧ StRep C (upd H p (.frz od (.lst vs))) ms (st.set m .gone) ∧ Rep C.K (upd H p (.frz od (.lst vs))) ms (.list xs) (.ref p) := by
  have x : Ext C.k H ms (upd H p (.frz od (.lst vs))) ms := Ext.write sr hp (lst_nofrz h1)
  exact ⟨x, sr.writeO hp (lst_nofrz h1) trivial, p, vs, rfl, .inr (.inl ⟨od, upd_same⟩), RepL.mono x _ _ h2⟩
theorem se_frl (ha : PE X a (rdE C F W₀ ca)) : PE X a (rdE C F W₀ (.frl ca)) := ⟨fun pins s σ H Q I ⟨env, st, ms, en, sr, h⟩ => by
  simp only [evE] at h
  unfold frlR at h
  have key : rdE C F W₀ ca σ H (fun v H' => Q v H' ∨ ∃ p vs, v = .ref p ∧ H' p = some (.lst vs) ∧ ∀ od, Q v (upd H' p (.frz od (.lst vs)))) := by
    refine ⟨env, st, ms, en, sr, ?_⟩
    cases e : evE F ca env st with
    | stuck => rw [e] at h; exact h
    | exc c xs s1 => rw [e] at h; exact h
    | ok w s1 =>
      rw [e] at h
      intro H1 ms1 x s1r v r
      cases w with
      | d y => exact .inl (h H1 ms1 x s1r v r)
      | fn _ => exact h.elim
      | err _ _ => exact h.elim
      | ref m =>
        obtain ⟨p, hp, rfl⟩ := r
        have h : Post C W₀ σ H ms (match s1[m]? with | some (.lst xs) => Rs.ok (W.d (.list xs)) (s1.set m .gone) | _ => .stuck) fun w _ H' ms' => ∀ v, WRep C H' ms' w v → Q v H' := h
        cases e2 : s1[m]? with
        | none => rw [e2] at h; exact h.elim
        | some o =>
          rw [e2] at h
          cases o with
          | dct _ _ _ => exact h.elim
          | gone => exact h.elim
          | lst xs =>
            obtain ⟨vs, h1, h2⟩ := s1r.ob m p _ hp e2
            refine .inr ⟨p, vs, rfl, h1, fun od => ?_⟩
            obtain ⟨x2, s2, r2⟩ := frl_rep s1r hp h1 h2 od
            exact h _ ms1 (x.trans x2) s2 _ r2
  refine thn (ha.run pins s σ H _ I key) fun v s1 ⟨y, H1, I1, r1, q1⟩ => ?_
  rcases q1 with q | ⟨p, vs, rfl, h1, q⟩
  · exact ⟨y, H1, I1, r1, q⟩
  · obtain ⟨od, I2⟩ := I1.lock h1 trivial
    exact ⟨_, _, I2, r1, q od⟩⟩
theorem se_newx {pos : Pos} (hK : X.K = C.K) (ha : PE X a (rdE C F W₀ ca)) (hb : PE X b (rdE C F W₀ cb)) : PE X (.BinOp a .Mult b pos) (rdE C F W₀ (.newx ca cb)) :=
  peW (pe_op op_lmul ha hb) fun σ H Q ⟨env, st, ms, en, sr, h⟩ => by
    simp only [evE] at h
    unfold newxR at h
    refine rd_bind en sr h fun x w st1 H1 ms1 en1 sr1 e1 r1 h1 => rd_bind en1 sr1 h1 fun y w2 st2 H2 ms2 en2 sr2 e2 r2 h2 => ?_
    have r1 := r1.mono e2
    split at h2
    · split at h2
      · rename_i l k r1 hc
        obtain ⟨a, xs, rfl, g1, rr⟩ := (r1.now sr2 (rfl : view st2 (.d (.list l)) = some (.list l))).list
        have hy : y = .int k := r2
        subst hy
        refine ⟨a, k, xs, rfl, rfl, by rw [hK]; exact g1, hc.1, hc.2.1, by rw [rr.length]; exact hc.2.2, fun p hp => ?_⟩
        refine h2 _ _ (Ext.newS sr2 hp) (sr2.newS hp (rr.rep _)) _ ⟨p, ?_, rfl⟩
        rw [← sr2.len, List.getElem?_append_right (Nat.le_refl _), Nat.sub_self]
        rfl
      · exact h2.elim
    · exact h2.elim
end
end Mini

set_option Elab.async false
set_option linter.all false
set_option maxRecDepth 100000
set_option maxHeartbeats 2000000
/-! Mini, part K: the program's text read as the small language, each reading with its proof. -/
namespace Mini
open PySem PySem.Spec PyProof.Rows L2
/-- the error classes: those that clauses name, those made without fields, with two fields; the fields' names -/
structure Ers where
  ers : List (Str × Nat)
  mk0 : List (Str × Nat)
  mk2 : List (Str × Nat)
  flds : List (Nat × List Str)
def Made0 (K : PySem.W.Frag) (mg : Str → Option Value) (C : Cn) (p : Str × Nat) : Prop :=
  ∃ Ca bmB B newId initId, C.cls p.2 = some (Ca, []) ∧ mg p.1 = some (.ref Ca) ∧ ExcBaseFacts B newId initId bmB ∧ PySem.W.excIn K Ca bmB newId = true ∧ PySem.W.keepIn K (.ref Ca) = true ∧
    PySem.W.subIn K (.ref Ca) (.type "BaseException") = some true ∧ PySem.W.typeIn K (.ref Ca) = some (.type "type")
def Made2 (K : PySem.W.Frag) (prog : Program) (mg : Str → Option Value) (C : Cn) (p : Str × Nat) : Prop :=
  ∃ Ca cc cda fI stm qual n1 n2, C.cls p.2 = some (Ca, [n1, n2]) ∧ Er2 K prog mg Ca cc cda fI p.1 stm qual n1 n2
/-- what is known of the names -/
structure Ct where
  N : List Str
  sc : Scope
  fn : Str → Bool
  defs : List (Str × Nat)
  cons : List (Str × Nat)
  blts : List Str
  marks : List (Nat × Nat)
  er : Ers
structure Fits (Γ : Ct) (C : Cn) (P : Pg) (k : Nat) (F : Fe) (W₀ : WX) (X : Cx) : Prop where
  hK : X.K = C.K
  hW : X.w = C.w
  N : X.N = Γ.N
  sc : X.env.scope = Γ.sc
  nd : X.N.Nodup
  calm : X.calm = true
  gd : X.A.guards = some []
  room : Room k X.A
  call : F.call = runF P k
  G : Fns C P k X.prog X.w X.K X.mg X.base
  tk : Takes X W₀
  fn : X.fn = Γ.fn
  defs : ∀ p ∈ Γ.defs, ∃ f, X.mg p.1 = some (.ref f) ∧ C.fa p.2 = some f
  cons : ∀ p ∈ Γ.cons, ∃ u v d, X.mg p.1 = some u ∧ RelV v u ∧ F.glob p.2 = some d ∧ ∀ H ms, Rep C.K H ms d v
  blts : ∀ x ∈ Γ.blts, X.mg x = none
  kind : Γ.sc.kind = .function
  ers : ∀ p ∈ Γ.er.ers, ∃ Ca names, C.cls p.2 = some (Ca, names) ∧ X.mg p.1 = some (.ref Ca)
  mk0 : ∀ p ∈ Γ.er.mk0, Made0 X.K X.mg C p
  mk2 : ∀ p ∈ Γ.er.mk2, Made2 X.K X.prog X.mg C p
  fls : ∀ p ∈ Γ.er.flds, ∃ Ca, C.cls p.1 = some (Ca, p.2) ∧ XfC X.K Ca ∧ ∀ n ∈ p.2, PySem.W.findIn X.K (.ref Ca) n = some none
abbrev OkE (Γ : Ct) (e : Expr) (c : E) : Prop := ∀ {C P k F W₀ X}, Fits Γ C P k F W₀ X → PE X e (rdE C F W₀ c)
abbrev OkT (Γ : Ct) (e : Expr) (c : E) : Prop := ∀ {C P k F W₀ X}, Fits Γ C P k F W₀ X → PT X e (rdB C F W₀ c)
abbrev OkWt (Γ : Ct) (e : Expr) (c : E) : Prop := ∀ {C P k F W₀ X}, Fits Γ C P k F W₀ X → PW X e (rdB C F W₀ c)
abbrev OkTs (Γ : Ct) (es : List Expr) (c : E) : Prop := ∀ {C P k F W₀ X}, Fits Γ C P k F W₀ X → PTs X es (rdB C F W₀ c)
abbrev OkA (Γ : Ct) (es : List Expr) (c : E) : Prop := es.all nostar = true ∧ ∀ {C P k F W₀ X}, Fits Γ C P k F W₀ X → PA X es (rdL C F W₀ c)
abbrev OkI (Γ : Ct) (tg e : Expr) (c : E) : Prop := ∀ {C P k F W₀ X}, Fits Γ C P k F W₀ X → PI X tg e (rdW C F W₀ c)
abbrev OkG (Γ : Ct) (tg : Expr) (t : Tg) : Prop := ∀ {C P k F W₀ X}, Fits Γ C P k F W₀ X → PG X tg (rdG C t)
abbrev OkO (Γ : Ct) (e : Option Expr) (c : E) : Prop := ∀ {C P k F W₀ X}, Fits Γ C P k F W₀ X → PO X e (rdO C F W₀ c)
/-- the readers of expressions -/
structure Lv where
  E : ∀ Γ e, Option {c // OkE Γ e c}
  T : ∀ Γ e, Option {c // OkT Γ e c}
  I : ∀ Γ tg e, Option {c // OkI Γ tg e c}
/-! ### names -/
def slot (N : List Str) (x : Str) : Option {i : Nat // N[i]? = some x} :=
  match N.findIdx? (· == x) with
  | some i => if h : N[i]? = some x then some ⟨i, h⟩ else none
  | none => none
section
variable {Γ : Ct} {C : Cn} {P : Pg} {k : Nat} {F : Fe} {W₀ : WX} {X : Cx}
theorem Fits.gl (h : Fits Γ C P k F W₀ X) {x : Str} (e : Γ.sc.names.lookup x = some .globalImplicit) : Gl X x := by
  show X.env.scope.names.lookup x = _
  rw [h.sc]
  exact e
theorem Fits.vis (h : Fits Γ C P k F W₀ X) {x : Str} {q : NameKind} (e : Γ.sc.names.lookup x = some q) (hq : q = .local ∨ q = .cell ∨ q = .free) : Vis X.env.scope x := by
  unfold Vis
  rw [h.sc, e]
  rcases hq with rfl | rfl | rfl
  · exact .inl rfl
  · exact .inr (.inl rfl)
  · exact .inr (.inr rfl)
theorem Fits.lo (h : Fits Γ C P k F W₀ X) {x : Str} {q : NameKind} (e : Γ.sc.names.lookup x = some q) (hq : q = .local ∨ q = .cell) : L2.Loc X.env.scope x := by
  unfold L2.Loc
  rw [h.sc, e]
  rcases hq with rfl | rfl
  · exact .inl rfl
  · exact .inr rfl
theorem Fits.at_ (h : Fits Γ C P k F W₀ X) {i : Nat} {x : Str} (e : Γ.N[i]? = some x) : X.N[i]? = some x := by rw [h.N]; exact e
theorem Fits.un (h : Fits Γ C P k F W₀ X) : X.A.units + 65 < cLine := by have := h.room.un; omega
theorem Fits.own (h : Fits Γ C P k F W₀ X) {x : Str} {q : NameKind} (e : Γ.sc.names.lookup x = some q) (hf : Γ.fn x = true ∨ q = .local) : X.fn x = true ∨ X.env.scope.names.lookup x = some .local := by
  rcases hf with z | rfl
  · exact .inl (by rw [h.fn]; exact z)
  · exact .inr (by rw [h.sc]; exact e)
theorem lk_mem {α : Type} {l : List (Str × α)} {x : Str} {i : α} (h : l.lookup x = some i) : (x, i) ∈ l := PySem.mem_of_lookup h
end
def cName (Γ : Ct) (x : Str) (p : Pos) : Option {c // OkE Γ (.Name x p) c} :=
  if hd : (x == ("__debug__" : Str)) = false then
    match hk : Γ.sc.names.lookup x with
    | some .globalImplicit =>
      match hf : Γ.defs.lookup x with
      | some i => some ⟨.fn i, fun h => by
        obtain ⟨f, h1, h2⟩ := h.defs _ (lk_mem hf)
        exact se_fn (h.gl hk) h1 hd h2⟩
      | none =>
        match hc : Γ.cons.lookup x with
        | some i => some ⟨.glob i, fun h => by
          obtain ⟨u, v, d, h1, h2, h3, h4⟩ := h.cons _ (lk_mem hc)
          exact se_glob (h.gl hk) h1 h2 hd h3 h4⟩
        | none => none
    | some q =>
      if hq : q = .local ∨ q = .cell ∨ q = .free then
        if hcd : (x == ("__classdict__" : Str)) = false then
          match slot Γ.N x with
          | some ⟨i, hi⟩ => some ⟨.var i, fun h => se_var (h.at_ hi) (h.vis hk hq) hd hcd⟩
          | none => none
        else none
      else none
    | none => none
  else none
/-! ### operators -/
def o2 (op : Operator) : Option {o : O2 // opOf o = op} :=
  match op with
  | .Add => some ⟨.add, rfl⟩
  | .Sub => some ⟨.sub, rfl⟩
  | .Mult => some ⟨.mul, rfl⟩
  | .FloorDiv => some ⟨.fdiv, rfl⟩
  | .Mod => some ⟨.mod, rfl⟩
  | .Pow => some ⟨.pow, rfl⟩
  | _ => none
def cm (op : CmpOp) : {o : Cm // cmOf o = op} :=
  match op with
  | .Eq => ⟨.eq, rfl⟩
  | .NotEq => ⟨.ne, rfl⟩
  | .Lt => ⟨.lt, rfl⟩
  | .LtE => ⟨.le, rfl⟩
  | .Gt => ⟨.gt, rfl⟩
  | .GtE => ⟨.ge, rfl⟩
  | .Is => ⟨.is, rfl⟩
  | .IsNot => ⟨.isnot, rfl⟩
  | .In => ⟨.mem, rfl⟩
  | .NotIn => ⟨.nmem, rfl⟩
def biAll : List Bi := [.len, .abs, .int, .sum, .all, .any, .tuple, .list, .max, .min, .repr]
def biOf (x : Str) : Option {b : Bi // biName b = x} :=
  match biAll.find? (fun b => decide (biName b = x)) with
  | some b => if h : biName b = x then some ⟨b, h⟩ else none
  | none => none
def tyOf (x : Str) : Option {t : Ty // (tyName t : Str) = x} :=
  match [Ty.int, .bool, .str, .tuple, .list].find? (fun t => decide ((tyName t : Str) = x)) with
  | some b => if h : (tyName b : Str) = x then some ⟨b, h⟩ else none
  | none => none
/-! ### lists of expressions -/
def cA (L : Lv) (Γ : Ct) : (es : List Expr) → Option {c // OkA Γ es c}
  | [] => some ⟨.nil, rfl, fun h => sl_nil⟩
  | e :: es =>
    if hn : nostar e = true then
      match L.E Γ e, cA L Γ es with
      | some ⟨a, ha⟩, some ⟨b, hb⟩ => some ⟨.cons a b, by rw [List.all_cons, hn, hb.1]; rfl, fun h => sl_cons (ha h) (hb.2 h) hn⟩
      | _, _ => none
    else none
def cAnd (L : Lv) (Γ : Ct) (pos : Pos) : (es : List Expr) → Option {c // OkE Γ (.BoolOp .And es pos) c}
  | [] => none
  | [a] => match L.E Γ a with
    | some ⟨a, ha⟩ => some ⟨a, fun h => pe_one (ha h)⟩
    | none => none
  | a :: b :: r => match L.E Γ a, cAnd L Γ pos (b :: r) with
    | some ⟨a, ha⟩, some ⟨b, hb⟩ => some ⟨.and a b, fun h => se_and (ha h) (hb h)⟩
    | _, _ => none
def cOr (L : Lv) (Γ : Ct) (pos : Pos) : (es : List Expr) → Option {c // OkE Γ (.BoolOp .Or es pos) c}
  | [] => none
  | [a] => match L.E Γ a with
    | some ⟨a, ha⟩ => some ⟨a, fun h => pe_one (ha h)⟩
    | none => none
  | a :: b :: r => match L.E Γ a, cOr L Γ pos (b :: r) with
    | some ⟨a, ha⟩, some ⟨b, hb⟩ => some ⟨.or a b, fun h => se_or (ha h) (hb h)⟩
    | _, _ => none
def cAndT (L : Lv) (Γ : Ct) (pos : Pos) : (es : List Expr) → Option {c // OkWt Γ (.BoolOp .And es pos) c}
  | [] => none
  | [a] => match L.T Γ a with
    | some ⟨a, ha⟩ => some ⟨a, fun h => pw_and1 (ha h)⟩
    | none => none
  | a :: b :: r => match L.T Γ a, cAndT L Γ pos (b :: r) with
    | some ⟨a, ha⟩, some ⟨b, hb⟩ => some ⟨.and a b, fun h => sw_and (ha h) (hb h)⟩
    | _, _ => none
def cOrT (L : Lv) (Γ : Ct) (pos : Pos) : (es : List Expr) → Option {c // OkWt Γ (.BoolOp .Or es pos) c}
  | [] => none
  | [a] => match L.T Γ a with
    | some ⟨a, ha⟩ => some ⟨a, fun h => pw_or1 (ha h)⟩
    | none => none
  | a :: b :: r => match L.T Γ a, cOrT L Γ pos (b :: r) with
    | some ⟨a, ha⟩, some ⟨b, hb⟩ => some ⟨.or a b, fun h => sw_or (ha h) (hb h)⟩
    | _, _ => none
/-! ### targets -/
abbrev OkN (Γ : Ct) (es : List Expr) (is : List Nat) : Prop := ∀ {C P k F W₀ X}, Fits Γ C P k F W₀ X → NamesAt X es is
def cNames (Γ : Ct) : (es : List Expr) → Option {is // OkN Γ es is}
  | [] => some ⟨[], fun h => .nil⟩
  | .Name x p :: es =>
    match hk : Γ.sc.names.lookup x with
    | some q =>
      if hq : q = .local ∨ q = .cell then
        if hf : Γ.fn x = true ∨ q = .local then
          match slot Γ.N x, cNames Γ es with
          | some ⟨i, hi⟩, some ⟨is, his⟩ => some ⟨i :: is, fun h => .cons (h.at_ hi) (h.lo hk hq) (h.own hk hf) (his h)⟩
          | _, _ => none
        else none
      else none
    | none => none
  | _ :: _ => none
def cG (Γ : Ct) : (tg : Expr) → Option {t // OkG Γ tg t}
  | .Name x p =>
    match hk : Γ.sc.names.lookup x with
    | some q =>
      if hq : q = .local ∨ q = .cell then
        if hf : Γ.fn x = true ∨ q = .local then
          match slot Γ.N x with
          | some ⟨i, hi⟩ => some ⟨.nm i, fun h => sg_nm h.nd (h.at_ hi) (h.lo hk hq) (h.own hk hf)⟩
          | none => none
        else none
      else none
    | none => none
  | .Tuple [.Name x px, .Tuple es k2 p2] k p =>
    match hk : Γ.sc.names.lookup x with
    | some q =>
      if hq : q = .local ∨ q = .cell then
        if hf : Γ.fn x = true ∨ q = .local then
          match slot Γ.N x, cNames Γ es with
          | some ⟨i, hi⟩, some ⟨is, his⟩ => some ⟨.pr i is, fun h => sg_pr h.hK h.calm h.nd (h.at_ hi) (h.lo hk hq) (h.own hk hf) (his h)⟩
          | _, _ => none
        else none
      else none
    | none => none
  | .Tuple es k p =>
    match cNames Γ es with
    | some ⟨is, his⟩ => some ⟨.tp is, fun h => sg_tp h.hK h.calm h.nd (his h)⟩
    | none => none
  | _ => none
/-! ### comprehensions -/
abbrev Ct.inner (Γ : Ct) (scope : Scope) : Ct := { Γ with sc := relS scope Γ.sc, fn := fun x => scope.names.lookup x == some .cell }
theorem Fits.blk {Γ : Ct} {C : Cn} {P : Pg} {k : Nat} {F : Fe} {W₀ : WX} {X : Cx} {scope : Scope} (h : Fits Γ C P k F W₀ X) (hk : scope.kind = .function) (s : Shared) (H : Hp) (A : Addr) (cl : List (Str × Addr)) (fp : List Addr) :
    Fits (Γ.inner scope) C.up P k F Wno (X.blk s H scope (compEnvC scope cl A X.env) fp) where
  hK := h.hK
  hW := h.hW
  N := h.N
  sc := by
    show relS scope X.env.scope = relS scope Γ.sc
    rw [h.sc]
  nd := h.nd
  calm := h.calm
  gd := h.gd
  room := h.room
  call := h.call
  G := h.G
  tk := fun u s' ⟨a, B, sI, pins, σ, H, cls, d, e, I, nb, up, sky, na, os, ag, w⟩ => w.elim
  fn := rfl
  defs := h.defs
  cons := h.cons
  blts := h.blts
  kind := hk
  ers := h.ers
  mk0 := h.mk0
  mk2 := h.mk2
  fls := h.fls
def ownOf (N : List Str) (scope : Scope) : List (Str × Nat) :=
  scope.names.filterMap fun y => match y.2 with
    | .local => (N.findIdx? (· == y.1)).map fun i => (y.1, i)
    | .cell => (N.findIdx? (· == y.1)).map fun i => (y.1, i)
    | _ => none
def cTs (L : Lv) (Γ : Ct) : (es : List Expr) → Option {c // OkTs Γ es c}
  | [] => some ⟨.cst (.bool true), fun h => ⟨fun pins s σ H Q I ⟨env, st, ms, en, sr, h⟩ => pts_nil.run pins s σ H Q I (Post.ok sr h)⟩⟩
  | [a] => match L.T Γ a with
    | some ⟨a, ha⟩ => some ⟨a, fun h => pts_one (ha h)⟩
    | none => none
  | _ => none
/-- a comprehension's parts -/
structure Cp (Γ : Ct) (elt tg iter : Expr) (ifs : List Expr) (scope : Scope) where
  own : List (Str × Nat)
  ok : BlkOk Γ.N Γ.sc scope own
  t : Tg
  cit : E
  cc : E
  celt : E
  hsl : ∀ i ∈ t.slots, i ∈ own.map (·.2)
  hi : OkI Γ tg iter cit
  hg : OkG (Γ.inner scope) tg t
  ht : OkTs (Γ.inner scope) ifs cc
  he : OkE (Γ.inner scope) elt celt
def cCp (L : Lv) (Γ : Ct) (elt tg iter : Expr) (ifs : List Expr) (scope : Scope) : Option (Cp Γ elt tg iter ifs scope) :=
  if hb : blkC Γ.N Γ.sc scope (ownOf Γ.N scope) = true then
    match L.I Γ tg iter, cG (Γ.inner scope) tg, cTs L (Γ.inner scope) ifs, L.E (Γ.inner scope) elt with
    | some ⟨ci, hi⟩, some ⟨t, hg⟩, some ⟨cc, ht⟩, some ⟨ce, he⟩ =>
      if hs : (t.slots.all fun i => decide (i ∈ (ownOf Γ.N scope).map (·.2))) = true then
        some ⟨ownOf Γ.N scope, blkOk_by hb, t, ci, cc, ce, fun i hm => of_decide_eq_true (List.all_eq_true.mp hs i hm), hi, hg, ht, he⟩
      else none
    | _, _, _, _ => none
  else none
theorem fsi {e : Expr} {env : Env} : (∀ x, foldedSetIterable e env x = pure x) ∨ ∃ es k p, e = .Set es k p := by
  cases e <;> first | exact .inr ⟨_, _, _, rfl⟩ | exact .inl fun x => rfl
def noset : Expr → Bool
  | .Set _ _ _ => false
  | _ => true
theorem fsi_of {e : Expr} {env : Env} (h : noset e = true) : ∀ x, foldedSetIterable e env x = pure x := by
  rcases fsi (e := e) (env := env) with h1 | ⟨es, k, p, rfl⟩
  · exact h1
  · cases h
theorem bim_of {e : Expr} {o : CmpOp} (h : noset e = true) : behindInMarks o e = false := by
  cases e <;> first | rfl | cases h
def cComp (L : Lv) (Γ : Ct) (new : Bool) (elt tg iter : Expr) (ifs : List Expr) (scope : Scope) (pos : Pos) : Option {c // OkE Γ (.ListComp elt [⟨tg, iter, ifs, 0⟩] scope pos) c} :=
  if hn : noset iter = true then
    match cCp L Γ elt tg iter ifs scope with
    | some q => some ⟨.comp new q.celt q.t q.cit q.cc (q.own.map (·.2)), fun h => se_comp h.hK h.calm h.nd (q.hi h) (by rw [h.N, h.sc]; exact q.ok) q.hsl (fun s H A cl fp => q.hg (h.blk q.ok.kind s H A cl fp))
        (fun s H A cl fp => q.ht (h.blk q.ok.kind s H A cl fp)) (fun s H A cl fp => q.he (h.blk q.ok.kind s H A cl fp)) (fsi_of hn)⟩
    | none => none
  else none
/-! ### calls -/
def mkFrz (Γ : Ct) (p : Pos) (c : E) : E := if (p.line, p.col) ∈ Γ.marks then .frz c else c
theorem frz_ok {Γ : Ct} {p : Pos} {C : Cn} {F : Fe} {W₀ : WX} {X : Cx} {e : Expr} {c : E} (h : PE X e (rdE C F W₀ c)) : PE X e (rdE C F W₀ (mkFrz Γ p c)) := by
  unfold mkFrz
  split
  · exact se_frz h
  · exact h
def lrngOf (Γ : Ct) : List Expr → Bool
  | [.Call (.Name y _) _ _ _] => decide (y = "range") && decide (y ∈ Γ.blts)
  | _ => false
def cCall (L : Lv) (Γ : Ct) (x : Str) (p : Pos) (pos : Pos) (es : List Expr) : Option {c // OkE Γ (.Call (.Name x p) es [] pos) c} :=
    if hd : (x == ("__debug__" : Str)) = false then
      match hk : Γ.sc.names.lookup x with
      | some .globalImplicit =>
        match hf : Γ.defs.lookup x with
        | some i =>
          match es with
          | [] => some ⟨mkFrz Γ pos (.call i .nil), fun h => by
            obtain ⟨f, h1, h2⟩ := h.defs _ (lk_mem hf)
            exact frz_ok (se_call0 h.call h.G h2 h.gd h.room h.tk (h.gl hk) h1 hd)⟩
          | e :: es =>
            match cA L Γ (e :: es) with
            | some ⟨a, ha⟩ => some ⟨mkFrz Γ pos (.call i a), fun h => by
              obtain ⟨f, h1, h2⟩ := h.defs _ (lk_mem hf)
              exact frz_ok (se_call h.call h.G h2 h.gd h.room h.tk (h.gl hk) h1 hd (ha.2 h) ha.1)⟩
            | none => none
        | none =>
          if hb : x ∈ Γ.blts then
            if hi : x = "isinstance" then
              match es with
              | [a, .Name y p2] =>
                match tyOf y with
                | some ⟨t, ht⟩ =>
                  if hy : y ∈ Γ.blts ∧ Γ.sc.names.lookup y = some .globalImplicit ∧ nostar a = true then
                    match L.E Γ a with
                    | some ⟨ca, ha⟩ => some ⟨.isi ca t, fun h => by
                      subst hi
                      subst ht
                      exact se_isi h.hK t (h.gl hk) (h.blts _ hb) (h.gl hy.2.1) (h.blts _ hy.1) (ha h) hy.2.2⟩
                    | none => none
                  else none
                | none => none
              | _ => none
            else if hi : x = "sorted" then
              match es with
              | [a] =>
                if hn : nostar a = true then
                  match L.E Γ a with
                  | some ⟨ca, ha⟩ => some ⟨.srt ca, fun h => by
                    subst hi
                    exact se_srt h.calm h.hK h.hW h.un (h.gl hk) (h.blts _ hb) (ha h) hn⟩
                  | none => none
                else none
              | _ => none
            else if hi : x = "dict" then
              match es with
              | [.Call (.Name y p2) [a, b] [] pos2] =>
                if hy : y = "zip" ∧ y ∈ Γ.blts ∧ Γ.sc.names.lookup y = some .globalImplicit ∧ nostar a = true ∧ nostar b = true then
                  match L.E Γ a, L.E Γ b with
                  | some ⟨ca, ha⟩, some ⟨cb, hb'⟩ => some ⟨.dofz ca cb, fun h => by
                    obtain ⟨h1, h2, h3, h4, h5⟩ := hy
                    subst hi
                    subst h1
                    exact se_dofz h.calm h.hK h.hW (h.gl hk) (h.blts _ hb) (h.gl h3) (h.blts _ h2) (ha h) (hb' h) h4 h5⟩
                  | _, _ => none
                else none
              | [a] =>
                if hn : nostar a = true then
                  match L.E Γ a with
                  | some ⟨ca, ha⟩ => some ⟨.dof ca, fun h => by
                    subst hi
                    exact se_dof h.calm h.hK h.hW (h.gl hk) (h.blts _ hb) (ha h) hn⟩
                  | none => none
                else none
              | _ => none
            else if hi : x = "list" ∧ lrngOf Γ es = true then
              match es with
              | [.Call (.Name y p2) [a] [] pos2] =>
                if hy : y = "range" ∧ y ∈ Γ.blts ∧ Γ.sc.names.lookup y = some .globalImplicit ∧ nostar a = true then
                  match L.E Γ a with
                  | some ⟨ca, ha⟩ => some ⟨.lrng (.cons ca .nil), fun h => by
                    obtain ⟨hi, _⟩ := hi
                    obtain ⟨h1, h2, h3, h4⟩ := hy
                    subst hi
                    subst h1
                    exact se_lrng1 h.calm (h.gl hk) (h.blts _ hb) (h.gl h3) (h.blts _ h2) (ha h) h4⟩
                  | none => none
                else none
              | [.Call (.Name y p2) [a, b] [] pos2] =>
                if hy : y = "range" ∧ y ∈ Γ.blts ∧ Γ.sc.names.lookup y = some .globalImplicit ∧ nostar a = true ∧ nostar b = true then
                  match L.E Γ a, L.E Γ b with
                  | some ⟨ca, ha⟩, some ⟨cb, hb'⟩ => some ⟨.lrng (.cons ca (.cons cb .nil)), fun h => by
                    obtain ⟨hi, _⟩ := hi
                    obtain ⟨h1, h2, h3, h4, h5⟩ := hy
                    subst hi
                    subst h1
                    exact se_lrng2 h.calm (h.gl hk) (h.blts _ hb) (h.gl h3) (h.blts _ h2) (ha h) (hb' h) h4 h5⟩
                  | _, _ => none
                else none
              | _ => none
            else
              match biOf x, es with
              | some ⟨b, hx⟩, e :: es =>
                match cA L Γ (e :: es) with
                | some ⟨a, ha⟩ => some ⟨.bi b a, fun h => by
                  subst hx
                  exact se_bi h.hK h.calm h.gd h.un b (h.gl hk) (h.blts _ hb) (ha.2 h) ha.1⟩
                | none => none
              | _, _ => none
          else none
      | some q =>
        if hq : q = .local ∨ q = .cell ∨ q = .free then
          if hcd : (x == ("__classdict__" : Str)) = false then
            match slot Γ.N x, es with
            | some ⟨i, hi⟩, e :: es =>
              match cA L Γ (e :: es) with
              | some ⟨a, ha⟩ => some ⟨.callv i a, fun h => se_callv h.call h.G h.gd h.room h.tk (h.at_ hi) (h.vis hk hq) hd hcd (ha.2 h) ha.1⟩
              | none => none
            | _, _ => none
          else none
        else none
      | none => none
    else none
/-! ### slices -/
def isNil : E → Bool
  | .nil => true
  | _ => false
theorem ne_nil {c : E} (h : isNil c = false) : c ≠ .nil := by
  rintro rfl
  cases h
def cO (L : Lv) (Γ : Ct) : (e : Option Expr) → Option {c // OkO Γ e c}
  | none => some ⟨.nil, fun h => so_none⟩
  | some a => match L.E Γ a with
    | some ⟨a, ha⟩ => if hn : isNil a = false then some ⟨a, fun h => so_some (ha h) (ne_nil hn)⟩ else none
    | none => none
/-! ### walks -/
def cRange (L : Lv) (Γ : Ct) (tg : Expr) (x : Str) (p : Pos) (pos : Pos) (es : List Expr) : Option {c // OkI Γ tg (.Call (.Name x p) es [] pos) c} :=
  if hb : x ∈ Γ.blts ∧ Γ.sc.names.lookup x = some .globalImplicit then
    if hx : x = "range" then
      match es with
      | [a] => match L.E Γ a with
        | some ⟨ca, ha⟩ => if hn : nostar a = true then some ⟨.rng (.cons ca .nil), fun h => by
            subst hx
            exact sw_rng1 (h.gl hb.2) (h.blts _ hb.1) (ha h) hn⟩ else none
        | none => none
      | [a, b] => match L.E Γ a, L.E Γ b with
        | some ⟨ca, ha⟩, some ⟨cb, hb'⟩ => if hn : nostar a = true ∧ nostar b = true then some ⟨.rng (.cons ca (.cons cb .nil)), fun h => by
            subst hx
            exact sw_rng2 (h.gl hb.2) (h.blts _ hb.1) (ha h) (hb' h) hn.1 hn.2⟩ else none
        | _, _ => none
      | _ => none
    else
      if hx : x = "zip" then
        match tg, es with
        | .Tuple _ _ _, [a, b] => match L.E Γ a, L.E Γ b with
          | some ⟨ca, ha⟩, some ⟨cb, hb'⟩ => if hn : nostar a = true ∧ nostar b = true then some ⟨.zip ca cb, fun h => by
            subst hx
            exact sw_zip h.hK (h.gl hb.2) (h.blts _ hb.1) (ha h) (hb' h) hn.1 hn.2⟩ else none
          | _, _ => none
        | _, _ => none
      else none
  else none
def cI (L : Lv) (Γ : Ct) (tg e : Expr) : Option {c // OkI Γ tg e c} :=
  match e with
  | .Call (.Attribute (.Name y py) m apos) [] [] cpos => if hm : m = "items" ∧ (apos.endLine == cpos.line) = true then
      match tg, cName Γ y py with
      | .Tuple elts kk tpos, some ⟨co, ho⟩ => some ⟨.items co, fun h => by
        obtain ⟨h1, h2⟩ := hm
        subst h1
        exact sw_items (ho h) h2⟩
      | _, _ => none
    else none
  | .Call (.Name x p) es [] pos =>
    match cRange L Γ tg x p pos es with
    | some c => some c
    | none => match L.E Γ (.Call (.Name x p) es [] pos) with
      | some ⟨c, hc⟩ => some ⟨c, fun h => sw_seq h.hK (hc h)⟩
      | none => none
  | e => match L.E Γ e with
    | some ⟨c, hc⟩ => some ⟨c, fun h => sw_seq h.hK (hc h)⟩
    | none => none
/-! ### expressions, tests -/
def mkFrl (Γ : Ct) (p : Pos) (c : E) : E := if (p.line, p.col) ∈ Γ.marks then .frl c else c
theorem frl_ok {Γ : Ct} {p : Pos} {C : Cn} {F : Fe} {W₀ : WX} {X : Cx} {e : Expr} {c : E} (h : PE X e (rdE C F W₀ c)) : PE X e (rdE C F W₀ (mkFrl Γ p c)) := by
  unfold mkFrl
  split
  · exact se_frl h
  · exact h
def cBin (L : Lv) (Γ : Ct) (a : Expr) (op : Operator) (b : Expr) (p : Pos) : Option {c // OkE Γ (.BinOp a op b p) c} :=
  match o2 op, L.E Γ a, L.E Γ b with
  | some ⟨o, ho⟩, some ⟨ca, ha⟩, some ⟨cb, hb⟩ => some ⟨.bin o ca cb, fun h => by rw [← ho]; exact se_bin h.hK o (ha h) (hb h)⟩
  | _, _, _ => none
def cMul (L : Lv) (Γ : Ct) (es : List Expr) (p1 : Pos) (b : Expr) (p : Pos) : Option {c // OkE Γ (.BinOp (.List es p1) .Mult b p) c} :=
  if (p.line, p.col) ∈ Γ.marks then
    match cA L Γ es, L.E Γ b with
    | some ⟨ca, ha⟩, some ⟨cb, hb⟩ => some ⟨.newx (.lst ca) cb, fun h => se_newx h.hK (se_lst (ha.2 h)) (hb h)⟩
    | _, _ => none
  else cBin L Γ (.List es p1) .Mult b p
def cE (L : Lv) (Γ : Ct) (e : Expr) : Option {c // OkE Γ e c} :=
  match e with
  | .Constant (.int i) j p => some ⟨.cst (.int i), fun _ => se_int⟩
  | .Constant (.bool b) j p => some ⟨.cst (.bool b), fun _ => se_bl⟩
  | .Constant .none j p => some ⟨.cst .none, fun _ => se_non⟩
  | .Constant (.str x) j p => some ⟨.cst (.str x), fun _ => se_str⟩
  | .Name x p => match cName Γ x p with
    | some ⟨c, h⟩ => some ⟨mkFrl Γ p c, fun H => frl_ok (h H)⟩
    | none => none
  | .BinOp (.List es p1) .Mult b p => cMul L Γ es p1 b p
  | .BinOp a op b p => cBin L Γ a op b p
  | .UnaryOp .USub a p => match L.E Γ a with
    | some ⟨ca, ha⟩ => some ⟨.neg ca, fun h => se_neg (ha h)⟩
    | none => none
  | .UnaryOp .Not a p => match L.E Γ a with
    | some ⟨ca, ha⟩ => some ⟨.not ca, fun h => se_not (ha h)⟩
    | none => none
  | .BoolOp .And es p => cAnd L Γ p es
  | .BoolOp .Or es p => cOr L Γ p es
  | .IfExp t a b p => match L.T Γ t, L.E Γ a, L.E Γ b with
    | some ⟨ct, ht⟩, some ⟨ca, ha⟩, some ⟨cb, hb⟩ => some ⟨.ife ct ca cb, fun h => se_ife (ht h) (ha h) (hb h)⟩
    | _, _, _ => none
  | .Compare a [op] [b] p => match L.E Γ a, L.E Γ b with
    | some ⟨ca, ha⟩, some ⟨cb, hb⟩ => if hs : noset b = true then some ⟨.cmp (cm op).1 ca cb, fun h => by
        have := se_cmp (pos := p) h.hK h.hW h.un (cm op).1 (ha h) (hb h) (bim_of hs)
        rwa [(cm op).2] at this⟩ else none
    | _, _ => none
  | .Compare a [op, op'] [b, c] p => match L.E Γ a, L.E Γ b, L.E Γ c with
    | some ⟨ca, ha⟩, some ⟨cb, hb⟩, some ⟨cc, hc⟩ => if hs : noset c = true then some ⟨.chain (cm op).1 (cm op').1 ca cb cc, fun h => by
        have := se_chain (pos := p) h.hK h.un (cm op).1 (cm op').1 (ha h) (hb h) (hc h) (show behindInMarks _ c = false from bim_of hs)
        rwa [(cm op).2, (cm op').2] at this⟩ else none
    | _, _, _ => none
  | .Tuple es k p => match cA L Γ es with
    | some ⟨c, hc⟩ => some ⟨.tup c, fun h => se_tup (hc.2 h)⟩
    | none => none
  | .List es p => match cA L Γ es with
    | some ⟨c, hc⟩ => if (p.line, p.col) ∈ Γ.marks then some ⟨.newl c, fun h => se_newl (hc.2 h)⟩ else some ⟨.lst c, fun h => se_lst (hc.2 h)⟩
    | none => none
  | .Dict [] [] p => if (p.line, p.col + 1000) ∈ Γ.marks then some ⟨.newd false, fun h => se_newd⟩ else if (p.line, p.col) ∈ Γ.marks then some ⟨.newd true, fun h => se_newd⟩ else none
  | .Call (.Attribute (.Name y py) m apos) [a, b] [] cpos => if hm : m = "get" ∧ nostar a = true ∧ nostar b = true ∧ (apos.endLine == cpos.line) = true then
      match cName Γ y py, L.E Γ a, L.E Γ b with
      | some ⟨co, ho⟩, some ⟨ca, ha⟩, some ⟨cb, hb⟩ => some ⟨.dget co ca cb, fun h => by
        obtain ⟨h1, h2, h3, h4⟩ := hm
        subst h1
        exact se_dget h.hK h.hW h.un (ho h) (ha h) (hb h) h2 h3 h4⟩
      | _, _, _ => none
    else if hm : m = "insert" ∧ nostar a = true ∧ nostar b = true ∧ (apos.endLine == cpos.line) = true then
      match cName Γ y py, L.E Γ a, L.E Γ b with
      | some ⟨co, ho⟩, some ⟨ca, ha⟩, some ⟨cb, hb⟩ => some ⟨.meth .insert co (.cons ca (.cons cb .nil)), fun h => by
        obtain ⟨h1, h2, h3, h4⟩ := hm
        subst h1
        exact se_insert h.hK (ho h) (ha h) (hb h) h2 h3 h4⟩
      | _, _, _ => none
    else none
  | .Call (.Name x p) es [] pos => cCall L Γ x p pos es
  | .Call (.Attribute (.Name y py) m apos) [a] [] cpos => if hm : m = "append" ∧ nostar a = true ∧ (apos.endLine == cpos.line) = true then
      match cName Γ y py, L.E Γ a with
      | some ⟨co, ho⟩, some ⟨ca, ha⟩ => some ⟨.meth .append co (.cons ca .nil), fun h => by
        obtain ⟨h1, h2, h3⟩ := hm
        subst h1
        exact se_append h.hK (ho h) (ha h) h2 h3⟩
      | _, _ => none
    else if hm : m = "extend" ∧ nostar a = true ∧ (apos.endLine == cpos.line) = true then
      match cName Γ y py, L.E Γ a with
      | some ⟨co, ho⟩, some ⟨ca, ha⟩ => some ⟨.meth .extend co (.cons ca .nil), fun h => by
        obtain ⟨h1, h2, h3⟩ := hm
        subst h1
        exact se_extend h.hK (ho h) (ha h) h2 h3⟩
      | _, _ => none
    else if hm : m = "index" ∧ nostar a = true ∧ (apos.endLine == cpos.line) = true then
      match cName Γ y py, L.E Γ a with
      | some ⟨co, ho⟩, some ⟨ca, ha⟩ => some ⟨.index co (.cons ca .nil), fun h => by
        obtain ⟨h1, h2, h3⟩ := hm
        subst h1
        exact se_index h.hK h.un (ho h) (ha h) h2 h3⟩
      | _, _ => none
    else none
  | .Subscript a (.Slice none none (some (.UnaryOp .USub (.Constant (.int 1) k p1) p2)) p3) p => match L.E Γ a with
    | some ⟨ca, ha⟩ => some ⟨.rev ca, fun h => se_rev h.hK (ha h)⟩
    | none => none
  | .Subscript a (.Slice lo hi none p2) p => match L.E Γ a, cO L Γ lo, cO L Γ hi with
    | some ⟨ca, ha⟩, some ⟨cl, hl⟩, some ⟨ch, hh⟩ => some ⟨.sl ca cl ch, fun h => se_sl h.hK (ha h) (hl h) (hh h)⟩
    | _, _, _ => none
  | .Subscript a b p => match L.E Γ a, L.E Γ b with
    | some ⟨ca, ha⟩, some ⟨cb, hb⟩ => if hn : noslice b = true then some ⟨.ix ca cb, fun h => se_ix h.hK h.hW h.un (ha h) (hb h) hn⟩ else none
    | _, _ => none
  | .ListComp elt [⟨tg, iter, ifs, ia⟩] scope pos => if hz : ia = 0 then
      match cComp L Γ (decide ((pos.line, pos.col) ∈ Γ.marks)) elt tg iter ifs scope pos with
      | some ⟨c, hc⟩ => some ⟨c, fun h => by subst hz; exact hc h⟩
      | none => none
    else none
  | _ => none
def byVal : Expr → Bool
  | .Name _ _ => true
  | .Call _ _ _ _ => true
  | .Subscript _ _ _ => true
  | .Constant _ _ _ => true
  | _ => false
theorem byVal_of {e : Expr} {env : Env} (h : byVal e = true) : ∀ whole, isTrue e env whole = (do let v ← whole; standAt e.pos; holding [v] (truthy v)) := by
  intro whole
  cases e <;> first | rfl | cases h
def cT (L : Lv) (Γ : Ct) (e : Expr) : Option {c // OkT Γ e c} :=
  match e with
  | .UnaryOp .Not a p => match L.T Γ a with
    | some ⟨ca, ha⟩ => some ⟨.not ca, fun h => st_not (ha h)⟩
    | none => none
  | .BoolOp .And es p => match cAndT L Γ p es with
    | some ⟨c, hc⟩ => some ⟨c, fun h => (hc h).pt⟩
    | none => none
  | .BoolOp .Or es p => match cOrT L Γ p es with
    | some ⟨c, hc⟩ => some ⟨c, fun h => (hc h).pt⟩
    | none => none
  | .IfExp t a b p => match L.T Γ t, L.T Γ a, L.T Γ b with
    | some ⟨ct, ht⟩, some ⟨ca, ha⟩, some ⟨cb, hb⟩ => some ⟨.ife ct ca cb, fun h => st_ife (ht h) (ha h) (hb h)⟩
    | _, _, _ => none
  | .Compare a [op] [b] p => match L.E Γ a, L.E Γ b with
    | some ⟨ca, ha⟩, some ⟨cb, hb⟩ => if hs : noset b = true then some ⟨.cmp (cm op).1 ca cb, fun h => by
        have := st_cmp (pos := p) h.hK h.hW h.un (cm op).1 (ha h) (hb h) (bim_of hs)
        rwa [(cm op).2] at this⟩ else none
    | _, _ => none
  | .Compare a [op, op'] [b, c] p => match L.E Γ a, L.E Γ b, L.E Γ c with
    | some ⟨ca, ha⟩, some ⟨cb, hb⟩, some ⟨cc, hc⟩ => if hs : noset c = true then some ⟨.chain (cm op).1 (cm op').1 ca cb cc, fun h => by
        have := st_chain (pos := p) h.hK h.un (cm op).1 (cm op').1 (ha h) (hb h) (hc h) (show behindInMarks _ c = false from bim_of hs)
        rwa [(cm op).2, (cm op').2] at this⟩ else none
    | _, _, _ => none
  | e => if hv : byVal e = true then
      match L.E Γ e with
      | some ⟨c, hc⟩ => some ⟨c, fun h => st_of (hc h) (byVal_of hv)⟩
      | none => none
    else none
def lv : Nat → Lv
  | 0 => ⟨fun _ _ => none, fun _ _ => none, fun _ _ _ => none⟩
  | n + 1 => ⟨cE (lv n), cT (lv n), cI (lv n)⟩
end Mini

set_option Elab.async false
set_option linter.all false
set_option maxRecDepth 100000
set_option maxHeartbeats 2000000
/-! Mini, part L: statements read. -/
namespace Mini
open PySem PySem.Spec PyProof.Rows L2
/-- what a def's body has besides: its frame, the classes' order -/
structure Own (C : Cn) (F : Fs) (X : Cx) : Prop where
  own : PassesOwn (model X.prog X.w) X.A X.env X.xe
  st : X.stack = X.env :: X.outer
  fr : X.env.frame = some X.env.locals
  sub : ∀ c k Ca na Ck nk, C.cls c = some (Ca, na) → C.cls k = some (Ck, nk) → PySem.W.exmOne X.K (.ref Ca) (.ref Ck) = some (F.sub c k)
abbrev OkS (Γ : Ct) (s : Stmt) (c : S) : Prop := ∀ {C P k F W₀ X}, Fits Γ C P k F.fe W₀ X → Own C F X → PS X s (rdS C F W₀ c)
abbrev OkSs (Γ : Ct) (ss : List Stmt) (c : S) : Prop := ∀ {C P k F W₀ X}, Fits Γ C P k F.fe W₀ X → Own C F X → PSs X ss (rdS C F W₀ c)
structure Ls where
  S : ∀ Γ s, Option {c // OkS Γ s c}
def cSs (R : Ls) (Γ : Ct) : (ss : List Stmt) → Option {c // OkSs Γ ss c}
  | [] => some ⟨.skip, fun _ _ => ss_nil⟩
  | s :: ss => match R.S Γ s, cSs R Γ ss with
    | some ⟨a, ha⟩, some ⟨b, hb⟩ => some ⟨.seq a b, fun h p => ss_cons (ha h p) (hb h p)⟩
    | _, _ => none
/-! ### orders of stores -/
theorem blockKind_fn {env : Env} (hk : env.scope.kind = .function) : env.blockKind = .function := by
  unfold Env.blockKind
  rw [hk]
  rfl
def isStar : Expr → Bool
  | .Starred _ _ => true
  | _ => false
theorem swaps2 {x y : Str} {px py pt pt2 : Pos} {kt k2 : Nat} {e1 e2 : Expr} {env : Env} (hk : env.scope.kind = .function) (hx : env.scope.names.lookup x = some .local) (hy : env.scope.names.lookup y = some .local) (hl : py.line = px.line) (ne : x ≠ y)
    (hs : nostar e1 = true ∧ nostar e2 = true) (hf : (foldedForSure 8 e1 && foldedForSure 8 e2) = false) (hc : (constantsAlone 8 e1 && constantsAlone 8 e2) = false) :
    swappedStores [.Tuple [.Name x px, .Name y py] kt pt] (.Tuple [e1, e2] k2 pt2) env = pure (some [x, y]) := by
  have kx : env.kindOf x = some .local := hx
  have ky : env.kindOf y = some .local := hy
  have s1 : ∀ {e : Expr}, nostar e = true → (match e with | .Starred .. => true | _ => false) = false := by
    intro e h
    cases e <;> first | rfl | cases h
  have ne2 : (y == x) = false := by
    rw [beq_eq_false_iff_ne]
    exact fun z => ne z.symm
  simp only [swappedStores, blockKind_fn hk, List.any_cons, List.any_nil, s1 hs.1, s1 hs.2, List.filterMap_cons, List.filterMap_nil, kx, ky, List.head?_cons, Option.map_some, Option.getD_some, Expr.pos, hl, List.all_cons, List.all_nil, Bool.and_true, hf, hc]
  simp [List.eraseDups_cons, ne2, List.filter]
  intro h
  exfalso
  rcases h with h | h
  · have q := hs.1
    clear hs hf hc s1
    cases e1 <;> first | (cases q; done) | (cases h; done)
  · have q := hs.2
    clear hs hf hc s1
    cases e2 <;> first | (cases q; done) | (cases h; done)
theorem swaps3 {x y z : Str} {px py pz pt pt2 : Pos} {kt k2 : Nat} {e1 e2 e3 : Expr} {env : Env} (hk : env.scope.kind = .function) (hx : env.scope.names.lookup x = some .local) (hy : env.scope.names.lookup y = some .local) (hz : env.scope.names.lookup z = some .local) (hl : py.line = px.line) (hl2 : pz.line = px.line) (ne : x ≠ y) (ne2 : x ≠ z) (ne3 : y ≠ z)
    (hs : nostar e1 = true ∧ nostar e2 = true ∧ nostar e3 = true) (hf : (foldedForSure 8 e1 && (foldedForSure 8 e2 && foldedForSure 8 e3)) = false) (hc : (constantsAlone 8 e1 && (constantsAlone 8 e2 && constantsAlone 8 e3)) = false) :
    swappedStores [.Tuple [.Name x px, .Name y py, .Name z pz] kt pt] (.Tuple [e1, e2, e3] k2 pt2) env = pure (some [x, y, z]) := by
  have kx : env.kindOf x = some .local := hx
  have ky : env.kindOf y = some .local := hy
  have kz : env.kindOf z = some .local := hz
  have s1 : ∀ {e : Expr}, nostar e = true → (match e with | .Starred .. => true | _ => false) = false := by
    intro e h
    cases e <;> first | rfl | cases h
  have n1 : (y == x) = false := by
    rw [beq_eq_false_iff_ne]
    exact fun z => ne z.symm
  have n2 : (z == x) = false := by
    rw [beq_eq_false_iff_ne]
    exact fun z => ne2 z.symm
  have n3 : (z == y) = false := by
    rw [beq_eq_false_iff_ne]
    exact fun z => ne3 z.symm
  simp only [swappedStores, blockKind_fn hk, List.any_cons, List.any_nil, s1 hs.1, s1 hs.2.1, s1 hs.2.2, List.filterMap_cons, List.filterMap_nil, kx, ky, kz, List.head?_cons, Option.map_some, Option.getD_some, Expr.pos, hl, hl2, List.all_cons, List.all_nil, Bool.and_true, hf, hc]
  simp [List.eraseDups_cons, n1, n2, n3, List.filter]
  intro h
  exfalso
  rcases h with h | h | h
  · have q := hs.1
    clear hs hf hc s1
    cases e1 <;> first | (cases q; done) | (cases h; done)
  · have q := hs.2.1
    clear hs hf hc s1
    cases e2 <;> first | (cases q; done) | (cases h; done)
  · have q := hs.2.2
    clear hs hf hc s1
    cases e3 <;> first | (cases q; done) | (cases h; done)
def isTup : Expr → Bool
  | .Tuple _ _ _ => true
  | _ => false
theorem noswap {ts : List Expr} {k : Nat} {p : Pos} {e : Expr} {env : Env} (h : isTup e = false) : swappedStores [.Tuple ts k p] e env = pure none := by
  cases e <;> first | rfl | cases h
theorem noswap4 {ts vs : List Expr} {k k2 : Nat} {p p2 : Pos} {env : Env} (h : (ts.length == 2 || ts.length == 3) = false) : swappedStores [.Tuple ts k p] (.Tuple vs k2 p2) env = pure none := by
  simp only [swappedStores, h]
  rfl
def locNames (sc : Scope) (line : Nat) (ts : List Expr) : List Str := ts.filterMap fun e => match e with
  | .Name id pos => if sc.names.lookup id == some .local && pos.line == line then some id else none
  | _ => none
theorem noswapN {ts vs : List Expr} {k k2 : Nat} {p p2 : Pos} {env : Env} (h : ((locNames env.scope ((ts.head?.map (·.pos.line)).getD 0) ts).length != ts.length) = true) : swappedStores [.Tuple ts k p] (.Tuple vs k2 p2) env = pure none := by
  have e : ts.filterMap (fun | .Name id pos => if env.kindOf id == some .local && pos.line == (ts.head?.map (·.pos.line)).getD 0 then some id else none | _ => none) = locNames env.scope ((ts.head?.map (·.pos.line)).getD 0) ts := by
    unfold locNames
    congr 1
  simp only [swappedStores]
  split
  · rfl
  · split
    · rfl
    · split
      · rfl
      · rename_i h2
        exfalso
        refine h2 ((Bool.or_eq_true _ _).mpr (.inl ?_))
        have h3 := h
        rw [← e] at h3
        exact h3
/-! ### assignments -/
def cAsgName (L : Lv) (Γ : Ct) (x : Str) (px : Pos) (pos : Pos) (e : Expr) : Option {c // OkS Γ (.Assign [.Name x px] e pos) c} :=
  match hk : Γ.sc.names.lookup x with
  | some q =>
    if hq : q = .local ∨ q = .cell then
      if hf : Γ.fn x = true ∨ q = .local then
        match slot Γ.N x with
        | some ⟨i, hi⟩ =>
          match e with
          | .ListComp elt [⟨tg, iter, ifs, ia⟩] scope lpos =>
            if hz : ia = 0 then
              if hw : q = .local ∧ (px.line == lpos.line) = true ∧ (scope.names.any fun (n, k) => n == x && (k == .local || k == .cell)) = false ∧ noset iter = true then
                match cCp L Γ elt tg iter ifs scope with
                | some w => some ⟨.set (.nm i) (.comp (decide ((lpos.line, lpos.col) ∈ Γ.marks)) w.celt w.t w.cit w.cc (w.own.map (·.2))), fun {C P k F W₀ X} h _ => by
                  subst hz
                  have hx : X.env.scope.names.lookup x = some .local := by rw [h.sc, hk, hw.1]
                  exact sx_setLc h.hK h.calm h.nd (h.at_ hi) hx (sw_true (by rw [h.sc]; exact h.kind) hx hw.2.1 hw.2.2.1) (w.hi h) (by rw [h.N, h.sc]; exact w.ok) w.hsl (fun s H A cl fp => w.hg (h.blk w.ok.kind s H A cl fp))
                    (fun s H A cl fp => w.ht (h.blk w.ok.kind s H A cl fp)) (fun s H A cl fp => w.he (h.blk w.ok.kind s H A cl fp)) (fsi_of hw.2.2.2)⟩
                | none => none
              else none
            else none
          | e =>
            if hn : nocomp e = true then
              match L.E Γ e with
              | some ⟨c, hc⟩ => some ⟨.set (.nm i) c, fun h _ => sx_set h.nd (h.at_ hi) (h.lo hk hq) (h.own hk hf) (hc h) (sw_off hn)⟩
              | none => none
            else none
        | none => none
      else none
    else none
  | none => none
def cPar2 (L : Lv) (Γ : Ct) (x y : Str) (px py pt : Pos) (kt k2 : Nat) (pt2 pos : Pos) (e1 e2 : Expr) : Option {c // OkS Γ (.Assign [.Tuple [.Name x px, .Name y py] kt pt] (.Tuple [e1, e2] k2 pt2) pos) c} :=
  if hh : Γ.sc.names.lookup x = some .local ∧ Γ.sc.names.lookup y = some .local ∧ py.line = px.line ∧ x ≠ y ∧ (nostar e1 = true ∧ nostar e2 = true) ∧ (foldedForSure 8 e1 && foldedForSure 8 e2) = false ∧ (constantsAlone 8 e1 && constantsAlone 8 e2) = false then
    match slot Γ.N x, slot Γ.N y, cA L Γ [e1, e2] with
    | some ⟨i, hi⟩, some ⟨j, hj⟩, some ⟨c, hc⟩ =>
      if hij : i ≠ j then
        some ⟨.par [i, j] c, fun {C P k F W₀ X} h _ => by
          have hx : X.env.scope.names.lookup x = some .local := by rw [h.sc, hh.1]
          have hy : X.env.scope.names.lookup y = some .local := by rw [h.sc, hh.2.1]
          exact sx_par2 h.calm h.nd (h.at_ hi) (h.at_ hj) hij hx hy (hc.2 h) (swaps2 (by rw [h.sc]; exact h.kind) hx hy hh.2.2.1 hh.2.2.2.1 hh.2.2.2.2.1 hh.2.2.2.2.2.1 hh.2.2.2.2.2.2)⟩
      else none
    | _, _, _ => none
  else none
def cPar3 (L : Lv) (Γ : Ct) (x y z : Str) (px py pz pt : Pos) (kt k2 : Nat) (pt2 pos : Pos) (e1 e2 e3 : Expr) : Option {c // OkS Γ (.Assign [.Tuple [.Name x px, .Name y py, .Name z pz] kt pt] (.Tuple [e1, e2, e3] k2 pt2) pos) c} :=
  if hh : (Γ.sc.names.lookup x = some .local ∧ Γ.sc.names.lookup y = some .local ∧ Γ.sc.names.lookup z = some .local) ∧ (py.line = px.line ∧ pz.line = px.line) ∧ (x ≠ y ∧ x ≠ z ∧ y ≠ z) ∧ (nostar e1 = true ∧ nostar e2 = true ∧ nostar e3 = true) ∧ (foldedForSure 8 e1 && (foldedForSure 8 e2 && foldedForSure 8 e3)) = false ∧ (constantsAlone 8 e1 && (constantsAlone 8 e2 && constantsAlone 8 e3)) = false then
    match slot Γ.N x, slot Γ.N y, slot Γ.N z, cA L Γ [e1, e2, e3] with
    | some ⟨i, hi⟩, some ⟨j, hj⟩, some ⟨l, hl⟩, some ⟨c, hc⟩ =>
      if hij : i ≠ j ∧ i ≠ l ∧ j ≠ l then
        some ⟨.par [i, j, l] c, fun {C P k F W₀ X} h _ => by
          have hx : X.env.scope.names.lookup x = some .local := by rw [h.sc, hh.1.1]
          have hy : X.env.scope.names.lookup y = some .local := by rw [h.sc, hh.1.2.1]
          have hz : X.env.scope.names.lookup z = some .local := by rw [h.sc, hh.1.2.2]
          exact sx_par3 h.calm h.nd (h.at_ hi) (h.at_ hj) (h.at_ hl) hij.1 hij.2.1 hij.2.2 hx hy hz (hc.2 h)
            (swaps3 (by rw [h.sc]; exact h.kind) hx hy hz hh.2.1.1 hh.2.1.2 hh.2.2.1.1 hh.2.2.1.2.1 hh.2.2.1.2.2 hh.2.2.2.1 hh.2.2.2.2.1 hh.2.2.2.2.2)⟩
      else none
    | _, _, _, _ => none
  else none
def isDct : Expr → Bool
  | .Dict _ _ _ => true
  | _ => false
def cAsgTup (L : Lv) (Γ : Ct) (ts : List Expr) (k : Nat) (p pos : Pos) (e : Expr) : Option {c // OkS Γ (.Assign [.Tuple ts k p] e pos) c} :=
  match cNames Γ ts with
  | some ⟨is, his⟩ =>
    match e with
    | .Tuple vs k2 p2 =>
      if hl : (ts.length == 2 || ts.length == 3) = false then
        match L.E Γ (.Tuple vs k2 p2) with
        | some ⟨c, hc⟩ => some ⟨.set (.tp is) c, fun h _ => sx_tup h.hK h.calm h.nd (his h) (hc h) (noswap4 hl)⟩
        | none => none
      else
        if hl : ((locNames Γ.sc ((ts.head?.map (·.pos.line)).getD 0) ts).length != ts.length) = true then
          if vs.any isDct = true then
            if h100 : is.length ≤ 100 then
              match cA L Γ vs with
              | some ⟨c, hc⟩ => some ⟨.par is c, fun {C P k F W₀ X} h _ => sx_parN h.calm h.nd (his h) h100 (hc.2 h) (noswapN (by rw [h.sc]; exact hl))⟩
              | none => none
            else none
          else
          match L.E Γ (.Tuple vs k2 p2) with
          | some ⟨c, hc⟩ => some ⟨.set (.tp is) c, fun {C P k F W₀ X} h _ => sx_tup h.hK h.calm h.nd (his h) (hc h) (noswapN (by rw [h.sc]; exact hl))⟩
          | none => none
        else none
    | e =>
      if ht : isTup e = false then
        match L.E Γ e with
        | some ⟨c, hc⟩ => some ⟨.set (.tp is) c, fun h _ => sx_tup h.hK h.calm h.nd (his h) (hc h) (noswap ht)⟩
        | none => none
      else none
  | none => none
/-! ### except suites -/
abbrev OkHE (Γ : Ct) (e : Expr) (c : E) : Prop := ∀ {C P k F W₀ X}, Fits Γ C P k F W₀ X → ∀ (F' : Fe) (a : Addr) (oe : Obj) (cls : Value) (d : Option Addr) (pn : List (Addr × Obj)), Zc cls d oe → (∃ vs, oe.data = .fields vs) → PE (X.suite a ((a, oe) :: pn)) e (rdE (C.warm a cls d) F' Wno c)
abbrev OkHA (Γ : Ct) (es : List Expr) (c : E) : Prop := ∀ {C P k F W₀ X}, Fits Γ C P k F W₀ X → ∀ (F' : Fe) (a : Addr) (oe : Obj) (cls : Value) (d : Option Addr) (pn : List (Addr × Obj)), Zc cls d oe → (∃ vs, oe.data = .fields vs) → PA (X.suite a ((a, oe) :: pn)) es (rdL (C.warm a cls d) F' Wno c)
abbrev OkHSs (Γ : Ct) (ss : List Stmt) (c : S) : Prop := ∀ {C P k F W₀ X}, Fits Γ C P k F W₀ X → ∀ (F' : Fs) (a : Addr) (oe : Obj) (cls : Value) (d : Option Addr) (pn : List (Addr × Obj)), Zc cls d oe → (∃ vs, oe.data = .fields vs) → PSs (X.suite a ((a, oe) :: pn)) ss (rdS (C.warm a cls d) F' Wno c)
def idx (ns : List Str) (f : Str) : Option {k : Nat // ns[k]? = some f} :=
  match ns.findIdx? (· == f) with
  | some k => if h : ns[k]? = some f then some ⟨k, h⟩ else none
  | none => none
/-- er: the clause's name with its class -/
def hAtom (Γ : Ct) (er : Option (Str × Nat)) (e : Expr) : Option {c // OkHE Γ e c} :=
  match e with
  | .Constant (.int i) j p => some ⟨.cst (.int i), fun _ _ _ _ _ _ _ _ _ => se_int⟩
  | .Constant (.bool b) j p => some ⟨.cst (.bool b), fun _ _ _ _ _ _ _ _ _ => se_bl⟩
  | .Constant .none j p => some ⟨.cst .none, fun _ _ _ _ _ _ _ _ _ => se_non⟩
  | .Constant (.str x) j p => some ⟨.cst (.str x), fun _ _ _ _ _ _ _ _ _ => se_str⟩
  | .Name x p =>
    if hd : (x == ("__debug__" : Str)) = false ∧ (x == ("__classdict__" : Str)) = false then
      match hk : Γ.sc.names.lookup x with
      | some q =>
        if hq : q = .local ∨ q = .cell ∨ q = .free then
          match slot Γ.N x with
          | some ⟨i, hi⟩ => some ⟨.var i, fun h _ a oe _ _ pn _ _ => se_var (X := Cx.suite _ a ((a, oe) :: pn)) (h.at_ hi) (h.vis hk hq) hd.1 hd.2⟩
          | none => none
        else none
      | none => none
    else none
  | .Attribute (.Name n p) f pos =>
    match er with
    | some (n', c) =>
      if hn : n = n' ∧ (n == ("__debug__" : Str)) = false ∧ (n == ("__classdict__" : Str)) = false ∧ Γ.sc.names.lookup n = some .local then
        match hl : Γ.er.flds.find? (fun q => q.1 == c) with
        | some (c', names) =>
          match slot Γ.N n, idx names f with
          | some ⟨i, hi⟩, some ⟨k, hk⟩ => some ⟨.fld i c' k, fun h F' a oe cls d pn hz hd => by
            obtain ⟨Ca, h1, h2, h3⟩ := h.fls (c', names) (List.mem_of_find?_eq_some hl)
            exact se_fld h2 (h3 f (List.mem_of_getElem? hk)) h1 hk hz hd (h.at_ hi) (h.vis hn.2.2.2 (.inl rfl)) hn.2.1 hn.2.2.1⟩
          | _, _ => none
        | none => none
      else none
    | none => none
  | _ => none
def hArgs (Γ : Ct) (er : Option (Str × Nat)) : (es : List Expr) → Option {c // OkHA Γ es c}
  | [] => some ⟨.nil, fun _ _ _ _ _ _ _ _ _ => sl_nil⟩
  | e :: es =>
    if hn : nostar e = true then
      match hAtom Γ er e, hArgs Γ er es with
      | some ⟨a, ha⟩, some ⟨b, hb⟩ => some ⟨.cons a b, fun h F' x oe cls d pn hz hd => sl_cons (ha h F' x oe cls d pn hz hd) (hb h F' x oe cls d pn hz hd) hn⟩
      | _, _ => none
    else none
def hExpr (Γ : Ct) (er : Option (Str × Nat)) (e : Expr) : Option {c // OkHE Γ e c} :=
  match e with
  | .Tuple es k p => match hArgs Γ er es with
    | some ⟨c, hc⟩ => some ⟨.tup c, fun h F' x oe cls d pn hz hd => se_tup (hc h F' x oe cls d pn hz hd)⟩
    | none => none
  | e => hAtom Γ er e
def hStmts (Γ : Ct) (er : Option (Str × Nat)) (ss : List Stmt) : Option {c // OkHSs Γ ss c} :=
  match ss with
  | [.Return (some e) pos] => match hExpr Γ er e with
    | some ⟨c, hc⟩ => some ⟨.seq (.ret c) .skip, fun h F' x oe cls d pn hz hd => ss_cons (sx_ret (hc h F'.fe x oe cls d pn hz hd)) ss_nil⟩
    | none => none
  | [.Continue pos] => some ⟨.seq .cnt .skip, fun h F' x oe cls d pn hz hd => ss_cons sx_continue ss_nil⟩
  | [.Pass pos] => some ⟨.seq .skip .skip, fun h F' x oe cls d pn hz hd => ss_cons sx_pass ss_nil⟩
  | _ => none
abbrev OkHd (Γ : Ct) (hs : List ExceptHandler) (c : S) : Prop := ∀ {C P k F W₀ X} (F' : Fs), Fits Γ C P k F W₀ X → HdOk X C F' hs c
def cHds (Γ : Ct) : (hs : List ExceptHandler) → Option {c // OkHd Γ hs c}
  | [] => some ⟨.skip, fun _ _ => .nil⟩
  | .ExceptHandler (some (.Name x np)) n (b₀ :: suite) pos' :: hs =>
    if hd : (x == ("__debug__" : Str)) = false ∧ Γ.sc.names.lookup x = some .globalImplicit then
      match hk : Γ.er.ers.lookup x with
      | some k =>
        match n with
        | none =>
          match hStmts Γ none (b₀ :: suite), cHds Γ hs with
          | some ⟨c, hc⟩, some ⟨r, hr⟩ => some ⟨.hnd k none c r, fun F' h => by
            obtain ⟨Ca, names, h1, h2⟩ := h.ers _ (lk_mem hk)
            exact .cons ⟨h.gl hd.2, hd.1, .inl h2⟩ h1 (.inl ⟨rfl, rfl⟩) (fun a oe cls d pn hz hv => hc h F' a oe cls d pn hz hv) (hr F' h)⟩
          | _, _ => none
        | some nm =>
          if hn : Γ.sc.names.lookup nm = some .local then
            match slot Γ.N nm, hStmts Γ (some (nm, k)) (b₀ :: suite), cHds Γ hs with
            | some ⟨j, hj⟩, some ⟨c, hc⟩, some ⟨r, hr⟩ => some ⟨.hnd k (some j) c r, fun {C P k F W₀ X} F' h => by
              obtain ⟨Ca, names, h1, h2⟩ := h.ers _ (lk_mem hk)
              have hl : X.env.kindOf nm = some .local := by
                show X.env.scope.names.lookup nm = _
                rw [h.sc]
                exact hn
              exact .cons ⟨h.gl hd.2, hd.1, .inl h2⟩ h1 (.inr ⟨nm, j, rfl, rfl, h.at_ hj, hl⟩) (fun a oe cls d pn hz hv => hc h F' a oe cls d pn hz hv) (hr F' h)⟩
            | _, _, _ => none
          else none
      | none => none
    else none
  | _ => none
def cS (L : Lv) (R : Ls) (Γ : Ct) (s : Stmt) : Option {c // OkS Γ s c} :=
  match s with
  | .Assign [.Name x px] e pos => cAsgName L Γ x px pos e
  | .Assign [.Tuple [.Name x px, .Name y py] kt pt] (.Tuple [e1, e2] k2 pt2) pos => match cPar2 L Γ x y px py pt kt k2 pt2 pos e1 e2 with
    | some c => some c
    | none => cAsgTup L Γ [.Name x px, .Name y py] kt pt pos (.Tuple [e1, e2] k2 pt2)
  | .Assign [.Tuple [.Name x px, .Name y py, .Name z pz] kt pt] (.Tuple [e1, e2, e3] k2 pt2) pos => match cPar3 L Γ x y z px py pz pt kt k2 pt2 pos e1 e2 e3 with
    | some c => some c
    | none => cAsgTup L Γ [.Name x px, .Name y py, .Name z pz] kt pt pos (.Tuple [e1, e2, e3] k2 pt2)
  | .Assign [.Tuple ts k p] e pos => cAsgTup L Γ ts k p pos e
  | .Assign [.Subscript o i tpos] e pos => match L.E Γ o, L.E Γ i, L.E Γ e with
    | some ⟨co, ho⟩, some ⟨ci, hi⟩, some ⟨ce, he⟩ => if hn : nocomp e = true ∧ noslice i = true then some ⟨.seti co ci ce, fun h _ => sx_seti h.hK h.hW h.un (ho h) (hi h) (he h) hn.1 hn.2⟩ else none
    | _, _, _ => none
  | .AugAssign (.Name x px) op e pos =>
    match hk : Γ.sc.names.lookup x with
    | some q =>
      if hq : q = .local ∨ q = .cell then
        if hf : Γ.fn x = true ∨ q = .local then
          match slot Γ.N x, o2 op, L.E Γ e with
          | some ⟨i, hi⟩, some ⟨o, ho⟩, some ⟨c, hc⟩ => some ⟨.aug i o c, fun h _ => by rw [← ho]; exact sx_aug h.nd (h.at_ hi) (h.lo hk hq) (h.own hk hf) o (hc h)⟩
          | _, _, _ => none
        else none
      else none
    | none => none
  | .AugAssign (.Subscript o i tpos) op e pos => match L.E Γ o, L.E Γ i, o2 op, L.E Γ e with
    | some ⟨co, ho⟩, some ⟨ci, hi⟩, some ⟨q, hq⟩, some ⟨ce, he⟩ => if hn : noslice i = true then some ⟨.augi co ci q ce, fun h _ => by rw [← hq]; exact sx_augi h.hK (ho h) (hi h) (he h) hn⟩ else none
    | _, _, _, _ => none
  | .Expr e pos => if hn : nocomp e = true then
      match L.E Γ e with
      | some ⟨c, hc⟩ => some ⟨.ex c, fun h _ => sx_expr (hc h) hn⟩
      | none => none
    else none
  | .Return (some e) pos => match L.E Γ e with
    | some ⟨c, hc⟩ => some ⟨.ret c, fun h _ => sx_ret (hc h)⟩
    | none => none
  | .Return none pos => some ⟨.retn, fun _ _ => sx_retn⟩
  | .Pass pos => some ⟨.skip, fun _ _ => sx_pass⟩
  | .Break pos => some ⟨.brk, fun _ _ => sx_break⟩
  | .Continue pos => some ⟨.cnt, fun _ _ => sx_continue⟩
  | .If e a b pos => match L.T Γ e, cSs R Γ a, cSs R Γ b with
    | some ⟨c, hc⟩, some ⟨a, ha⟩, some ⟨b, hb⟩ => some ⟨.ifs c a b, fun h p => sx_if (hc h) (ha h p) (hb h p)⟩
    | _, _, _ => none
  | .Raise (some (.Call (.Name x p) [] [] pos)) none pos2 =>
    if hd : (x == ("__debug__" : Str)) = false ∧ Γ.sc.names.lookup x = some .globalImplicit then
      match hk : Γ.er.mk0.lookup x with
      | some c => some ⟨.raise c 0 .nil, fun h _ => by
        obtain ⟨Ca, bmB, B, newId, initId, h1, h2, h3, h4, h5, h6, h7⟩ := h.mk0 _ (lk_mem hk)
        exact sx_raise0 h.calm h.tk h3 h4 h2 h5 (raises_own h6 h7) (h.gl hd.2) hd.1 h1⟩
      | none => none
    else none
  | .Raise (some (.Call (.Name x p) [e1, e2] [] pos)) none pos2 =>
    if hd : (x == ("__debug__" : Str)) = false ∧ Γ.sc.names.lookup x = some .globalImplicit ∧ nostar e1 = true ∧ nostar e2 = true then
      match hk : Γ.er.mk2.lookup x, cA L Γ [e1, e2] with
      | some c, some ⟨ca, ha⟩ => some ⟨.raise c 2 ca, fun h _ => by
        obtain ⟨Ca, cc, cda, fI, stm, qual, n1, n2, h1, h2⟩ := h.mk2 _ (lk_mem hk)
        exact sx_raise2 h.calm h.tk h2 h.room (ha.2 h) (h.gl hd.2.1) hd.1 hd.2.2.1 hd.2.2.2 h1⟩
      | _, _ => none
    else none
  | .Try body (h₀ :: hds) [] [] pos => match cSs R Γ body, cHds Γ (h₀ :: hds) with
    | some ⟨b, hb⟩, some ⟨c, hc⟩ => some ⟨.try b c, fun {C P k F W₀ X} h p => sx_try p.st p.fr h.nd h.tk p.sub (fun W pn xe tk own =>
        hb (X := X.tr pn xe) ⟨h.hK, h.hW, h.N, h.sc, h.nd, h.calm, h.gd, h.room, h.call, h.G, tk, h.fn, h.defs, h.cons, h.blts, h.kind, h.ers, h.mk0, h.mk2, h.fls⟩ ⟨own, p.st, p.fr, p.sub⟩) (hc F h)⟩
    | _, _ => none
  | .While e b [] pos => match L.T Γ e, cSs R Γ b with
    | some ⟨c, hc⟩, some ⟨b, hb⟩ => some ⟨.whl c b, fun h p => sx_while p.own (hc h) (hb h p)⟩
    | _, _ => none
  | .For tg iter b [] pos => match cG Γ tg, L.I Γ tg iter, cSs R Γ b with
    | some ⟨t, ht⟩, some ⟨c, hc⟩, some ⟨b, hb⟩ => if hn : noset iter = true then some ⟨.for t c b, fun h p => sx_for p.own h.calm (hc h) (ht h) (hb h p) (fsi_of hn)⟩ else none
    | _, _, _ => none
  | _ => none
def ls : Nat → Ls
  | 0 => ⟨fun _ _ => none⟩
  | n + 1 => ⟨cS (lv 40) (ls n)⟩
/-- a def's body read -/
def rdBody (Γ : Ct) (ss : List Stmt) : Option {c // OkSs Γ ss c} := cSs (ls 20) Γ ss
end Mini

set_option Elab.async false
set_option linter.all false
set_option maxRecDepth 100000
set_option maxHeartbeats 2000000
/-! Mini, part M: all defs of the module keep their promises; the law's end. -/
namespace Mini
open PySem PySem.Spec PyProof.Rows L2
section
variable {C : Cn} {W₀ : WX} {H H' : Hp} {ms ms' : List Addr} {st s' : Sto} {σ : L2.St}
theorem ExRep.less {c : Nat} {xs : List PD} {cls : Value} {d : Option Addr} (hs : ∀ a, a ∈ ms → a ∈ ms') (h : ExRep C H ms' c xs cls d) : ExRep C H ms c xs cls d := by
  obtain ⟨Ca, names, h1, h2, h3, h4⟩ := h
  refine ⟨Ca, names, h1, h2, h3, fun q => ?_⟩
  obtain ⟨dd, fs, a, b, c, r⟩ := h4 q
  refine ⟨dd, fs, a, fun z => b (hs dd z), c, fun i name y e1 e2 => ?_⟩
  obtain ⟨v, z1, z2⟩ := r i name y e1 e2
  exact ⟨v, z1, Rep.less hs y v z2⟩
theorem pair_get {α β : Type} {R : α → β → Prop} : ∀ {xs : List α} {ys : List β} {i : Nat} {x : α}, Paired R xs ys → xs[i]? = some x → ∃ y, ys[i]? = some y ∧ R x y
  | _, _, 0, _, .cons r _, e => by cases e; exact ⟨_, rfl, r⟩
  | _, _, i + 1, _, .cons _ t, e => pair_get (i := i) t (by simpa using e)
theorem back_post {w : W} {Q : V → Hp → Prop} (s0 : StRep C H ms st) (h : Post C W₀ σ H ms (back st.length w s') fun w _ H' ms' => ∀ v, WRep C H' ms' w v → Q v H') {v : V} (x : Ext C.k H ms H' ms') (sr : StRep C H' ms' s') (r : WRep C H' ms' w v) : Q v H' := by
  have less := x.sublist
  have cut := sr.cut x s0
  cases w with
  | d y => exact h H' ms x.cut cut v (Rep.less less _ _ r)
  | fn i => exact h H' ms x.cut cut v r
  | err c xs => exact h.elim
  | ref m =>
    have h : Post C W₀ σ H ms (if m < st.length then Rs.ok (W.ref m) (s'.take st.length) else .ok (W.ref m) s') fun w _ H' ms' => ∀ v, WRep C H' ms' w v → Q v H' := h
    split at h
    · rename_i hm
      obtain ⟨a, ha, rfl⟩ := r
      refine h H' ms x.cut cut _ ⟨a, ?_, rfl⟩
      obtain ⟨new, rfl, _⟩ := x.more
      rwa [List.getElem?_append_left (by rw [s0.len]; omega)] at ha
    · exact h H' ms' x sr v r
end
/-- a def of the module, by its text and its reading -/
structure DefOk (D : List (Str × Nat)) (G : List (Str × Nat)) (B : List Str) (R : Ers) (K : PySem.W.Frag) (P : Pg) (i : Nat) (f : Addr) : Prop where
  ex : ∃ (stm : Stmt) (name : Str) (fd : FuncData) (N ps : List Str) (marks : List (Nat × Nat)) (c : S), Fun K name name stm f fd ∧ Binds K fd ps [] ∧ FnScope N ps (defScope stm) ∧ P.fns[i]? = some ⟨ps.length, N.length, c⟩ ∧
    (rdBody ⟨N, defScope stm, fun _ => true, D, G, B, marks, R⟩ (defBody stm)).map Subtype.val = some c
section
variable {C : Cn} {P : Pg} {prog : Program} {w : World} {K : PySem.W.Frag} {mg : Str → Option Value} {base : Heap} {D : List (Str × Nat)} {G : List (Str × Nat)} {B : List Str} {R : Ers}
theorem spF_len {i k : Nat} {vs : List V} {H : Hp} {Q : VK} {E : XK} {fn : Fn} (hf : P.fns[i]? = some fn) (h : spF C P (k + 1) i vs H Q E) : vs.length = fn.np := by
  obtain ⟨kk, ms, st, ws, sr, r, h⟩ := h
  unfold runF at h
  rw [hf] at h
  simp only at h
  split at h
  · rename_i e
    rw [← r.length, e]
  · exact h.elim
theorem fng_succ {k i : Nat} {f : Addr} {stm : Stmt} {name : Str} {fd : FuncData} {N ps : List Str} {marks : List (Nat × Nat)} {c : S} (hK : K = C.K) (hW : w = C.w) (hd : ∀ p ∈ D, ∃ f, mg p.1 = some (.ref f) ∧ C.fa p.2 = some f) (hc : ∀ p ∈ G, ∃ u v d, mg p.1 = some u ∧ RelV v u ∧ P.gls[p.2]? = some d ∧ ∀ H ms, Rep C.K H ms d v) (hb : ∀ x ∈ B, mg x = none)
    (her : ∀ p ∈ R.ers, ∃ Ca names, C.cls p.2 = some (Ca, names) ∧ mg p.1 = some (.ref Ca)) (hm0 : ∀ p ∈ R.mk0, Made0 K mg C p) (hm2 : ∀ p ∈ R.mk2, Made2 K prog mg C p)
    (hfl : ∀ p ∈ R.flds, ∃ Ca, C.cls p.1 = some (Ca, p.2) ∧ XfC K Ca ∧ ∀ n ∈ p.2, PySem.W.findIn K (.ref Ca) n = some none) (hsb : ∀ c k Ca na Ck nk, C.cls c = some (Ca, na) → C.cls k = some (Ck, nk) → PySem.W.exmOne K (.ref Ca) (.ref Ck) = some (P.sub c k))
    (IH : Fns C P k prog w K mg base) (F : Fun K name name stm f fd) (sc : FnScope N ps (defScope stm)) (hf : P.fns[i]? = some ⟨ps.length, N.length, c⟩) (hr : (rdBody ⟨N, defScope stm, fun _ => true, D, G, B, marks, R⟩ (defBody stm)).map Subtype.val = some c) :
    FnG prog w K mg base (k + 1) f fd ps (spF C P (k + 1) i) := by
  obtain ⟨oc, od, kV, doc, pm, an, cdv, ct, osl, rfl, lk, hcd⟩ := F.ex
  obtain ⟨⟨c', ok⟩, e1, e2⟩ := Option.map_eq_some_iff.mp hr
  have e2 : c' = c := e2
  subst e2
  refine fng_of lk hcd sc (fun vs H Q E h => spF_len hf h) fun A outer s H vs Q E hgd hroom h => ?_
  have hl := spF_len hf h
  obtain ⟨kk, ms, st, ws, sr, r, h⟩ := h
  have fits : Fits ⟨N, defScope stm, fun _ => true, D, G, B, marks, R⟩ (C.at kk) P k ⟨runF P k, fun i => P.gls[i]?, []⟩ (fun cls d _ H => E cls d H) (cxOf (L2.CX prog w) prog w K mg base N name (defScope stm) f cdv A outer s H E) :=
    ⟨hK, hW, rfl, rfl, sc.nd, rfl, hgd, hroom, rfl, IH, takes_of rfl rfl rfl rfl, rfl, hd, hc, hb, sc.kind, her, hm0, hm2, hfl⟩
  refine ⟨_, ok (F := ⟨⟨runF P k, fun i => P.gls[i]?, []⟩, P.sub⟩) fits ⟨passes_of rfl, rfl, rfl, hsb⟩, ?_⟩
  have hws : ws.length = ps.length := by rw [r.length]; exact hl
  unfold runF at h
  rw [hf] at h
  simp only [hws, if_true] at h
  have hstart : EnRep (C.at kk) H ms (L2.start N vs) (startE ⟨ps.length, N.length, c'⟩ ws) := by
    have hvs : vs.length = ps.length := hl
    refine ⟨by simp [L2.start, startE, hws, hvs], fun j w' e => ?_⟩
    unfold startE at e
    unfold L2.start
    by_cases hj : j < ws.length
    · rw [List.getElem?_append_left (by simpa using hj), List.getElem?_map] at e
      obtain ⟨w2, e3, e4⟩ := Option.map_eq_some_iff.mp e
      cases e4
      obtain ⟨v, ev, rv⟩ := pair_get r e3
      exact ⟨v, by rw [List.getElem?_append_left (by rw [List.length_map, hvs, ← hws]; exact hj), List.getElem?_map, ev]; rfl, rv⟩
    · rw [List.getElem?_append_right (by simpa using Nat.le_of_not_lt hj), List.getElem?_replicate] at e
      split at e <;> cases e
  refine ⟨_, st, ms, hstart, sr, ?_⟩
  cases q : evS ⟨⟨runF P k, fun i => P.gls[i]?, []⟩, P.sub⟩ c' (startE ⟨ps.length, N.length, c'⟩ ws) st with
  | nx v s1 =>
    simp only [q] at h
    exact fun σ' H' ms' x en' sr' => back_post (w := .d .none) sr h x sr' rfl
  | ret w s1 =>
    simp only [q] at h
    exact fun v H' ms' x sr' rv => back_post sr h x sr' rv
  | exc cc xs v s1 =>
    simp only [q] at h
    exact fun cls d σ' H' ms' x en' sr' ex => h cls d H' ms x.cut (sr'.cut x sr) (ExRep.less x.sublist ex)
  | brk v s1 => simp only [q] at h; exact h.elim
  | cnt v s1 => simp only [q] at h; exact h.elim
  | stuck => simp only [q] at h; exact h.elim
theorem fns_all (hK : K = C.K) (hW : w = C.w) (hd : ∀ p ∈ D, ∃ f, mg p.1 = some (.ref f) ∧ C.fa p.2 = some f) (hc : ∀ p ∈ G, ∃ u v d, mg p.1 = some u ∧ RelV v u ∧ P.gls[p.2]? = some d ∧ ∀ H ms, Rep C.K H ms d v) (hb : ∀ x ∈ B, mg x = none)
    (her : ∀ p ∈ R.ers, ∃ Ca names, C.cls p.2 = some (Ca, names) ∧ mg p.1 = some (.ref Ca)) (hm0 : ∀ p ∈ R.mk0, Made0 K mg C p) (hm2 : ∀ p ∈ R.mk2, Made2 K prog mg C p)
    (hfl : ∀ p ∈ R.flds, ∃ Ca, C.cls p.1 = some (Ca, p.2) ∧ XfC K Ca ∧ ∀ n ∈ p.2, PySem.W.findIn K (.ref Ca) n = some none) (hsb : ∀ c k Ca na Ck nk, C.cls c = some (Ca, na) → C.cls k = some (Ck, nk) → PySem.W.exmOne K (.ref Ca) (.ref Ck) = some (P.sub c k))
    (tab : ∀ i f, C.fa i = some f → DefOk D G B R K P i f) : ∀ k, Fns C P k prog w K mg base
  | 0 => fun i f hi => by
    obtain ⟨stm, name, fd, N, ps, marks, c, F, bd, sc, hf, hr⟩ := (tab i f hi).ex
    have no : ∀ vs H Q E, spF C P 0 i vs H Q E → False := fun vs H Q E ⟨kk, ms, st, ws, sr, r, h⟩ => h
    exact ⟨fd, ps, F.kp, bd, ⟨fun vs H Q E h => (no vs H Q E h).elim, fun A outer s H args us vs Q E _ _ _ _ _ h => (no vs H Q E h).elim⟩⟩
  | k + 1 => fun i f hi => by
    obtain ⟨stm, name, fd, N, ps, marks, c, F, bd, sc, hf, hr⟩ := (tab i f hi).ex
    exact ⟨fd, ps, F.kp, bd, fng_succ hK hW hd hc hb her hm0 hm2 hfl hsb (fns_all hK hW hd hc hb her hm0 hm2 hfl hsb tab k) F sc hf hr⟩
end
/-! ### the law -/
theorem law_go {P : Program} {w : World} {K : PySem.W.Frag} {mg mb : Str → Option Value} {k : Nat} {fa a : Addr} {fd : FuncData} {x : Str} {sp : Sp} {s₁ : Shared} {vs : List Value} {ns : List Int}
    (KX : K.In s₁.heap) (hns : s₁.heap.Ns mainGlobals mg) (hb : s₁.heap.Ns builtinsNs mb) (hbb : ∀ x : Str, x ≠ "__name__" → mb x = bootBuiltins x) (hlim : s₁.heap.NoLimit) (hg : s₁.gens = #[])
    (ha : s₁.heap.get? a = some { cls := .type "list", data := .seq vs.toArray }) (hi : IntsAre vs ns) (hl : ns.length ≤ sizeLine) (hr : Room k callerA)
    (F : ∀ base : Heap, K.In base → base.Ns mainGlobals mg → FnG P w K mg base k fa fd [x] sp) (hbind : ∀ (s : Shared) (u : Value), BindsTo s fd ⟨[u], []⟩ [(x, u)])
    (hsp : ∀ H : Hp, SqL K H a (ns.map V.int) → sp [.ref a] H (fun v _ => v = .bl true) fun _ _ _ => False) :
    codeAny (model P w) callerA (.call (.ref fa) ⟨[.ref a], []⟩) (fun r s' => r = .ok (.ret (.bool true)) ∧ OldK s₁.heap s'.heap ∧ s'.os = s₁.os ∧ AllBare s'.gens) s₁ := by
  have rv := vals_ints hi
  have key : ∃ H : Hp, (∀ b u, H b = some u → b = a ∧ K.lookup b = none ∧ u = .frz { cls := .type "list", data := .seq vs.toArray } (.lst (ns.map V.int))) ∧ SqL K H a (ns.map V.int) ∧ HOk P w H s₁.heap := by
    cases hk : K.lookup a with
    | some o =>
      have e := KX a o hk
      rw [ha] at e
      cases e
      exact ⟨fun _ => none, nofun, .inr ⟨_, vs.toArray, _, hk, rfl, rfl, rfl, by rw [List.size_toArray, hi.length]; exact hl, by simpa using rv⟩, nofun⟩
    | none =>
      refine ⟨fun b => if b = a then some (.frz { cls := .type "list", data := .seq vs.toArray } (.lst (ns.map V.int))) else none, fun b u e => ?_, .inl (.inr ⟨_, if_pos rfl⟩), fun b u e => ?_⟩
      · simp only at e
        split at e
        · rename_i hba
          cases e
          exact ⟨hba, by rw [hba]; exact hk, rfl⟩
        · cases e
      · simp only at e
        split at e
        · rename_i hba
          cases e
          subst hba
          exact ⟨ha, by rw [List.length_map]; exact hl, vs, _, rv, ha⟩
        · cases e
  obtain ⟨H, one, sq, hok⟩ := key
  -- what the script is not stands in the ground
  have isA : ∀ {b : Addr} {o : Obj}, s₁.heap.get? b = some o → (b = a → False) → H b = none := fun {b o} _ hb => by
    cases q : H b with
    | none => rfl
    | some u => exact (hb (one b u q).1).elim
  have ground : ∀ {b : Addr} {m : Str → Option Value}, s₁.heap.Ns b m → (hidT s₁.heap H).Ns b m := fun {b m} ⟨o, es, ep, e, d, r⟩ => by
    refine ⟨o, es, ep, hidT_get e (isA e fun hb => ?_), d, r⟩
    rw [hb, ha] at e
    cases e
    exact absurd (show Data.seq vs.toArray _ = Data.dict es ep from d) nofun
  have kin : K.In (hidT s₁.heap H) := fun b o e => hidT_get (KX b o e) (by
    cases q : H b with
    | none => rfl
    | some u =>
      have := (one b u q).2.1
      rw [e] at this
      cases this)
  have e0 : Env0 P w K mg (hidT s₁.heap H) callerA [] s₁ H := by
    obtain ⟨mc, l1, l2⟩ := hlim
    exact ⟨rfl, ⟨kin, ground hns, ⟨mb, ground hb, hbb⟩, ⟨mc, ground l1, l2⟩⟩, fun b o e => of_hidT e, Nat.le_of_eq (hidT_size _ _), trivial, nofun, hok, .of_eq hg⟩
  have run := (F _ kin (ground hns)).run callerA [] s₁ H ⟨[.ref a], []⟩ [.ref a] [.ref a] _ _ rfl hr e0 (hbind s₁ (.ref a)) (.cons rfl .nil) (hsp H sq)
  refine codeAny_mono run fun r s' h => ?_
  match r, h with
  | .error e, h =>
    obtain ⟨_, _, _, _, _, _, _, _, _, _, _, _, z⟩ := h
    exact z.elim
  | .ok .next, h => exact h.elim
  | .ok .brk, h => exact h.elim
  | .ok .cont, h => exact h.elim
  | .ok (.ret u), h =>
    obtain ⟨v, H', os, bare, un, hok', r', q⟩ := h
    cases show v = .bl true from q
    cases show u = Value.bool true from r'
    refine ⟨rfl, OldK.of_keep fun b o e => ?_, os, bare⟩
    cases q : H b with
    | none => exact un.keep b o e q nofun nofun
    | some u =>
      obtain ⟨_, _, rfl⟩ := one b u q
      have h1 := (hok b _ q).1
      have h2 := (hok' b _ (un.frzs b _ _ q)).1
      rw [e] at h1
      cases h1
      exact h2
theorem walk_all {l : PySem.W.OpenLaw} {n k : Nat} {q : Program} {loose : List Str} {XP : (Str → Option Value) → Heap → Prop} {YP : World → Heap → Prop} {d : DefRec} {K : Params → PySem.W.Frag} {x : Str}
    (hn : l.most = some n) (hn2 : n ≤ sizeLine) (hdf : d.params.defaults = []) (hr : Room k callerA)
    (hY : ∀ (w : World) (h : Heap), YP w h → (K w.params).In h)
    (F : ∀ (w : World) (mg : Str → Option Value) (fa : Addr) (h : Heap), (K w.params).In h → h.Ns mainGlobals mg → mg d.name = some (.ref fa) →
      ∃ (fd : FuncData) (sp : Sp), (∀ (s : Shared) (u : Value), BindsTo s fd ⟨[u], []⟩ [(x, u)]) ∧ (∀ base : Heap, (K w.params).In base → base.Ns mainGlobals mg → FnG l.prog w (K w.params) mg base k fa fd [x] sp) ∧
        ∀ (H : Hp) (a : Addr) (ns : List Int), ns.length ≤ n → SqL (K w.params) H a (ns.map V.int) → sp [.ref a] H (fun v _ => v = .bl true) fun _ _ _ => False) :
    PySem.W.WalkO q loose XP YP l.row.toRowW d [] (fun f vs => PySem.call f vs) :=
  Att.attach_call hn hdf fun w s₀ s₁ mg mb fa o pm cd doc a vs ns G Y ho hd hcd hmg hobj hints hlen hg => by
    have KX := hY w _ Y
    obtain ⟨fd, sp, h1, h2, h3⟩ := F w mg fa _ KX G.T.g hmg
    exact law_go KX G.T.g G.T.b G.T.builtins G.T.nolimit hg hobj hints (Nat.le_trans hlen hn2) hr h2 h1 fun H sq => h3 H a ns hlen sq
/-- the law's promise, from the evaluator's answer -/
theorem sp_law {C : Cn} {P : Pg} {k i : Nat} {H : Hp} {a : Addr} {ns : List Int} (hS : SqL C.K H a (ns.map V.int)) (h : ∃ s, runF P k i [.d (.list (ns.map .int))] [] = .ok (.d (.bool true)) s) : spF C P k i [.ref a] H (fun v _ => v = .bl true) fun _ _ _ => False := by
  obtain ⟨s, h⟩ := h
  have rep : ∀ ns : List Int, RepL C.K H [] (ns.map PyData.int) (ns.map V.int) := fun ns => by
    induction ns with
    | nil => rfl
    | cons n ns ih => exact ⟨_, _, rfl, rfl, ih⟩
  refine ⟨0, [], [], [.d (.list (ns.map .int))], ⟨rfl, .nil, nofun, nofun⟩, .cons ⟨a, _, rfl, ?_, rep ns⟩ .nil, ?_⟩
  · exact hS.imp (fun q => ⟨List.not_mem_nil, q⟩) fun q => .inr q
  · rw [h]
    exact fun H' ms' x sr v r => r
theorem an {α : Type} {p : α → Prop} : ∀ x ∈ ([] : List α), p x := nofun
theorem ac {α : Type} {p : α → Prop} {a : α} {l : List α} (h : p a) (r : ∀ x ∈ l, p x) : ∀ x ∈ a :: l, p x := fun x hx => (List.mem_cons.mp hx).elim (fun e => e ▸ h) (r x)
/-- whether an error of one class is caught by the other -/
theorem exm_pair {K : PySem.W.Frag} {A B : Addr} {b : Bool} (h1 : PySem.W.subIn K (.ref B) (.type "BaseException") = some true) (h2 : PySem.W.isClsIn K B = true) (h3 : PySem.W.typeIn K (.ref B) = some (.type "type")) (h4 : PySem.W.subIn K (.ref A) (.ref B) = some b) : PySem.W.exmOne K (.ref A) (.ref B) = some b := by
  have c : (PySem.W.clsIn K B).isSome = true := h2
  have e2 : ((PySem.W.clsIn K B).isSome && PySem.W.typeIn K (.ref B) == some (.type "type")) = true := by
    rw [c, h3]
    decide
  unfold PySem.W.exmOne
  rw [h1]
  show PySem.W.kitCls K (.ref A) (.ref B) = some b
  unfold PySem.W.kitCls
  simp only [e2, if_true]
  exact h4
end Mini

set_option Elab.async false
set_option linter.all false
set_option maxRecDepth 100000
set_option maxHeartbeats 2000000
/-! Mini, part Q: plain reckoning with the evaluator. -/
namespace Mini
open PySem
section
variable {α β : Type}
@[simp] theorem Rs.bind_ok (a : α) (s : Sto) (f : α → Sto → Rs β) : (Rs.ok a s).bind f = f a s := rfl
@[simp] theorem Rs.out_ok (a : α) (s : Sto) (v : En) (f : α → Sto → Out) : (Rs.ok a s).out v f = f a s := rfl
@[simp] theorem Rs.of_some (a : α) (s : Sto) : Rs.of (some a) s = .ok a s := rfl
@[simp] theorem Out.of_some (v : En) (s : Sto) : Out.of (some v) s = .nx v s := rfl
@[simp] theorem Out.ofS_some (v : En) (s : Sto) : Out.ofS v (some s) = .nx v s := rfl
@[simp] theorem Out.nx_then (v : En) (s : Sto) (f : En → Sto → Out) : (Out.nx v s).andThen f = f v s := rfl
@[simp] theorem Out.ret_then (w : W) (s : Sto) (f : En → Sto → Out) : (Out.ret w s).andThen f = .ret w s := rfl
@[simp] theorem Out.brk_then (v : En) (s : Sto) (f : En → Sto → Out) : (Out.brk v s).andThen f = .brk v s := rfl
@[simp] theorem Out.cnt_then (v : En) (s : Sto) (f : En → Sto → Out) : (Out.cnt v s).andThen f = .cnt v s := rfl
@[simp] theorem view_d (s : Sto) (x : PD) : view s (.d x) = some x := rfl
@[simp] theorem tst_ok (b : Bool) (s : Sto) : tst (.ok (.d (.bool b)) s) = .ok b s := rfl
end
/-! ### a while by a measure -/
theorem whl_run {c : En → Sto → Rs Bool} {f : En → Sto → Out} {s : Sto} {α : Type} (env : α → En) (m : α → Nat) (go : α → Bool) (step : α → α) (I : α → Prop) (hc : ∀ a, I a → c (env a) s = .ok (go a) s) (hf : ∀ a, I a → go a = true → f (env a) s = .nx (env (step a)) s ∧ m (step a) < m a ∧ I (step a)) :
    ∀ (n : Nat) (a : α), m a < n → I a → ∃ z, whlL c f n (env a) s = .nx (env z) s ∧ go z = false ∧ I z
  | 0, a, h, _ => absurd h (Nat.not_lt_zero _)
  | n + 1, a, h, hi => by
    unfold whlL
    rw [hc a hi]
    cases hg : go a with
    | false =>
      refine ⟨a, ?_, hg, hi⟩
      simp
    | true =>
      obtain ⟨e1, h1, i1⟩ := hf a hi hg
      obtain ⟨z, e, hz, iz⟩ := whl_run env m go step I hc hf n (step a) (by omega) i1
      refine ⟨z, ?_, hz, iz⟩
      simp only [Rs.out_ok, if_true, e1]
      exact e
/-! ### lists -/
theorem compL_map {g : Sto → Bool} {f : PD → Sto → Rs (Option PD)} {s : Sto} (h : PD → PD) (hg : g s = true) : ∀ (l : List PD), (∀ x ∈ l, f x s = .ok (some (h x)) s) → l.length ≤ LIM → compL g f l s = .ok (l.map h) s
  | [], _, _ => by unfold compL; rw [if_pos hg]; rfl
  | x :: r, hf, hl => by
    have hl' : r.length + 1 ≤ LIM := hl
    unfold compL
    rw [if_pos hg, hf x List.mem_cons_self]
    simp only [compL_map h hg r (fun y hy => hf y (List.mem_cons_of_mem _ hy)) (by omega), Rs.bind_ok]
    rw [if_pos (by rw [List.length_map]; omega)]
    rfl
theorem for_run {g : Sto → Bool} {f : PD → En → Sto → Out} {s : Sto} {α : Type} (env : α → En) (step : α → PD → α) (I : α → Prop) (hg : g s = true) : ∀ (l : List PD) (a : α), I a → (∀ a x, I a → x ∈ l → f x (env a) s = .nx (env (step a x)) s ∧ I (step a x)) → forL g f l (env a) s = .nx (env (l.foldl step a)) s ∧ I (l.foldl step a)
  | [], a, hi, _ => by unfold forL; rw [if_pos hg]; exact ⟨rfl, hi⟩
  | x :: r, a, hi, hf => by
    obtain ⟨e, i1⟩ := hf a x hi List.mem_cons_self
    unfold forL
    rw [if_pos hg, e]
    exact for_run env step I hg r (step a x) i1 fun a y hi hy => hf a y hi (List.mem_cons_of_mem _ hy)
theorem turnS_of {t : Tg} {b : En → Sto → Out} {x : PD} {v v' : En} {s : Sto} (h : putT t (.d x) s v = some v') : turnS t b x v s = b v' s := by
  unfold turnS
  rw [h]
@[simp] theorem kept_nil (s : Sto) : kept [] s = true := rfl
@[simp] theorem intsD_map : ∀ ns : List Int, intsD (ns.map .int) = some ns
  | [] => rfl
  | n :: ns => by simp [intsD, intsD_map ns]
/-! ### calls -/
def cx (P : Pg) (k : Nat) : Fs := ⟨⟨runF P k, fun i => P.gls[i]?, []⟩, P.sub⟩
def fin (n : Nat) : Out → Rs W
  | .ret w s => back n w s
  | .nx _ s => back n (.d .none) s
  | .exc c xs _ s => .exc c xs (s.take n)
  | _ => .stuck
theorem run_eq {P : Pg} {k i : Nat} {fn : Fn} {ws : List W} {s : Sto} (hf : P.fns[i]? = some fn) (hl : ws.length = fn.np) : runF P (k + 1) i ws s = fin s.length (evS (cx P k) fn.body (startE fn ws) s) := by
  simp only [runF, hf, hl, if_true]
  rfl
theorem call_cx (P : Pg) (k i : Nat) (ws : List W) (s : Sto) : (cx P k).fe.call i ws s = runF P k i ws s := rfl
theorem fin_ret (n : Nat) (w : W) (s : Sto) : fin n (.ret w s) = back n w s := rfl
theorem back_d (s : Sto) (x : PD) (l : Sto) : back s.length (.d x) (s ++ l) = .ok (.d x) s := by
  show Rs.ok _ _ = _
  rw [List.take_left]
theorem back_same (s : Sto) (x : PD) : back s.length (.d x) s = .ok (.d x) s := by
  show Rs.ok _ _ = _
  rw [List.take_length]
theorem back_len {n : Nat} (s : Sto) (x : PD) (h : s.length = n) : back n (.d x) s = .ok (.d x) s := by
  subst h
  exact back_same s x
/-! ### numbers of moderate size -/
def Sm (i : Int) : Prop := i.natAbs < 2 ^ 4000
theorem log2_lt {n k : Nat} (h : n < 2 ^ k) (hk : 0 < k) : n.log2 < k := by
  by_cases h0 : n = 0
  · subst h0
    exact hk
  · exact (Nat.log2_lt h0).mpr h
theorem Sm.log {i : Int} (h : Sm i) : i.natAbs.log2 < 4000 := log2_lt h (by decide)
theorem mul_ok {i j : Int} (hi : Sm i) (hj : Sm j) : bin2 .mul (.int i) (.int j) = some (.int (i * j)) := by
  show (if _ then _ else _) = _
  rw [if_pos]
  have := hi.log
  have := hj.log
  omega
theorem mod_ok {i j : Int} (h : j ≠ 0) : bin2 .mod (.int i) (.int j) = some (.int (i.fmod j)) := by
  show (if _ then _ else _) = _
  rw [if_neg h]
theorem mod_pos {i j : Int} (h : 0 < j) : bin2 .mod (.int i) (.int j) = some (.int (i % j)) := by
  rw [mod_ok (by omega), Int.fmod_eq_emod_of_nonneg _ (by omega)]
theorem fdiv_ok {i j : Int} (h : 0 < j) (hj : Sm j) : bin2 .fdiv (.int i) (.int j) = some (.int (i / j)) := by
  show (if _ then _ else _) = _
  rw [if_pos ⟨h, by have := hj.log; omega⟩]
theorem add_ok {i j : Int} : bin2 .add (.int i) (.int j) = some (.int (i + j)) := rfl
theorem sub_ok {i j : Int} : bin2 .sub (.int i) (.int j) = some (.int (i - j)) := rfl
theorem Sm.of {i : Int} (h : i.natAbs < 10 ^ 1000) : Sm i := Nat.lt_trans h (by decide +kernel)
/-! ### steps -/
section
variable {F : Fe} {a b c es : E} {v : En} {s s1 s2 s3 : Sto} {x y z : PD} {w w2 : W} {ws : List W}
theorem ev_nil : evL F .nil v s = .ok [] s := rfl
theorem ev_cons (ha : evE F a v s = .ok w s1) (hb : evL F es v s1 = .ok ws s2) : evL F (.cons a es) v s = .ok (w :: ws) s2 := by
  rw [evL, ha, Rs.bind_ok, hb]
  rfl
theorem ev_tup {xs : List PD} (h : evL F es v s = .ok ws s1) (hp : pures ws = some xs) (hl : xs.length ≤ LIM) : evE F (.tup es) v s = .ok (.d (.tuple xs)) s1 := by
  rw [evE, h, mkR, Rs.bind_ok, hp]
  show Rs.of (if _ then _ else _) _ = _
  rw [if_pos hl]
  rfl
theorem ev_lst {xs : List PD} (h : evL F es v s = .ok ws s1) (hp : pures ws = some xs) (hl : xs.length ≤ LIM) : evE F (.lst es) v s = .ok (.d (.list xs)) s1 := by
  rw [evE, h, mkR, Rs.bind_ok, hp]
  show Rs.of (if _ then _ else _) _ = _
  rw [if_pos hl]
  rfl
theorem ev_newl {xs : List PD} (h : evL F es v s = .ok ws s1) (hp : pures ws = some xs) (hl : xs.length ≤ LIM) : evE F (.newl es) v s = .ok (.ref s1.length) (s1 ++ [.lst xs]) := by
  rw [evE, h, newR, Rs.bind_ok, hp]
  show (if _ then _ else _) = _
  rw [if_pos hl]
theorem ev_bin {o : O2} (ha : evE F a v s = .ok (.d x) s1) (hb : evE F b v s1 = .ok (.d y) s2) (h : bin2 o x y = some z) : evE F (.bin o a b) v s = .ok (.d z) s2 := by
  rw [evE, ha, bin2R, Rs.bind_ok, hb, Rs.bind_ok]
  show Rs.of ((bin2 o x y).map W.d) s2 = _
  rw [h]
  rfl
theorem ev_binv {o : O2} (ha : evE F a v s = .ok w s1) (hb : evE F b v s1 = .ok w2 s2) (hx : view s2 w = some x) (hy : view s2 w2 = some y) (h : bin2 o x y = some z) : evE F (.bin o a b) v s = .ok (.d z) s2 := by
  rw [evE, ha, bin2R, Rs.bind_ok, hb, Rs.bind_ok, hx, hy]
  show Rs.of ((bin2 o x y).map W.d) s2 = _
  rw [h]
  rfl
theorem ev_cmp {o : Cm} {k : Bool} (ha : evE F a v s = .ok (.d x) s1) (hb : evE F b v s1 = .ok (.d y) s2) (h : cmp2 o x y = some k) : evE F (.cmp o a b) v s = .ok (.d (.bool k)) s2 := by
  rw [evE, ha, cmpR, Rs.bind_ok, hb, Rs.bind_ok]
  show Rs.of ((cmp2 o x y <|> dinC o s2 (.d x) (.d y)).map _) s2 = _
  rw [h]
  rfl
theorem ev_ix (ha : evE F a v s = .ok w s1) (hb : evE F b v s1 = .ok w2 s2) (hx : view s2 w = some x) (hy : view s2 w2 = some y) (h : ixD x y = some z) : evE F (.ix a b) v s = .ok (.d z) s2 := by
  rw [evE, ha, ixR, Rs.bind_ok, hb, Rs.bind_ok, hx, hy]
  show Rs.of ((ixD x y <|> dixD s2 w w2).map W.d) s2 = _
  rw [h]
  rfl
theorem ev_call {f : Nat} (h : evL F es v s = .ok ws s1) (hc : F.call f ws s1 = .ok w s2) : evE F (.call f es) v s = .ok w s2 := by
  rw [evE, h, Rs.bind_ok, hc]
theorem ev_bi {f : Bi} {xs : List PD} (h : evL F es v s = .ok ws s1) (hd : datas s1 ws = some xs) (hb : bi f xs = some z) : evE F (.bi f es) v s = .ok (.d z) s1 := by
  rw [evE, h, biR, Rs.bind_ok, hd]
  show Rs.of ((bi f xs).map W.d) s1 = _
  rw [hb]
  rfl
theorem ev_iteT (hc : evE F c v s = .ok (.d (.bool true)) s1) (ha : evE F a v s1 = .ok w s2) : evE F (.ife c a b) v s = .ok w s2 := by
  rw [evE, hc, tst_ok, Rs.bind_ok, if_pos rfl, ha]
theorem ev_iteF (hc : evE F c v s = .ok (.d (.bool false)) s1) (hb : evE F b v s1 = .ok w s2) : evE F (.ife c a b) v s = .ok w s2 := by
  rw [evE, hc, tst_ok, Rs.bind_ok, if_neg Bool.false_ne_true, hb]
theorem ev_andT (ha : evE F a v s = .ok (.d (.bool true)) s1) (hb : evE F b v s1 = .ok w s2) : evE F (.and a b) v s = .ok w s2 := by
  rw [evE, ha, tst_ok, Rs.bind_ok, if_pos rfl, hb]
theorem ev_andF (ha : evE F a v s = .ok (.d (.bool false)) s1) : evE F (.and a b) v s = .ok (.d (.bool false)) s1 := by
  rw [evE, ha, tst_ok, Rs.bind_ok, if_neg Bool.false_ne_true]
theorem ev_orT (ha : evE F a v s = .ok (.d (.bool true)) s1) : evE F (.or a b) v s = .ok (.d (.bool true)) s1 := by
  rw [evE, ha, tst_ok, Rs.bind_ok, if_pos rfl]
theorem ev_orF (ha : evE F a v s = .ok (.d (.bool false)) s1) (hb : evE F b v s1 = .ok w s2) : evE F (.or a b) v s = .ok w s2 := by
  rw [evE, ha, tst_ok, Rs.bind_ok, if_neg Bool.false_ne_true, hb]
theorem ev_not {k : Bool} (ha : evE F a v s = .ok (.d (.bool k)) s1) : evE F (.not a) v s = .ok (.d (.bool (!k))) s1 := by
  rw [evE, ha, tst_ok, Rs.bind_ok]
/-- a comprehension without a test, whose turns leave the store -/
theorem ev_map {t : Tg} {own : List Nat} {l : List PD} {g : List (Nat × List PD)} {h : PD → PD} (hw : walk (evE F b v s) = .ok (l, g) s1) (hk : kept g s1 = true) (hl : l.length ≤ LIM)
    (hf : ∀ x ∈ l, ∃ v', putT t (.d x) s1 (wipeE v own) = some v' ∧ evE F a v' s1 = .ok (.d (h x)) s1) : evE F (.comp false a t b (.cst (.bool true)) own) v s = .ok (.d (.list (l.map h))) s1 := by
  rw [evE, hw, compR, Rs.bind_ok, compL_map h hk l (fun x hx => ?_) hl]
  · rfl
  · obtain ⟨v', e1, e2⟩ := hf x hx
    unfold turnC
    rw [e1]
    show Rs.bind (Rs.ok true s1) _ = _
    rw [Rs.bind_ok, if_pos rfl, e2]
    rfl
theorem compL_mapG {α : Type} {g : Sto → Bool} {f : PD → Sto → Rs (Option PD)} {s : Sto} (toD : α → PD) (h : α → PD) (hg : g s = true) : ∀ (l : List α), (∀ x ∈ l, f (toD x) s = .ok (some (h x)) s) → l.length ≤ LIM → compL g f (l.map toD) s = .ok (l.map h) s
  | [], _, _ => by
    show compL g f [] s = _
    unfold compL
    rw [if_pos hg]
    rfl
  | x :: r, hf, hl => by
    have hl' : r.length + 1 ≤ LIM := hl
    show compL g f (toD x :: r.map toD) s = _
    unfold compL
    rw [if_pos hg, hf x List.mem_cons_self]
    simp only [compL_mapG toD h hg r (fun y hy => hf y (List.mem_cons_of_mem _ hy)) (by omega), Rs.bind_ok]
    rw [if_pos (by rw [List.length_map]; omega)]
    rfl
/-- .. over things of any kind -/
theorem ev_mapG {α : Type} {t : Tg} {own : List Nat} {g : List (Nat × List PD)} (l : List α) (toD : α → PD) (h : α → PD) (hw : walk (evE F b v s) = .ok (l.map toD, g) s1) (hk : kept g s1 = true) (hl : l.length ≤ LIM)
    (hf : ∀ x ∈ l, ∃ v', putT t (.d (toD x)) s1 (wipeE v own) = some v' ∧ evE F a v' s1 = .ok (.d (h x)) s1) : evE F (.comp false a t b (.cst (.bool true)) own) v s = .ok (.d (.list (l.map h))) s1 := by
  rw [evE, hw, compR, Rs.bind_ok, compL_mapG toD h hk l (fun x hx => ?_) hl]
  · rfl
  · obtain ⟨v', e1, e2⟩ := hf x hx
    unfold turnC
    rw [e1]
    show Rs.bind (Rs.ok true s1) _ = _
    rw [Rs.bind_ok, if_pos rfl, e2]
    rfl
end
section
variable {F : Fs} {a b c es : E} {A B : S} {v v1 : En} {s s1 s2 s3 : Sto} {x y z : PD} {w w2 : W} {ws : List W} {o : Out}
theorem st_seq (h1 : evS F A v s = .nx v1 s1) (h2 : evS F B v1 s1 = o) : evS F (.seq A B) v s = o := by
  rw [evS, h1, Out.nx_then, h2]
theorem st_end {B : S} (h1 : evS F A v s = .ret w s1) : evS F (.seq A B) v s = .ret w s1 := by
  rw [evS, h1, Out.ret_then]
theorem st_set {t : Tg} (h : evE F.fe a v s = .ok w s1) (hp : putT t w s1 v = some v1) : evS F (.set t a) v s = .nx v1 s1 := by
  rw [evS, h, Rs.out_ok, hp]
  rfl
theorem st_par {is : List Nat} (h : evL F.fe es v s = .ok ws s1) (hp : putAllW is ws v = some v1) : evS F (.par is es) v s = .nx v1 s1 := by
  rw [evS, h, Rs.out_ok, hp]
  rfl
theorem st_ret (h : evE F.fe a v s = .ok w s1) : evS F (.ret a) v s = .ret w s1 := by
  rw [evS, h, Rs.out_ok]
theorem st_ex (h : evE F.fe a v s = .ok w s1) : evS F (.ex a) v s = .nx v s1 := by
  rw [evS, h, Rs.out_ok]
theorem st_ifT (hc : evE F.fe c v s = .ok (.d (.bool true)) s1) (h : evS F A v s1 = o) : evS F (.ifs c A B) v s = o := by
  rw [evS, hc, tst_ok, Rs.out_ok, if_pos rfl, h]
theorem st_ifF (hc : evE F.fe c v s = .ok (.d (.bool false)) s1) (h : evS F B v s1 = o) : evS F (.ifs c A B) v s = o := by
  rw [evS, hc, tst_ok, Rs.out_ok, if_neg Bool.false_ne_true, h]
theorem st_skip : evS F .skip v s = .nx v s := rfl
theorem st_for {t : Tg} {l : List PD} {g : List (Nat × List PD)} (hw : walk (evE F.fe b v s) = .ok (l, g) s1) (h : forL (kept g) (turnS t (evS F A)) l v s1 = o) : evS F (.for t b A) v s = o := by
  rw [evS, hw, Rs.out_ok, h]
theorem st_aug {i : Nat} {q : O2} (hv : v[i]? = some (some w)) (h : evE F.fe a v s = .ok w2 s1) (hx : view s1 w = some x) (hy : view s1 w2 = some y) (ha : aug2 q x y = some z) (hp : putS v i (.d z) = some v1) : evS F (.aug i q a) v s = .nx v1 s1 := by
  rw [evS, hv]
  show Rs.out (Rs.bind (evE F.fe a v s) _) _ _ = _
  rw [h, Rs.bind_ok, hx, hy]
  show Rs.out (Rs.of ((aug2 q x y).map W.d) s1) _ _ = _
  rw [ha]
  show Out.of (putS v i (.d z)) s1 = _
  rw [hp]
  rfl
/-- a def that ends with a value and has made nothing new -/
theorem run_ret {P : Pg} {k i : Nat} {fn : Fn} {ws : List W} (hf : P.fns[i]? = some fn) (hl : ws.length = fn.np) (hn : s1.length = s.length) (h : evS (cx P k) fn.body (startE fn ws) s = .ret (.d x) s1) : runF P (k + 1) i ws s = .ok (.d x) s1 := by
  rw [run_eq hf hl, h, fin_ret, ← hn, back_same]
end
theorem limb {n : Nat} (h : Nat.ble n 1000 = true) : n ≤ LIM := Nat.le_trans (Nat.le_of_ble_eq_true h) (by decide)
theorem lim10 {n : Nat} (h : n ≤ 1000) : n ≤ LIM := Nat.le_trans h (by decide)
/-! ### turns of which only something is known -/
theorem compL_ex {α : Type} {g : Sto → Bool} {f : PD → Sto → Rs (Option PD)} {I : Nat → Sto → Prop} {toD : α → PD} (hg : ∀ t s, I t s → g s = true) : ∀ (l : List PD) (t : Nat) (s : Sto), I t s → (∀ j s x, t ≤ j → j < t + l.length → I j s → x ∈ l → ∃ y s', f x s = .ok (some (toD y)) s' ∧ I (j + 1) s') → l.length ≤ LIM →
    ∃ (ys : List α) (s' : Sto), compL g f l s = .ok (ys.map toD) s' ∧ ys.length = l.length ∧ I (t + l.length) s'
  | [], t, s, hi, _, _ => ⟨[], s, by unfold compL; rw [if_pos (hg t s hi)]; rfl, rfl, hi⟩
  | x :: r, t, s, hi, hf, hl => by
    have hl' : r.length + 1 ≤ LIM := hl
    have hll : (x :: r).length = r.length + 1 := rfl
    obtain ⟨y, s1, e, i1⟩ := hf t s x (Nat.le_refl _) (by omega) hi List.mem_cons_self
    obtain ⟨ys, s2, e2, l2, i2⟩ := compL_ex hg r (t + 1) s1 i1 (fun j s x h1 h2 hi hx => hf j s x (by omega) (by omega) hi (List.mem_cons_of_mem _ hx)) (by omega)
    refine ⟨y :: ys, s2, ?_, by rw [List.length_cons, List.length_cons, l2], ?_⟩
    · unfold compL
      rw [if_pos (hg t s hi), e]
      simp only [e2, Rs.bind_ok]
      rw [if_pos (by rw [List.length_map]; omega)]
      rfl
    · rw [hll, show t + (r.length + 1) = t + 1 + r.length by omega]
      exact i2
theorem ev_comp_ex {α : Type} {F : Fe} {a b : E} {v : En} {s s1 : Sto} {t : Tg} {own : List Nat} {l : List PD} {g : List (Nat × List PD)} {I : Nat → Sto → Prop} (toD : α → PD) (hw : walk (evE F b v s) = .ok (l, g) s1) (hk : ∀ t s, I t s → kept g s = true) (hl : l.length ≤ LIM) (hi : I 0 s1)
    (hf : ∀ j s x, j < l.length → I j s → x ∈ l → ∃ v' y s', putT t (.d x) s (wipeE v own) = some v' ∧ evE F a v' s = .ok (.d (toD y)) s' ∧ I (j + 1) s') : ∃ (ys : List α) (s' : Sto), evE F (.comp false a t b (.cst (.bool true)) own) v s = .ok (.d (.list (ys.map toD))) s' ∧ ys.length = l.length ∧ I l.length s' := by
  obtain ⟨ys, s', e, e2, e3⟩ := compL_ex (f := turnC t (wipeE v own) (evE F (.cst (.bool true))) (evE F a)) (toD := toD) hk l 0 s1 hi (fun j s x _ h1 h hx => by
    obtain ⟨v', y, s', e1, e2, e3⟩ := hf j s x (by omega) h hx
    refine ⟨y, s', ?_, e3⟩
    unfold turnC
    rw [e1]
    show Rs.bind (Rs.ok true s) _ = _
    rw [Rs.bind_ok, if_pos rfl, e2]
    rfl) hl
  rw [Nat.zero_add] at e3
  refine ⟨ys, s', ?_, e2, e3⟩
  rw [evE, hw, compR, Rs.bind_ok, e]
  rfl
theorem for_ex {g : Sto → Bool} {f : PD → En → Sto → Out} {I : Nat → En → Sto → Prop} (hg : ∀ t v s, I t v s → g s = true) : ∀ (l : List PD) (t : Nat) (v : En) (s : Sto), I t v s → (∀ j v s x, t ≤ j → j < t + l.length → I j v s → x ∈ l → ∃ v' s', f x v s = .nx v' s' ∧ I (j + 1) v' s') → ∃ v' s', forL g f l v s = .nx v' s' ∧ I (t + l.length) v' s'
  | [], t, v, s, hi, _ => ⟨v, s, by unfold forL; rw [if_pos (hg t v s hi)], hi⟩
  | x :: r, t, v, s, hi, hf => by
    have hll : (x :: r).length = r.length + 1 := rfl
    obtain ⟨v1, s1, e, i1⟩ := hf t v s x (Nat.le_refl _) (by omega) hi List.mem_cons_self
    obtain ⟨v2, s2, e2, i2⟩ := for_ex hg r (t + 1) v1 s1 i1 fun j v s x h1 h2 hi hx => hf j v s x (by omega) (by omega) hi (List.mem_cons_of_mem _ hx)
    refine ⟨v2, s2, ?_, ?_⟩
    · unfold forL
      rw [if_pos (hg t v s hi), e]
      exact e2
    · rw [hll, show t + (r.length + 1) = t + 1 + r.length by omega]
      exact i2
theorem st_for_ex {F : Fs} {b : E} {A : S} {v : En} {s s1 : Sto} {t : Tg} {l : List PD} {g : List (Nat × List PD)} {I : Nat → En → Sto → Prop} (hw : walk (evE F.fe b v s) = .ok (l, g) s1) (hg : ∀ t v s, I t v s → kept g s = true) (hi : I 0 v s1)
    (hf : ∀ j v s x, j < l.length → I j v s → x ∈ l → ∃ v1 v' s', putT t (.d x) s v = some v1 ∧ evS F A v1 s = .nx v' s' ∧ I (j + 1) v' s') : ∃ v' s', evS F (.for t b A) v s = .nx v' s' ∧ I l.length v' s' := by
  obtain ⟨v', s', e, h⟩ := for_ex (f := turnS t (evS F A)) hg l 0 v s1 hi fun j v s x _ h1 hi hx => by
    obtain ⟨v1, v', s', e1, e2, e3⟩ := hf j v s x (by omega) hi hx
    exact ⟨v', s', by rw [turnS_of e1, e2], e3⟩
  rw [Nat.zero_add] at h
  exact ⟨v', s', st_for hw e, h⟩
/-- for i in range(n) -/
theorem rng_walk {F : Fe} {a : E} {v : En} {s : Sto} {n : Nat} (h : evE F a v s = .ok (.d (.int n)) s) (hn : n ≤ 1000000) : walk (evE F (.rng (.cons a .nil)) v s) = .ok ((List.range n).map fun (i : Nat) => .int (0 + (i : Int)), []) s := by
  have h2 : evL F (.cons a .nil) v s = .ok [.d (.int n)] s := ev_cons h ev_nil
  have e : rangeD 0 n = some ((List.range n).map fun (i : Nat) => .int (0 + (i : Int))) := by
    have c : -(2 ^ 62) ≤ (0 : Int) ∧ (0 : Int) < 2 ^ 62 ∧ -(2 ^ 62) ≤ (n : Int) ∧ (n : Int) < 2 ^ 62 := by omega
    unfold rangeD
    rw [if_pos c, Int.sub_zero, Int.toNat_natCast]
  rw [evE, h2, rngR, Rs.bind_ok]
  have e3 : datas s [.d (.int n)] = some [.int n] := rfl
  rw [e3, Option.bind_some]
  simp only [e, Option.map_some]
  rfl
end Mini

set_option Elab.async false
set_option linter.all false
set_option maxRecDepth 100000
set_option maxHeartbeats 2000000
/-! Mini, part R: the bag that the laws draw from. -/
namespace Mini
open PySem
def takeB : S :=
 (.seq (.ifs (.cmp .eq (.ix (.var 0) (.cst (.int 0))) (.cst (.int 0)))
  (.seq (.set (.nm 2) (.ix (.bin .add (.sl (.ix (.var 0) (.cst (.int 3))) (.ix (.var 0) (.cst (.int 2))) .nil) (.lst (.cons (.cst (.int 0)) .nil))) (.cst (.int 0))))
  (.seq (.augi (.var 0) (.cst (.int 2)) .add (.cst (.int 1)))
  (.seq (.ifs (.cmp .ge (.var 2) (.bin .pow (.cst (.int 10)) (.cst (.int 18))))
   (.seq (.seti (.var 0) (.cst (.int 0)) (.var 2))
   .skip)
   .skip)
  (.seq (.set (.nm 3) (.bin .add (.bin .add (.bin .mul (.ix (.var 0) (.cst (.int 1))) (.cst (.int 48271))) (.bin .mod (.bi .int (.cons (.var 2) .nil)) (.cst (.int 2147483647)))) (.bin .mul (.cst (.int 7919)) (.ix (.var 0) (.cst (.int 2))))))
  (.seq (.seti (.var 0) (.cst (.int 1)) (.bin .mod (.bi .int (.cons (.var 3) .nil)) (.cst (.int 2147483647))))
  .skip)))))
  .skip)
 (.seq (.ifs (.cmp .gt (.ix (.var 0) (.cst (.int 0))) (.cst (.int 0)))
  (.seq (.set (.nm 4) (.bin .mod (.bi .int (.cons (.ix (.var 0) (.cst (.int 0))) .nil)) (.var 1)))
  (.seq (.seti (.var 0) (.cst (.int 0)) (.bin .fdiv (.bi .int (.cons (.ix (.var 0) (.cst (.int 0))) .nil)) (.var 1)))
  (.seq (.ret (.var 4))
  .skip)))
  .skip)
 (.seq (.set (.nm 5) (.bin .mod (.bi .int (.cons (.bin .mul (.bin .add (.ix (.var 0) (.cst (.int 1))) (.cst (.int 1))) (.cst (.int 39373))) .nil)) (.cst (.int 1000000007))))
 (.seq (.set (.nm 6) (.bin .mod (.bi .int (.cons (.bin .mul (.bin .mod (.bi .int (.cons (.bin .mul (.var 5) (.var 5)) .nil)) (.cst (.int 998244353))) (.cst (.int 30011))) .nil)) (.cst (.int 998244353))))
 (.seq (.ret (.bin .mod (.bi .int (.cons (.bin .fdiv (.var 6) (.cst (.int 7))) .nil)) (.var 1)))
 .skip)))))
def bagL (m seed pos : Int) (cells : List Int) : List PD := [.int m, .int seed, .int pos, .list (cells.map .int)]
/-- a bag from which at most t numbers were drawn -/
def Bag (t : Nat) (l : List PD) : Prop :=
  ∃ m seed pos cells, l = bagL m seed pos cells ∧ 0 ≤ m ∧ 0 ≤ seed ∧ seed < 2147483647 ∧ 0 ≤ pos ∧ pos ≤ t ∧ cells.length ≤ 63 ∧ ∀ c ∈ cells, 0 ≤ c
theorem Bag.mono {t u : Nat} {l : List PD} (h : Bag t l) (hu : t ≤ u) : Bag u l := by
  obtain ⟨m, seed, pos, cells, h1, h2, h3, h4, h5, h6, h7⟩ := h
  exact ⟨m, seed, pos, cells, h1, h2, h3, h4, h5, by omega, h7⟩
theorem atI_zero {α : Type} (x : α) (l : List α) : L2.atI (x :: l) 0 = some x := by
  unfold L2.atI L2.ixN
  simp
theorem cell_ok (cells : List Int) (lo : Option Int) (h : ∀ c ∈ cells, 0 ≤ c) : ∃ c : Int, 0 ≤ c ∧ L2.atI (cutL (cells.map PyData.int) lo none ++ [.int 0]) 0 = some (.int c) := by
  have sub : ∀ x ∈ cutL (cells.map PyData.int) lo none, ∃ c : Int, 0 ≤ c ∧ x = .int c := fun x hx => by
    have := List.mem_of_mem_drop (List.mem_of_mem_take hx)
    obtain ⟨c, hc, rfl⟩ := List.mem_map.mp this
    exact ⟨c, h c hc, rfl⟩
  cases e : cutL (cells.map PyData.int) lo none with
  | nil => exact ⟨0, Int.le_refl _, atI_zero _ _⟩
  | cons x r =>
    obtain ⟨c, hc, rfl⟩ := sub x (by rw [e]; exact List.mem_cons_self)
    exact ⟨c, hc, atI_zero _ _⟩
theorem cut_len {α : Type} (l : List α) (lo hi : Option Int) : (cutL l lo hi).length ≤ l.length := by
  unfold cutL
  rw [List.length_take, List.length_drop]
  omega
theorem Sm.lt {i : Int} {n : Nat} (h : i.natAbs ≤ n) (hn : n < 10 ^ 1000) : Sm i := Sm.of (Nat.lt_of_le_of_lt h hn)
def eT (many : Int) (o2 o3 : Option Int) : En := [some (.ref 0), some (.d (.int many)), o2.map fun g => .d (.int g), o3.map fun g => .d (.int g), none, none, none]
section
variable {F : Fs} {many m seed pos : Int} {cells : List Int} {rest : Sto}
theorem take1_ok {t : Nat} {l : List PD} (hb : Bag t l) (ht : t < 1000000000) : ∃ o2 o3 l', Bag (t + 1) l' ∧ evS F (.ifs (.cmp .eq (.ix (.var 0) (.cst (.int 0))) (.cst (.int 0)))
  (.seq (.set (.nm 2) (.ix (.bin .add (.sl (.ix (.var 0) (.cst (.int 3))) (.ix (.var 0) (.cst (.int 2))) .nil) (.lst (.cons (.cst (.int 0)) .nil))) (.cst (.int 0))))
  (.seq (.augi (.var 0) (.cst (.int 2)) .add (.cst (.int 1)))
  (.seq (.ifs (.cmp .ge (.var 2) (.bin .pow (.cst (.int 10)) (.cst (.int 18))))
   (.seq (.seti (.var 0) (.cst (.int 0)) (.var 2))
   .skip)
   .skip)
  (.seq (.set (.nm 3) (.bin .add (.bin .add (.bin .mul (.ix (.var 0) (.cst (.int 1))) (.cst (.int 48271))) (.bin .mod (.bi .int (.cons (.var 2) .nil)) (.cst (.int 2147483647)))) (.bin .mul (.cst (.int 7919)) (.ix (.var 0) (.cst (.int 2))))))
  (.seq (.seti (.var 0) (.cst (.int 1)) (.bin .mod (.bi .int (.cons (.var 3) .nil)) (.cst (.int 2147483647))))
  .skip)))))
  .skip) (eT many none none) (.lst l :: rest) = .nx (eT many o2 o3) (.lst l' :: rest) := by
  obtain ⟨m, seed, pos, cells, rfl, h1, h2, h3, h4, h5, h6, h7⟩ := hb
  by_cases hm : m = 0
  · subst hm
    obtain ⟨c, hc, ec⟩ := cell_ok cells (some pos) h7
    have hlen : (cutL (cells.map PyData.int) (some pos) none).length + 1 ≤ LIM := by
      have := cut_len (cells.map PyData.int) (some pos) none
      rw [List.length_map] at this
      exact lim10 (by omega)
    have add : bin2 .add (.list (cutL (cells.map PyData.int) (some pos) none)) (.list [.int 0]) = some (.list (cutL (cells.map PyData.int) (some pos) none ++ [.int 0])) := by
      show (if _ then _ else _) = _
      rw [if_pos (by simpa using hlen)]
    have big : ∀ (m' : Int), evS F (.seq (.set (.nm 3) (.bin .add (.bin .add (.bin .mul (.ix (.var 0) (.cst (.int 1))) (.cst (.int 48271))) (.bin .mod (.bi .int (.cons (.var 2) .nil)) (.cst (.int 2147483647)))) (.bin .mul (.cst (.int 7919)) (.ix (.var 0) (.cst (.int 2))))))
        (.seq (.seti (.var 0) (.cst (.int 1)) (.bin .mod (.bi .int (.cons (.var 3) .nil)) (.cst (.int 2147483647)))) .skip)) (eT many (some c) none) (.lst (bagL m' seed (pos + 1) cells) :: rest) =
        .nx (eT many (some c) (some (seed * 48271 + c % 2147483647 + 7919 * (pos + 1)))) (.lst (bagL m' ((seed * 48271 + c % 2147483647 + 7919 * (pos + 1)) % 2147483647) (pos + 1) cells) :: rest) := fun m' => by
      refine st_seq (v1 := eT many (some c) (some (seed * 48271 + c % 2147483647 + 7919 * (pos + 1)))) (s1 := .lst (bagL m' seed (pos + 1) cells) :: rest) (st_set (ev_bin (ev_bin (ev_bin (x := .int seed) rfl rfl (mul_ok (Sm.lt (n := 2147483647) (by omega) (by decide +kernel)) (Sm.lt (n := 48271) (by decide) (by decide +kernel)))) (ev_bin rfl rfl (mod_pos (by decide))) add_ok) (ev_bin (y := .int (pos + 1)) rfl rfl (mul_ok (Sm.lt (n := 7919) (by decide) (by decide +kernel)) (Sm.lt (n := 1000000001) (by omega) (by decide +kernel)))) add_ok) rfl) ?_
      have e : evE F.fe (.bin .mod (.bi .int (.cons (.var 3) .nil)) (.cst (.int 2147483647))) (eT many (some c) (some (seed * 48271 + c % 2147483647 + 7919 * (pos + 1)))) (.lst (bagL m' seed (pos + 1) cells) :: rest) = .ok (.d (.int ((seed * 48271 + c % 2147483647 + 7919 * (pos + 1)) % 2147483647))) (.lst (bagL m' seed (pos + 1) cells) :: rest) := ev_bin rfl rfl (mod_pos (by decide))
      refine st_seq ?_ rfl
      rw [evS, e]
      rfl
    refine ⟨some c, some (seed * 48271 + c % 2147483647 + 7919 * (pos + 1)), bagL (if (10 : Int) ^ 18 ≤ c then c else 0) ((seed * 48271 + c % 2147483647 + 7919 * (pos + 1)) % 2147483647) (pos + 1) cells,
      ⟨_, _, _, _, rfl, by split <;> omega, Int.emod_nonneg _ (by decide), Int.emod_lt_of_pos _ (by decide), by omega, by omega, h6, h7⟩, ?_⟩
    refine st_ifT (s1 := .lst (bagL 0 seed pos cells) :: rest) rfl ?_
    refine st_seq (v1 := eT many (some c) none) (s1 := .lst (bagL 0 seed pos cells) :: rest) (st_set (ev_ix (x := .list (cutL (cells.map PyData.int) (some pos) none ++ [.int 0])) (z := .int c) (w2 := .d (.int 0)) (ev_bin (x := .list (cutL (cells.map PyData.int) (some pos) none)) (y := .list [.int 0]) rfl (ev_lst (xs := [.int 0]) (ws := [.d (.int 0)]) rfl rfl (limb rfl)) add) rfl rfl rfl (by show L2.atI _ 0 = _; exact ec)) rfl) ?_
    refine st_seq (v1 := eT many (some c) none) (s1 := .lst (bagL 0 seed (pos + 1) cells) :: rest) rfl ?_
    by_cases hg : (10 : Int) ^ 18 ≤ c
    · rw [if_pos hg]
      refine st_seq (v1 := eT many (some c) none) (s1 := .lst (bagL c seed (pos + 1) cells) :: rest) (st_ifT (s1 := .lst (bagL 0 seed (pos + 1) cells) :: rest) (ev_cmp (k := true) (x := .int c) (y := .int ((10 : Int) ^ 18)) rfl rfl (by show some (decide _) = _; rw [decide_eq_true hg])) rfl) (big c)
    · rw [if_neg hg]
      refine st_seq (v1 := eT many (some c) none) (s1 := .lst (bagL 0 seed (pos + 1) cells) :: rest) (st_ifF (s1 := .lst (bagL 0 seed (pos + 1) cells) :: rest) (ev_cmp (k := false) (x := .int c) (y := .int ((10 : Int) ^ 18)) rfl rfl (by show some (decide _) = _; rw [decide_eq_false hg])) rfl) (big 0)
  · refine ⟨none, none, bagL m seed pos cells, ⟨m, seed, pos, cells, rfl, h1, h2, h3, h4, by omega, h6, h7⟩, ?_⟩
    exact st_ifF (s1 := .lst (bagL m seed pos cells) :: rest) (ev_cmp (k := false) (x := .int m) (y := .int 0) rfl rfl (by show some (decide _) = _; rw [decide_eq_false hm])) rfl
end
/-- a number is drawn: any of 0 .. many - 1 -/
theorem take_ok {P : Pg} {i k t : Nat} {many : Int} {l : List PD} {rest : Sto} (hP : P.fns[i]? = some ⟨2, 7, takeB⟩) (hb : Bag t l) (ht : t < 1000000000) (h0 : 0 < many) (hm : Sm many) :
    ∃ (r : Int) (l' : List PD), 0 ≤ r ∧ r < many ∧ Bag (t + 1) l' ∧ runF P (k + 1) i [.ref 0, .d (.int many)] (.lst l :: rest) = .ok (.d (.int r)) (.lst l' :: rest) := by
  obtain ⟨o2, o3, l1, hb1, e1⟩ := take1_ok (F := cx P k) (many := many) (rest := rest) hb ht
  obtain ⟨m, seed, pos, cells, rfl, h1, h2, h3, h4, h5, h6, h7⟩ := hb1
  have hmn : many ≠ 0 := by omega
  by_cases hg : 0 < m
  · refine ⟨m % many, bagL (m / many) seed pos cells, Int.emod_nonneg _ hmn, Int.emod_lt_of_pos _ h0, ⟨_, _, _, _, rfl, Int.ediv_nonneg h1 (by omega), h2, h3, h4, h5, h6, h7⟩, ?_⟩
    refine run_ret (s1 := .lst (bagL (m / many) seed pos cells) :: rest) hP rfl rfl ?_
    refine st_seq e1 (st_end (st_ifT (s1 := .lst (bagL m seed pos cells) :: rest) (ev_cmp (k := true) (x := .int m) (y := .int 0) rfl rfl (by show some (decide _) = _; rw [decide_eq_true hg])) ?_))
    refine st_seq (v1 := (eT many o2 o3).set 4 (some (.d (.int (m % many))))) (s1 := .lst (bagL m seed pos cells) :: rest) (st_set (ev_bin (x := .int m) (y := .int many) rfl rfl (mod_pos h0)) rfl) ?_
    have e : evE (cx P k).fe (.bin .fdiv (.bi .int (.cons (.ix (.var 0) (.cst (.int 0))) .nil)) (.var 1)) ((eT many o2 o3).set 4 (some (.d (.int (m % many))))) (.lst (bagL m seed pos cells) :: rest) = .ok (.d (.int (m / many))) (.lst (bagL m seed pos cells) :: rest) := ev_bin (x := .int m) (y := .int many) rfl rfl (fdiv_ok h0 hm)
    refine st_seq (v1 := (eT many o2 o3).set 4 (some (.d (.int (m % many))))) (s1 := .lst (bagL (m / many) seed pos cells) :: rest) ?_ rfl
    rw [evS, e]
    rfl
  · have hx : ∀ a b : Int, 0 < b → (a % b).natAbs ≤ b.natAbs := fun a b hb => by
      have := Int.emod_nonneg a (by omega : b ≠ 0)
      have := Int.emod_lt_of_pos a hb
      omega
    obtain ⟨q, hq⟩ : ∃ q, q = (seed + 1) * 39373 % 1000000007 := ⟨_, rfl⟩
    refine ⟨(q * q % 998244353 * 30011 % 998244353 / 7) % many, bagL m seed pos cells, Int.emod_nonneg _ hmn, Int.emod_lt_of_pos _ h0, ⟨_, _, _, _, rfl, h1, h2, h3, h4, h5, h6, h7⟩, ?_⟩
    refine run_ret (s1 := .lst (bagL m seed pos cells) :: rest) hP rfl rfl ?_
    refine st_seq e1 (st_seq (v1 := eT many o2 o3) (s1 := .lst (bagL m seed pos cells) :: rest) (st_ifF (s1 := .lst (bagL m seed pos cells) :: rest) (ev_cmp (k := false) (x := .int m) (y := .int 0) rfl rfl (by show some (decide _) = _; rw [decide_eq_false hg])) rfl) ?_)
    refine st_seq (v1 := (eT many o2 o3).set 5 (some (.d (.int q)))) (s1 := .lst (bagL m seed pos cells) :: rest) (st_set (ev_bin (ev_bi (ev_cons (ev_bin (x := .int (seed + 1)) (y := .int 39373) rfl rfl (mul_ok (Sm.lt (n := 2147483648) (by omega) (by decide +kernel)) (Sm.lt (n := 39373) (by decide) (by decide +kernel)))) ev_nil) rfl rfl) rfl (mod_pos (by decide))) (by rw [hq]; rfl)) ?_
    have hq1 : q.natAbs ≤ 1000000007 := by rw [hq]; exact hx _ _ (by decide)
    have hq2 : (q * q % 998244353).natAbs ≤ 998244353 := hx _ _ (by decide)
    refine st_seq (v1 := ((eT many o2 o3).set 5 (some (.d (.int q)))).set 6 (some (.d (.int (q * q % 998244353 * 30011 % 998244353))))) (s1 := .lst (bagL m seed pos cells) :: rest) (st_set (ev_bin (ev_bi (ev_cons (ev_bin (ev_bin (ev_bi (ev_cons (ev_bin (x := .int q) (y := .int q) rfl rfl (mul_ok (Sm.lt hq1 (by decide +kernel)) (Sm.lt hq1 (by decide +kernel)))) ev_nil) rfl rfl) rfl (mod_pos (by decide))) rfl (mul_ok (Sm.lt hq2 (by decide +kernel)) (Sm.lt (n := 30011) (by decide) (by decide +kernel)))) ev_nil) rfl rfl) rfl (mod_pos (by decide))) rfl) ?_
    exact st_end (st_ret (ev_bin (x := .int (q * q % 998244353 * 30011 % 998244353 / 7)) (y := .int many) (ev_bi (ev_cons (ev_bin rfl rfl (fdiv_ok (by decide) (Sm.lt (n := 7) (by decide) (by decide +kernel)))) ev_nil) rfl rfl) rfl (mod_pos h0)))
/-! ### data that repr and == take -/
def Gd (d b : Nat) (x : PD) : Prop := x.showable = true ∧ x.canLay0 = true ∧ x.depth ≤ d ∧ x.bulk ≤ b
theorem Gd.mono {d b e c : Nat} {x : PD} (h : Gd d b x) (h1 : d ≤ e) (h2 : b ≤ c) : Gd e c x := ⟨h.1, h.2.1, Nat.le_trans h.2.2.1 h1, Nat.le_trans h.2.2.2 h2⟩
theorem Gd.int {i : Int} (h : i.natAbs < 2 ^ 1920) : Gd 0 0 (.int i) :=
  ⟨by rw [PyData.showable]; exact decide_eq_true (log2_lt h (by decide)), by rw [PyData.canLay0], by rw [PyData.depth]; exact Nat.le_refl _, by rw [PyData.bulk]; exact Nat.le_refl _⟩
theorem Gd.none : Gd 0 0 .none := ⟨by rw [PyData.showable], by rw [PyData.canLay0], by rw [PyData.depth]; exact Nat.le_refl _, by rw [PyData.bulk]; exact Nat.le_refl _⟩
theorem Gd.bool {k : Bool} : Gd 0 0 (.bool k) := ⟨by rw [PyData.showable], by rw [PyData.canLay0], by rw [PyData.depth]; exact Nat.le_refl _, by rw [PyData.bulk]; exact Nat.le_refl _⟩
theorem Gd.all {d b : Nat} : ∀ {xs : List PD}, (∀ x ∈ xs, Gd d b x) → PyData.showableAll xs = true ∧ PyData.canLayAll0 xs = true ∧ PyData.depthAll xs ≤ d ∧ PyData.bulkAll xs ≤ xs.length * (b + 1)
  | [], _ => ⟨by rw [PyData.showableAll], by rw [PyData.canLayAll0], by rw [PyData.depthAll]; exact Nat.zero_le _, by rw [PyData.bulkAll]; exact Nat.zero_le _⟩
  | x :: xs, h => by
    obtain ⟨a1, a2, a3, a4⟩ := h x List.mem_cons_self
    obtain ⟨b1, b2, b3, b4⟩ := Gd.all fun y hy => h y (List.mem_cons_of_mem _ hy)
    refine ⟨by rw [PyData.showableAll, a1, b1]; rfl, by rw [PyData.canLayAll0, a2, b2]; rfl, by rw [PyData.depthAll]; exact Nat.max_le.mpr ⟨a3, b3⟩, ?_⟩
    rw [PyData.bulkAll, List.length_cons, Nat.add_mul]
    omega
theorem Gd.list {d b : Nat} {xs : List PD} (h : ∀ x ∈ xs, Gd d b x) : Gd (d + 1) (xs.length * (b + 1)) (.list xs) := by
  obtain ⟨b1, b2, b3, b4⟩ := Gd.all h
  exact ⟨by rw [PyData.showable]; exact b1, by rw [PyData.canLay0]; exact b2, by rw [PyData.depth]; omega, by rw [PyData.bulk]; exact b4⟩
theorem Gd.tuple {d b : Nat} {xs : List PD} (h : ∀ x ∈ xs, Gd d b x) : Gd (d + 1) (xs.length * (b + 1)) (.tuple xs) := by
  obtain ⟨b1, b2, b3, b4⟩ := Gd.all h
  exact ⟨by rw [PyData.showable]; exact b1, by rw [PyData.canLay0]; exact b2, by rw [PyData.depth]; omega, by rw [PyData.bulk]; exact b4⟩
mutual
theorem short_of : ∀ x : PD, x.showable = true → x.intsShort 1921 = true
  | .none, _ => by rw [PyData.intsShort]
  | .bool _, _ => by rw [PyData.intsShort]
  | .str _, _ => by rw [PyData.intsShort]
  | .dict _, _ => by rw [PyData.intsShort]
  | .int i, h => by
    rw [PyData.showable] at h
    rw [PyData.intsShort]
    exact decide_eq_true (PyProof.Rows.int_text_len_1921 (of_decide_eq_true h))
  | .list xs, h => by
    rw [PyData.showable] at h
    rw [PyData.intsShort]
    exact shorts_of xs h
  | .tuple xs, h => by
    rw [PyData.showable] at h
    rw [PyData.intsShort]
    exact shorts_of xs h
theorem shorts_of : ∀ xs : List PD, PyData.showableAll xs = true → PyData.intsShortAll 1921 xs = true
  | [], _ => by rw [PyData.intsShortAll]
  | x :: xs, h => by
    rw [PyData.showableAll, Bool.and_eq_true] at h
    rw [PyData.intsShortAll, short_of x h.1, shorts_of xs h.2]
    rfl
end
theorem Gd.len {d b : Nat} {x : PD} (h : Gd d b x) (hb : b ≤ 8000) : x.shown.length ≤ LIM := by
  have := PyData.shown_le_bulk 1921 (by decide) x (PyData.leavesShort_of_canLay0 1921 x h.2.1 (short_of x h.1))
  have := h.2.2.2
  have hL : LIM = 16777216 := rfl
  rw [hL]
  omega
theorem Gd.shaped {d b : Nat} {x : PD} (h : Gd d b x) (hd : d ≤ 64) : SeqAt.shaped x = true := by
  unfold SeqAt.shaped
  rw [h.2.1, decide_eq_true (Nat.le_trans h.2.2.1 hd)]
  rfl
theorem eqD_self {x : PD} (h : SeqAt.shaped x = true) : eqD x x = some true := by
  cases x with
  | int i => simp [eqD]
  | _ => simp [eqD, h, SeqAt.eqv_refl _ (SeqAt.canLay_of_shaped h)]
/-! ### the laws' own small defs -/
def alikeB : S :=
 (.seq (.ret (.and (.cmp .eq (.bi .repr (.cons (.var 0) .nil)) (.bi .repr (.cons (.var 1) .nil))) (.cmp .eq (.var 0) (.var 1))))
 .skip)
theorem alike_ok {P : Pg} {i k d b : Nat} {x : PD} {s : Sto} (hP : P.fns[i]? = some ⟨2, 2, alikeB⟩) (h : Gd d b x) (hd : d ≤ 64) (hb : b ≤ 8000) : runF P (k + 1) i [.d x, .d x] s = .ok (.d (.bool true)) s := by
  have hs := h.shaped hd
  have hr : bi .repr [x] = some (.str x.shown) := by
    show (if _ then _ else _) = _
    rw [if_pos]
    rw [h.1, hs, decide_eq_true (h.len hb)]
    rfl
  refine run_ret (s1 := s) hP rfl rfl (st_end (st_ret (ev_andT (ev_cmp (k := true) (ev_bi (ev_cons rfl ev_nil) rfl hr) (ev_bi (ev_cons rfl ev_nil) rfl hr) ?_) (ev_cmp (k := true) rfl rfl (eqD_self hs)))))
  show some (decide _) = _
  rw [decide_eq_true rfl]
def bagB : S :=
 (.seq (.ret (.newl (.cons (.cst (.int 0)) (.cons (.cst (.int 1234567891)) (.cons (.cst (.int 0)) (.cons (.comp false (.bi .abs (.cons (.var 1) .nil)) (.nm 1) (.sl (.var 0) .nil (.cst (.int 63))) (.cst (.bool true)) [1]) .nil))))))
 .skip)
theorem cut_all {α : Type} (l : List α) (h : l.length ≤ 63) : cutL l none (some 63) = l := by
  have e1 : _root_.HT.sIx l.length 0 none = 0 := rfl
  have e2 : _root_.HT.sIx l.length l.length (some 63) = l.length := by
    show (if (63 : Int) < 0 then ((63 : Int) + (l.length : Int)).toNat else min (63 : Int).toNat l.length) = _
    rw [if_neg (by decide)]
    show min 63 l.length = l.length
    omega
  unfold cutL
  rw [e1, e2, List.drop_zero, Nat.sub_zero, List.take_length]
theorem bag_ok {P : Pg} {i k : Nat} {ns : List Int} (hP : P.fns[i]? = some ⟨1, 2, bagB⟩) (hl : ns.length ≤ 63) : ∃ l, Bag 0 l ∧ runF P (k + 1) i [.d (.list (ns.map .int))] [] = .ok (.ref 0) [.lst l] := by
  refine ⟨bagL 0 1234567891 0 (ns.map fun n => if n < 0 then -n else n), ⟨_, _, _, _, rfl, by decide, by decide, by decide, by decide, by decide, by rw [List.length_map]; exact hl, fun c hc => ?_⟩, ?_⟩
  · obtain ⟨n, _, rfl⟩ := List.mem_map.mp hc
    split <;> omega
  · rw [run_eq hP rfl]
    have e : evS (cx P k) bagB (startE ⟨1, 2, bagB⟩ [.d (.list (ns.map .int))]) [] = .ret (.ref 0) [.lst (bagL 0 1234567891 0 (ns.map fun n => if n < 0 then -n else n))] := by
      refine st_end (st_ret (ev_newl (s1 := []) (xs := bagL 0 1234567891 0 (ns.map fun n => if n < 0 then -n else n)) (ev_cons rfl (ev_cons rfl (ev_cons rfl (ev_cons (ev_mapG ns .int (fun n => .int (if n < 0 then -n else n)) (s1 := []) (g := []) ?_ rfl (lim10 (by omega)) fun x hx => ⟨_, rfl, rfl⟩) ev_nil)))) ?_ (limb rfl)))
      · show Rs.ok (cutL (ns.map PyData.int) none (some 63), []) [] = _
        rw [cut_all _ (by rw [List.length_map]; exact hl)]
      · show some [_, _, _, PyData.list _] = _
        rw [bagL, List.map_map]
        rfl
    rw [e]
    rfl
def someB (ti : Nat) : S :=
 (.seq (.ret (.ix (.var 1) (.call ti (.cons (.var 0) (.cons (.bi .len (.cons (.var 1) .nil)) .nil)))))
 .skip)
theorem atI_nat {α : Type} (l : List α) (r : Int) (h0 : 0 ≤ r) (h : r < l.length) : L2.atI l r = l[r.toNat]? := by
  unfold L2.atI L2.ixN
  rw [if_pos h0, if_pos h]
  rfl
theorem some_ok {P : Pg} {i ti k t : Nat} {l : List PD} {rest : Sto} {xs : List PD} (hP : P.fns[i]? = some ⟨2, 2, someB ti⟩) (hT : P.fns[ti]? = some ⟨2, 7, takeB⟩) (hb : Bag t l) (ht : t < 1000000000) (h0 : xs ≠ []) (hm : xs.length < 1000000) :
    ∃ (x : PD) (l' : List PD), x ∈ xs ∧ Bag (t + 1) l' ∧ runF P (k + 2) i [.ref 0, .d (.list xs)] (.lst l :: rest) = .ok (.d x) (.lst l' :: rest) := by
  have hl : 0 < xs.length := List.length_pos_iff.mpr h0
  obtain ⟨r, l', h1, h2, h3, h4⟩ := take_ok (k := k) (rest := rest) (many := (xs.length : Int)) hT hb ht (by omega) (Sm.lt (n := 1000000) (by omega) (by decide +kernel))
  have hr : r.toNat < xs.length := by omega
  refine ⟨xs[r.toNat], l', List.getElem_mem hr, h3, ?_⟩
  refine run_ret (s1 := .lst l' :: rest) hP rfl rfl (st_end (st_ret (ev_ix (w := .d (.list xs)) (w2 := .d (.int r)) rfl (ev_call (ev_cons (w := .ref 0) rfl (ev_cons (w := .d (.int xs.length)) rfl ev_nil)) h4) rfl rfl ?_)))
  show L2.atI xs r = _
  rw [atI_nat xs r h1 h2]
  exact List.getElem?_eq_getElem hr
end Mini

set_option Elab.async false
set_option linter.all false
set_option maxRecDepth 100000
set_option maxHeartbeats 2000000
/-! Mini, part W: what an evaluation must fulfil, step by step. -/
namespace Mini
open PySem
structure wE (F : Fe) (e : E) (v : En) (s : Sto) (K : W → Sto → Prop) : Prop where
  out : ∃ w s', evE F e v s = .ok w s' ∧ K w s'
structure wL (F : Fe) (es : E) (v : En) (s : Sto) (K : List W → Sto → Prop) : Prop where
  out : ∃ ws s', evL F es v s = .ok ws s' ∧ K ws s'
structure wC (F : Fe) (f : Nat) (ws : List W) (s : Sto) (K : W → Sto → Prop) : Prop where
  out : ∃ w s', F.call f ws s = .ok w s' ∧ K w s'
structure wS (F : Fs) (A : S) (v : En) (s : Sto) (Q : Out → Prop) : Prop where
  out : Q (evS F A v s)
structure kIf (x : W) (A B : Prop) : Prop where
  out : ∃ k : Bool, x = .d (.bool k) ∧ (k = true → A) ∧ (k = false → B)
structure kBin (o : O2) (x y : W) (s : Sto) (K : W → Sto → Prop) : Prop where
  out : ∃ r, ((view s x).bind fun x => (view s y).bind fun y => bin2 o x y) = some r ∧ K (.d r) s
structure kCmp (o : Cm) (x y : W) (s : Sto) (K : W → Sto → Prop) : Prop where
  out : ∃ r, ((view s x).bind fun x => (view s y).bind fun y => cmp2 o x y) = some r ∧ K (.d (.bool r)) s
structure kUn (f : PD → Option PD) (x : W) (s : Sto) (K : W → Sto → Prop) : Prop where
  out : ∃ r, ((view s x).bind f) = some r ∧ K (.d r) s
structure kMk (f : List PD → PD) (ws : List W) (s : Sto) (K : W → Sto → Prop) : Prop where
  out : ∃ xs, pures ws = some xs ∧ xs.length ≤ LIM ∧ K (.d (f xs)) s
structure kNew (ws : List W) (s : Sto) (K : W → Sto → Prop) : Prop where
  out : ∃ xs, pures ws = some xs ∧ xs.length ≤ LIM ∧ K (.ref s.length) (s ++ [.lst xs])
structure kBi (b : Bi) (ws : List W) (s : Sto) (K : W → Sto → Prop) : Prop where
  out : ∃ z, ((datas s ws).bind fun xs => bi b xs) = some z ∧ K (.d z) s
structure kIx (x y : W) (s : Sto) (K : W → Sto → Prop) : Prop where
  out : ∃ r, ((view s x).bind fun x => (view s y).bind fun y => ixD x y) = some r ∧ K (.d r) s
structure kMeth (m : Me) (x : W) (ws : List W) (s : Sto) (K : W → Sto → Prop) : Prop where
  out : ∃ n p, x = .ref n ∧ ((methArgs m ws s).bind fun xs => meth m n xs s) = some p ∧ K (.d p.1) p.2
structure kLst (x : W) (s : Sto) (A : Prop) : Prop where
  out : ∃ n, x = .ref n ∧ isLst s n = true ∧ A
structure kWalk (x : W) (s : Sto) (K : List PD → List (Nat × List PD) → Sto → Prop) : Prop where
  out : match dictAt s x with
    | some p => K (p.2.map (·.1)) [] (freeze s x)
    | none => ∃ l, ((view s x).bind itemsD) = some l ∧ K l (guardOf x s) s
structure kDict (x : W) (s : Sto) (K : Bool → List (PD × PD) → Prop) : Prop where
  out : ∃ n kvs, dictAt s x = some (n, kvs) ∧ K n kvs
structure kSrt (x : W) (s : Sto) (K : W → Sto → Prop) : Prop where
  out : ∃ l, ((srcD s x).bind sortD) = some l ∧ K (.d (.list l)) s
structure kPut (t : Tg) (w : W) (s : Sto) (v : En) (Q : Out → Prop) : Prop where
  out : ∃ v1, putT t w s v = some v1 ∧ Q (.nx v1 s)
structure qSeq (F : Fs) (B : S) (Q : Out → Prop) (o : Out) : Prop where
  out : match o with | .nx v s => wS F B v s Q | o => Q o
structure qRet (N : Nat) (K : W → Sto → Prop) (o : Out) : Prop where
  out : ∃ w s', fin N o = .ok w s' ∧ K w s'
section
variable {F : Fe} {a b c es : E} {v : En} {s s1 s2 s3 : Sto} {x y z : PD} {w w2 : W} {ws : List W} {K : W → Sto → Prop} {KL : List W → Sto → Prop}
/-! ### expressions -/
theorem wE.of (h : evE F a v s = .ok w s1) (k : K w s1) : wE F a v s K := ⟨_, _, h, k⟩
theorem wE.imp {K' : W → Sto → Prop} (h : wE F a v s K) (k : ∀ w s, K w s → K' w s) : wE F a v s K' := by
  obtain ⟨w, s1, e, h⟩ := h.out
  exact ⟨w, s1, e, k _ _ h⟩
theorem wE.ev {w : W} (h : wE F a v s (fun w' s' => w' = w ∧ s' = s1)) : evE F a v s = .ok w s1 := by
  obtain ⟨w, s1, e, rfl, rfl⟩ := h.out
  exact e
theorem wE_var {i : Nat} (h : v[i]? = some (some w)) (k : K w s) : wE F (.var i) v s K := ⟨_, _, by rw [evE, h], k⟩
theorem wE_cst {d : PD} (k : K (.d d) s) : wE F (.cst d) v s K := ⟨_, _, by rw [evE], k⟩
theorem wE_fn {i : Nat} (k : K (.fn i) s) : wE F (.fn i) v s K := ⟨_, _, by rw [evE], k⟩
theorem wE_glob {i : Nat} {d : PD} (h : F.glob i = some d) (k : K (.d d) s) : wE F (.glob i) v s K := ⟨_, _, by rw [evE, h]; rfl, k⟩
theorem wL_nil (k : KL [] s) : wL F .nil v s KL := ⟨_, _, rfl, k⟩
theorem wL_cons (h : wE F a v s fun x s1 => wL F es v s1 fun xs s2 => KL (x :: xs) s2) : wL F (.cons a es) v s KL := by
  obtain ⟨w, s1, e1, h⟩ := h.out
  obtain ⟨ws, s2, e2, h⟩ := h.out
  exact ⟨_, _, ev_cons e1 e2, h⟩
theorem wE_bin {o : O2} (h : wE F a v s fun x s1 => wE F b v s1 fun y s2 => kBin o x y s2 K) : wE F (.bin o a b) v s K := by
  obtain ⟨w, s1, e1, h⟩ := h.out
  obtain ⟨w2, s2, e2, h⟩ := h.out
  obtain ⟨r, e, h⟩ := h.out
  refine ⟨_, _, ?_, h⟩
  rw [evE, e1, bin2R, Rs.bind_ok, e2, Rs.bind_ok]
  cases hx : view s2 w with
  | none => rw [hx] at e; cases e
  | some x =>
    rw [hx] at e
    cases hy : view s2 w2 with
    | none => rw [hy] at e; cases e
    | some y =>
      rw [hy] at e
      have e : bin2 o x y = some r := e
      rw [Option.bind_some, Option.bind_some, e]
      rfl
theorem wE_cmp {o : Cm} (h : wE F a v s fun x s1 => wE F b v s1 fun y s2 => kCmp o x y s2 K) : wE F (.cmp o a b) v s K := by
  obtain ⟨w, s1, e1, h⟩ := h.out
  obtain ⟨w2, s2, e2, h⟩ := h.out
  obtain ⟨r, e, h⟩ := h.out
  refine ⟨_, _, ?_, h⟩
  rw [evE, e1, cmpR, Rs.bind_ok, e2, Rs.bind_ok, e]
  rfl
theorem wE_ix (h : wE F a v s fun x s1 => wE F b v s1 fun y s2 => kIx x y s2 K) : wE F (.ix a b) v s K := by
  obtain ⟨w, s1, e1, h⟩ := h.out
  obtain ⟨w2, s2, e2, h⟩ := h.out
  obtain ⟨r, e, h⟩ := h.out
  refine ⟨_, _, ?_, h⟩
  rw [evE, e1, ixR, Rs.bind_ok, e2, Rs.bind_ok, e]
  rfl
theorem un_out {f : PD → Option PD} {r : Rs W} (e1 : r = .ok w s1) (h : kUn f w s1 K) : ∃ w s', un1R f r = .ok w s' ∧ K w s' := by
  obtain ⟨z, e, h⟩ := h.out
  refine ⟨_, _, ?_, h⟩
  rw [e1, un1R, Rs.bind_ok]
  cases hx : view s1 w with
  | none => rw [hx] at e; cases e
  | some x =>
    rw [hx] at e
    have e : f x = some z := e
    rw [Option.bind_some, e]
    rfl
theorem wE_neg (h : wE F a v s fun x s1 => kUn negD x s1 K) : wE F (.neg a) v s K := by
  obtain ⟨w, s1, e1, h⟩ := h.out
  have := un_out e1 h
  exact ⟨by rw [evE]; exact this⟩
theorem wE_rev (h : wE F a v s fun x s1 => kUn revD x s1 K) : wE F (.rev a) v s K := by
  obtain ⟨w, s1, e1, h⟩ := h.out
  have := un_out e1 h
  exact ⟨by rw [evE]; exact this⟩
theorem wE_isi {t : Ty} (h : wE F a v s fun x s1 => kUn (fun x => (isD t x).map .bool) x s1 K) : wE F (.isi a t) v s K := by
  obtain ⟨w, s1, e1, h⟩ := h.out
  have := un_out e1 h
  exact ⟨by rw [evE]; exact this⟩
theorem wE_not (h : wE F a v s fun x s1 => kIf x (K (.d (.bool false)) s1) (K (.d (.bool true)) s1)) : wE F (.not a) v s K := by
  obtain ⟨w, s1, e1, h⟩ := h.out
  obtain ⟨k, rfl, hT, hF⟩ := h.out
  cases k
  · exact ⟨_, _, ev_not e1, hF rfl⟩
  · exact ⟨_, _, ev_not e1, hT rfl⟩
/-- .. and the truth is kept as one term -/
theorem wE_notB (h : wE F a v s fun x s1 => ∃ k : Bool, x = .d (.bool k) ∧ K (.d (.bool (!k))) s1) : wE F (.not a) v s K := by
  obtain ⟨w, s1, e1, k, rfl, h⟩ := h.out
  exact ⟨_, _, ev_not e1, h⟩
theorem wE_and (h : wE F a v s fun x s1 => kIf x (wE F b v s1 K) (K (.d (.bool false)) s1)) : wE F (.and a b) v s K := by
  obtain ⟨w, s1, e1, h⟩ := h.out
  obtain ⟨k, rfl, hT, hF⟩ := h.out
  cases k
  · exact ⟨_, _, ev_andF e1, hF rfl⟩
  · obtain ⟨w, s2, e2, h⟩ := (hT rfl).out
    exact ⟨_, _, ev_andT e1 e2, h⟩
theorem wE_andB {p q : Bool} (ha : wE F a v s fun x s1 => x = .d (.bool p) ∧ s1 = s) (hb : p = true → wE F b v s fun x s1 => x = .d (.bool q) ∧ s1 = s) (k : K (.d (.bool (p && q))) s) : wE F (.and a b) v s K := by
  cases p
  · exact ⟨_, _, ev_andF ha.ev, k⟩
  · exact ⟨_, _, ev_andT ha.ev (hb rfl).ev, k⟩
theorem wE_orB {p q : Bool} (ha : wE F a v s fun x s1 => x = .d (.bool p) ∧ s1 = s) (hb : p = false → wE F b v s fun x s1 => x = .d (.bool q) ∧ s1 = s) (k : K (.d (.bool (p || q))) s) : wE F (.or a b) v s K := by
  cases p
  · exact ⟨_, _, ev_orF ha.ev (hb rfl).ev, k⟩
  · exact ⟨_, _, ev_orT ha.ev, k⟩
theorem wE_or (h : wE F a v s fun x s1 => kIf x (K (.d (.bool true)) s1) (wE F b v s1 K)) : wE F (.or a b) v s K := by
  obtain ⟨w, s1, e1, h⟩ := h.out
  obtain ⟨k, rfl, hT, hF⟩ := h.out
  cases k
  · obtain ⟨w, s2, e2, h⟩ := (hF rfl).out
    exact ⟨_, _, ev_orF e1 e2, h⟩
  · exact ⟨_, _, ev_orT e1, hT rfl⟩
theorem wE_ife (h : wE F c v s fun x s1 => kIf x (wE F a v s1 K) (wE F b v s1 K)) : wE F (.ife c a b) v s K := by
  obtain ⟨w, s1, e1, h⟩ := h.out
  obtain ⟨k, rfl, hT, hF⟩ := h.out
  cases k
  · obtain ⟨w, s2, e2, h⟩ := (hF rfl).out
    exact ⟨_, _, ev_iteF e1 e2, h⟩
  · obtain ⟨w, s2, e2, h⟩ := (hT rfl).out
    exact ⟨_, _, ev_iteT e1 e2, h⟩
theorem wE_tup (h : wL F es v s fun ws s1 => kMk PyData.tuple ws s1 K) : wE F (.tup es) v s K := by
  obtain ⟨ws, s1, e1, h⟩ := h.out
  obtain ⟨xs, e, hl, h⟩ := h.out
  exact ⟨_, _, ev_tup e1 e hl, h⟩
theorem wE_lst (h : wL F es v s fun ws s1 => kMk PyData.list ws s1 K) : wE F (.lst es) v s K := by
  obtain ⟨ws, s1, e1, h⟩ := h.out
  obtain ⟨xs, e, hl, h⟩ := h.out
  exact ⟨_, _, ev_lst e1 e hl, h⟩
theorem wE_newl (h : wL F es v s fun ws s1 => kNew ws s1 K) : wE F (.newl es) v s K := by
  obtain ⟨ws, s1, e1, h⟩ := h.out
  obtain ⟨xs, e, hl, h⟩ := h.out
  exact ⟨_, _, ev_newl e1 e hl, h⟩
theorem wE_call {f : Nat} (h : wL F es v s fun ws s1 => wC F f ws s1 K) : wE F (.call f es) v s K := by
  obtain ⟨ws, s1, e1, h⟩ := h.out
  obtain ⟨w, s2, e2, h⟩ := h.out
  exact ⟨_, _, ev_call e1 e2, h⟩
theorem wE_callv {i f : Nat} (hv : v[i]? = some (some (.fn f))) (h : wL F es v s fun ws s1 => wC F f ws s1 K) : wE F (.callv i es) v s K := by
  obtain ⟨ws, s1, e1, h⟩ := h.out
  obtain ⟨w, s2, e2, h⟩ := h.out
  refine ⟨_, _, ?_, h⟩
  rw [evE, hv]
  show Rs.bind (evL F es v s) _ = _
  rw [e1, Rs.bind_ok, e2]
theorem wE_bi {f : Bi} (h : wL F es v s fun ws s1 => kBi f ws s1 K) : wE F (.bi f es) v s K := by
  obtain ⟨ws, s1, e1, h⟩ := h.out
  obtain ⟨z, e, h⟩ := h.out
  refine ⟨_, _, ?_, h⟩
  cases hd : datas s1 ws with
  | none => rw [hd] at e; cases e
  | some xs =>
    rw [hd] at e
    exact ev_bi e1 hd e
theorem wE_meth {m : Me} (h : wE F a v s fun x s1 => kLst x s1 (wL F es v s1 fun ws s2 => kMeth m x ws s2 K)) : wE F (.meth m a es) v s K := by
  obtain ⟨x, s1, e1, h⟩ := h.out
  obtain ⟨n', rfl, hl, h⟩ := h.out
  obtain ⟨ws, s2, e2, h⟩ := h.out
  obtain ⟨n, p, he, e, h⟩ := h.out
  cases he
  refine ⟨_, _, ?_, h⟩
  rw [evE, e1, methR, Rs.bind_ok, methOn, if_pos hl, e2, Rs.bind_ok, methGo, e]
theorem kLst_of {n : Nat} {A : Prop} (h : isLst s n = true) (k : A) : kLst (.ref n) s A := ⟨n, rfl, h, k⟩
/-! dicts -/
theorem wE_newd {n : Bool} (k : K (.ref s.length) (s ++ [.dct n false []])) : wE F (.newd n) v s K := ⟨_, _, by rw [evE], k⟩
theorem wE_dget (h : wE F a v s fun x s1 => (dictAt s1 x).isSome = true ∧ wE F b v s1 fun y s2 => wE F c v s2 fun z s3 => ∃ r, getR s3 x y z = some r ∧ K r s3) : wE F (.dget a b c) v s K := by
  obtain ⟨x, s1, e1, hd, h⟩ := h.out
  obtain ⟨y, s2, e2, h⟩ := h.out
  obtain ⟨z, s3, e3, r, e, h⟩ := h.out
  refine ⟨_, _, ?_, h⟩
  rw [evE, dgetR, e1, Rs.bind_ok, if_pos hd, e2, Rs.bind_ok, e3, Rs.bind_ok, e]
  rfl
theorem wE_items (h : wE F a v s fun x s1 => kDict x s1 fun n kvs => K (.d (.list (kvs.map fun q => .tuple [q.1, q.2]))) (freeze s1 x)) : wE F (.items a) v s K := by
  obtain ⟨x, s1, e1, h⟩ := h.out
  obtain ⟨n, kvs, e, h⟩ := h.out
  refine ⟨_, _, ?_, h⟩
  rw [evE, itemsR, e1, Rs.bind_ok, e]
theorem wE_srt (h : wE F a v s fun x s1 => kSrt x s1 K) : wE F (.srt a) v s K := by
  obtain ⟨x, s1, e1, h⟩ := h.out
  obtain ⟨l, e, h⟩ := h.out
  refine ⟨_, _, ?_, h⟩
  rw [evE, srtR, e1, Rs.bind_ok, e]
  rfl
/-- d[k] -/
theorem kIx_d {n : Bool} {kvs : List (PD × PD)} {k r : PD} (hd : dictAt s w = some (n, kvs)) (hk : okKey n k = true) (hl : lookD kvs k = some r) (h : K (.d r) s) : wE F (.ix (.var 0) (.var 1)) [some w, some (.d k)] s K := by
  refine ⟨_, _, ?_, h⟩
  have hv : view s w = none := by
    cases w with
    | ref m =>
      have hd : (match s[m]? with | some (.dct m fz kvs) => some (m, kvs) | _ => none) = some (n, kvs) := hd
      cases q : s[m]? with
      | none => rw [q] at hd; cases hd
      | some o =>
        rw [q] at hd
        cases o with
        | lst _ => cases hd
        | gone => cases hd
        | dct _ _ _ => show (match s[m]? with | some (.lst xs) => some (PyData.list xs) | some (.dct _ _ _) => none | some .gone => none | none => none) = none; rw [q]
    | _ => cases hd
  rw [evE, ixR]
  show Rs.of ((((view s w).bind fun x => (view s (.d k)).bind fun y => ixD x y) <|> dixD s w (.d k)).map W.d) s = _
  rw [hv, dixD, hd]
  show Rs.of ((if okKey n k = true then lookD kvs k else none).map W.d) s = _
  rw [if_pos hk, hl]
  rfl
theorem endOf_nil : endOf .nil (evE F .nil v) s = .ok none s := rfl
structure kEnd (F : Fe) (e : E) (v : En) (s : Sto) (K : Option Int → Sto → Prop) : Prop where
  out : ∃ o s', endOf e (evE F e v) s = .ok o s' ∧ K o s'
theorem kEnd_nil {K : Option Int → Sto → Prop} (k : K none s) : kEnd F .nil v s K := ⟨_, _, rfl, k⟩
structure kInt (x : W) (K : Int → Prop) : Prop where
  out : ∃ i, x = .d (.int i) ∧ K i
theorem kInt_of {i : Int} {K : Int → Prop} (k : K i) : kInt (.d (.int i)) K := ⟨i, rfl, k⟩
theorem kEnd_of {K : Option Int → Sto → Prop} (he : a ≠ .nil) (h : wE F a v s fun x s1 => kInt x fun i => K (some i) s1) : kEnd F a v s K := by
  obtain ⟨w, s1, e, h⟩ := h.out
  obtain ⟨i, rfl, hk⟩ := h.out
  refine ⟨_, _, ?_, hk⟩
  unfold endOf
  cases a with
  | nil => exact absurd rfl he
  | _ => simp only [e]; rfl
theorem wE_sl (h : wE F a v s fun x s1 => kEnd F b v s1 fun l s2 => kEnd F c v s2 fun u s3 => kUn (fun x => slD x l u) x s3 K) : wE F (.sl a b c) v s K := by
  obtain ⟨w, s1, e1, h⟩ := h.out
  obtain ⟨l, s2, e2, h⟩ := h.out
  obtain ⟨u, s3, e3, h⟩ := h.out
  obtain ⟨r, e, h⟩ := h.out
  refine ⟨_, _, ?_, h⟩
  rw [evE, e1, slR, Rs.bind_ok, e2, Rs.bind_ok, e3, Rs.bind_ok]
  cases hx : view s3 w with
  | none => rw [hx] at e; cases e
  | some x =>
    rw [hx] at e
    have e : slD x l u = some r := e
    rw [Option.bind_some, e]
    rfl
theorem wE_rng1 {n : Nat} (h : wE F a v s fun x s1 => x = .d (.int n) ∧ s1 = s) (hn : n ≤ 1000000) (k : K (.d (.list ((List.range n).map fun (i : Nat) => .int (i : Int)))) s) : wE F (.rng (.cons a .nil)) v s K := by
  have e := ev_cons h.ev ev_nil
  refine ⟨_, _, ?_, k⟩
  rw [evE, e, rngR, Rs.bind_ok]
  have e3 : datas s [.d (.int n)] = some [.int n] := rfl
  have e4 : rangeD 0 n = some ((List.range n).map fun (i : Nat) => .int (i : Int)) := by
    have c : -(2 ^ 62) ≤ (0 : Int) ∧ (0 : Int) < 2 ^ 62 ∧ -(2 ^ 62) ≤ (n : Int) ∧ (n : Int) < 2 ^ 62 := by omega
    unfold rangeD
    rw [if_pos c, Int.sub_zero, Int.toNat_natCast]
    simp only [Int.zero_add]
  rw [e3, Option.bind_some]
  simp only [e4, Option.map_some]
  rfl
theorem wE_rng2 {m n : Int} (h : wL F es v s fun xs s1 => xs = [.d (.int m), .d (.int n)] ∧ s1 = s) (hm : m.natAbs ≤ 1000000000) (hn : n.natAbs ≤ 1000000000) (k : K (.d (.list ((List.range (n - m).toNat).map fun (i : Nat) => .int (m + i)))) s) : wE F (.rng es) v s K := by
  obtain ⟨ws, s1, e, rfl, rfl⟩ := h.out
  refine ⟨_, _, ?_, k⟩
  rw [evE, e, rngR, Rs.bind_ok]
  have e3 : datas s1 [.d (.int m), .d (.int n)] = some [.int m, .int n] := rfl
  have e4 : rangeD m n = some ((List.range (n - m).toNat).map fun (i : Nat) => .int (m + i)) := by
    have c : -(2 ^ 62) ≤ m ∧ m < 2 ^ 62 ∧ -(2 ^ 62) ≤ (n : Int) ∧ (n : Int) < 2 ^ 62 := by omega
    unfold rangeD
    rw [if_pos c]
  rw [e3, Option.bind_some]
  simp only [e4, Option.map_some]
  rfl
theorem wE_lrng1 {n : Int} (h : wE F a v s fun x s1 => x = .d (.int n) ∧ s1 = s) (hn : n.natAbs ≤ 1000000) (k : K (.d (.list ((List.range n.toNat).map fun (i : Nat) => .int (i : Int)))) s) : wE F (.lrng (.cons a .nil)) v s K := by
  have e := ev_cons h.ev ev_nil
  refine ⟨_, _, ?_, k⟩
  rw [evE, e, lrngR, Rs.bind_ok]
  have e3 : datas s [.d (.int n)] = some [.int n] := rfl
  have hL : LIM = 16777216 := rfl
  have e4 : rangeD 0 n = some ((List.range n.toNat).map fun (i : Nat) => .int (i : Int)) := by
    have c : -(2 ^ 62) ≤ (0 : Int) ∧ (0 : Int) < 2 ^ 62 ∧ -(2 ^ 62) ≤ n ∧ n < 2 ^ 62 := by omega
    unfold rangeD
    rw [if_pos c, Int.sub_zero]
    simp only [Int.zero_add]
  rw [e3, Option.bind_some]
  show Rs.of (if n ≤ LIM then (rangeD 0 n).map fun l => W.d (.list l) else none) s = _
  rw [if_pos (by omega), e4]
  rfl
theorem wE_lrng2 {m n : Int} (h : wL F es v s fun xs s1 => xs = [.d (.int m), .d (.int n)] ∧ s1 = s) (hm : m.natAbs ≤ 1000000) (hn : n.natAbs ≤ 1000000) (k : K (.d (.list ((List.range (n - m).toNat).map fun (i : Nat) => .int (m + i)))) s) : wE F (.lrng es) v s K := by
  obtain ⟨ws, s1, e, rfl, rfl⟩ := h.out
  refine ⟨_, _, ?_, k⟩
  rw [evE, e, lrngR, Rs.bind_ok]
  have e3 : datas s1 [.d (.int m), .d (.int n)] = some [.int m, .int n] := rfl
  have hL : LIM = 16777216 := rfl
  have e4 : rangeD m n = some ((List.range (n - m).toNat).map fun (i : Nat) => .int (m + i)) := by
    have c : -(2 ^ 62) ≤ m ∧ m < 2 ^ 62 ∧ -(2 ^ 62) ≤ (n : Int) ∧ (n : Int) < 2 ^ 62 := by omega
    unfold rangeD
    rw [if_pos c]
  rw [e3, Option.bind_some]
  show Rs.of (if n - m ≤ LIM then (rangeD m n).map fun l => W.d (.list l) else none) s1 = _
  rw [if_pos (by omega), e4]
  rfl
theorem wE_frz (h : wE F a v s fun w s1 => (∃ x, w = .d x ∧ K (.d x) s1) ∨ ∃ m xs, w = .ref m ∧ s.length ≤ m ∧ s1[m]? = some (.lst xs) ∧ K (.d (.list xs)) (s1.take s.length)) : wE F (.frz a) v s K := by
  obtain ⟨w, s1, e1, h⟩ := h.out
  rcases h with ⟨x, rfl, k⟩ | ⟨m, xs, rfl, hm, hx, k⟩
  · refine ⟨_, _, ?_, k⟩
    rw [evE, frzR, e1, Rs.bind_ok]
  · refine ⟨_, _, ?_, k⟩
    rw [evE, frzR, e1, Rs.bind_ok]
    show (if s.length ≤ m then match s1[m]? with | some (.lst xs) => Rs.ok (W.d (.list xs)) (s1.take s.length) | _ => .stuck else .stuck) = _
    rw [if_pos hm, hx]
/-- xs.index(x) -/
theorem wE_index (h : wE F a v s fun x s1 => lstW s1 x = true ∧ wL F es v s1 fun ws s2 => ∃ p y z, view s2 x = some p ∧ datas s2 ws = some [y] ∧ idxD p y = some z ∧ K (.d z) s2) : wE F (.index a es) v s K := by
  obtain ⟨x, s1, e1, hl, h⟩ := h.out
  obtain ⟨ws, s2, e2, p, y, z, h1, h2, h3, k⟩ := h.out
  refine ⟨_, _, ?_, k⟩
  rw [evE, idxR, e1, Rs.bind_ok, if_pos hl, e2, Rs.bind_ok, h1, h2]
  show Rs.of ((idxD p y).map W.d) s2 = _
  rw [h3]
  rfl
theorem wE_zip (h : wE F a v s fun x s1 => wE F b v s1 fun y s2 => ∃ p q l, x = .d p ∧ y = .d q ∧ zipD p q = some l ∧ K (.d (.list l)) s2) : wE F (.zip a b) v s K := by
  obtain ⟨w, s1, e1, h⟩ := h.out
  obtain ⟨w2, s2, e2, p, q, l, rfl, rfl, e, h⟩ := h.out
  refine ⟨_, _, ?_, h⟩
  rw [evE, e1, zipR, Rs.bind_ok, e2, Rs.bind_ok]
  show Rs.of ((zipD p q).map _) s2 = _
  rw [e]
  rfl
theorem wE_chain {o o' : Cm} {k k' : Bool} (ha : wE F a v s fun p s1 => p = .d x ∧ s1 = s) (hb : wE F b v s fun p s1 => p = .d y ∧ s1 = s) (hc : wE F c v s fun p s1 => p = .d z ∧ s1 = s) (h1 : cmp2 o x y = some k) (h2 : cmp2 o' y z = some k') (h : K (.d (.bool (k && k'))) s) : wE F (.chain o o' a b c) v s K := by
  refine ⟨_, _, ?_, h⟩
  rw [evE, ha.ev, chainR, Rs.bind_ok, hb.ev, Rs.bind_ok]
  show Rs.bind (Rs.of (cmp2 o x y) s) _ = _
  rw [h1]
  show (if k = true then _ else _) = _
  cases k
  · rfl
  · rw [if_pos rfl, hc.ev, Rs.bind_ok]
    show Rs.of ((cmp2 o' y z).map _) s = _
    rw [h2]
    rfl
/-! ### answers of one step -/
theorem kIf_T {A B : Prop} (h : A) : kIf (.d (.bool true)) A B := ⟨_, rfl, fun _ => h, fun h => nomatch h⟩
theorem kIf_F {A B : Prop} (h : B) : kIf (.d (.bool false)) A B := ⟨_, rfl, fun h => (nomatch h), fun _ => h⟩
theorem kIf_dec {p : Prop} [Decidable p] {A B : Prop} (h : p → A) (h' : ¬p → B) : kIf (.d (.bool (decide p))) A B := ⟨_, rfl, fun e => h (of_decide_eq_true e), fun e => h' (of_decide_eq_false e)⟩
theorem kIf_ndec {p : Prop} [Decidable p] {A B : Prop} (h : ¬p → A) (h' : p → B) : kIf (.d (.bool (!decide p))) A B := ⟨_, rfl, fun e => h (by simpa using e), fun e => h' (by simpa using e)⟩
theorem kIf_b {k : Bool} {A B : Prop} (h : k = true → A) (h' : k = false → B) : kIf (.d (.bool k)) A B := ⟨_, rfl, h, h'⟩
theorem kBin_add {i j : Int} (k : K (.d (.int (i + j))) s) : kBin .add (.d (.int i)) (.d (.int j)) s K := ⟨_, rfl, k⟩
theorem kBin_sub {i j : Int} (k : K (.d (.int (i - j))) s) : kBin .sub (.d (.int i)) (.d (.int j)) s K := ⟨_, rfl, k⟩
theorem kBin_mul {i j : Int} (hi : Sm i) (hj : Sm j) (k : K (.d (.int (i * j))) s) : kBin .mul (.d (.int i)) (.d (.int j)) s K := ⟨_, mul_ok hi hj, k⟩
theorem kBin_mod {i j : Int} (hj : 0 < j) (k : K (.d (.int (i % j))) s) : kBin .mod (.d (.int i)) (.d (.int j)) s K := ⟨_, mod_pos hj, k⟩
theorem kBin_fdiv {i j : Int} (hj : 0 < j) (hs : Sm j) (k : K (.d (.int (i / j))) s) : kBin .fdiv (.d (.int i)) (.d (.int j)) s K := ⟨_, fdiv_ok hj hs, k⟩
theorem kBin_addT {xs ys : List PD} (hl : xs.length + ys.length ≤ 1000000) (k : K (.d (.tuple (xs ++ ys))) s) : kBin .add (.d (.tuple xs)) (.d (.tuple ys)) s K := ⟨_, if_pos (Nat.le_trans hl (by decide)), k⟩
theorem kBin_addL {xs ys : List PD} (hl : xs.length + ys.length ≤ 1000000) (k : K (.d (.list (xs ++ ys))) s) : kBin .add (.d (.list xs)) (.d (.list ys)) s K := ⟨_, if_pos (Nat.le_trans hl (by decide)), k⟩
inductive Cat : List PD → List PD → List PD → Prop where
  | nil {ys : List PD} : Cat [] ys ys
  | cons {x : PD} {xs ys zs : List PD} (h : Cat xs ys zs) : Cat (x :: xs) ys (x :: zs)
theorem Cat.eq {xs ys zs : List PD} (h : Cat xs ys zs) : xs ++ ys = zs := by
  induction h with
  | nil => rfl
  | cons _ ih => rw [List.cons_append, ih]
theorem kBin_catT {xs ys zs : List PD} (h : Cat xs ys zs) (hl : zs.length ≤ 1000000) (k : K (.d (.tuple zs)) s) : kBin .add (.d (.tuple xs)) (.d (.tuple ys)) s K := by
  refine kBin_addT ?_ ?_
  · rw [← List.length_append, h.eq]; exact hl
  · rw [h.eq]; exact k
theorem kBin_catL {xs ys zs : List PD} (h : Cat xs ys zs) (hl : zs.length ≤ 1000000) (k : K (.d (.list zs)) s) : kBin .add (.d (.list xs)) (.d (.list ys)) s K := by
  refine kBin_addL ?_ ?_
  · rw [← List.length_append, h.eq]; exact hl
  · rw [h.eq]; exact k
theorem kBin_of {o : O2} {r : PD} (h : bin2 o x y = some r) (k : K (.d r) s) : kBin o (.d x) (.d y) s K := ⟨_, h, k⟩
theorem kBin_view {o : O2} {r : PD} (hx : view s w = some x) (hy : view s w2 = some y) (h : bin2 o x y = some r) (k : K (.d r) s) : kBin o w w2 s K := ⟨_, by rw [hx, hy]; exact h, k⟩
theorem kCmp_of {o : Cm} {k : Bool} (h : cmp2 o x y = some k) (hk : K (.d (.bool k)) s) : kCmp o (.d x) (.d y) s K := ⟨_, h, hk⟩
theorem kIx_of {r : PD} (h : ixD x y = some r) (hk : K (.d r) s) : kIx (.d x) (.d y) s K := ⟨_, h, hk⟩
theorem kUn_of {f : PD → Option PD} {r : PD} (h : f x = some r) (hk : K (.d r) s) : kUn f (.d x) s K := ⟨_, h, hk⟩
inductive Pur : List W → List PD → Prop where
  | nil : Pur [] []
  | cons {x : PD} {ws : List W} {xs : List PD} (h : Pur ws xs) : Pur (.d x :: ws) (x :: xs)
theorem Pur.eq {ws : List W} {xs : List PD} (h : Pur ws xs) : pures ws = some xs := by
  induction h with
  | nil => rfl
  | cons _ ih => rw [pures, ih]; rfl
inductive Dat (s : Sto) : List W → List PD → Prop where
  | nil : Dat s [] []
  | d {x : PD} {ws : List W} {xs : List PD} (h : Dat s ws xs) : Dat s (.d x :: ws) (x :: xs)
  | ref {n : Nat} {ys : List PD} {ws : List W} {xs : List PD} (e : s[n]? = some (.lst ys)) (h : Dat s ws xs) : Dat s (.ref n :: ws) (.list ys :: xs)
theorem Dat.eq {s : Sto} {ws : List W} {xs : List PD} (h : Dat s ws xs) : datas s ws = some xs := by
  induction h with
  | nil => rfl
  | d _ ih => rw [datas, ih]; rfl
  | ref e _ ih => rw [datas, ih, view, e]; rfl
theorem kMk_of {f : List PD → PD} {xs : List PD} (h : Pur ws xs) (hl : Nat.ble xs.length 1000 = true) (k : K (.d (f xs)) s) : kMk f ws s K := ⟨_, h.eq, limb hl, k⟩
theorem kNew_of {xs : List PD} (h : Pur ws xs) (hl : Nat.ble xs.length 1000 = true) (k : K (.ref s.length) (s ++ [.lst xs])) : kNew ws s K := ⟨_, h.eq, limb hl, k⟩
theorem kBi_of {f : Bi} {xs : List PD} (h : Dat s ws xs) (hb : bi f xs = some z) (k : K (.d z) s) : kBi f ws s K := ⟨_, by rw [h.eq]; exact hb, k⟩
theorem kWalk_list {l : List PD} {K : List PD → List (Nat × List PD) → Sto → Prop} (k : K l [] s) : kWalk (.d (.list l)) s K := ⟨_, rfl, k⟩
theorem kWalk_tuple {l : List PD} {K : List PD → List (Nat × List PD) → Sto → Prop} (k : K l [] s) : kWalk (.d (.tuple l)) s K := ⟨_, rfl, k⟩
theorem kWalk_dict {n : Bool} {kvs : List (PD × PD)} {K : List PD → List (Nat × List PD) → Sto → Prop} (hd : dictAt s w = some (n, kvs)) (k : K (kvs.map (·.1)) [] (freeze s w)) : kWalk w s K := ⟨by rw [hd]; exact k⟩
/-- append to a list of the store -/
theorem kMeth_app {n : Nat} {xs : List PD} {x : PD} {s' : Sto} (hs : s[n]? = some (.lst xs)) (hl : xs.length < 1000000) (hs' : s.set n (.lst (xs ++ [x])) = s') (k : K (.d .none) s') : kMeth .append (.ref n) [.d x] s K := by
  refine ⟨n, (.none, s'), rfl, ?_, k⟩
  show meth .append n [x] s = _
  have hL : xs.length < LIM := Nat.lt_of_lt_of_le hl (by decide)
  simp [meth, hs, hL, hs']
/-- insert in a list of the store -/
theorem kMeth_ins {n : Nat} {xs : List PD} {i : Int} {x : PD} {s' : Sto} (hs : s[n]? = some (.lst xs)) (hl : xs.length < 1000000) (hi : 0 ≤ i ∧ i ≤ 1000000) (hs' : s.set n (.lst (xs.take i.toNat ++ [x] ++ xs.drop i.toNat)) = s') (k : K (.d .none) s') : kMeth .insert (.ref n) [.d (.int i), .d x] s K := by
  refine ⟨n, (.none, s'), rfl, ?_, k⟩
  show meth .insert n [.int i, x] s = _
  have hL : xs.length < LIM := Nat.lt_of_lt_of_le hl (by decide)
  have hc : xs.length < LIM ∧ 0 ≤ i ∧ i < 2 ^ 62 := ⟨hL, hi.1, by omega⟩
  unfold meth
  rw [hs]
  show (if xs.length < LIM ∧ 0 ≤ i ∧ i < 2 ^ 62 then some (PyData.none, s.set n (.lst (xs.take i.toNat ++ [x] ++ xs.drop i.toNat))) else none) = _
  rw [if_pos hc, hs']
/-- extend a list of the store -/
theorem kMeth_ext {n : Nat} {xs ys : List PD} {w : W} {s' : Sto} (hs : s[n]? = some (.lst xs)) (hw : view s w = some (.list ys)) (hl : xs.length + ys.length ≤ 1000000) (hs' : s.set n (.lst (xs ++ ys)) = s') (k : K (.d .none) s') : kMeth .extend (.ref n) [w] s K := by
  refine ⟨n, (.none, s'), rfl, ?_, k⟩
  have e : methArgs .extend [w] s = some [.list ys] := by
    show datas s [w] = _
    unfold datas
    rw [hw]
    rfl
  rw [e, Option.bind_some]
  have hL : xs.length + ys.length ≤ LIM := Nat.le_trans hl (by decide)
  unfold meth
  rw [hs]
  show (if xs.length + ys.length ≤ LIM then some (PyData.none, s.set n (.lst (xs ++ ys))) else none) = _
  rw [if_pos hL, hs']
end
theorem Sm.b {i : Int} (h1 : -1000000000000000000000000000000000000000000000000000000000000 ≤ i) (h2 : i ≤ 1000000000000000000000000000000000000000000000000000000000000) : Sm i := Sm.lt (n := 1000000000000000000000000000000000000000000000000000000000000) (by omega) (by decide +kernel)
/-! ### walks -/
theorem wE.walk {F : Fe} {b : E} {v : En} {s : Sto} {K : List PD × List (Nat × List PD) → Sto → Prop} (h : wE F b v s fun x s1 => kWalk x s1 fun l g s2 => K (l, g) s2) : ∃ p s1, walk (evE F b v s) = .ok p s1 ∧ K p s1 := by
  obtain ⟨w, s1, e, h⟩ := h.out
  have h := h.out
  rw [e, Mini.walk, Rs.bind_ok]
  cases hd : dictAt s1 w with
  | some p =>
    rw [hd] at h
    exact ⟨_, _, rfl, h⟩
  | none =>
  rw [hd] at h
  obtain ⟨l, e2, h⟩ := h
  refine ⟨_, _, ?_, h⟩
  cases hx : view s1 w with
  | none => rw [hx] at e2; cases e2
  | some x =>
    rw [hx] at e2
    have e2 : itemsD x = some l := e2
    rw [Option.bind_some, e2]
    rfl
theorem compL_filt {α : Type} {g : Sto → Bool} {f : PD → Sto → Rs (Option PD)} {s : Sto} (toD : α → PD) (p : α → Bool) (h : α → PD) (hg : g s = true) : ∀ (l : List α), (∀ x ∈ l, f (toD x) s = .ok (if p x then some (h x) else none) s) → l.length ≤ LIM → compL g f (l.map toD) s = .ok ((l.filter p).map h) s
  | [], _, _ => by
    show compL g f [] s = _
    unfold compL
    rw [if_pos hg]
    rfl
  | x :: r, hf, hl => by
    have hl' : r.length + 1 ≤ LIM := hl
    have ih := compL_filt toD p h hg r (fun y hy => hf y (List.mem_cons_of_mem _ hy)) (by omega)
    show compL g f (toD x :: r.map toD) s = _
    unfold compL
    rw [if_pos hg, hf x List.mem_cons_self]
    cases hp : p x
    · rw [List.filter_cons, hp]
      exact ih
    · rw [List.filter_cons, hp]
      simp only [ih, Rs.bind_ok, if_true]
      rw [if_pos (by rw [List.length_map]; have := List.length_filter_le p r; omega)]
      rfl
section
variable {F : Fe} {a b c es : E} {v : En} {s s1 s2 s3 : Sto} {K : W → Sto → Prop} {t : Tg} {own : List Nat}
/-- a comprehension, each item kept or not, the store left as it is -/
theorem wE_filt {α : Type} (l : List α) (toD : α → PD) (p : α → Bool) (h : α → PD) (hl : l.length ≤ 1000000)
    (hw : wE F b v s fun x s1 => kWalk x s1 fun l' g s2 => l' = l.map toD ∧ kept g s2 = true ∧ s2 = s)
    (hf : ∀ x ∈ l, ∃ v', putT t (.d (toD x)) s (wipeE v own) = some v' ∧ wE F c v' s (fun w s' => w = .d (.bool (p x)) ∧ s' = s) ∧ (p x = true → wE F a v' s fun w s' => w = .d (h x) ∧ s' = s))
    (k : K (.d (.list ((l.filter p).map h))) s) : wE F (.comp false a t b c own) v s K := by
  obtain ⟨⟨l', g⟩, s1, e, rfl, hk, rfl⟩ := hw.walk (K := fun p s1 => p.1 = l.map toD ∧ kept p.2 s1 = true ∧ s1 = s)
  refine ⟨_, _, ?_, k⟩
  rw [evE, e, compR, Rs.bind_ok, compL_filt toD p h hk l (fun x hx => ?_) (Nat.le_trans hl (by decide))]
  · rfl
  · obtain ⟨v', e1, e2, e3⟩ := hf x hx
    unfold turnC
    rw [e1]
    show Rs.bind (tst (evE F c v' s1)) _ = _
    rw [e2.ev, tst_ok, Rs.bind_ok]
    cases hp : p x
    · rfl
    · rw [if_pos rfl, (e3 hp).ev]
      rfl
theorem filter_tt {α : Type} : ∀ l : List α, l.filter (fun _ => true) = l
  | [] => rfl
  | x :: r => by rw [List.filter_cons, filter_tt r]; rfl
/-- .. every item kept -/
theorem wE_map {α : Type} (l : List α) (toD : α → PD) (h : α → PD) (hl : l.length ≤ 1000000)
    (hw : wE F b v s fun x s1 => kWalk x s1 fun l' g s2 => l' = l.map toD ∧ kept g s2 = true ∧ s2 = s)
    (hf : ∀ x ∈ l, ∃ v', putT t (.d (toD x)) s (wipeE v own) = some v' ∧ wE F a v' s fun w s' => w = .d (h x) ∧ s' = s)
    (k : K (.d (.list (l.map h))) s) : wE F (.comp false a t b (.cst (.bool true)) own) v s K := by
  refine wE_filt l toD (fun _ => true) h hl hw (fun x hx => ?_) ?_
  · obtain ⟨v', e1, e2⟩ := hf x hx
    exact ⟨v', e1, wE_cst ⟨rfl, rfl⟩, fun _ => e2⟩
  · rw [filter_tt]
    exact k
/-- .. whose turns change the store -/
theorem wE_comp {α : Type} (I : Nat → Sto → Prop) (toD : α → PD) {n : Nat} (hn : n ≤ 1000000)
    (hw : wE F b v s fun x s1 => kWalk x s1 fun l g s2 => l.length = n ∧ I 0 s2 ∧ (∀ t s, I t s → kept g s = true) ∧
      ∀ j s x, l[j]? = some x → I j s → ∃ v', putT t (.d x) s (wipeE v own) = some v' ∧ wE F a v' s fun w s' => ∃ y : α, w = .d (toD y) ∧ I (j + 1) s')
    (k : ∀ (ys : List α) s', ys.length = n → I n s' → K (.d (.list (ys.map toD))) s') : wE F (.comp false a t b (.cst (.bool true)) own) v s K := by
  obtain ⟨⟨l, g⟩, s1, e, hn', hi, hk, hf⟩ := hw.walk (K := fun p s1 => p.1.length = n ∧ I 0 s1 ∧ (∀ t s, I t s → kept p.2 s = true) ∧
      ∀ j s x, p.1[j]? = some x → I j s → ∃ v', putT t (.d x) s (wipeE v own) = some v' ∧ wE F a v' s fun w s' => ∃ y : α, w = .d (toD y) ∧ I (j + 1) s')
  have hn' : l.length = n := hn'
  have hLIM : (1000000 : Nat) ≤ LIM := by decide
  have main : ∀ (r : List PD) (t0 : Nat) (s : Sto), I t0 s → (∀ i, r[i]? = l[t0 + i]?) → r.length ≤ LIM → ∃ (ys : List α) (s' : Sto), compL (kept g) (turnC t (wipeE v own) (evE F (.cst (.bool true))) (evE F a)) r s = .ok (ys.map toD) s' ∧ ys.length = r.length ∧ I (t0 + r.length) s' := by
    intro r
    induction r with
    | nil => exact fun t0 s hi _ _ => ⟨[], s, by unfold compL; rw [if_pos (hk _ _ hi)]; rfl, rfl, hi⟩
    | cons x r ih =>
      intro t0 s hi hr hl
      have hll : (x :: r).length = r.length + 1 := rfl
      obtain ⟨v', e1, e2⟩ := hf t0 s x (by have := hr 0; simpa using this.symm) hi
      obtain ⟨w, s2, e2, y, rfl, i2⟩ := e2.out
      obtain ⟨ys, s3, e3, l3, i3⟩ := ih (t0 + 1) s2 i2 (fun i => by have := hr (i + 1); rw [show t0 + 1 + i = t0 + (i + 1) by omega, ← this]; rfl) (by omega)
      refine ⟨y :: ys, s3, ?_, by rw [List.length_cons, List.length_cons, l3], ?_⟩
      · unfold compL
        rw [if_pos (hk _ _ hi)]
        have et : turnC t (wipeE v own) (evE F (.cst (.bool true))) (evE F a) x s = .ok (some (toD y)) s2 := by
          unfold turnC
          rw [e1]
          show Rs.bind (Rs.ok true s) _ = _
          rw [Rs.bind_ok, if_pos rfl, e2]
          rfl
        rw [et]
        simp only [e3, Rs.bind_ok]
        rw [if_pos (by rw [List.length_map]; omega)]
        rfl
      · rw [hll, show t0 + (r.length + 1) = t0 + 1 + r.length by omega]
        exact i3
  obtain ⟨ys, s', e2, h2, h3⟩ := main l 0 s1 hi (fun i => by rw [Nat.zero_add]) (by omega)
  rw [Nat.zero_add] at h3
  refine ⟨_, _, ?_, k ys s' (by omega) (by rw [← hn']; exact h3)⟩
  rw [evE, e, compR, Rs.bind_ok, e2]
  rfl
end
/-! ### environments -/
inductive SetAt : En → Nat → W → En → Prop where
  | zero {x : Option W} {r : En} {w : W} : SetAt (x :: r) 0 w (some w :: r)
  | succ {x : Option W} {r r' : En} {n : Nat} {w : W} (h : SetAt r n w r') : SetAt (x :: r) (n + 1) w (x :: r')
theorem SetAt.put {v v' : En} {n : Nat} {w : W} (h : SetAt v n w v') : putS v n w = some v' := by
  have : n < v.length ∧ v.set n (some w) = v' := by
    induction h with
    | zero => exact ⟨Nat.succ_pos _, rfl⟩
    | succ _ ih => exact ⟨Nat.succ_lt_succ ih.1, by rw [List.set_cons_succ, ih.2]⟩
  unfold putS
  rw [if_pos this.1, this.2]
theorem kPut_nm {w : W} {v v' : En} {s : Sto} {n : Nat} {Q : Out → Prop} (h : SetAt v n w v') (k : Q (.nx v' s)) : kPut (.nm n) w s v Q := ⟨_, h.put, k⟩
inductive SetAll : En → List Nat → List PD → En → Prop where
  | nil {v : En} : SetAll v [] [] v
  | cons {v v1 v2 : En} {n : Nat} {ns : List Nat} {x : PD} {xs : List PD} (h : SetAt v n (.d x) v1) (h' : SetAll v1 ns xs v2) : SetAll v (n :: ns) (x :: xs) v2
theorem SetAll.put {v v' : En} {ns : List Nat} {xs : List PD} (h : SetAll v ns xs v') : putAll ns xs v = some v' := by
  induction h with
  | nil => rfl
  | cons h _ ih => rw [putAll, h.put, Option.bind_some, ih]
inductive SetAllW : En → List Nat → List W → En → Prop where
  | nil {v : En} : SetAllW v [] [] v
  | cons {v v1 v2 : En} {n : Nat} {ns : List Nat} {x : W} {xs : List W} (h : SetAt v n x v1) (h' : SetAllW v1 ns xs v2) : SetAllW v (n :: ns) (x :: xs) v2
theorem SetAllW.put {v v' : En} {ns : List Nat} {xs : List W} (h : SetAllW v ns xs v') : putAllW ns xs v = some v' := by
  induction h with
  | nil => rfl
  | cons h _ ih => rw [putAllW, h.put, Option.bind_some, ih]
theorem kPut_tp {xs : List PD} {v v' : En} {s : Sto} {ns : List Nat} {Q : Out → Prop} (h : SetAll v ns xs v') (k : Q (.nx v' s)) : kPut (.tp ns) (.d (.tuple xs)) s v Q := ⟨_, h.put, k⟩
theorem kPut_tl {xs : List PD} {v v' : En} {s : Sto} {ns : List Nat} {Q : Out → Prop} (h : SetAll v ns xs v') (k : Q (.nx v' s)) : kPut (.tp ns) (.d (.list xs)) s v Q := ⟨_, h.put, k⟩
theorem put_nm {w : W} {v v' : En} {s : Sto} {n : Nat} (h : SetAt v n w v') : putT (.nm n) w s v = some v' := h.put
theorem put_tp {xs : List PD} {v v' : En} {s : Sto} {ns : List Nat} (h : SetAll v ns xs v') : putT (.tp ns) (.d (.tuple xs)) s v = some v' := h.put
/-! ### statements -/
section
variable {F : Fs} {a b c es : E} {A B : S} {v v1 : En} {s s1 s2 s3 : Sto} {x y z : PD} {w w2 : W} {ws : List W} {Q Q' : Out → Prop}
theorem wS.imp (h : wS F A v s Q) (k : ∀ o, Q o → Q' o) : wS F A v s Q' := ⟨k _ h.out⟩
theorem wS.of {o : Out} (h : evS F A v s = o) (k : Q o) : wS F A v s Q := ⟨h ▸ k⟩
theorem qSeq_nx (h : wS F B v s Q) : qSeq F B Q (.nx v s) := ⟨h⟩
theorem qSeq_ret (h : Q (.ret w s)) : qSeq F B Q (.ret w s) := ⟨h⟩
theorem qSeq_brk (h : Q (.brk v s)) : qSeq F B Q (.brk v s) := ⟨h⟩
theorem qSeq_cnt (h : Q (.cnt v s)) : qSeq F B Q (.cnt v s) := ⟨h⟩
theorem qSeq_exc {c : Nat} {xs : List PD} (h : Q (.exc c xs v s)) : qSeq F B Q (.exc c xs v s) := ⟨h⟩
theorem wS_seq (h : wS F A v s (qSeq F B Q)) : wS F (.seq A B) v s Q := by
  refine ⟨?_⟩
  have := h.out.out
  rw [evS]
  cases e : evS F A v s <;> rw [e] at this
  case nx v s => exact this.out
  all_goals exact this
theorem wS_skip (h : Q (.nx v s)) : wS F .skip v s Q := ⟨by rw [evS]; exact h⟩
theorem wS_brk (h : Q (.brk v s)) : wS F .brk v s Q := ⟨by rw [evS]; exact h⟩
theorem wS_cnt (h : Q (.cnt v s)) : wS F .cnt v s Q := ⟨by rw [evS]; exact h⟩
theorem wS_retn (h : Q (.ret (.d .none) s)) : wS F .retn v s Q := ⟨by rw [evS]; exact h⟩
theorem wS_set {t : Tg} (h : wE F.fe a v s fun w s1 => kPut t w s1 v Q) : wS F (.set t a) v s Q := by
  obtain ⟨w, s1, e, h⟩ := h.out
  obtain ⟨v1, e2, h⟩ := h.out
  exact ⟨by rw [st_set e e2]; exact h⟩
theorem wS_par {is : List Nat} (h : wL F.fe es v s fun ws s1 => ∃ v1, SetAllW v is ws v1 ∧ Q (.nx v1 s1)) : wS F (.par is es) v s Q := by
  obtain ⟨ws, s1, e, v1, e2, h⟩ := h.out
  exact ⟨by rw [st_par e e2.put]; exact h⟩
theorem wS_ret (h : wE F.fe a v s fun w s1 => Q (.ret w s1)) : wS F (.ret a) v s Q := by
  obtain ⟨w, s1, e, h⟩ := h.out
  exact ⟨by rw [st_ret e]; exact h⟩
theorem wS_ex (h : wE F.fe a v s fun w s1 => Q (.nx v s1)) : wS F (.ex a) v s Q := by
  obtain ⟨w, s1, e, h⟩ := h.out
  exact ⟨by rw [st_ex e]; exact h⟩
theorem wS_if (h : wE F.fe c v s fun x s1 => kIf x (wS F A v s1 Q) (wS F B v s1 Q)) : wS F (.ifs c A B) v s Q := by
  obtain ⟨w, s1, e, h⟩ := h.out
  obtain ⟨k, rfl, hT, hF⟩ := h.out
  cases k
  · exact ⟨by rw [st_ifF e rfl]; exact (hF rfl).out⟩
  · exact ⟨by rw [st_ifT e rfl]; exact (hT rfl).out⟩
theorem wS_aug {i : Nat} {o : O2} (hv : v[i]? = some (some w)) (h : wE F.fe a v s fun w2 s1 => ∃ x y z, view s1 w = some x ∧ view s1 w2 = some y ∧ aug2 o x y = some z ∧ ∃ v1, SetAt v i (.d z) v1 ∧ Q (.nx v1 s1)) : wS F (.aug i o a) v s Q := by
  obtain ⟨w2, s1, e, x, y, z, e1, e2, e3, v1, e4, h⟩ := h.out
  exact ⟨by rw [st_aug hv e e1 e2 e3 e4.put]; exact h⟩
/-- a for: what holds before each turn -/
theorem wS_for {t : Tg} (I : Nat → En → Sto → Prop) (h : wE F.fe b v s fun x s1 => kWalk x s1 fun l g s2 => I 0 v s2 ∧ (∀ j v s, I j v s → kept g s = true) ∧
      (∀ j v s x, l[j]? = some x → I j v s → ∃ v1, putT t (.d x) s v = some v1 ∧ wS F A v1 s fun o => match o with
        | .nx v s => I (j + 1) v s
        | .cnt v s => I (j + 1) v s
        | .brk v s => Q (.nx v s)
        | o => Q o) ∧
      ∀ v s, I l.length v s → Q (.nx v s)) : wS F (.for t b A) v s Q := by
  obtain ⟨⟨l, g⟩, s1, e, hi, hk, hf, hq⟩ := h.walk (K := fun p s1 => I 0 v s1 ∧ (∀ j v s, I j v s → kept p.2 s = true) ∧
      (∀ j v s x, p.1[j]? = some x → I j v s → ∃ v1, putT t (.d x) s v = some v1 ∧ wS F A v1 s fun o => match o with
        | .nx v s => I (j + 1) v s
        | .cnt v s => I (j + 1) v s
        | .brk v s => Q (.nx v s)
        | o => Q o) ∧
      ∀ v s, I p.1.length v s → Q (.nx v s))
  have main : ∀ (r : List PD) (t0 : Nat) (v : En) (s : Sto), I t0 v s → (∀ i, r[i]? = l[t0 + i]?) → t0 + r.length = l.length → Q (forL (kept g) (turnS t (evS F A)) r v s) := by
    intro r
    induction r with
    | nil =>
      intro t0 v s hi _ hl
      unfold forL
      rw [if_pos (hk _ _ _ hi)]
      rw [List.length_nil, Nat.add_zero] at hl
      exact hq v s (hl ▸ hi)
    | cons x r ih =>
      intro t0 v s hi hr hl
      rw [List.length_cons] at hl
      have h0 : l[t0]? = some x := by have := hr 0; simpa using this.symm
      have hr' : ∀ i, r[i]? = l[t0 + 1 + i]? := fun i => by have := hr (i + 1); rw [show t0 + 1 + i = t0 + (i + 1) by omega, ← this]; rfl
      obtain ⟨v1, e1, e2⟩ := hf t0 v s x h0 hi
      have e2 := e2.out
      unfold forL
      rw [if_pos (hk _ _ _ hi), turnS_of e1]
      cases e : evS F A v1 s <;> rw [e] at e2
      case nx v s => exact ih (t0 + 1) v s e2 hr' (by omega)
      case cnt v s => exact ih (t0 + 1) v s e2 hr' (by omega)
      all_goals exact e2
  refine ⟨?_⟩
  rw [st_for e rfl]
  exact main l 0 v s1 hi (fun i => by rw [Nat.zero_add]) (Nat.zero_add _)
/-- a while by a measure -/
theorem wS_whl (I : En → Sto → Prop) (m : En → Sto → Nat) (hi : I v s) (hm : m v s < 1000000000000)
    (h : ∀ v s, I v s → wE F.fe c v s fun x s1 => kIf x (wS F A v s1 fun o => match o with
        | .nx v' s' => I v' s' ∧ m v' s' < m v s
        | .cnt v' s' => I v' s' ∧ m v' s' < m v s
        | .brk v s => Q (.nx v s)
        | o => Q o) (Q (.nx v s1))) : wS F (.whl c A) v s Q := by
  have main : ∀ (n : Nat) (v : En) (s : Sto), I v s → m v s < n → Q (whlL (fun v s => tst (evE F.fe c v s)) (evS F A) n v s) := by
    intro n
    induction n with
    | zero => exact fun v s _ h => absurd h (Nat.not_lt_zero _)
    | succ n ih =>
      intro v s hi hm
      obtain ⟨w, s1, e, h⟩ := (h v s hi).out
      obtain ⟨k, rfl, hT, hF⟩ := h.out
      unfold whlL
      simp only [e, tst_ok, Rs.out_ok]
      cases k
      · exact hF rfl
      · have := (hT rfl).out
        rw [if_pos rfl]
        cases e : evS F A v s1 <;> rw [e] at this
        case nx v s => exact ih v s this.1 (by omega)
        case cnt v s => exact ih v s this.1 (by omega)
        all_goals exact this
  refine ⟨?_⟩
  rw [evS]
  exact main _ v s hi (by unfold TURNS; omega)
end
/-! ### calls -/
theorem wC.of {F : Fe} {f : Nat} {ws : List W} {s s' : Sto} {w : W} {K : W → Sto → Prop} (h : F.call f ws s = .ok w s') (k : K w s') : wC F f ws s K := ⟨_, _, h, k⟩
theorem wC.call {F : Fe} {f : Nat} {ws : List W} {s s' : Sto} {w : W} (h : wC F f ws s fun w' s1 => w' = w ∧ s1 = s') : F.call f ws s = .ok w s' := by
  obtain ⟨w, s1, e, rfl, rfl⟩ := h.out
  exact e
theorem wC_run {P : Pg} {n f : Nat} {fn : Fn} {ws : List W} {v : En} {s : Sto} {K : W → Sto → Prop} (hf : P.fns[f]? = some fn) (hl : ws.length = fn.np) (hv : startE fn ws = v) (h : wS (cx P n) fn.body v s (qRet s.length K)) : wC (cx P (n + 1)).fe f ws s K := by
  subst hv
  obtain ⟨w, s', e, hk⟩ := h.out.out
  exact ⟨w, s', (run_eq hf hl).trans e, hk⟩
theorem qRet_d {N : Nat} {K : W → Sto → Prop} {x : PD} {s s1 : Sto} (h : s.take N = s1) (k : K (.d x) s1) : qRet N K (.ret (.d x) s) := ⟨_, _, congrArg (Rs.ok (W.d x)) h, k⟩
theorem qRet_same {K : W → Sto → Prop} {x : PD} {s : Sto} (k : K (.d x) s) : qRet s.length K (.ret (.d x) s) := qRet_d List.take_length k
theorem qRet_app {K : W → Sto → Prop} {x : PD} {s l : Sto} (k : K (.d x) s) : qRet s.length K (.ret (.d x) (s ++ l)) := qRet_d List.take_left k
theorem qRet_bag {K : W → Sto → Prop} {x : PD} {o o' : Ob} {r : Sto} (k : K (.d x) (o' :: r)) : qRet (o :: r).length K (.ret (.d x) (o' :: r)) := qRet_d (by rw [List.length_cons, ← List.length_cons (a := o'), List.take_length]) k
theorem qRet_nx {N : Nat} {K : W → Sto → Prop} {v : En} {s s1 : Sto} (h : s.take N = s1) (k : K (.d .none) s1) : qRet N K (.nx v s) := ⟨_, _, congrArg (Rs.ok (W.d .none)) h, k⟩
/-! ### the bag's defs -/
theorem wC_take {P : Pg} {i n t : Nat} {many : Int} {l : List PD} {rest : Sto} {K : W → Sto → Prop} (hP : P.fns[i]? = some ⟨2, 7, takeB⟩) (hb : Bag t l) (ht : t < 1000000000) (h0 : 0 < many) (hm : Sm many)
    (k : ∀ (r : Int) (l' : List PD), 0 ≤ r → r < many → Bag (t + 1) l' → K (.d (.int r)) (.lst l' :: rest)) : wC (cx P (n + 1)).fe i [.ref 0, .d (.int many)] (.lst l :: rest) K := by
  obtain ⟨r, l', h1, h2, h3, e⟩ := take_ok (k := n) (rest := rest) hP hb ht h0 hm
  exact .of e (k r l' h1 h2 h3)
theorem wC_some {P : Pg} {i ti n t : Nat} {l : List PD} {rest : Sto} {xs : List PD} {K : W → Sto → Prop} (hP : P.fns[i]? = some ⟨2, 2, someB ti⟩) (hT : P.fns[ti]? = some ⟨2, 7, takeB⟩) (hb : Bag t l) (ht : t < 1000000000) (h0 : xs ≠ []) (hm : xs.length < 1000000)
    (k : ∀ (x : PD) (l' : List PD), x ∈ xs → Bag (t + 1) l' → K (.d x) (.lst l' :: rest)) : wC (cx P (n + 2)).fe i [.ref 0, .d (.list xs)] (.lst l :: rest) K := by
  obtain ⟨x, l', h1, h2, e⟩ := some_ok (k := n) (rest := rest) hP hT hb ht h0 hm
  exact .of e (k x l' h1 h2)
theorem wC_alike {P : Pg} {i n d b : Nat} {x : PD} {s : Sto} {K : W → Sto → Prop} (hP : P.fns[i]? = some ⟨2, 2, alikeB⟩) (h : Gd d b x) (hd : d ≤ 64) (hb : b ≤ 8000) (k : K (.d (.bool true)) s) : wC (cx P (n + 1)).fe i [.d x, .d x] s K := .of (alike_ok (k := n) hP h hd hb) k
theorem wC_bag {P : Pg} {i n : Nat} {ns : List Int} {K : W → Sto → Prop} (hP : P.fns[i]? = some ⟨1, 2, bagB⟩) (hl : ns.length ≤ 63) (k : ∀ l, Bag 0 l → K (.ref 0) [.lst l]) : wC (cx P (n + 1)).fe i [.d (.list (ns.map .int))] [] K := by
  obtain ⟨l, hb, e⟩ := bag_ok (k := n) hP hl
  exact .of e (k l hb)
end Mini

set_option Elab.async false
set_option linter.all false
set_option maxRecDepth 100000
set_option maxHeartbeats 2000000
/-! Mini, part W2: dicts of pairs, lists of the store that become data, step by step. -/
namespace Mini
open PySem
section
variable {F : Fe} {a b c es : E} {v : En} {s s1 s2 s3 : Sto} {w : W} {K : W → Sto → Prop}
theorem view_dict {n : Bool} {kvs : List (PD × PD)} (hd : dictAt s w = some (n, kvs)) : view s w = none := by
  cases w with
  | ref m =>
    have hd : (match s[m]? with | some (.dct m fz kvs) => some (m, kvs) | _ => none) = some (n, kvs) := hd
    cases q : s[m]? with
    | none => rw [q] at hd; cases hd
    | some o =>
      rw [q] at hd
      cases o with
      | lst _ => cases hd
      | gone => cases hd
      | dct _ _ _ => show (match s[m]? with | some (.lst xs) => some (PyData.list xs) | some (.dct _ _ _) => none | some .gone => none | none => none) = none; rw [q]
  | _ => cases hd
theorem wE_dof (h : wE F a v s fun w s1 => ∃ l kvs, view s1 w = some (.list l) ∧ l.length ≤ 1000000 ∧ pairsD l = some kvs ∧ K (.ref s1.length) (s1 ++ [.dct false false (putAllD kvs [])])) : wE F (.dof a) v s K := by
  obtain ⟨w, s1, e, l, kvs, h1, h2, h3, k⟩ := h.out
  refine ⟨_, _, ?_, k⟩
  have e2 : dofD (.list l) = some (putAllD kvs []) := by
    unfold dofD
    have hL : l.length ≤ LIM := Nat.le_trans h2 (by decide)
    simp only [hL, if_true, h3, Option.map_some]
  rw [evE, dofR, e, Rs.bind_ok, h1, Option.bind_some, e2]
theorem wE_dofz (h : wE F a v s fun x s1 => wE F b v s1 fun y s2 => ∃ p q kvs, view s2 x = some p ∧ view s2 y = some q ∧ dofzD p q = some kvs ∧ K (.ref s2.length) (s2 ++ [.dct false false kvs])) : wE F (.dofz a b) v s K := by
  obtain ⟨x, s1, e1, h⟩ := h.out
  obtain ⟨y, s2, e2, p, q, kvs, h1, h2, h3, k⟩ := h.out
  refine ⟨_, _, ?_, k⟩
  rw [evE, dofzR, e1, Rs.bind_ok, e2, Rs.bind_ok, h1, Option.bind_some, h2, Option.bind_some, h3]
theorem wE_frl (h : wE F a v s fun w s1 => ∃ m xs, w = .ref m ∧ s1[m]? = some (.lst xs) ∧ K (.d (.list xs)) (s1.set m .gone)) : wE F (.frl a) v s K := by
  obtain ⟨w, s1, e, m, xs, rfl, h1, k⟩ := h.out
  refine ⟨_, _, ?_, k⟩
  rw [evE, frlR, e, Rs.bind_ok]
  show (match s1[m]? with | some (.lst xs) => Rs.ok (W.d (.list xs)) (s1.set m .gone) | _ => .stuck) = _
  rw [h1]
theorem wE_newx (h : wE F a v s fun x s1 => wE F b v s1 fun y s2 => ∃ l k, x = .d (.list l) ∧ y = .d (.int k) ∧ 0 ≤ k ∧ k ≤ 1000 ∧ l.length ≤ 1000 ∧ K (.ref s2.length) (s2 ++ [.lst (List.replicate k.toNat l).flatten])) : wE F (.newx a b) v s K := by
  obtain ⟨x, s1, e1, h⟩ := h.out
  obtain ⟨y, s2, e2, l, k, rfl, rfl, h1, h2, h3, kk⟩ := h.out
  refine ⟨_, _, ?_, kk⟩
  rw [evE, newxR, e1, Rs.bind_ok, e2, Rs.bind_ok]
  exact if_pos ⟨h1, h2, h3⟩
theorem wE_inD (h : wE F a v s fun x s1 => wE F b v s1 fun y s2 => ∃ k n kvs, x = .d k ∧ dictAt s2 y = some (n, kvs) ∧ okKey n k = true ∧ K (.d (.bool (lookD kvs k).isSome)) s2) : wE F (.cmp .mem a b) v s K := by
  obtain ⟨x, s1, e1, h⟩ := h.out
  obtain ⟨y, s2, e2, k, n, kvs, rfl, h1, h2, kk⟩ := h.out
  refine ⟨_, _, ?_, kk⟩
  rw [evE, cmpR, e1, Rs.bind_ok, e2, Rs.bind_ok, view_dict h1]
  show Rs.of ((none <|> dinD s2 (.d k) y).map fun b => W.d (.bool b)) s2 = _
  have e3 : dinD s2 (.d k) y = some (lookD kvs k).isSome := by
    unfold dinD
    rw [h1]
    show (if okKey n k = true then some (lookD kvs k).isSome else none) = _
    rw [if_pos h2]
  rw [e3]
  rfl
theorem wE_ixD (h : wE F a v s fun x s1 => wE F b v s1 fun y s2 => ∃ k n kvs r, y = .d k ∧ dictAt s2 x = some (n, kvs) ∧ okKey n k = true ∧ lookD kvs k = some r ∧ K (.d r) s2) : wE F (.ix a b) v s K := by
  obtain ⟨x, s1, e1, h⟩ := h.out
  obtain ⟨y, s2, e2, k, n, kvs, r, rfl, h1, h2, h3, kk⟩ := h.out
  refine ⟨_, _, ?_, kk⟩
  rw [evE, ixR, e1, Rs.bind_ok, e2, Rs.bind_ok, view_dict h1, dixD, h1]
  show Rs.of ((none <|> (if okKey n k = true then lookD kvs k else none)).map W.d) s2 = _
  rw [if_pos h2, h3]
  rfl
end
section
variable {F : Fs} {o i e : E} {v : En} {s : Sto} {Q : Out → Prop} {q : O2}
theorem wS_augi (h : wE F.fe o v s fun o' s1 => wE F.fe i v s1 fun i' s2 => ∃ n xs k j x, o' = .ref n ∧ i' = .d (.int k) ∧ s2[n]? = some (.lst xs) ∧ L2.ixN xs.length k = some j ∧ xs[j]? = some x ∧
    wE F.fe e v s2 fun y s3 => ∃ y' z, y = .d y' ∧ aug2 q x y' = some z ∧ s3[n]? = some (.lst xs) ∧ Q (.nx v (s3.set n (.lst (xs.set j z))))) : wS F (.augi o i q e) v s Q := by
  obtain ⟨o', s1, e1, h⟩ := h.out
  obtain ⟨i', s2, e2, n, xs, k, j, x, rfl, rfl, h1, h2, h3, h⟩ := h.out
  obtain ⟨y, s3, e3, y', z, rfl, h4, h5, hk⟩ := h.out
  refine ⟨?_⟩
  have g : getA (.ref n) (.d (.int k)) s2 = some x := by
    show (match s2[n]? with | some (.lst l) => (L2.ixN l.length k).bind fun j => l[j]? | _ => none) = _
    rw [h1]
    show (L2.ixN xs.length k).bind (fun j => xs[j]?) = _
    rw [h2]
    exact h3
  have g2 : setA (.ref n) (.d (.int k)) z s3 = some (s3.set n (.lst (xs.set j z))) := by
    show setD n (.int k) z s3 = _
    unfold setD
    rw [h5]
    show (L2.ixN xs.length k).map _ = _
    rw [h2]
    rfl
  rw [evS, e1, Rs.out_ok, e2, Rs.out_ok, g]
  show Q ((evE F.fe e v s2).out v _)
  rw [e3, Rs.out_ok]
  show Q ((Rs.of ((view s3 (.d y')).bind (aug2 q x)) s3).out v _)
  show Q ((Rs.of (aug2 q x y') s3).out v _)
  rw [h4]
  show Q (Out.ofS v (setA (.ref n) (.d (.int k)) z s3))
  rw [g2]
  exact hk
end
end Mini

set_option Elab.async false
set_option linter.all false
set_option maxRecDepth 100000
set_option maxHeartbeats 2000000
/-! Mini, part X: dicts by types, rows, lines and rests: plain. -/
namespace Mini
open PySem
section
variable {α β : Type} [DecidableEq α]
def lookT (l : List (α × β)) (k : α) : Option β := (l.find? fun p => decide (p.1 = k)).map (·.2)
def putK (l : List (α × β)) (k : α) (v : β) : List (α × β) := if (lookT l k).isSome then l.map (fun p => if p.1 = k then (p.1, v) else p) else l ++ [(k, v)]
def Enc (enc : α → PD) : Prop := ∀ a b, sameD (enc a) (enc b) = decide (a = b)
theorem look_enc {enc : α → PD} {f : β → PD} (he : Enc enc) (k : α) : ∀ l : List (α × β), lookD (l.map fun p => (enc p.1, f p.2)) (enc k) = (lookT l k).map f
  | [] => rfl
  | p :: l => by
    have ih := look_enc (f := f) he k l
    unfold lookD lookT at *
    rw [List.map_cons, List.find?_cons, List.find?_cons]
    simp only [he p.1 k]
    cases decide (p.1 = k)
    · exact ih
    · rfl
theorem put_enc {enc : α → PD} {f : β → PD} (he : Enc enc) (l : List (α × β)) (k : α) (v : β) : putD (l.map fun p => (enc p.1, f p.2)) (enc k) (f v) = (putK l k v).map fun p => (enc p.1, f p.2) := by
  unfold putD putK
  rw [look_enc he]
  cases lookT l k with
  | none => simp
  | some x =>
    simp only [Option.map_some, Option.isSome_some, if_true, List.map_map]
    refine List.map_congr_left fun p _ => ?_
    show (if sameD (enc p.1) (enc k) = true then (enc p.1, f v) else (enc p.1, f p.2)) = (enc (if p.1 = k then (p.1, v) else p).1, f (if p.1 = k then (p.1, v) else p).2)
    rw [he]
    by_cases h : p.1 = k <;> simp [h]
theorem look_mem {l : List (α × β)} {k : α} {v : β} (h : lookT l k = some v) : (k, v) ∈ l := by
  unfold lookT at h
  obtain ⟨p, hp, rfl⟩ := Option.map_eq_some_iff.mp h
  have h1 := List.find?_some hp
  have h2 := List.mem_of_find?_eq_some hp
  have h1 : p.1 = k := of_decide_eq_true h1
  subst h1
  exact h2
theorem look_none {l : List (α × β)} {k : α} (h : lookT l k = none) : ∀ p ∈ l, p.1 ≠ k := by
  unfold lookT at h
  have h := List.find?_eq_none.mp (Option.map_eq_none_iff.mp h)
  exact fun p hp e => h p hp (decide_eq_true e)
theorem mem_put {l : List (α × β)} {k : α} {v : β} {p : α × β} : p ∈ putK l k v ↔ p = (k, v) ∨ (p ∈ l ∧ p.1 ≠ k) := by
  unfold putK
  cases e : lookT l k with
  | none =>
    have hn := look_none e
    simp only [Option.isSome_none, Bool.false_eq_true, if_false, List.mem_append, List.mem_singleton]
    exact ⟨fun h => h.elim (fun h => .inr ⟨h, hn p h⟩) .inl, fun h => h.elim .inr fun h => .inl h.1⟩
  | some x =>
    have hm := look_mem e
    simp only [Option.isSome_some, if_true, List.mem_map]
    constructor
    · rintro ⟨q, hq, rfl⟩
      by_cases h : q.1 = k
      · rw [if_pos h, h]; exact .inl rfl
      · rw [if_neg h]; exact .inr ⟨hq, h⟩
    · rintro (rfl | ⟨h, hk⟩)
      · exact ⟨_, hm, if_pos rfl⟩
      · exact ⟨p, h, if_neg hk⟩
theorem putK_len (l : List (α × β)) (k : α) (v : β) : (putK l k v).length ≤ l.length + 1 := by
  unfold putK
  split
  · rw [List.length_map]; omega
  · rw [List.length_append]; exact Nat.le_refl _
/-- one value a key -/
def Uniq (l : List (α × β)) : Prop := ∀ p ∈ l, ∀ q ∈ l, p.1 = q.1 → p.2 = q.2
theorem Uniq.nil : Uniq ([] : List (α × β)) := fun p hp => by cases hp
theorem Uniq.put {l : List (α × β)} (h : Uniq l) (k : α) (v : β) : Uniq (putK l k v) := by
  intro p hp q hq e
  rcases mem_put.mp hp with rfl | ⟨hp, hk⟩ <;> rcases mem_put.mp hq with rfl | ⟨hq, hk'⟩
  · rfl
  · exact absurd e.symm hk'
  · exact absurd e hk
  · exact h p hp q hq e
theorem Uniq.look {l : List (α × β)} (h : Uniq l) {k : α} {v : β} (hm : (k, v) ∈ l) : lookT l k = some v := by
  cases e : lookT l k with
  | none => exact absurd rfl (look_none e _ hm)
  | some x => exact congrArg some (h _ (look_mem e) _ hm rfl)
end
/-! ### the greatest common part -/
def gl (l : List Int) : Nat := l.foldl (fun g x => Int.gcd (g : Int) x) 0
theorem gl_snoc (l : List Int) (x : Int) : gl (l ++ [x]) = Int.gcd (gl l : Int) x := by simp [gl]
theorem fold_dvd : ∀ (l : List Int) (g : Nat), l.foldl (fun g x => Int.gcd (g : Int) x) g ∣ g ∧ ∀ x ∈ l, ((l.foldl (fun g x => Int.gcd (g : Int) x) g : Nat) : Int) ∣ x
  | [], g => ⟨Nat.dvd_refl g, fun _ h => nomatch h⟩
  | x :: l, g => by
    have h := fold_dvd l (Int.gcd g x)
    have e1 : (Int.gcd (g : Int) x : Int) ∣ g := Int.gcd_dvd_left ..
    refine ⟨Nat.dvd_trans h.1 (Int.ofNat_dvd.mp e1), fun y hy => ?_⟩
    rcases List.mem_cons.mp hy with rfl | hy
    · exact Int.dvd_trans (Int.ofNat_dvd.mpr h.1) (Int.gcd_dvd_right ..)
    · exact h.2 y hy
theorem gl_dvd {l : List Int} {x : Int} (h : x ∈ l) : (gl l : Int) ∣ x := (fold_dvd l 0).2 x h
theorem gl_none : ∀ l : List Int, (∀ x ∈ l, x = 0) → gl l = 0 := fun l => by
  have step : ∀ l : List Int, (∀ x ∈ l, x = 0) → l.foldl (fun g x => Int.gcd (g : Int) x) 0 = 0 := fun l => by
    induction l with
    | nil => exact fun _ => rfl
    | cons x l ih =>
      intro h
      obtain rfl := h x List.mem_cons_self
      exact ih fun y hy => h y (List.mem_cons_of_mem _ hy)
  exact step l
theorem gl_zero {l : List Int} (h : gl l = 0) : ∀ x ∈ l, x = 0 := fun x hx => by
  have := gl_dvd hx
  rw [h] at this
  exact Int.zero_dvd.mp this
theorem gl_le {l : List Int} {B : Nat} (h : ∀ x ∈ l, x.natAbs ≤ B) : gl l ≤ B := by
  by_cases h0 : ∀ x ∈ l, x = 0
  · rw [gl_none l h0]; exact Nat.zero_le _
  · obtain ⟨x, hx⟩ := Classical.not_forall.mp h0
    obtain ⟨hx, hne⟩ := Classical.not_imp.mp hx
    refine Nat.le_trans (Nat.le_of_dvd (by omega) ?_) (h x hx)
    exact Int.ofNat_dvd_left.mp (gl_dvd hx)
theorem gl_pos {l : List Int} {x : Int} (hx : x ∈ l) (h : x ≠ 0) : 0 < gl l := by
  rcases Nat.eq_zero_or_pos (gl l) with e | e
  · exact absurd (gl_zero e x hx) h
  · exact e
/-! ### rows -/
structure Row where
  w : Int
  b : Int
  ps : List Int
  deriving DecidableEq
abbrev Key := Int × List Int
abbrev Rest := Int × Row
def rowD (r : Row) : PD := .tuple [.int r.w, .int r.b, .tuple (r.ps.map .int)]
def keyD (k : Key) : PD := .tuple [.int k.1, .tuple (k.2.map .int)]
def restD (r : Rest) : PD := .tuple [.int r.1, rowD r.2]
def lineD (p : Key × Int) : PD := .tuple [.int p.2, .int p.1.1, .tuple (p.1.2.map .int)]
theorem same_ints : ∀ xs ys : List Int, sameL (xs.map .int) (ys.map .int) = decide (xs = ys)
  | [], [] => rfl
  | [], y :: ys => rfl
  | x :: xs, [] => rfl
  | x :: xs, y :: ys => by
    rw [List.map_cons, List.map_cons, sameL, same_ints xs ys, sameD]
    by_cases h : x = y <;> by_cases h' : xs = ys <;> simp [h, h']
theorem enc_key : Enc keyD := fun a b => by
  obtain ⟨a1, a2⟩ := a
  obtain ⟨b1, b2⟩ := b
  unfold keyD
  rw [sameD, sameL, sameL, sameL, sameD, sameD, same_ints]
  by_cases h : a1 = b1 <;> by_cases h' : a2 = b2 <;> simp [h, h']
theorem enc_rest : Enc restD := fun a b => by
  obtain ⟨a0, a1, a2, a3⟩ := a
  obtain ⟨b0, b1, b2, b3⟩ := b
  unfold restD rowD
  rw [sameD, sameL, sameL, sameL, sameD, sameD, sameL, sameL, sameL, sameL, sameD, sameD, sameD, same_ints]
  by_cases h0 : a0 = b0 <;> by_cases h : a1 = b1 <;> by_cases h' : a2 = b2 <;> by_cases h3 : a3 = b3 <;> simp [h0, h, h', h3]
theorem nk_ints (d : Nat) : ∀ xs : List Int, nkOkL d (xs.map .int) = true
  | [] => by rw [List.map_nil, nkOkL]
  | x :: xs => by rw [List.map_cons, nkOkL, nk_ints d xs, nkOk]; rfl
theorem okKey_key (k : Key) : okKey true (keyD k) = true := by
  show (true && nkOk 8 (.tuple _)) = true
  rw [nkOk, nkOkL, nkOkL, nkOkL, nkOk, nkOk, nk_ints]
  rfl
theorem okKey_rest (k : Rest) : okKey true (restD k) = true := by
  unfold restD rowD
  show (true && nkOk 8 (.tuple [.int k.1, .tuple [.int k.2.w, .int k.2.b, .tuple (k.2.ps.map .int)]])) = true
  rw [nkOk, nkOkL, nkOkL, nkOkL, nkOk, nkOk, nkOkL, nkOkL, nkOkL, nkOkL, nkOk, nkOk, nkOk, nk_ints]
  rfl
def dotL (ps ds : List Int) : Int := ((ps.zip ds).map fun p => p.1 * p.2).sum
def rowV (r : Row) (base : Int) (ds : List Int) : Int := r.w + r.b * base + dotL r.ps ds
theorem dot_cons (p d : Int) (ps ds : List Int) : dotL (p :: ps) (d :: ds) = p * d + dotL ps ds := by simp [dotL]
theorem dot_nil (ds : List Int) : dotL [] ds = 0 := by simp [dotL]
theorem dot_nil' (ps : List Int) : dotL ps [] = 0 := by cases ps <;> simp [dotL]
theorem dot_mul (g : Int) : ∀ ps ds : List Int, dotL (ps.map (g * ·)) ds = g * dotL ps ds
  | [], ds => by rw [List.map_nil, dot_nil, Int.mul_zero]
  | p :: ps, [] => by rw [dot_nil', dot_nil', Int.mul_zero]
  | p :: ps, d :: ds => by rw [List.map_cons, dot_cons, dot_cons, dot_mul g ps ds, Int.mul_add, Int.mul_assoc]
theorem dot_zero : ∀ ps ds : List Int, (∀ p ∈ ps, p = 0) → dotL ps ds = 0
  | [], ds, _ => dot_nil ds
  | p :: ps, [], _ => dot_nil' _
  | p :: ps, d :: ds, h => by
    obtain rfl := h p List.mem_cons_self
    rw [dot_cons, dot_zero ps ds fun q hq => h q (List.mem_cons_of_mem _ hq)]
    omega
theorem dot_div {g : Int} (ds : List Int) (ps : List Int) (h : ∀ p ∈ ps, g ∣ p) : dotL ps ds = g * dotL (ps.map (· / g)) ds := by
  rw [← dot_mul, List.map_map]
  refine congrArg (fun l => dotL l ds) ?_
  rw [show ps = ps.map id by simp]
  rw [List.map_map]
  refine List.map_congr_left fun p hp => ?_
  exact (Int.mul_ediv_cancel' (h p (by simpa using hp))).symm
theorem dot_mod {m : Int} : ∀ (ps ds : List Int), ∃ c, dotL ps ds = dotL (ps.map (· % m)) ds + m * c
  | [], ds => ⟨0, by rw [List.map_nil, dot_nil]; omega⟩
  | p :: ps, [] => ⟨0, by rw [dot_nil', dot_nil']; omega⟩
  | p :: ps, d :: ds => by
    obtain ⟨c, e⟩ := dot_mod (m := m) ps ds
    refine ⟨c + p / m * d, ?_⟩
    rw [List.map_cons, dot_cons, dot_cons, e, Int.mul_add]
    have e2 : p * d = p % m * d + m * (p / m * d) := by
      rw [← Int.mul_assoc, ← Int.add_mul, Int.emod_add_mul_ediv]
    omega
/-! ### lines -/
def fkey (many : Nat) : Key := (0, List.replicate many 0)
def stepL (l : List (Key × Int)) (k : Key) (w : Int) : List (Key × Int) := putK l k (if w < (lookT l k).getD w then w else (lookT l k).getD w)
def lineStep (many : Nat) (l : List (Key × Int)) (r : Row) : List (Key × Int) :=
  if gl (r.b :: r.ps) = 0 then (if r.w < 0 then putK l (fkey many) (-1) else l)
  else stepL l (r.b / gl (r.b :: r.ps), r.ps.map (· / gl (r.b :: r.ps))) (r.w / gl (r.b :: r.ps))
def lineV (p : Key × Int) (base : Int) (ds : List Int) : Int := p.2 + p.1.1 * base + dotL p.1.2 ds
def KeepL (l : List (Key × Int)) (base : Int) (ds : List Int) : Prop := ∀ p ∈ l, 0 ≤ lineV p base ds
section
variable {l : List (Key × Int)} {k : Key} {w base : Int} {ds : List Int} {many : Nat} {r : Row}
theorem stepL_keep (hu : Uniq l) : KeepL (stepL l k w) base ds ↔ KeepL l base ds ∧ 0 ≤ lineV (k, w) base ds := by
  unfold stepL
  have key : ∀ x : Int, (if w < x then w else x) ≤ w ∧ (if w < x then w else x) ≤ x ∧ ((if w < x then w else x) = w ∨ (if w < x then w else x) = x) := fun x => by split <;> omega
  generalize hz : (if w < (lookT l k).getD w then w else (lookT l k).getD w) = z
  have hk := key ((lookT l k).getD w)
  rw [hz] at hk
  have mono : ∀ a b : Int, a ≤ b → 0 ≤ lineV (k, a) base ds → 0 ≤ lineV (k, b) base ds := fun a b h1 h2 => by unfold lineV at *; simp only at *; omega
  constructor
  · intro h
    have hkz := h (k, z) (mem_put.mpr (.inl rfl))
    refine ⟨fun p hp => ?_, mono _ _ hk.1 hkz⟩
    by_cases e : p.1 = k
    · obtain ⟨p1, p2⟩ := p
      obtain rfl : p1 = k := e
      have e2 := hu.look hp
      rw [e2] at hk
      exact mono _ _ hk.2.1 hkz
    · exact h p (mem_put.mpr (.inr ⟨hp, e⟩))
  · rintro ⟨h, hw⟩ p hp
    rcases mem_put.mp hp with rfl | ⟨hp, _⟩
    · rcases hk.2.2 with e | e
      · rw [e]; exact hw
      · rw [e]
        cases el : lookT l k with
        | none => exact hw
        | some v => exact h _ (look_mem el)
    · exact h p hp
theorem fkeep : ¬ KeepL (putK l (fkey many) (-1)) base ds := fun h => by
  have h1 := h (fkey many, -1) (mem_put.mpr (.inl rfl))
  unfold lineV fkey at h1
  simp only at h1
  rw [dot_zero _ _ fun p hp => List.eq_of_mem_replicate hp] at h1
  omega
theorem lineStep_keep (hu : Uniq l) : KeepL (lineStep many l r) base ds ↔ KeepL l base ds ∧ 0 ≤ rowV r base ds := by
  unfold lineStep
  split
  · rename_i h
    have hz := gl_zero h
    have e : rowV r base ds = r.w := by
      unfold rowV
      rw [hz r.b List.mem_cons_self, dot_zero _ _ fun p hp => hz p (List.mem_cons_of_mem _ hp)]
      omega
    rw [e]
    split
    · exact ⟨fun h => absurd h fkeep, fun h => by omega⟩
    · exact ⟨fun h => ⟨h, by omega⟩, fun h => h.1⟩
  · rename_i h
    rw [stepL_keep hu]
    have e : rowV r base ds = r.w + gl (r.b :: r.ps) * (r.b / gl (r.b :: r.ps) * base + dotL (r.ps.map (· / gl (r.b :: r.ps))) ds) := by
      unfold rowV
      rw [dot_div (g := (gl (r.b :: r.ps) : Int)) ds r.ps fun p hp => gl_dvd (List.mem_cons_of_mem _ hp), Int.mul_add, ← Int.mul_assoc, Int.mul_ediv_cancel' (gl_dvd List.mem_cons_self)]
      omega
    have hg : (0 : Int) < gl (r.b :: r.ps) := by omega
    have e2 : 0 ≤ lineV ((r.b / gl (r.b :: r.ps), r.ps.map (· / gl (r.b :: r.ps))), r.w / gl (r.b :: r.ps)) base ds ↔ 0 ≤ rowV r base ds := by
      rw [e]
      unfold lineV
      simp only
      generalize r.b / (gl (r.b :: r.ps) : Int) * base = t
      generalize dotL (r.ps.map (· / (gl (r.b :: r.ps) : Int))) ds = u
      have e3 : r.w / (gl (r.b :: r.ps) : Int) + t + u = (r.w + gl (r.b :: r.ps) * (t + u)) / gl (r.b :: r.ps) := by
        rw [Int.add_mul_ediv_left _ _ (by omega)]
        omega
      rw [e3]
      exact Int.ediv_nonneg_iff_of_pos hg
    rw [e2]
end
end Mini

set_option Elab.async false
set_option linter.all false
set_option maxRecDepth 100000
set_option maxHeartbeats 2000000
/-! Mini, part X2: rests; what a system in its least form keeps. -/
namespace Mini
open PySem
theorem gl_all {l : List Int} {d : Nat} (h : ∀ x ∈ l, (d : Int) ∣ x) : d ∣ gl l := by
  have step : ∀ (l : List Int) (g : Nat), d ∣ g → (∀ x ∈ l, (d : Int) ∣ x) → d ∣ l.foldl (fun g x => Int.gcd (g : Int) x) g := fun l => by
    induction l with
    | nil => exact fun g h _ => h
    | cons x l ih =>
      intro g hg h
      refine ih _ ?_ fun y hy => h y (List.mem_cons_of_mem _ hy)
      exact Int.dvd_gcd (Int.ofNat_dvd.mpr hg) (h x List.mem_cons_self)
  exact step l 0 (Nat.dvd_zero d) h
def nsR (q : Rest) : List Int := (q.2.w :: q.2.b :: q.2.ps).map (· % q.1)
def rg (q : Rest) : Int := gl (q.1 :: nsR q)
def leastR (q : Rest) : Rest := (q.1 / rg q, ⟨q.2.w % q.1 / rg q, q.2.b % q.1 / rg q, q.2.ps.map fun p => p % q.1 / rg q⟩)
def restStep (many : Nat) (st : List (Key × Int) × List (Rest × Bool)) (q : Rest) : List (Key × Int) × List (Rest × Bool) :=
  if q.1 / rg q = 1 then st else if (∀ x ∈ q.2.b :: q.2.ps, x % q.1 = 0) then (putK st.1 (fkey many) (-1), st.2) else (st.1, putK st.2 (leastR q) true)
def KeepR (l : List (Rest × Bool)) (base : Int) (ds : List Int) : Prop := ∀ p ∈ l, p.1.1 ∣ rowV p.1.2 base ds
section
variable {q : Rest} {base : Int} {ds : List Int} {many B : Nat} {st : List (Key × Int) × List (Rest × Bool)}
theorem rg_pos (h : 0 < q.1) : 0 < rg q := by
  have := gl_pos (l := q.1 :: nsR q) List.mem_cons_self (by omega)
  unfold rg
  omega
theorem rg_dvd : rg q ∣ q.1 := gl_dvd List.mem_cons_self
theorem rg_in {x : Int} (h : x ∈ q.2.w :: q.2.b :: q.2.ps) : rg q ∣ x % q.1 := gl_dvd (List.mem_cons_of_mem _ (List.mem_map.mpr ⟨x, h, rfl⟩))
theorem row_mod : ∃ c, rowV q.2 base ds = q.2.w % q.1 + q.2.b % q.1 * base + dotL (q.2.ps.map (· % q.1)) ds + q.1 * c := by
  obtain ⟨c, e⟩ := dot_mod (m := q.1) q.2.ps ds
  refine ⟨q.2.w / q.1 + q.2.b / q.1 * base + c, ?_⟩
  unfold rowV
  rw [e, Int.mul_add, Int.mul_add, ← Int.mul_assoc]
  have e1 := Int.emod_add_mul_ediv q.2.w q.1
  have e2 : q.2.b * base = q.2.b % q.1 * base + q.1 * (q.2.b / q.1) * base := by
    rw [← Int.add_mul, Int.emod_add_mul_ediv]
  omega
theorem least_row : q.2.w % q.1 + q.2.b % q.1 * base + dotL (q.2.ps.map (· % q.1)) ds = rg q * rowV (leastR q).2 base ds := by
  have e1 := Int.mul_ediv_cancel' (rg_in (q := q) (x := q.2.w) List.mem_cons_self)
  have e2 := Int.mul_ediv_cancel' (rg_in (q := q) (x := q.2.b) (List.mem_cons_of_mem _ List.mem_cons_self))
  have e3 := dot_div (g := rg q) ds (q.2.ps.map (· % q.1)) fun p hp => by
    obtain ⟨y, hy, rfl⟩ := List.mem_map.mp hp
    exact rg_in (List.mem_cons_of_mem _ (List.mem_cons_of_mem _ hy))
  rw [List.map_map] at e3
  rw [e3]
  unfold rowV leastR
  simp only
  rw [Int.mul_add, Int.mul_add, ← Int.mul_assoc, e1, e2]
  rfl
theorem rest_dvd (hm : 0 < q.1) : q.1 ∣ rowV q.2 base ds ↔ (leastR q).1 ∣ rowV (leastR q).2 base ds := by
  obtain ⟨c, e⟩ := row_mod (q := q) (base := base) (ds := ds)
  have hg := rg_pos hm
  rw [e, least_row]
  have e2 : q.1 = rg q * (leastR q).1 := (Int.mul_ediv_cancel' rg_dvd).symm
  constructor
  · intro h
    have h2 : q.1 ∣ rg q * rowV (leastR q).2 base ds := by
      have := Int.dvd_sub h (Int.dvd_mul_right q.1 c)
      rwa [Int.add_sub_cancel] at this
    rw [e2] at h2
    exact Int.dvd_of_mul_dvd_mul_left (by omega) h2
  · intro h
    refine Int.dvd_add ?_ (Int.dvd_mul_right _ _)
    conv => lhs; rw [e2]
    exact Int.mul_dvd_mul_left _ h
theorem rest_one (hm : 0 < q.1) (h : q.1 / rg q = 1) : q.1 ∣ rowV q.2 base ds := by
  rw [rest_dvd hm]
  rw [show (leastR q).1 = 1 from h]
  exact Int.one_dvd _
theorem rest_none (hm : 0 < q.1) (h : q.1 / rg q ≠ 1) (hz : ∀ x ∈ q.2.b :: q.2.ps, x % q.1 = 0) : ¬ q.1 ∣ rowV q.2 base ds := by
  intro hd
  obtain ⟨c, e⟩ := row_mod (q := q) (base := base) (ds := ds)
  rw [hz q.2.b List.mem_cons_self, dot_zero _ _ fun p hp => by
    obtain ⟨y, hy, rfl⟩ := List.mem_map.mp hp
    exact hz y (List.mem_cons_of_mem _ hy)] at e
  have h2 : q.1 ∣ q.2.w % q.1 := by
    have e3 : q.2.w % q.1 = rowV q.2 base ds - q.1 * c := by omega
    rw [e3]
    exact Int.dvd_sub hd (Int.dvd_mul_right _ _)
  have h3 : q.2.w % q.1 = 0 := by
    rw [← Int.emod_emod_of_dvd q.2.w (Int.dvd_refl q.1)]
    exact Int.emod_eq_zero_of_dvd h2
  obtain ⟨m, hm2⟩ := Int.eq_ofNat_of_zero_le (a := q.1) (by omega)
  have h4 : m ∣ gl (q.1 :: nsR q) := gl_all fun x hx => by
    rcases List.mem_cons.mp hx with rfl | hx
    · rw [hm2]; exact Int.dvd_refl _
    · obtain ⟨y, hy, rfl⟩ := List.mem_map.mp hx
      have : y % q.1 = 0 := by
        rcases List.mem_cons.mp hy with rfl | hy
        · exact h3
        · exact hz y hy
      simp only [this]
      exact Int.dvd_zero _
  have h5 : rg q = q.1 := by
    have h6 : rg q ∣ q.1 := rg_dvd
    have h7 : q.1 ∣ rg q := by
      rw [hm2]
      exact Int.ofNat_dvd.mpr h4
    exact Int.dvd_antisymm (by have := rg_pos hm; omega) (by omega) h6 h7
  rw [h5] at h
  exact h (Int.ediv_self (by omega))
theorem restStep_keep (hm : 0 < q.1) : (KeepL (restStep many st q).1 base ds ∧ KeepR (restStep many st q).2 base ds) ↔ (KeepL st.1 base ds ∧ KeepR st.2 base ds) ∧ q.1 ∣ rowV q.2 base ds := by
  unfold restStep
  split
  · rename_i h
    exact ⟨fun k => ⟨k, rest_one hm h⟩, fun k => k.1⟩
  · rename_i h
    split
    · rename_i hz
      exact ⟨fun k => absurd k.1 fkeep, fun k => absurd k.2 (rest_none hm h hz)⟩
    · rw [rest_dvd hm]
      refine ⟨fun k => ⟨⟨k.1, fun p hp => ?_⟩, k.2 (leastR q, true) (mem_put.mpr (.inl rfl))⟩, fun k => ⟨k.1.1, fun p hp => ?_⟩⟩
      · by_cases e : p.1 = leastR q
        · have := k.2 (leastR q, true) (mem_put.mpr (.inl rfl))
          rw [e]
          exact this
        · exact k.2 p (mem_put.mpr (.inr ⟨hp, e⟩))
      · rcases mem_put.mp hp with rfl | ⟨hp, _⟩
        · exact k.2
        · exact k.1.2 p hp
/-! ### bounds -/
structure RowOk (B many : Nat) (r : Row) : Prop where
  w : r.w.natAbs ≤ B
  b : r.b.natAbs ≤ B
  ps : ∀ p ∈ r.ps, p.natAbs ≤ B
  len : r.ps.length = many
structure RestOk (B many : Nat) (q : Rest) : Prop where
  pos : 0 < q.1
  le : q.1 ≤ B
  row : RowOk B many q.2
def rowOf (p : Key × Int) : Row := ⟨p.2, p.1.1, p.1.2⟩
structure LInv (B many n : Nat) (l : List (Key × Int)) : Prop where
  uniq : Uniq l
  rows : ∀ p ∈ l, RowOk B many (rowOf p)
  fls : ∀ p ∈ l, p.1 = fkey many → p.2 = -1
  len : l.length ≤ n
theorem div_le {x g : Int} (hg : 0 < g) : (x / g).natAbs ≤ x.natAbs := by
  have e := Int.emod_add_mul_ediv x g
  have h1 := Int.emod_nonneg x (by omega : g ≠ 0)
  have h2 := Int.emod_lt_of_pos x hg
  generalize x / g = q at *
  by_cases hq : 0 ≤ q
  · have : 1 * q ≤ g * q := Int.mul_le_mul_of_nonneg_right (by omega) hq
    omega
  · have : g * (-(q + 1)) ≥ 1 * (-(q + 1)) := Int.mul_le_mul_of_nonneg_right (by omega) (by omega)
    have e3 : g * (-(q + 1)) = -(g * q) - g := by rw [Int.mul_neg, Int.mul_add, Int.mul_one]; omega
    omega
theorem mod_le {x m : Int} (hm : 0 < m) : 0 ≤ x % m ∧ x % m < m := ⟨Int.emod_nonneg _ (by omega), Int.emod_lt_of_pos _ hm⟩
theorem fkeyOk (hB : 1 ≤ B) : RowOk B many (rowOf (fkey many, -1)) := ⟨hB, Nat.zero_le _, fun p hp => by rw [List.eq_of_mem_replicate hp]; exact Nat.zero_le _, List.length_replicate⟩
theorem LInv.nil : LInv B many 0 [] := ⟨Uniq.nil, fun p hp => (nomatch hp), fun p hp => (nomatch hp), Nat.le_refl _⟩
theorem LInv.mono {n m : Nat} {l : List (Key × Int)} (h : LInv B many n l) (hn : n ≤ m) : LInv B many m l := ⟨h.uniq, h.rows, h.fls, Nat.le_trans h.len hn⟩
theorem LInv.putF {n : Nat} {l : List (Key × Int)} (hB : 1 ≤ B) (h : LInv B many n l) : LInv B many (n + 1) (putK l (fkey many) (-1)) := by
  refine ⟨h.uniq.put _ _, fun p hp => ?_, fun p hp e => ?_, Nat.le_trans (putK_len _ _ _) (by have := h.len; omega)⟩
  · rcases mem_put.mp hp with rfl | ⟨hp, _⟩
    · exact fkeyOk hB
    · exact h.rows p hp
  · rcases mem_put.mp hp with rfl | ⟨hp, hk⟩
    · rfl
    · exact absurd e hk
theorem LInv.step {n : Nat} {l : List (Key × Int)} {r : Row} (hB : 1 ≤ B) (h : LInv B many n l) (hr : RowOk B many r) : LInv B many (n + 1) (lineStep many l r) := by
  unfold lineStep
  split
  · split
    · exact h.putF hB
    · exact h.mono (by omega)
  · rename_i hg
    have hg' : (0 : Int) < gl (r.b :: r.ps) := by omega
    unfold stepL
    have hw : ((if r.w / gl (r.b :: r.ps) < (lookT l (r.b / (gl (r.b :: r.ps) : Int), r.ps.map (· / (gl (r.b :: r.ps) : Int)))).getD (r.w / gl (r.b :: r.ps)) then r.w / gl (r.b :: r.ps) else (lookT l (r.b / (gl (r.b :: r.ps) : Int), r.ps.map (· / (gl (r.b :: r.ps) : Int)))).getD (r.w / gl (r.b :: r.ps)) : Int)).natAbs ≤ B := by
      have h1 := Nat.le_trans (div_le (x := r.w) hg') hr.w
      split
      · exact h1
      · cases e : lookT l (r.b / (gl (r.b :: r.ps) : Int), r.ps.map (· / (gl (r.b :: r.ps) : Int))) with
        | none => exact h1
        | some v => exact (h.rows _ (look_mem e)).w
    have hne : (r.b / (gl (r.b :: r.ps) : Int), r.ps.map (· / (gl (r.b :: r.ps) : Int))) ≠ fkey many := fun e => by
      refine hg (gl_none _ fun x hx => ?_)
      have hd : (gl (r.b :: r.ps) : Int) ∣ x := gl_dvd hx
      have : x / (gl (r.b :: r.ps) : Int) = 0 := by
        rcases List.mem_cons.mp hx with rfl | hx
        · exact congrArg Prod.fst e
        · have e2 : r.ps.map (· / (gl (r.b :: r.ps) : Int)) = List.replicate many 0 := congrArg Prod.snd e
          have : x / (gl (r.b :: r.ps) : Int) ∈ List.replicate many (0 : Int) := e2 ▸ List.mem_map.mpr ⟨x, hx, rfl⟩
          exact List.eq_of_mem_replicate this
      have e4 := Int.mul_ediv_cancel' hd
      rw [this, Int.mul_zero] at e4
      exact e4.symm
    refine ⟨h.uniq.put _ _, fun p hp => ?_, fun p hp e => ?_, Nat.le_trans (putK_len _ _ _) (by have := h.len; omega)⟩
    · rcases mem_put.mp hp with rfl | ⟨hp, _⟩
      · refine ⟨hw, Nat.le_trans (div_le hg') hr.b, fun p hp => ?_, by show (r.ps.map _).length = many; rw [List.length_map]; exact hr.len⟩
        obtain ⟨y, hy, rfl⟩ := List.mem_map.mp hp
        exact Nat.le_trans (div_le hg') (hr.ps y hy)
      · exact h.rows p hp
    · rcases mem_put.mp hp with rfl | ⟨hp, _⟩
      · exact absurd e hne
      · exact h.fls p hp e
theorem leastR_ok (h : RestOk B many q) : RestOk B many (leastR q) := by
  have hg := rg_pos h.pos
  have hd := Int.mul_ediv_cancel' (rg_dvd (q := q))
  have hp := h.pos
  have hle := h.le
  have m1 : ∀ x : Int, (x % q.1 / rg q).natAbs ≤ B := fun x => by
    have h1 := mod_le (x := x) h.pos
    have := div_le (x := x % q.1) hg
    omega
  have hq : 0 < q.1 / rg q := by
    by_cases h1 : 0 < q.1 / rg q
    · exact h1
    · have h1 : q.1 / rg q ≤ 0 := by omega
      have : rg q * (q.1 / rg q) ≤ 0 := Int.mul_nonpos_of_nonneg_of_nonpos (by omega) h1
      omega
  refine ⟨hq, ?_, m1 _, m1 _, fun p hp => ?_, by show (q.2.ps.map _).length = many; rw [List.length_map]; exact h.row.len⟩
  · have := div_le (x := q.1) hg
    show q.1 / rg q ≤ B
    omega
  · obtain ⟨y, hy, rfl⟩ := List.mem_map.mp hp
    exact m1 y
structure SInv (B many n m : Nat) (st : List (Key × Int) × List (Rest × Bool)) : Prop where
  lines : LInv B many n st.1
  rests : ∀ p ∈ st.2, RestOk B many p.1
  len : st.2.length ≤ m
theorem SInv.step {n m : Nat} (hB : 1 ≤ B) (h : SInv B many n m st) (hq : RestOk B many q) : SInv B many (n + 1) (m + 1) (restStep many st q) := by
  have hl := h.len
  unfold restStep
  split
  · exact ⟨h.lines.mono (by omega), h.rests, by omega⟩
  · split
    · exact ⟨h.lines.putF hB, h.rests, Nat.le_succ_of_le hl⟩
    · refine ⟨h.lines.mono (by omega), fun p hp => ?_, Nat.le_trans (putK_len _ _ _) (by omega)⟩
      rcases mem_put.mp hp with rfl | ⟨hp, _⟩
      · exact leastR_ok hq
      · exact h.rests p hp
end
/-! ### the whole -/
def Keep (L : List Row) (R : List Rest) (base : Int) (ds : List Int) : Prop := (∀ r ∈ L, 0 ≤ rowV r base ds) ∧ ∀ q ∈ R, q.1 ∣ rowV q.2 base ds
def finL (many : Nat) (L : List Row) : List (Key × Int) := L.foldl (lineStep many) []
def finS (many : Nat) (L : List Row) (R : List Rest) : List (Key × Int) × List (Rest × Bool) := R.foldl (restStep many) (finL many L, [])
section
variable {B many : Nat} {base : Int} {ds : List Int}
theorem finL_ok (hB : 1 ≤ B) : ∀ (L : List Row) (l : List (Key × Int)) (n : Nat), LInv B many n l → (∀ r ∈ L, RowOk B many r) → LInv B many (n + L.length) (L.foldl (lineStep many) l) ∧
    (KeepL (L.foldl (lineStep many) l) base ds ↔ KeepL l base ds ∧ ∀ r ∈ L, 0 ≤ rowV r base ds)
  | [], l, n, h, _ => ⟨h, by simp⟩
  | r :: L, l, n, h, hr => by
    have ih := finL_ok hB L (lineStep many l r) (n + 1) (h.step hB (hr r List.mem_cons_self)) fun y hy => hr y (List.mem_cons_of_mem _ hy)
    rw [List.foldl_cons, List.length_cons]
    refine ⟨ih.1.mono (by omega), ih.2.trans ?_⟩
    rw [lineStep_keep h.uniq]
    exact ⟨fun h => ⟨h.1.1, fun y hy => (List.mem_cons.mp hy).elim (fun e => e ▸ h.1.2) (h.2 y)⟩, fun h => ⟨⟨h.1, h.2 r List.mem_cons_self⟩, fun y hy => h.2 y (List.mem_cons_of_mem _ hy)⟩⟩
theorem finR_ok (hB : 1 ≤ B) : ∀ (R : List Rest) (st : List (Key × Int) × List (Rest × Bool)) (n m : Nat), SInv B many n m st → (∀ q ∈ R, RestOk B many q) → SInv B many (n + R.length) (m + R.length) (R.foldl (restStep many) st) ∧
    ((KeepL (R.foldl (restStep many) st).1 base ds ∧ KeepR (R.foldl (restStep many) st).2 base ds) ↔ (KeepL st.1 base ds ∧ KeepR st.2 base ds) ∧ ∀ q ∈ R, q.1 ∣ rowV q.2 base ds)
  | [], st, n, m, h, _ => ⟨h, by simp⟩
  | q :: R, st, n, m, h, hq => by
    have ih := finR_ok hB R (restStep many st q) (n + 1) (m + 1) (h.step hB (hq q List.mem_cons_self)) fun y hy => hq y (List.mem_cons_of_mem _ hy)
    rw [List.foldl_cons, List.length_cons]
    have i1 := ih.1
    rw [show n + 1 + R.length = n + (R.length + 1) by omega, show m + 1 + R.length = m + (R.length + 1) by omega] at i1
    refine ⟨i1, ih.2.trans ?_⟩
    rw [restStep_keep (hq q List.mem_cons_self).pos]
    exact ⟨fun h => ⟨h.1.1, fun y hy => (List.mem_cons.mp hy).elim (fun e => e ▸ h.1.2) (h.2 y)⟩, fun h => ⟨⟨h.1, h.2 q List.mem_cons_self⟩, fun y hy => h.2 y (List.mem_cons_of_mem _ hy)⟩⟩
theorem finS_ok (hB : 1 ≤ B) {L : List Row} {R : List Rest} (hL : ∀ r ∈ L, RowOk B many r) (hR : ∀ q ∈ R, RestOk B many q) : SInv B many (L.length + R.length) R.length (finS many L R) ∧
    ((KeepL (finS many L R).1 base ds ∧ KeepR (finS many L R).2 base ds) ↔ Keep L R base ds) := by
  have h1 := finL_ok (base := base) (ds := ds) hB L [] 0 LInv.nil hL
  rw [Nat.zero_add] at h1
  have h2 := finR_ok (base := base) (ds := ds) hB R (finL many L, []) L.length 0 ⟨h1.1, fun p hp => (nomatch hp), Nat.le_refl _⟩ hR
  rw [Nat.zero_add] at h2
  refine ⟨h2.1, h2.2.trans ?_⟩
  have e : KeepL (finL many L) base ds ↔ ∀ r ∈ L, 0 ≤ rowV r base ds := h1.2.trans ⟨fun h => h.2, fun h => ⟨fun p hp => (nomatch hp), h⟩⟩
  show ((KeepL (finL many L) base ds ∧ KeepR [] base ds) ∧ _) ↔ _
  rw [e]
  exact ⟨fun h => ⟨h.1.1, h.2⟩, fun h => ⟨⟨h.1, fun p hp => (nomatch hp)⟩, h.2⟩⟩
end
/-! ### sorted -/
def srtT {α : Type} (f : α → PD) (l : List α) : List α := l.mergeSort fun a b => PySem.W.dataLe false (fun x => x) (f a) (f b)
theorem sort_ok {α : Type} {f : α → PD} {l : List α} (hl : l.length ≤ 1000000) (ha : ∀ a ∈ l, ∀ b ∈ l, PySem.W.alike (f a) (f b) = true) (ht : ∀ a ∈ l, ∃ x xs, f a = .tuple (x :: xs)) (hd : ∀ a ∈ l, (f a).depth ≤ 50) : sortD (l.map f) = some ((srtT f l).map f) := by
  unfold sortD
  rw [if_pos]
  · refine congrArg some ?_
    exact (List.map_mergeSort (f := f) (r := fun a b => PySem.W.dataLe false (fun x => x) (f a) (f b)) (s := PySem.W.dataLe false fun x => x) (l := l) fun a _ b _ => rfl).symm
  · refine ⟨⟨by rw [List.length_map]; exact hl, ?_⟩, ?_, ?_⟩
    · rw [List.all_map, List.all_eq_true]
      intro a h
      show ((l.map f).all fun y => PySem.W.alike (f a) y) = true
      rw [List.all_map, List.all_eq_true]
      exact fun b hb => ha a h b hb
    · rw [Bool.or_eq_true]
      refine .inl ?_
      rw [List.all_map, List.all_eq_true]
      intro a h
      obtain ⟨x, xs, e⟩ := ht a h
      show (match f a with | .tuple (_ :: _) => true | _ => false) = true
      rw [e]
    · rw [List.all_map, List.all_eq_true]
      exact fun a h => decide_eq_true (hd a h)
theorem mem_srt {α : Type} {f : α → PD} {l : List α} {a : α} : a ∈ srtT f l ↔ a ∈ l := List.mem_mergeSort
theorem len_srt {α : Type} {f : α → PD} {l : List α} : (srtT f l).length = l.length := List.length_mergeSort l
open PySem.W in
theorem alike_ints : ∀ xs ys : List Int, alikeAll (xs.map .int) (ys.map .int) = true
  | [], _ => by rw [List.map_nil, alikeAll]
  | _ :: _, [] => by rw [List.map_nil, List.map_cons, alikeAll]
  | x :: xs, y :: ys => by rw [List.map_cons, List.map_cons, alikeAll, alike_ints xs ys, alike]; rfl
open PySem.W in
theorem alike_row (r r' : Row) : alike (rowD r) (rowD r') = true := by
  unfold rowD
  rw [alike, alikeAll, alikeAll, alikeAll, alikeAll, alike, alike, alike, alike_ints]
  rfl
open PySem.W in
theorem alike_rest (q q' : Rest) : alike (restD q) (restD q') = true := by
  unfold restD
  rw [alike, alikeAll, alikeAll, alikeAll, alike, alike_row]
  rfl
theorem depth_ints : ∀ xs : List Int, PyData.depthAll (xs.map .int) ≤ 0
  | [] => Nat.le_refl _
  | x :: xs => by
    have := depth_ints xs
    rw [List.map_cons]
    simp only [PyData.depthAll, PyData.depth]
    omega
theorem depth_row (r : Row) : (rowD r).depth ≤ 5 := by
  have := depth_ints r.ps
  unfold rowD
  simp only [PyData.depthAll, PyData.depth]
  omega
theorem depth_rest (q : Rest) : (restD q).depth ≤ 10 := by
  have := depth_row q.2
  unfold restD
  simp only [PyData.depthAll, PyData.depth]
  omega
def sysD (many : Nat) (L : List Row) (R : List Rest) : PD := .tuple [.int many, .tuple (L.map rowD), .tuple (R.map restD)]
def madeL (many : Nat) (L : List Row) (R : List Rest) : List Row := (srtT lineD (finS many L R).1).map rowOf
def madeR (many : Nat) (L : List Row) (R : List Rest) : List Rest := (srtT (fun p => restD p.1) (finS many L R).2).map (·.1)
def madeD (many : Nat) (L : List Row) (R : List Rest) : PD := sysD many (madeL many L R) (madeR many L R)
theorem made_lines {B many : Nat} {l : List (Key × Int)} (hl : l.length ≤ 1000000) : sortD (l.map lineD) = some (((srtT lineD l).map rowOf).map rowD) := by
  rw [sort_ok (f := lineD) hl (fun a _ b _ => alike_row (rowOf a) (rowOf b)) (fun a _ => ⟨_, _, rfl⟩) (fun a _ => Nat.le_trans (depth_row (rowOf a)) (by decide)), List.map_map]
  rfl
theorem made_rests {l : List (Rest × Bool)} (hl : l.length ≤ 1000000) : sortD (l.map fun p => restD p.1) = some (((srtT (fun p => restD p.1) l).map (·.1)).map restD) := by
  rw [sort_ok (f := fun p : Rest × Bool => restD p.1) hl (fun a _ b _ => alike_rest a.1 b.1) (fun a _ => ⟨_, _, rfl⟩) (fun a _ => Nat.le_trans (depth_rest a.1) (by decide)), List.map_map]
  rfl
structure Sys (B many : Nat) (L : List Row) (R : List Rest) : Prop where
  lines : ∀ r ∈ L, RowOk B many r
  rests : ∀ q ∈ R, RestOk B many q
theorem made_sys {B many : Nat} (hB : 1 ≤ B) {L : List Row} {R : List Rest} (h : Sys B many L R) : Sys B many (madeL many L R) (madeR many L R) ∧ (madeL many L R).length ≤ L.length + R.length ∧ (madeR many L R).length ≤ R.length ∧
    ∀ base ds, Keep (madeL many L R) (madeR many L R) base ds ↔ Keep L R base ds := by
  have hf := fun base ds => finS_ok (base := base) (ds := ds) hB h.lines h.rests
  have h1 := (hf 0 []).1
  refine ⟨⟨fun r hr => ?_, fun q hq => ?_⟩, ?_, ?_, fun base ds => ?_⟩
  · obtain ⟨p, hp, rfl⟩ := List.mem_map.mp hr
    exact h1.lines.rows p (mem_srt.mp hp)
  · obtain ⟨p, hp, rfl⟩ := List.mem_map.mp hq
    exact h1.rests p (mem_srt.mp hp)
  · unfold madeL
    rw [List.length_map, len_srt]
    exact h1.lines.len
  · unfold madeR
    rw [List.length_map, len_srt]
    exact h1.len
  · rw [← (hf base ds).2]
    unfold Keep madeL madeR KeepL KeepR
    constructor
    · exact fun k => ⟨fun p hp => k.1 (rowOf p) (List.mem_map.mpr ⟨p, mem_srt.mpr hp, rfl⟩), fun p hp => k.2 p.1 (List.mem_map.mpr ⟨p, mem_srt.mpr hp, rfl⟩)⟩
    · refine fun k => ⟨fun r hr => ?_, fun q hq => ?_⟩
      · obtain ⟨p, hp, rfl⟩ := List.mem_map.mp hr
        exact k.1 p (mem_srt.mp hp)
      · obtain ⟨p, hp, rfl⟩ := List.mem_map.mp hq
        exact k.2 p (mem_srt.mp hp)
end Mini

set_option Elab.async false
set_option linter.all false
set_option maxRecDepth 100000
set_option maxHeartbeats 4000000
set_option pp.deepTerms false
set_option pp.deepTerms.threshold 12
/-! Mini, part Y: the defs about forms and systems, each once. -/
namespace Mini
open PySem
def commonB : S :=
 (.seq (.whl (.cmp .ne (.var 1) (.cst (.int 0)))
  (.seq (.par [0, 1] (.cons (.var 1) (.cons (.bin .mod (.var 0) (.var 1)) .nil)))
  .skip))
 (.seq (.ret (.bi .abs (.cons (.var 0) .nil)))
 .skip))
def gcdB : S :=
 (.seq (.par [0, 1] (.cons (.bi .abs (.cons (.var 0) .nil)) (.cons (.bi .abs (.cons (.var 1) .nil)) .nil)))
 (.seq (.whl (.cmp .ne (.var 1) (.cst (.int 0)))
  (.seq (.par [0, 1] (.cons (.var 1) (.cons (.bin .mod (.var 0) (.var 1)) .nil)))
  .skip))
 (.seq (.ret (.var 0))
 .skip)))
def foldB (c : Nat) : S :=
 (.seq (.set (.nm 1) (.cst (.int 0)))
 (.seq (.for (.nm 2) (.var 0)
  (.seq (.set (.nm 1) (.call c (.cons (.var 1) (.cons (.var 2) .nil))))
  .skip))
 (.seq (.ret (.var 1))
 .skip)))
def formB (c : Nat) : S :=
 (.seq (.set (.nm 4) (.call c (.cons (.bin .add (.tup (.cons (.var 0) (.cons (.var 1) (.cons (.var 2) .nil)))) (.bi .tuple (.cons (.var 3) .nil))) .nil)))
 (.seq (.ret (.tup (.cons (.bin .fdiv (.var 0) (.var 4)) (.cons (.bin .fdiv (.var 1) (.var 4)) (.cons (.bin .fdiv (.var 2) (.var 4)) (.cons (.bi .tuple (.cons (.comp false (.bin .fdiv (.var 5) (.var 4)) (.nm 5) (.var 3) (.cst (.bool true)) [5]) .nil)) .nil))))))
 .skip))
def rowB : S :=
 (.seq (.ret (.bin .add (.bin .add (.ix (.var 0) (.cst (.int 0))) (.bin .mul (.ix (.var 0) (.cst (.int 1))) (.var 1))) (.bi .sum (.cons (.comp false (.bin .mul (.var 3) (.var 4)) (.tp [3, 4]) (.zip (.ix (.var 0) (.cst (.int 2))) (.var 2)) (.cst (.bool true)) [3, 4]) .nil))))
 .skip)
def falseB : S :=
 (.seq (.ret (.tup (.cons (.bin .sub (.cst (.int 0)) (.cst (.int 1))) (.cons (.cst (.int 0)) (.cons (.bin .mul (.tup (.cons (.cst (.int 0)) .nil)) (.var 0)) .nil)))))
 .skip)
def lineB (c : Nat) (f : Nat) : S :=
 (.seq (.set (.tp [1, 2, 3]) (.var 0))
 (.seq (.set (.nm 4) (.call c (.cons (.bin .add (.tup (.cons (.var 2) .nil)) (.bi .tuple (.cons (.var 3) .nil))) .nil)))
 (.seq (.ifs (.cmp .eq (.var 4) (.cst (.int 0)))
  (.seq (.ret (.ife (.cmp .ge (.var 1) (.cst (.int 0))) (.cst .none) (.call f (.cons (.bi .len (.cons (.var 3) .nil)) .nil))))
  .skip)
  .skip)
 (.seq (.ret (.tup (.cons (.bin .fdiv (.var 1) (.var 4)) (.cons (.bin .fdiv (.var 2) (.var 4)) (.cons (.bi .tuple (.cons (.comp false (.bin .fdiv (.var 5) (.var 4)) (.nm 5) (.var 3) (.cst (.bool true)) [5]) .nil)) .nil)))))
 .skip))))
def restB (c : Nat) : S :=
 (.seq (.set (.nm 2) (.comp false (.bin .mod (.var 3) (.var 0)) (.nm 3) (.bin .add (.tup (.cons (.ix (.var 1) (.cst (.int 0))) (.cons (.ix (.var 1) (.cst (.int 1))) .nil))) (.bi .tuple (.cons (.ix (.var 1) (.cst (.int 2))) .nil))) (.cst (.bool true)) [3]))
 (.seq (.set (.nm 4) (.call c (.cons (.bin .add (.lst (.cons (.var 0) .nil)) (.var 2)) .nil)))
 (.seq (.set (.tp [0, 2]) (.tup (.cons (.bin .fdiv (.var 0) (.var 4)) (.cons (.comp false (.bin .fdiv (.var 3) (.var 4)) (.nm 3) (.var 2) (.cst (.bool true)) [3]) .nil))))
 (.seq (.ifs (.cmp .eq (.var 0) (.cst (.int 1)))
  (.seq (.ret (.cst .none))
  .skip)
  .skip)
 (.seq (.ifs (.cmp .eq (.comp false (.var 3) (.nm 3) (.sl (.var 2) (.cst (.int 1)) .nil) (.cmp .ne (.var 3) (.cst (.int 0))) [3]) (.lst .nil))
  (.seq (.ret (.cst (.bool false)))
  .skip)
  .skip)
 (.seq (.ret (.tup (.cons (.var 0) (.cons (.tup (.cons (.ix (.var 2) (.cst (.int 0))) (.cons (.ix (.var 2) (.cst (.int 1))) (.cons (.bi .tuple (.cons (.sl (.var 2) (.cst (.int 2)) .nil) .nil)) .nil)))) .nil))))
 .skip))))))
def sysB (a : Nat) (b : Nat) : S :=
 (.seq (.par [3, 4] (.cons (.newd true) (.cons (.newd true) .nil)))
 (.seq (.for (.nm 5) (.var 1)
  (.seq (.set (.nm 6) (.call a (.cons (.var 5) .nil)))
  (.seq (.ifs (.cmp .isnot (.var 6) (.cst .none))
   (.seq (.set (.nm 7) (.sl (.var 6) (.cst (.int 1)) .nil))
   (.seq (.seti (.var 3) (.var 7) (.bi .min (.cons (.dget (.var 3) (.var 7) (.ix (.var 6) (.cst (.int 0)))) (.cons (.ix (.var 6) (.cst (.int 0))) .nil))))
   .skip))
   .skip)
  .skip)))
 (.seq (.for (.tp [8, 5]) (.var 2)
  (.seq (.set (.nm 9) (.call b (.cons (.var 8) (.cons (.var 5) .nil))))
  (.seq (.ifs (.cmp .eq (.var 9) (.cst (.bool false)))
   (.seq (.seti (.var 3) (.tup (.cons (.cst (.int 0)) (.cons (.bin .mul (.tup (.cons (.cst (.int 0)) .nil)) (.var 0)) .nil))) (.bin .sub (.cst (.int 0)) (.cst (.int 1))))
   .skip)
   (.seq (.ifs (.cmp .isnot (.var 9) (.cst .none))
    (.seq (.seti (.var 4) (.var 9) (.cst (.bool true)))
    .skip)
    .skip)
   .skip))
  .skip)))
 (.seq (.ret (.tup (.cons (.var 0) (.cons (.bi .tuple (.cons (.srt (.comp false (.bin .add (.tup (.cons (.var 10) .nil)) (.var 7)) (.tp [7, 10]) (.items (.var 3)) (.cst (.bool true)) [7, 10])) .nil)) (.cons (.bi .tuple (.cons (.srt (.var 4)) .nil)) .nil)))))
 .skip))))
def linesB (c : Nat) : S :=
 (.seq (.ret (.call c (.cons (.ix (.var 0) (.cst (.int 0))) (.cons (.bin .add (.ix (.var 0) (.cst (.int 1))) (.bi .tuple (.cons (.comp false (.sl (.var 2) (.cst (.int 1)) .nil) (.nm 2) (.var 1) (.cst (.bool true)) [2]) .nil))) (.cons (.ix (.var 0) (.cst (.int 2))) .nil)))))
 .skip)
def withRestB (c : Nat) : S :=
 (.seq (.ret (.call c (.cons (.ix (.var 0) (.cst (.int 0))) (.cons (.ix (.var 0) (.cst (.int 1))) (.cons (.bin .add (.ix (.var 0) (.cst (.int 2))) (.tup (.cons (.tup (.cons (.bin .mul (.var 1) (.ix (.var 2) (.cst (.int 0)))) (.cons (.sl (.var 2) (.cst (.int 1)) .nil) .nil))) .nil))) .nil)))))
 .skip)
def keepsB (c : Nat) : S :=
 (.seq (.ifs (.or (.cmp .ne (.bi .len (.cons (.var 2) .nil)) (.ix (.var 0) (.cst (.int 0)))) (.cmp .ne (.comp false (.var 3) (.nm 3) (.var 2) (.not (.chain .le .lt (.cst (.int 0)) (.var 3) (.var 1))) [3]) (.lst .nil)))
  (.seq (.ret (.cst (.bool false)))
  .skip)
  .skip)
 (.seq (.ifs (.cmp .ne (.comp false (.var 4) (.nm 4) (.ix (.var 0) (.cst (.int 1))) (.cmp .lt (.call c (.cons (.var 4) (.cons (.var 1) (.cons (.var 2) .nil)))) (.cst (.int 0))) [4]) (.lst .nil))
  (.seq (.ret (.cst (.bool false)))
  .skip)
  .skip)
 (.seq (.ret (.cmp .eq (.comp false (.var 4) (.tp [5, 4]) (.ix (.var 0) (.cst (.int 2))) (.cmp .ne (.bin .mod (.call c (.cons (.var 4) (.cons (.var 1) (.cons (.var 2) .nil)))) (.var 5)) (.cst (.int 0))) [5, 4]) (.lst .nil)))
 .skip)))
def digitsB : S :=
 (.seq (.set (.nm 2) (.lst (.cons (.tup .nil) .nil)))
 (.seq (.for (.nm 3) (.rng (.cons (.var 1) .nil))
  (.seq (.set (.nm 2) (.bi .sum (.cons (.comp false (.comp false (.bin .add (.var 5) (.tup (.cons (.var 4) .nil))) (.nm 4) (.rng (.cons (.var 0) .nil)) (.cst (.bool true)) [4]) (.nm 5) (.var 2) (.cst (.bool true)) [5]) (.cons (.lst .nil) .nil))))
  .skip))
 (.seq (.ret (.var 2))
 .skip)))
def lawKeepsB (c : Nat) : S :=
 (.seq (.ifs (.or (.cmp .ne (.bi .len (.cons (.var 2) .nil)) (.ix (.var 0) (.cst (.int 0)))) (.cmp .ne (.comp false (.var 3) (.nm 3) (.var 2) (.not (.chain .le .lt (.cst (.int 0)) (.var 3) (.var 1))) [3]) (.lst .nil)))
  (.seq (.ret (.cst (.bool false)))
  .skip)
  .skip)
 (.seq (.ifs (.cmp .ne (.comp false (.var 4) (.nm 4) (.ix (.var 0) (.cst (.int 1))) (.cmp .lt (.call c (.cons (.var 4) (.cons (.var 1) (.cons (.var 2) .nil)))) (.cst (.int 0))) [4]) (.lst .nil))
  (.seq (.ret (.cst (.bool false)))
  .skip)
  .skip)
 (.seq (.ret (.cmp .eq (.comp false (.cst (.int 1)) (.tp [5, 4]) (.ix (.var 0) (.cst (.int 2))) (.cmp .ne (.bin .mod (.call c (.cons (.var 4) (.cons (.var 1) (.cons (.var 2) .nil)))) (.var 5)) (.cst (.int 0))) [5, 4]) (.lst .nil)))
 .skip)))
def leastB (c : Nat) : S :=
 (.seq (.par [3, 4, 5] (.cons (.newd true) (.cons (.newd true) (.cons (.tup (.cons (.neg (.cst (.int 1))) (.cons (.cst (.int 0)) (.cons (.bin .mul (.tup (.cons (.cst (.int 0)) .nil)) (.var 0)) .nil)))) .nil))))
 (.seq (.for (.tp [6, 7, 8]) (.var 1)
  (.seq (.set (.nm 9) (.call c (.cons (.bin .add (.lst (.cons (.var 7) .nil)) (.bi .list (.cons (.var 8) .nil))) .nil)))
  (.seq (.ifs (.cmp .gt (.var 9) (.cst (.int 0)))
   (.seq (.set (.nm 10) (.bin .add (.tup (.cons (.bin .fdiv (.var 7) (.var 9)) .nil)) (.tup (.cons (.bi .tuple (.cons (.comp false (.bin .fdiv (.var 11) (.var 9)) (.nm 11) (.var 8) (.cst (.bool true)) [11]) .nil)) .nil))))
   (.seq (.seti (.var 3) (.var 10) (.bi .min (.cons (.dget (.var 3) (.var 10) (.bin .fdiv (.var 6) (.var 9))) (.cons (.bin .fdiv (.var 6) (.var 9)) .nil))))
   .skip))
   (.seq (.ifs (.cmp .lt (.var 6) (.cst (.int 0)))
    (.seq (.seti (.var 3) (.tup (.cons (.cst (.int 0)) (.cons (.bin .mul (.tup (.cons (.cst (.int 0)) .nil)) (.var 0)) .nil))) (.neg (.cst (.int 1))))
    .skip)
    .skip)
   .skip))
  .skip)))
 (.seq (.for (.pr 12 [6, 7, 8]) (.var 2)
  (.seq (.set (.nm 13) (.comp false (.bin .mod (.var 14) (.var 12)) (.nm 14) (.bin .add (.tup (.cons (.var 6) (.cons (.var 7) .nil))) (.bi .tuple (.cons (.var 8) .nil))) (.cst (.bool true)) [14]))
  (.seq (.set (.nm 9) (.call c (.cons (.bin .add (.lst (.cons (.var 12) .nil)) (.var 13)) .nil)))
  (.seq (.ifs (.and (.cmp .gt (.bin .fdiv (.var 12) (.var 9)) (.cst (.int 1))) (.cmp .eq (.comp false (.var 14) (.nm 14) (.sl (.var 13) (.cst (.int 1)) .nil) (.cmp .ne (.var 14) (.cst (.int 0))) [14]) (.lst .nil)))
   (.seq (.seti (.var 3) (.tup (.cons (.cst (.int 0)) (.cons (.bin .mul (.tup (.cons (.cst (.int 0)) .nil)) (.var 0)) .nil))) (.neg (.cst (.int 1))))
   .skip)
   (.seq (.ifs (.cmp .gt (.bin .fdiv (.var 12) (.var 9)) (.cst (.int 1)))
    (.seq (.seti (.var 4) (.tup (.cons (.bin .fdiv (.var 12) (.var 9)) (.cons (.tup (.cons (.bin .fdiv (.ix (.var 13) (.cst (.int 0))) (.var 9)) (.cons (.bin .fdiv (.ix (.var 13) (.cst (.int 1))) (.var 9)) (.cons (.bi .tuple (.cons (.comp false (.bin .fdiv (.var 14) (.var 9)) (.nm 14) (.sl (.var 13) (.cst (.int 2)) .nil) (.cst (.bool true)) [14]) .nil)) .nil)))) .nil))) (.cst (.bool true)))
    .skip)
    .skip)
   .skip))
  .skip))))
 (.seq (.ret (.tup (.cons (.var 0) (.cons (.bi .tuple (.cons (.srt (.comp false (.bin .add (.tup (.cons (.ix (.var 3) (.var 10)) .nil)) (.var 10)) (.nm 10) (.var 3) (.cst (.bool true)) [10])) .nil)) (.cons (.bi .tuple (.cons (.srt (.var 4)) .nil)) .nil)))))
 .skip))))
/-! # dicts of the store -/
structure kDput (o i x : W) (s : Sto) (Q : Sto → Prop) : Prop where
  out : ∃ n m kvs k xd, o = .ref n ∧ i = .d k ∧ x = .d xd ∧ s[n]? = some (.dct m false kvs) ∧ okKey m k = true ∧ kvs.length < 1000000 ∧ Q (s.set n (.dct m false (putD kvs k xd)))
theorem wS_dput {F : Fs} {co ci ca : E} {v : En} {s : Sto} {Q : Out → Prop} (h : wE F.fe ca v s fun x s1 => wE F.fe co v s1 fun o s2 => wE F.fe ci v s2 fun i s3 => kDput o i x s3 fun s4 => Q (.nx v s4)) : wS F (.seti co ci ca) v s Q := by
  obtain ⟨x, s1, e1, h⟩ := h.out
  obtain ⟨o, s2, e2, h⟩ := h.out
  obtain ⟨i, s3, e3, h⟩ := h.out
  obtain ⟨n, m, kvs, k, xd, rfl, rfl, rfl, hs, hk, hl, h⟩ := h.out
  refine ⟨?_⟩
  rw [evS, e1, Rs.out_ok, e2, Rs.out_ok, e3, Rs.out_ok]
  show Q (Out.ofS v ((view s3 (.d k)).bind fun i => setD n i xd s3 <|> dputD n i xd s3))
  have e4 : setD n k xd s3 = none := by unfold setD; rw [hs]
  have e5 : dputD n k xd s3 = some (s3.set n (.dct m false (putD kvs k xd))) := by
    unfold dputD
    rw [hs]
    simp only [hk, Bool.true_and]
    rw [decide_eq_true (Nat.lt_of_lt_of_le hl (by decide)), if_pos rfl]
  rw [view_d, Option.bind_some, e4, e5]
  exact h
section
variable {s : Sto} {a b c : Ob}
theorem sg0 : (s ++ [a, b])[s.length]? = some a := by simp
theorem sg1 : (s ++ [a, b])[s.length + 1]? = some b := by simp
theorem ss0 : (s ++ [a, b]).set s.length c = s ++ [c, b] := by simp
theorem ss1 : (s ++ [a, b]).set (s.length + 1) c = s ++ [a, c] := by simp
end
def encL (p : Key × Int) : PD × PD := (keyD p.1, .int p.2)
def encR (p : Rest × Bool) : PD × PD := (restD p.1, .bool p.2)
/-- the two dicts at the store's end -/
def two (s : Sto) (f1 f2 : Bool) (l : List (Key × Int)) (r : List (Rest × Bool)) : Sto := s ++ [.dct true f1 (l.map encL), .dct true f2 (r.map encR)]
section
variable {s : Sto} {f1 f2 : Bool} {l : List (Key × Int)} {r : List (Rest × Bool)}
theorem at0 : dictAt (two s f1 f2 l r) (.ref s.length) = some (true, l.map encL) := by
  unfold dictAt two
  simp only [sg0]
theorem at1 : dictAt (two s f1 f2 l r) (.ref (s.length + 1)) = some (true, r.map encR) := by
  unfold dictAt two
  simp only [sg1]
theorem frz0 : freeze (two s f1 f2 l r) (.ref s.length) = two s true f2 l r := by
  unfold freeze two
  simp only [sg0, ss0]
theorem frz1 : freeze (two s f1 f2 l r) (.ref (s.length + 1)) = two s f1 true l r := by
  unfold freeze two
  simp only [sg1, ss1]
theorem take_two : (two s f1 f2 l r).take s.length = s := by unfold two; exact List.take_left
theorem kDput0 {k : Key} {w : Int} {Q : Sto → Prop} (hl : l.length < 1000000) (h : Q (two s false f2 (putK l k w) r)) : kDput (.ref s.length) (.d (keyD k)) (.d (.int w)) (two s false f2 l r) Q := by
  refine ⟨_, _, _, _, _, rfl, rfl, rfl, sg0, okKey_key k, by rw [List.length_map]; exact hl, ?_⟩
  have e : putD (l.map encL) (keyD k) (.int w) = (putK l k w).map encL := put_enc (f := PyData.int) enc_key l k w
  rw [e]
  unfold two
  rw [ss0]
  exact h
theorem kDput1 {k : Rest} {w : Bool} {Q : Sto → Prop} (hl : r.length < 1000000) (h : Q (two s f1 false l (putK r k w))) : kDput (.ref (s.length + 1)) (.d (restD k)) (.d (.bool w)) (two s f1 false l r) Q := by
  refine ⟨_, _, _, _, _, rfl, rfl, rfl, sg1, okKey_rest k, by rw [List.length_map]; exact hl, ?_⟩
  have e : putD (r.map encR) (restD k) (.bool w) = (putK r k w).map encR := put_enc (f := PyData.bool) enc_rest r k w
  rw [e]
  unfold two
  rw [ss1]
  exact h
theorem get0 {k : Key} {w : Int} : getR (two s f1 f2 l r) (.ref s.length) (.d (keyD k)) (.d (.int w)) = some (.d (.int ((lookT l k).getD w))) := by
  unfold getR
  rw [at0, Option.bind_some, view_d, Option.bind_some, okKey_key, if_pos rfl]
  have e : lookD (l.map encL) (keyD k) = (lookT l k).map PyData.int := look_enc (f := PyData.int) enc_key k l
  rw [e]
  cases lookT l k <;> rfl
end
theorem kWalk_items {p : PD} {l : List PD} {s : Sto} {K : List PD → List (Nat × List PD) → Sto → Prop} (h : itemsD p = some l) (k : K l [] s) : kWalk (.d p) s K := ⟨⟨l, h, k⟩⟩
/-! # the greatest common part -/
section
variable {P : Pg} {n i c : Nat} {s : Sto} {K : W → Sto → Prop}
theorem gcd_mod (a b : Int) : Int.gcd b (a.fmod b) = Int.gcd a b := by
  have h := Int.fmod_def a b
  refine Nat.dvd_antisymm (Int.dvd_gcd ?_ (Int.gcd_dvd_left ..)) (Int.dvd_gcd (Int.gcd_dvd_right ..) ?_)
  · have e : a = a.fmod b + b * a.fdiv b := by omega
    have := Int.dvd_add (Int.gcd_dvd_right b (a.fmod b)) (Int.dvd_mul_of_dvd_left (c := a.fdiv b) (Int.gcd_dvd_left b (a.fmod b)))
    rwa [← e] at this
  · rw [h]
    exact Int.dvd_sub (Int.gcd_dvd_left ..) (Int.dvd_mul_of_dvd_left (Int.gcd_dvd_right ..))
theorem fmod_lt (a b : Int) (h : b ≠ 0) : (a.fmod b).natAbs < b.natAbs := by
  have pos : ∀ a b : Int, 0 < b → (a.fmod b).natAbs < b.natAbs := fun a b h => by
    have h2 := Int.fmod_nonneg_of_pos a h
    have h3 := Int.fmod_lt_of_pos a h
    omega
  rcases Int.lt_trichotomy b 0 with h1 | h1 | h1
  · have e := Int.neg_fmod_neg (-a) (-b)
    rw [Int.neg_neg, Int.neg_neg] at e
    have := pos (-a) (-b) (by omega)
    rw [e]
    omega
  · exact absurd h1 h
  · exact pos a b h1
theorem gcd_whl {F : Fs} {a b : Int} {Q : Out → Prop} (hb : b.natAbs < 1000000000) (k : ∀ z : Int, z.natAbs = Int.gcd a b → (0 ≤ a → 0 ≤ b → 0 ≤ z) → Q (.nx [some (.d (.int z)), some (.d (.int 0))] s)) :
    wS F (.whl (.cmp .ne (.var 1) (.cst (.int 0))) (.seq (.par [0, 1] (.cons (.var 1) (.cons (.bin .mod (.var 0) (.var 1)) .nil))) .skip)) [some (.d (.int a)), some (.d (.int b))] s Q := by
  refine wS_whl (fun v s' => ∃ x y : Int, v = [some (.d (.int x)), some (.d (.int y))] ∧ s' = s ∧ Int.gcd x y = Int.gcd a b ∧ (0 ≤ a → 0 ≤ b → 0 ≤ x ∧ 0 ≤ y)) (fun v _ => match v with | [_, some (.d (.int y))] => y.natAbs | _ => 0) ⟨a, b, rfl, rfl, rfl, fun h1 h2 => ⟨h1, h2⟩⟩ (Nat.lt_trans hb (by decide)) ?_
  rintro v s' ⟨x, y, rfl, rfl, hg, hn⟩
  refine wE_cmp (wE_var rfl (wE_cst (kCmp_of (k := !decide (y = 0)) rfl (kIf_ndec (fun h0 => ?_) fun h0 => ?_))))
  · refine wS_seq (wS_par (wL_cons (wE_var rfl (wL_cons (wE_bin (wE_var rfl (wE_var rfl (kBin_of (mod_ok h0) (wL_nil ?_)))))))))
    refine ⟨_, SetAllW.cons .zero (.cons (.succ .zero) .nil), qSeq_nx (wS_skip ⟨⟨y, x.fmod y, rfl, rfl, by rw [gcd_mod]; exact hg, fun h1 h2 => ⟨(hn h1 h2).2, Int.fmod_nonneg_of_pos _ (by have := (hn h1 h2).2; omega)⟩⟩, fmod_lt _ _ h0⟩)⟩
  · subst h0
    refine k x ?_ fun h1 h2 => (hn h1 h2).1
    rw [← hg, Int.gcd_zero_right]
theorem wC_common {a b : Int} (hf : P.fns[i]? = some ⟨2, 2, commonB⟩) (hb : b.natAbs < 1000000000) (k : K (.d (.int (Int.gcd a b))) s) : wC (cx P (n + 1)).fe i [.d (.int a), .d (.int b)] s K := by
  refine wC_run hf rfl rfl (wS_seq (gcd_whl hb fun z hz _ => qSeq_nx (wS_seq (wS_ret (wE_bi (wL_cons (wE_var rfl (wL_nil (kBi_of (.d .nil) (z := .int (if z < 0 then -z else z)) rfl (qSeq_ret (qRet_same ?_)))))))))))
  rw [show (if z < 0 then -z else z) = (Int.gcd a b : Int) by split <;> omega]
  exact k
theorem wC_gcd {a b : Int} (hf : P.fns[i]? = some ⟨2, 2, gcdB⟩) (hb : b.natAbs < 1000000000) (k : K (.d (.int (Int.gcd a b))) s) : wC (cx P (n + 1)).fe i [.d (.int a), .d (.int b)] s K := by
  refine wC_run hf rfl rfl (wS_seq (wS_par (wL_cons (wE_bi (wL_cons (wE_var rfl (wL_nil (kBi_of (.d .nil) (z := .int (if a < 0 then -a else a)) rfl (wL_cons (wE_bi (wL_cons (wE_var rfl (wL_nil (kBi_of (.d .nil) (z := .int (if b < 0 then -b else b)) rfl (wL_nil ?_)))))))))))))))
  refine ⟨_, SetAllW.cons .zero (.cons (.succ .zero) .nil), qSeq_nx (wS_seq (gcd_whl (by split <;> omega) fun z hz h0 => qSeq_nx (wS_seq (wS_ret (wE_var rfl (qSeq_ret (qRet_same ?_)))))))⟩
  have h0 := h0 (by split <;> omega) (by split <;> omega)
  have e : Int.gcd (if a < 0 then -a else a) (if b < 0 then -b else b) = Int.gcd a b := by
    split <;> split <;> simp [Int.gcd_eq_natAbs_gcd_natAbs]
  rw [e] at hz
  rw [show z = (Int.gcd a b : Int) by omega]
  exact k
/-- a def that gives the greatest common part of a row of numbers -/
def GcdOf (P : Pg) (n c : Nat) : Prop := ∀ (s : Sto) (pt : PD) (ns : List Int) (K : W → Sto → Prop), itemsD pt = some (ns.map .int) → (∀ x ∈ ns, x.natAbs < 1000000000) → K (.d (.int (gl ns))) s → wC (cx P n).fe c [.d pt] s K
theorem gcdOf_of (hf : P.fns[i]? = some ⟨1, 3, foldB c⟩) (hc : ∀ (a b : Int) (s : Sto) (K : W → Sto → Prop), b.natAbs < 1000000000 → K (.d (.int (Int.gcd a b))) s → wC (cx P n).fe c [.d (.int a), .d (.int b)] s K) : GcdOf P (n + 1) i := by
  intro s pt ns K hp hb k
  refine wC_run hf rfl rfl (wS_seq (wS_set (wE_cst (kPut_nm (.succ .zero) (qSeq_nx (wS_seq ?_))))))
  refine wS_for (fun j v s' => ∃ o, v = [some (.d pt), some (.d (.int (gl (ns.take j)))), o] ∧ s' = s) (wE_var rfl (kWalk_items hp ⟨⟨_, rfl, rfl⟩, fun _ _ _ _ => rfl, ?_, ?_⟩))
  · rintro j v s' x hx ⟨o, rfl, rfl⟩
    rw [List.getElem?_map] at hx
    obtain ⟨y, hy, rfl⟩ := Option.map_eq_some_iff.mp hx
    refine ⟨_, put_nm (.succ (.succ .zero)), wS_seq (wS_set (wE_call (wL_cons (wE_var rfl (wL_cons (wE_var rfl (wL_nil (hc _ _ _ _ (hb y (List.mem_of_getElem? hy)) (kPut_nm (.succ .zero) (qSeq_nx (wS_skip ?_)))))))))))⟩
    refine ⟨some (.d (.int y)), ?_, rfl⟩
    rw [List.take_add_one, hy, Option.toList_some, gl_snoc]
  · rintro v s' ⟨o, rfl, rfl⟩
    rw [List.length_map, List.take_length]
    exact qSeq_nx (wS_seq (wS_ret (wE_var rfl (qSeq_ret (qRet_same k)))))
theorem commonOf_of {ci : Nat} (hf : P.fns[i]? = some ⟨1, 3, foldB ci⟩) (hc : P.fns[ci]? = some ⟨2, 2, commonB⟩) : GcdOf P (n + 2) i := gcdOf_of (n := n + 1) hf fun _ _ _ _ hb k => wC_common hc hb k
theorem lawGcdOf_of {ci : Nat} (hf : P.fns[i]? = some ⟨1, 3, foldB ci⟩) (hc : P.fns[ci]? = some ⟨2, 2, gcdB⟩) : GcdOf P (n + 2) i := gcdOf_of (n := n + 1) hf fun _ _ _ _ hb k => wC_gcd hc hb k
end
end Mini

set_option Elab.async false
set_option linter.all false
set_option maxRecDepth 100000
set_option maxHeartbeats 2000000
namespace K24
open PySem PySem.Spec PyProof.Rows L2 Mini
/-- the i-th statement of the top -/
def top (i : Nat) : Stmt := PySem.Challenge.pw_limbwright_k24_gaps_and_rests_of_tests.main.body.getD i (.Pass ⟨0, 0, 0, 0⟩)
def D : List (Str × Nat) := [("small_names", 0), ("side_of", 1), ("gap_of", 2), ("first_rest", 3), ("is_so_at_end", 4), ("_law_bag", 5), ("_law_take", 6), ("_law_some", 7), ("_law_alike", 8), ("_law_worth", 9), ("_law_holds", 10), ("_law_number", 11), ("_law_power", 12), ("_law_sum", 13), ("_law_drawn_side", 14), ("_law_gap", 15), ("law", 16)]
def G : List (Str × Nat) := []
def B : List Str := ["abs", "dict", "int", "len", "max", "range", "repr", "sorted", "sum", "tuple", "zip"]
def R : Ers := ⟨[], [], [], []⟩
/-- small_names -/
def N0 : List Str := ["plan", "one"]
abbrev g0 : Ct := ⟨N0, defScope (top 1), fun _ => true, D, G, B, [], R⟩
def b0 : S :=
 (.seq (.ret (.comp false (.ix (.var 1) (.cst (.int 0))) (.nm 1) (.ix (.var 0) (.cst (.int 3))) (.cst (.bool true)) [1]))
 .skip)
theorem rd0 : (rdBody g0 (defBody (top 1))).map Subtype.val = some b0 := by kernel_rfl
theorem sc0 : FnScope N0 ["plan"] (defScope (top 1)) := ⟨rfl, rfl, rfl, by decide +kernel, rfl, by decide +kernel, by decide +kernel⟩
/-- side_of -/
def N1 : List Str := ["plan", "values", "its", "smalls", "rows", "row", "whole", "factors", "beyond", "word", "name", "often"]
abbrev g1 : Ct := ⟨N1, defScope (top 3), fun _ => true, D, G, B, [(7, 38), (15, 19)], R⟩
def b1 : S :=
 (.seq (.par [3, 4] (.cons (.dofz (.call 0 (.cons (.var 0) .nil)) (.var 1)) (.cons (.comp false (.ix (.var 5) (.cst (.int 0))) (.nm 5) (.ix (.var 0) (.cst (.int 2))) (.cst (.bool true)) [5]) .nil)))
 (.seq (.par [6, 7, 8] (.cons (.ix (.var 2) (.cst (.int 0))) (.cons (.newx (.lst (.cons (.cst (.int 0)) .nil)) (.bi .len (.cons (.var 4) .nil))) (.cons (.cst (.int 0)) .nil))))
 (.seq (.for (.tp [9, 10, 11]) (.ix (.var 2) (.cst (.int 1)))
  (.seq (.ifs (.cmp .eq (.var 9) (.cst (.str "beyond")))
   (.seq (.set (.nm 8) (.bin .add (.var 8) (.bin .mul (.var 11) (.dget (.var 3) (.var 10) (.cst (.int 1))))))
   .skip)
   (.seq (.ifs (.cmp .mem (.var 10) (.var 3))
    (.seq (.set (.nm 6) (.bin .add (.var 6) (.bin .mul (.var 11) (.ix (.var 3) (.var 10)))))
    .skip)
    (.seq (.augi (.var 7) (.index (.var 4) (.cons (.var 10) .nil)) .add (.var 11))
    .skip))
   .skip))
  .skip))
 (.seq (.ret (.tup (.cons (.var 6) (.cons (.frl (.var 7)) (.cons (.var 8) .nil)))))
 .skip))))
theorem rd1 : (rdBody g1 (defBody (top 3))).map Subtype.val = some b1 := by kernel_rfl
theorem sc1 : FnScope N1 ["plan", "values", "its"] (defScope (top 3)) := ⟨rfl, rfl, rfl, by decide +kernel, rfl, by decide +kernel, by decide +kernel⟩
/-- gap_of -/
def N2 : List Str := ["plan", "values", "test", "word", "left", "right", "mine", "its", "factors", "one", "other"]
abbrev g2 : Ct := ⟨N2, defScope (top 4), fun _ => true, D, G, B, [], R⟩
def b2 : S :=
 (.seq (.set (.tp [3, 4, 5]) (.var 2))
 (.seq (.par [6, 7] (.cons (.call 1 (.cons (.var 0) (.cons (.var 1) (.cons (.var 4) .nil)))) (.cons (.call 1 (.cons (.var 0) (.cons (.var 1) (.cons (.var 5) .nil)))) .nil)))
 (.seq (.set (.nm 8) (.bi .tuple (.cons (.comp false (.bin .sub (.var 10) (.var 9)) (.tp [9, 10]) (.zip (.ix (.var 6) (.cst (.int 1))) (.ix (.var 7) (.cst (.int 1)))) (.cst (.bool true)) [9, 10]) .nil)))
 (.seq (.ret (.tup (.cons (.var 3) (.cons (.bin .sub (.ix (.var 7) (.cst (.int 0))) (.ix (.var 6) (.cst (.int 0)))) (.cons (.var 8) (.cons (.bin .sub (.ix (.var 7) (.cst (.int 2))) (.ix (.var 6) (.cst (.int 2)))) .nil))))))
 .skip))))
theorem rd2 : (rdBody g2 (defBody (top 4))).map Subtype.val = some b2 := by kernel_rfl
theorem sc2 : FnScope N2 ["plan", "values", "test"] (defScope (top 4)) := ⟨rfl, rfl, rfl, by decide +kernel, rfl, by decide +kernel, by decide +kernel⟩
/-- first_rest -/
def N3 : List Str := ["gap"]
abbrev g3 : Ct := ⟨N3, defScope (top 5), fun _ => true, D, G, B, [], R⟩
def b3 : S :=
 (.seq (.ret (.tup (.cons (.ix (.var 0) (.cst (.int 1))) (.cons (.cst (.int 1)) .nil))))
 .skip)
theorem rd3 : (rdBody g3 (defBody (top 5))).map Subtype.val = some b3 := by kernel_rfl
theorem sc3 : FnScope N3 ["gap"] (defScope (top 5)) := ⟨rfl, rfl, rfl, by decide +kernel, rfl, by decide +kernel, by decide +kernel⟩
/-- is_so_at_end -/
def N4 : List Str := ["gap", "rest", "top"]
abbrev g4 : Ct := ⟨N4, defScope (top 6), fun _ => true, D, G, B, [], R⟩
def b4 : S :=
 (.seq (.set (.nm 2) (.bin .add (.ix (.var 1) (.cst (.int 0))) (.ix (.var 0) (.cst (.int 3)))))
 (.seq (.ifs (.cmp .eq (.ix (.var 0) (.cst (.int 0))) (.cst (.str "below")))
  (.seq (.ret (.or (.cmp .gt (.var 2) (.cst (.int 0))) (.and (.cmp .eq (.var 2) (.cst (.int 0))) (.cmp .eq (.ix (.var 1) (.cst (.int 1))) (.cst (.int 0))))))
  .skip)
  .skip)
 (.seq (.ret (.and (.cmp .eq (.var 2) (.cst (.int 0))) (.cmp .eq (.ix (.var 1) (.cst (.int 1))) (.cst (.int 1)))))
 .skip)))
theorem rd4 : (rdBody g4 (defBody (top 6))).map Subtype.val = some b4 := by kernel_rfl
theorem sc4 : FnScope N4 ["gap", "rest"] (defScope (top 6)) := ⟨rfl, rfl, rfl, by decide +kernel, rfl, by decide +kernel, by decide +kernel⟩
/-- _law_bag -/
def N5 : List Str := ["script", "cell"]
abbrev g5 : Ct := ⟨N5, defScope (top 8), fun _ => true, D, G, B, [(30, 11)], R⟩
def b5 : S :=
 (.seq (.ret (.newl (.cons (.cst (.int 0)) (.cons (.cst (.int 1234567891)) (.cons (.cst (.int 0)) (.cons (.comp false (.bi .abs (.cons (.var 1) .nil)) (.nm 1) (.sl (.var 0) .nil (.cst (.int 63))) (.cst (.bool true)) [1]) .nil))))))
 .skip)
theorem rd5 : (rdBody g5 (defBody (top 8))).map Subtype.val = some b5 := by kernel_rfl
theorem sc5 : FnScope N5 ["script"] (defScope (top 8)) := ⟨rfl, rfl, rfl, by decide +kernel, rfl, by decide +kernel, by decide +kernel⟩
/-- _law_take -/
def N6 : List Str := ["bag", "many", "cell", "stirred", "drawn", "begin", "second"]
abbrev g6 : Ct := ⟨N6, defScope (top 9), fun _ => true, D, G, B, [], R⟩
def b6 : S :=
 (.seq (.ifs (.cmp .eq (.ix (.var 0) (.cst (.int 0))) (.cst (.int 0)))
  (.seq (.set (.nm 2) (.ix (.bin .add (.sl (.ix (.var 0) (.cst (.int 3))) (.ix (.var 0) (.cst (.int 2))) .nil) (.lst (.cons (.cst (.int 0)) .nil))) (.cst (.int 0))))
  (.seq (.augi (.var 0) (.cst (.int 2)) .add (.cst (.int 1)))
  (.seq (.ifs (.cmp .ge (.var 2) (.bin .pow (.cst (.int 10)) (.cst (.int 18))))
   (.seq (.seti (.var 0) (.cst (.int 0)) (.var 2))
   .skip)
   .skip)
  (.seq (.set (.nm 3) (.bin .add (.bin .add (.bin .mul (.ix (.var 0) (.cst (.int 1))) (.cst (.int 48271))) (.bin .mod (.bi .int (.cons (.var 2) .nil)) (.cst (.int 2147483647)))) (.bin .mul (.cst (.int 7919)) (.ix (.var 0) (.cst (.int 2))))))
  (.seq (.seti (.var 0) (.cst (.int 1)) (.bin .mod (.bi .int (.cons (.var 3) .nil)) (.cst (.int 2147483647))))
  .skip)))))
  .skip)
 (.seq (.ifs (.cmp .gt (.ix (.var 0) (.cst (.int 0))) (.cst (.int 0)))
  (.seq (.set (.nm 4) (.bin .mod (.bi .int (.cons (.ix (.var 0) (.cst (.int 0))) .nil)) (.var 1)))
  (.seq (.seti (.var 0) (.cst (.int 0)) (.bin .fdiv (.bi .int (.cons (.ix (.var 0) (.cst (.int 0))) .nil)) (.var 1)))
  (.seq (.ret (.var 4))
  .skip)))
  .skip)
 (.seq (.set (.nm 5) (.bin .mod (.bi .int (.cons (.bin .mul (.bin .add (.ix (.var 0) (.cst (.int 1))) (.cst (.int 1))) (.cst (.int 39373))) .nil)) (.cst (.int 1000000007))))
 (.seq (.set (.nm 6) (.bin .mod (.bi .int (.cons (.bin .mul (.bin .mod (.bi .int (.cons (.bin .mul (.var 5) (.var 5)) .nil)) (.cst (.int 998244353))) (.cst (.int 30011))) .nil)) (.cst (.int 998244353))))
 (.seq (.ret (.bin .mod (.bi .int (.cons (.bin .fdiv (.var 6) (.cst (.int 7))) .nil)) (.var 1)))
 .skip)))))
theorem rd6 : (rdBody g6 (defBody (top 9))).map Subtype.val = some b6 := by kernel_rfl
theorem sc6 : FnScope N6 ["bag", "many"] (defScope (top 9)) := ⟨rfl, rfl, rfl, by decide +kernel, rfl, by decide +kernel, by decide +kernel⟩
/-- _law_some -/
def N7 : List Str := ["bag", "things"]
abbrev g7 : Ct := ⟨N7, defScope (top 10), fun _ => true, D, G, B, [], R⟩
def b7 : S :=
 (.seq (.ret (.ix (.var 1) (.call 6 (.cons (.var 0) (.cons (.bi .len (.cons (.var 1) .nil)) .nil)))))
 .skip)
theorem rd7 : (rdBody g7 (defBody (top 10))).map Subtype.val = some b7 := by kernel_rfl
theorem sc7 : FnScope N7 ["bag", "things"] (defScope (top 10)) := ⟨rfl, rfl, rfl, by decide +kernel, rfl, by decide +kernel, by decide +kernel⟩
/-- _law_alike -/
def N8 : List Str := ["found", "due"]
abbrev g8 : Ct := ⟨N8, defScope (top 11), fun _ => true, D, G, B, [], R⟩
def b8 : S :=
 (.seq (.ret (.and (.cmp .eq (.bi .repr (.cons (.var 0) .nil)) (.bi .repr (.cons (.var 1) .nil))) (.cmp .eq (.var 0) (.var 1))))
 .skip)
theorem rd8 : (rdBody g8 (defBody (top 11))).map Subtype.val = some b8 := by kernel_rfl
theorem sc8 : FnScope N8 ["found", "due"] (defScope (top 11)) := ⟨rfl, rfl, rfl, by decide +kernel, rfl, by decide +kernel, by decide +kernel⟩
/-- _law_worth -/
def N9 : List Str := ["its", "base", "held", "found", "word", "name", "factor", "one"]
abbrev g9 : Ct := ⟨N9, defScope (top 12), fun _ => true, D, G, B, [], R⟩
def b9 : S :=
 (.seq (.set (.nm 3) (.ix (.var 0) (.cst (.int 0))))
 (.seq (.for (.tp [4, 5, 6]) (.ix (.var 0) (.cst (.int 1)))
  (.seq (.set (.nm 7) (.ife (.cmp .ne (.var 5) (.cst (.str ""))) (.ix (.var 2) (.var 5)) (.cst (.int 1))))
  (.seq (.aug 3 .add (.bin .mul (.var 6) (.ife (.cmp .eq (.var 4) (.cst (.str "of"))) (.var 7) (.bin .mul (.var 7) (.var 1)))))
  .skip)))
 (.seq (.ret (.var 3))
 .skip)))
theorem rd9 : (rdBody g9 (defBody (top 12))).map Subtype.val = some b9 := by kernel_rfl
theorem sc9 : FnScope N9 ["its", "base", "held"] (defScope (top 12)) := ⟨rfl, rfl, rfl, by decide +kernel, rfl, by decide +kernel, by decide +kernel⟩
/-- _law_holds -/
def N10 : List Str := ["test", "base", "held", "one", "other"]
abbrev g10 : Ct := ⟨N10, defScope (top 13), fun _ => true, D, G, B, [], R⟩
def b10 : S :=
 (.seq (.par [3, 4] (.cons (.call 9 (.cons (.ix (.var 0) (.cst (.int 1))) (.cons (.var 1) (.cons (.var 2) .nil)))) (.cons (.call 9 (.cons (.ix (.var 0) (.cst (.int 2))) (.cons (.var 1) (.cons (.var 2) .nil)))) .nil)))
 (.seq (.ret (.ife (.cmp .eq (.ix (.var 0) (.cst (.int 0))) (.cst (.str "below"))) (.cmp .lt (.var 3) (.var 4)) (.cmp .eq (.var 3) (.var 4))))
 .skip))
theorem rd10 : (rdBody g10 (defBody (top 13))).map Subtype.val = some b10 := by kernel_rfl
theorem sc10 : FnScope N10 ["test", "base", "held"] (defScope (top 13)) := ⟨rfl, rfl, rfl, by decide +kernel, rfl, by decide +kernel, by decide +kernel⟩
/-- _law_number -/
def N11 : List Str := ["base", "digits", "found", "digit"]
abbrev g11 : Ct := ⟨N11, defScope (top 14), fun _ => true, D, G, B, [], R⟩
def b11 : S :=
 (.seq (.set (.nm 2) (.cst (.int 0)))
 (.seq (.for (.nm 3) (.rev (.var 1))
  (.seq (.set (.nm 2) (.bin .add (.bin .mul (.var 2) (.var 0)) (.var 3)))
  .skip))
 (.seq (.ret (.var 2))
 .skip)))
theorem rd11 : (rdBody g11 (defBody (top 14))).map Subtype.val = some b11 := by kernel_rfl
theorem sc11 : FnScope N11 ["base", "digits"] (defScope (top 14)) := ⟨rfl, rfl, rfl, by decide +kernel, rfl, by decide +kernel, by decide +kernel⟩
/-- _law_power -/
def N12 : List Str := ["base", "many", "found", "lap"]
abbrev g12 : Ct := ⟨N12, defScope (top 15), fun _ => true, D, G, B, [], R⟩
def b12 : S :=
 (.seq (.set (.nm 2) (.cst (.int 1)))
 (.seq (.for (.nm 3) (.rng (.cons (.var 1) .nil))
  (.seq (.set (.nm 2) (.bin .mul (.var 2) (.var 0)))
  .skip))
 (.seq (.ret (.var 2))
 .skip)))
theorem rd12 : (rdBody g12 (defBody (top 15))).map Subtype.val = some b12 := by kernel_rfl
theorem sc12 : FnScope N12 ["base", "many"] (defScope (top 15)) := ⟨rfl, rfl, rfl, by decide +kernel, rfl, by decide +kernel, by decide +kernel⟩
/-- _law_sum -/
def N13 : List Str := ["whole", "parts", "found", "word", "name", "factor", "key"]
abbrev g13 : Ct := ⟨N13, defScope (top 16), fun _ => true, D, G, B, [(70, 12)], R⟩
def b13 : S :=
 (.seq (.set (.nm 2) (.newd true))
 (.seq (.for (.tp [3, 4, 5]) (.var 1)
  (.seq (.seti (.var 2) (.tup (.cons (.var 3) (.cons (.var 4) .nil))) (.bin .add (.dget (.var 2) (.tup (.cons (.var 3) (.cons (.var 4) .nil))) (.cst (.int 0))) (.var 5)))
  .skip))
 (.seq (.ret (.tup (.cons (.var 0) (.cons (.bi .tuple (.cons (.comp false (.bin .add (.var 6) (.tup (.cons (.ix (.var 2) (.var 6)) .nil))) (.nm 6) (.srt (.var 2)) (.cmp .ne (.ix (.var 2) (.var 6)) (.cst (.int 0))) [6]) .nil)) .nil))))
 .skip)))
theorem rd13 : (rdBody g13 (defBody (top 16))).map Subtype.val = some b13 := by kernel_rfl
theorem sc13 : FnScope N13 ["whole", "parts"] (defScope (top 16)) := ⟨rfl, rfl, rfl, by decide +kernel, rfl, by decide +kernel, by decide +kernel⟩
/-- _law_drawn_side -/
def N14 : List Str := ["bag", "parts", "k", "word", "name", "factor"]
abbrev g14 : Ct := ⟨N14, defScope (top 17), fun _ => true, D, G, B, [], R⟩
def b14 : S :=
 (.seq (.set (.nm 1) (.comp false (.tup (.cons (.call 7 (.cons (.var 0) (.cons (.lst (.cons (.cst (.str "of")) (.cons (.cst (.str "of")) (.cons (.cst (.str "beyond")) .nil)))) .nil))) (.cons (.call 7 (.cons (.var 0) (.cons (.lst (.cons (.cst (.str "a")) (.cons (.cst (.str "b")) (.cons (.cst (.str "s")) (.cons (.cst (.str "c")) (.cons (.cst (.str "e")) .nil)))))) .nil))) (.cons (.call 7 (.cons (.var 0) (.cons (.lst (.cons (.cst (.int 1)) (.cons (.cst (.int 1)) (.cons (.neg (.cst (.int 1))) (.cons (.cst (.int 2)) (.cons (.neg (.cst (.int 3))) (.cons (.cst (.int 9)) .nil))))))) .nil))) .nil)))) (.nm 2) (.rng (.cons (.call 6 (.cons (.var 0) (.cons (.cst (.int 5)) .nil))) .nil)) (.cst (.bool true)) [2]))
 (.seq (.set (.nm 1) (.comp false (.tup (.cons (.var 3) (.cons (.ife (.cmp .eq (.var 3) (.cst (.str "of"))) (.var 4) (.call 7 (.cons (.var 0) (.cons (.lst (.cons (.cst (.str "c")) (.cons (.cst (.str "")) (.cons (.cst (.str "e")) .nil)))) .nil)))) (.cons (.var 5) .nil)))) (.tp [3, 4, 5]) (.var 1) (.cst (.bool true)) [3, 4, 5]))
 (.seq (.ret (.call 13 (.cons (.call 7 (.cons (.var 0) (.cons (.lst (.cons (.cst (.int 0)) (.cons (.cst (.int 0)) (.cons (.cst (.int 1)) (.cons (.neg (.cst (.int 1))) (.cons (.cst (.int 7)) (.cons (.neg (.cst (.int 99))) .nil))))))) .nil))) (.cons (.var 1) .nil))))
 .skip)))
theorem rd14 : (rdBody g14 (defBody (top 17))).map Subtype.val = some b14 := by kernel_rfl
theorem sc14 : FnScope N14 ["bag"] (defScope (top 17)) := ⟨rfl, rfl, rfl, by decide +kernel, rfl, by decide +kernel, by decide +kernel⟩
/-- _law_gap -/
def N15 : List Str := ["plan", "values", "test", "held", "rows", "one", "value", "row", "whole", "factors", "beyond", "sign", "side", "word", "name", "factor"]
abbrev g15 : Ct := ⟨N15, defScope (top 18), fun _ => true, D, G, B, [(80, 55)], R⟩
def b15 : S :=
 (.seq (.par [3, 4] (.cons (.dof (.comp false (.tup (.cons (.ix (.var 5) (.cst (.int 0))) (.cons (.var 6) .nil))) (.tp [5, 6]) (.zip (.ix (.var 0) (.cst (.int 3))) (.var 1)) (.cst (.bool true)) [5, 6])) (.cons (.comp false (.ix (.var 7) (.cst (.int 0))) (.nm 7) (.ix (.var 0) (.cst (.int 2))) (.cst (.bool true)) [7]) .nil)))
 (.seq (.par [8, 9, 10] (.cons (.bin .sub (.ix (.ix (.var 2) (.cst (.int 2))) (.cst (.int 0))) (.ix (.ix (.var 2) (.cst (.int 1))) (.cst (.int 0)))) (.cons (.newx (.lst (.cons (.cst (.int 0)) .nil)) (.bi .len (.cons (.var 4) .nil))) (.cons (.cst (.int 0)) .nil))))
 (.seq (.for (.tp [11, 12]) (.tup (.cons (.tup (.cons (.neg (.cst (.int 1))) (.cons (.ix (.var 2) (.cst (.int 1))) .nil))) (.cons (.tup (.cons (.cst (.int 1)) (.cons (.ix (.var 2) (.cst (.int 2))) .nil))) .nil)))
  (.seq (.for (.tp [13, 14, 15]) (.ix (.var 12) (.cst (.int 1)))
   (.seq (.ifs (.cmp .eq (.var 13) (.cst (.str "beyond")))
    (.seq (.aug 10 .add (.bin .mul (.bin .mul (.var 11) (.var 15)) (.ife (.cmp .ne (.var 14) (.cst (.str ""))) (.ix (.var 3) (.var 14)) (.cst (.int 1)))))
    .skip)
    (.seq (.ifs (.cmp .mem (.var 14) (.var 3))
     (.seq (.aug 8 .add (.bin .mul (.bin .mul (.var 11) (.var 15)) (.ix (.var 3) (.var 14))))
     .skip)
     (.seq (.augi (.var 9) (.index (.var 4) (.cons (.var 14) .nil)) .add (.bin .mul (.var 11) (.var 15)))
     .skip))
    .skip))
   .skip))
  .skip))
 (.seq (.ret (.tup (.cons (.ix (.var 2) (.cst (.int 0))) (.cons (.var 8) (.cons (.bi .tuple (.cons (.var 9) .nil)) (.cons (.var 10) .nil))))))
 .skip))))
theorem rd15 : (rdBody g15 (defBody (top 18))).map Subtype.val = some b15 := by kernel_rfl
theorem sc15 : FnScope N15 ["plan", "values", "test"] (defScope (top 18)) := ⟨rfl, rfl, rfl, by decide +kernel, rfl, by decide +kernel, by decide +kernel⟩
/-- law -/
def N16 : List Str := ["script", "bag", "plan", "lap", "test", "values", "gap", "turn", "base", "many", "rows", "place", "k", "rest", "at", "t", "factor", "row", "held", "name"]
abbrev g16 : Ct := ⟨N16, defScope (top 19), fun _ => true, D, G, B, [], R⟩
def b16 : S :=
 (.seq (.set (.nm 1) (.call 5 (.cons (.var 0) .nil)))
 (.seq (.set (.nm 2) (.tup (.cons (.cst (.int 2)) (.cons (.cst (.int 0)) (.cons (.tup (.cons (.tup (.cons (.cst (.str "a")) (.cons (.cst (.str "in")) .nil))) (.cons (.tup (.cons (.cst (.str "b")) (.cons (.cst (.str "in")) .nil))) (.cons (.tup (.cons (.cst (.str "s")) (.cons (.cst (.str "made")) .nil))) .nil)))) (.cons (.tup (.cons (.tup (.cons (.cst (.str "c")) (.cons (.neg (.cst (.int 2))) (.cons (.cst (.int 3)) (.cons (.cst (.int 0)) .nil))))) (.cons (.tup (.cons (.cst (.str "e")) (.cons (.cst (.int 0)) (.cons (.cst (.int 20)) (.cons (.cst (.int 1)) .nil))))) .nil))) (.cons (.tup .nil) (.cons (.tup .nil) (.cons (.tup .nil) .nil)))))))))
 (.seq (.for (.nm 3) (.rng (.cons (.cst (.int 12)) .nil))
  (.seq (.set (.nm 4) (.tup (.cons (.call 7 (.cons (.var 1) (.cons (.lst (.cons (.cst (.str "same")) (.cons (.cst (.str "below")) .nil))) .nil))) (.cons (.call 14 (.cons (.var 1) .nil)) (.cons (.call 14 (.cons (.var 1) .nil)) .nil)))))
  (.seq (.set (.nm 5) (.tup (.cons (.bin .sub (.call 6 (.cons (.var 1) (.cons (.cst (.int 6)) .nil))) (.cst (.int 2))) (.cons (.call 6 (.cons (.var 1) (.cons (.cst (.int 21)) .nil))) .nil))))
  (.seq (.set (.nm 6) (.call 15 (.cons (.var 2) (.cons (.var 5) (.cons (.var 4) .nil)))))
  (.seq (.ifs (.not (.call 8 (.cons (.lst (.cons (.call 2 (.cons (.var 2) (.cons (.var 5) (.cons (.var 4) .nil)))) (.cons (.call 3 (.cons (.var 6) .nil)) .nil))) (.cons (.lst (.cons (.var 6) (.cons (.tup (.cons (.ix (.var 6) (.cst (.int 1))) (.cons (.cst (.int 1)) .nil))) .nil))) .nil))))
   (.seq (.ret (.cst (.bool false)))
   .skip)
   .skip)
  (.seq (.for (.nm 7) (.rng (.cons (.cst (.int 5)) .nil))
   (.seq (.set (.tp [8, 9]) (.tup (.cons (.call 7 (.cons (.var 1) (.cons (.lst (.cons (.cst (.int 2)) (.cons (.cst (.int 3)) (.cons (.cst (.int 10)) (.cons (.cst (.int 1000)) .nil))))) .nil))) (.cons (.call 6 (.cons (.var 1) (.cons (.cst (.int 4)) .nil))) .nil))))
   (.seq (.set (.nm 10) (.comp false (.bi .tuple (.cons (.comp false (.call 7 (.cons (.var 1) (.cons (.lst (.cons (.cst (.int 0)) (.cons (.bin .sub (.var 8) (.cst (.int 1))) (.cons (.call 6 (.cons (.var 1) (.cons (.var 8) .nil))) .nil)))) .nil))) (.nm 11) (.rng (.cons (.var 9) .nil)) (.cst (.bool true)) [11]) .nil)) (.nm 12) (.rng (.cons (.cst (.int 3)) .nil)) (.cst (.bool true)) [12]))
   (.seq (.set (.nm 13) (.tup (.cons (.ix (.var 6) (.cst (.int 1))) (.cons (.cst (.int 1)) .nil))))
   (.seq (.for (.nm 14) (.rng (.cons (.var 9) .nil))
    (.seq (.set (.nm 15) (.bin .add (.ix (.var 13) (.cst (.int 0))) (.bi .sum (.cons (.comp false (.bin .mul (.var 16) (.ix (.var 17) (.var 14))) (.tp [16, 17]) (.zip (.ix (.var 6) (.cst (.int 2))) (.var 10)) (.cst (.bool true)) [16, 17]) .nil))))
    (.seq (.set (.nm 13) (.tup (.cons (.bin .fdiv (.var 15) (.var 8)) (.cons (.ife (.cmp .eq (.bin .mod (.var 15) (.var 8)) (.cst (.int 0))) (.ix (.var 13) (.cst (.int 1))) (.cst (.int 0))) .nil))))
    (.seq (.ifs (.cmp .gt (.bi .abs (.cons (.ix (.var 13) (.cst (.int 0))) .nil)) (.bi .max (.cons (.bi .abs (.cons (.ix (.var 6) (.cst (.int 1))) .nil)) (.cons (.bin .add (.bi .sum (.cons (.comp false (.bi .abs (.cons (.var 16) .nil)) (.nm 16) (.ix (.var 6) (.cst (.int 2))) (.cst (.bool true)) [16]) .nil)) (.cst (.int 1))) .nil))))
     (.seq (.ret (.cst (.bool false)))
     .skip)
     .skip)
    .skip))))
   (.seq (.set (.nm 18) (.dof (.bin .add (.lst (.cons (.tup (.cons (.cst (.str "c")) (.cons (.ix (.var 5) (.cst (.int 0))) .nil))) (.cons (.tup (.cons (.cst (.str "e")) (.cons (.ix (.var 5) (.cst (.int 1))) .nil))) .nil))) (.comp false (.tup (.cons (.var 19) (.cons (.call 11 (.cons (.var 8) (.cons (.var 17) .nil))) .nil))) (.tp [19, 17]) (.zip (.cst (.str "abs")) (.var 10)) (.cst (.bool true)) [19, 17]))))
   (.seq (.ifs (.not (.call 8 (.cons (.call 4 (.cons (.var 6) (.cons (.var 13) .nil))) (.cons (.call 10 (.cons (.var 4) (.cons (.call 12 (.cons (.var 8) (.cons (.var 9) .nil))) (.cons (.var 18) .nil)))) .nil))))
    (.seq (.ret (.cst (.bool false)))
    .skip)
    .skip)
   .skip)))))))
  .skip))))))
 (.seq (.ret (.cst (.bool true)))
 .skip))))
theorem rd16 : (rdBody g16 (defBody (top 19))).map Subtype.val = some b16 := by kernel_rfl
theorem sc16 : FnScope N16 ["script"] (defScope (top 19)) := ⟨rfl, rfl, rfl, by decide +kernel, rfl, by decide +kernel, by decide +kernel⟩
def P : Pg := ⟨[⟨1, 2, b0⟩, ⟨3, 12, b1⟩, ⟨3, 11, b2⟩, ⟨1, 1, b3⟩, ⟨2, 3, b4⟩, ⟨1, 2, b5⟩, ⟨2, 7, b6⟩, ⟨2, 2, b7⟩, ⟨2, 2, b8⟩, ⟨3, 8, b9⟩, ⟨3, 5, b10⟩, ⟨2, 4, b11⟩, ⟨2, 4, b12⟩, ⟨2, 7, b13⟩, ⟨1, 6, b14⟩, ⟨3, 16, b15⟩, ⟨1, 20, b16⟩], [], fun c k => [].contains (c, k)⟩
end K24

set_option Elab.async false
set_option linter.all false
set_option maxRecDepth 100000
set_option maxHeartbeats 4000000
set_option pp.deepTerms false
set_option pp.deepTerms.threshold 12
/-! k24: the plain law -/
namespace K24
open PySem Mini
theorem sm9 {a : Int} (h : a.natAbs ≤ 1000000000) : Sm a := Sm.lt h (by decide +kernel)
inductive Nm where
  | a | b | s | c | e | u
  deriving DecidableEq
def nmS : Nm → Str
  | .a => "a"
  | .b => "b"
  | .s => "s"
  | .c => "c"
  | .e => "e"
  | .u => ""
structure Part where
  bey : Bool
  nm : Nm
  f : Int
def wordS : Bool → Str
  | true => "beyond"
  | false => "of"
def partD (p : Part) : PD := .tuple [.str (wordS p.bey), .str (nmS p.nm), .int p.f]
structure Part.ok (p : Part) : Prop where
  nm : (p.bey = true ∧ (p.nm = .c ∨ p.nm = .e ∨ p.nm = .u)) ∨ (p.bey = false ∧ p.nm ≠ .u)
  f : p.f.natAbs ≤ 1000
def sideD (w : Int) (ps : List Part) : PD := .tuple [.int w, .tuple (ps.map partD)]
def vl (vc ve : Int) : Nm → Int
  | .c => vc
  | .e => ve
  | _ => 1
def dW (vc ve : Int) (p : Part) : Int := match p.bey, p.nm with
  | false, .c => p.f * vc
  | false, .e => p.f * ve
  | _, _ => 0
def dF (k : Nat) (p : Part) : Int := match p.bey, p.nm, k with
  | false, .a, 0 => p.f
  | false, .b, 1 => p.f
  | false, .s, 2 => p.f
  | _, _, _ => 0
def dB (vc ve : Int) (p : Part) : Int := match p.bey with
  | true => p.f * vl vc ve p.nm
  | false => 0
def sm (g : Part → Int) (ps : List Part) : Int := (ps.map g).sum
theorem sm_take {g : Part → Int} {ps : List Part} {j : Nat} {p : Part} (h : ps[j]? = some p) : sm g (ps.take (j + 1)) = sm g (ps.take j) + g p := by
  unfold sm
  rw [List.take_succ, h]
  simp
theorem sm_nil (g : Part → Int) (ps : List Part) : sm g (ps.take 0) = 0 := by simp [sm]
theorem sm_all (g : Part → Int) (ps : List Part) : sm g (ps.take ps.length) = sm g ps := by rw [List.take_length]
def planRows : List PD := [.tuple [.str "a", .str "in"], .tuple [.str "b", .str "in"], .tuple [.str "s", .str "made"]]
def planSm : List PD := [.tuple [.str "c", .int (-2), .int 3, .int 0], .tuple [.str "e", .int 0, .int 20, .int 1]]
def planD : PD := .tuple [.int 2, .int 0, .tuple planRows, .tuple planSm, .tuple [], .tuple [], .tuple []]
def heldD (vc ve : Int) : List (PD × PD) := [(.str "c", .int vc), (.str "e", .int ve)]
theorem look_held (vc ve : Int) (nm : Nm) : lookD (heldD vc ve) (.str (nmS nm)) = match nm with | .c => some (.int vc) | .e => some (.int ve) | _ => none := by cases nm <;> rfl
theorem eq_int (a b : Int) : cmp2 .eq (.int a) (.int b) = some (decide (a = b)) := by
  show some (a == b) = _
  rw [show (a == b) = decide (a = b) from rfl]
def nmI : Nm → Int
  | .b => 1
  | .s => 2
  | _ => 0
theorem idx_nm (nm : Nm) (h : nm = .a ∨ nm = .b ∨ nm = .s := by decide) : idxD (.list [.str "a", .str "b", .str "s"]) (.str (nmS nm)) = some (.int (nmI nm)) := by
  rcases h with rfl | rfl | rfl <;> first | rfl | kernel_rfl | decide +kernel
def st2 (s : Sto) (kvs : List (PD × PD)) (l : List PD) : Sto := s ++ [.dct false false kvs, .lst l]
section
variable {s : Sto} {kvs : List (PD × PD)} {l l' : List PD}
theorem st2_0 : (st2 s kvs l)[s.length]? = some (.dct false false kvs) := by simp [st2]
theorem st2_1 : (st2 s kvs l)[s.length + 1]? = some (.lst l) := by
  unfold st2
  rw [List.getElem?_append_right (Nat.le_succ _), show s.length.succ - s.length = 1 by omega]
  rfl
theorem st2_set : (st2 s kvs l).set (s.length + 1) (.lst l') = st2 s kvs l' := by
  unfold st2
  rw [List.set_append_right _ _ (Nat.le_succ _), show s.length.succ - s.length = 1 by omega]
  rfl
theorem st2_gone : (st2 s kvs l).set (s.length + 1) .gone = s ++ [.dct false false kvs, .gone] := by
  unfold st2
  rw [List.set_append_right _ _ (Nat.le_succ _), show s.length.succ - s.length = 1 by omega]
  rfl
theorem st2_d : dictAt (st2 s kvs l) (.ref s.length) = some (false, kvs) := by
  show (match (st2 s kvs l)[s.length]? with | some (.dct m _ kvs) => some (m, kvs) | _ => none) = _
  rw [st2_0]
theorem get_held {vc ve : Int} {w : W} (hd : dictAt s w = some (false, heldD vc ve)) (nm : Nm) : getR s w (.d (.str (nmS nm))) (.d (.int 1)) = some (.d (.int (vl vc ve nm))) := by
  unfold getR
  rw [hd]
  show (match lookD (heldD vc ve) (.str (nmS nm)), W.d (.int 1) with | some v, _ => some (W.d v) | none, .d v => some (.d v) | _, _ => none) = _
  rw [look_held]
  cases nm <;> rfl
end
section
variable {n : Nat} {s : Sto} {K : W → Sto → Prop} {vc ve w : Int} {ps : List Part}
theorem wC_names (k : K (.d (.list [.str "c", .str "e"])) s) : wC (cx P (n + 1)).fe 0 [.d planD] s K := by
  refine wC_run (f := 0) (fn := ⟨1, 2, b0⟩) rfl rfl rfl (wS_seq (wS_ret ?_))
  refine wE_map planSm id (fun x => match x with | .tuple (y :: _) => y | _ => .none) (by decide) (wE_ix (wE_var rfl (wE_cst (kIx_of (r := .tuple planSm) rfl (kWalk_tuple ⟨rfl, rfl, rfl⟩))))) (fun x hx => ⟨_, put_nm (by (repeat' (first | exact SetAt.zero | exact SetAll.nil | exact SetAllW.nil | apply SetAt.succ | apply SetAll.cons | apply SetAllW.cons))), ?_⟩) (qSeq_ret (qRet_same k))
  simp only [planSm, List.mem_cons, List.not_mem_nil, or_false] at hx
  rcases hx with rfl | rfl <;> exact wE_ix (wE_var rfl (wE_cst (kIx_of rfl ⟨rfl, rfl⟩)))
def F3 (ps : List Part) : List PD := [.int (sm (dF 0) ps), .int (sm (dF 1) ps), .int (sm (dF 2) ps)]
theorem wC_side (hv : vc.natAbs ≤ 100 ∧ ve.natAbs ≤ 100) (hp : ∀ p ∈ ps, p.ok) (k : K (.d (.tuple [.int (w + sm (dW vc ve) ps), .list (F3 ps), .int (sm (dB vc ve) ps)])) s) : wC (cx P (n + 2)).fe 1 [.d planD, .d (.tuple [.int vc, .int ve]), .d (sideD w ps)] s K := by
  refine wC_run (n := n + 1) (f := 1) (fn := ⟨3, 12, b1⟩) rfl rfl rfl ?_
  refine wS_seq (wS_par (wL_cons (wE_dofz (wE_call (wL_cons (wE_var rfl (wL_nil (wC_names (wE_var rfl ⟨_, _, heldD vc ve, rfl, rfl, rfl, wL_cons ?_⟩)))))))))
  refine wE_map planRows id (fun x => match x with | .tuple (y :: _) => y | _ => .none) (by decide) (wE_ix (wE_var rfl (wE_cst (kIx_of (r := .tuple planRows) rfl (kWalk_tuple ⟨rfl, rfl, rfl⟩))))) (fun x hx => ⟨_, put_nm (by (repeat' (first | exact SetAt.zero | exact SetAll.nil | exact SetAllW.nil | apply SetAt.succ | apply SetAll.cons | apply SetAllW.cons))), ?_⟩) ?_
  · simp only [planRows, List.mem_cons, List.not_mem_nil, or_false] at hx
    rcases hx with rfl | rfl | rfl <;> exact wE_ix (wE_var rfl (wE_cst (kIx_of rfl ⟨rfl, rfl⟩)))
  refine wL_nil ⟨_, SetAllW.cons (by (repeat' (first | exact SetAt.zero | exact SetAll.nil | exact SetAllW.nil | apply SetAt.succ | apply SetAll.cons | apply SetAllW.cons))) (.cons (by (repeat' (first | exact SetAt.zero | exact SetAll.nil | exact SetAllW.nil | apply SetAt.succ | apply SetAll.cons | apply SetAllW.cons))) .nil), qSeq_nx ?_⟩
  refine wS_seq (wS_par (wL_cons (wE_ix (wE_var rfl (wE_cst (kIx_of (r := .int w) rfl (wL_cons (wE_newx (wE_lst (wL_cons (wE_cst (wL_nil (kMk_of (.cons .nil) rfl (wE_bi (wL_cons (wE_var rfl (wL_nil (kBi_of (.d .nil) (z := .int 3) rfl ⟨_, _, rfl, rfl, by decide, by decide, by decide, wL_cons (wE_cst (wL_nil ⟨_, SetAllW.cons (by (repeat' (first | exact SetAt.zero | exact SetAll.nil | exact SetAllW.nil | apply SetAt.succ | apply SetAll.cons | apply SetAllW.cons))) (.cons (by (repeat' (first | exact SetAt.zero | exact SetAll.nil | exact SetAllW.nil | apply SetAt.succ | apply SetAll.cons | apply SetAllW.cons))) (.cons (by (repeat' (first | exact SetAt.zero | exact SetAll.nil | exact SetAllW.nil | apply SetAt.succ | apply SetAll.cons | apply SetAllW.cons))) .nil)), qSeq_nx ?_⟩))⟩))))))))))))))))))
  have e0 : s ++ [.dct false false (heldD vc ve)] ++ [.lst (List.replicate (3 : Int).toNat [PyData.int 0]).flatten] = st2 s (heldD vc ve) (F3 (ps.take 0)) := by
    rw [List.append_assoc]
    unfold F3
    rw [sm_nil, sm_nil, sm_nil]
    rfl
  have e1 : (s ++ [Ob.dct false false (heldD vc ve)]).length = s.length + 1 := by rw [List.length_append]; rfl
  rw [e0, e1]
  refine wS_seq (wS_for (fun j v s' => ∃ y5 y9 y10 y11, v = [some (.d planD), some (.d (.tuple [.int vc, .int ve])), some (.d (sideD w ps)), some (.ref s.length), some (.d (.list [.str "a", .str "b", .str "s"])), y5, some (.d (.int (w + sm (dW vc ve) (ps.take j)))), some (.ref (s.length + 1)), some (.d (.int (sm (dB vc ve) (ps.take j)))), y9, y10, y11] ∧ s' = st2 s (heldD vc ve) (F3 (ps.take j))) (wE_ix (wE_var rfl (wE_cst (kIx_of (r := .tuple (ps.map partD)) rfl (kWalk_tuple ⟨⟨_, _, _, _, by rw [sm_nil, sm_nil, Int.add_zero]; rfl, rfl⟩, fun _ _ _ _ => rfl, ?_, ?_⟩))))))
  · rintro j v s' x hx ⟨y5, y9, y10, y11, rfl, rfl⟩
    rw [List.getElem?_map] at hx
    obtain ⟨p, hp', rfl⟩ := Option.map_eq_some_iff.mp hx
    have ok := hp p (List.mem_of_getElem? hp')
    have okf := ok.f
    refine ⟨_, put_tp (xs := [.str (wordS p.bey), .str (nmS p.nm), .int p.f]) (by (repeat' (first | exact SetAt.zero | exact SetAll.nil | exact SetAllW.nil | apply SetAt.succ | apply SetAll.cons | apply SetAllW.cons))), wS_seq ?_⟩
    have sf : Sm p.f := sm9 (by omega)
    simp only [F3, sm_take hp']
    generalize sm (dW vc ve) (ps.take j) = aW
    generalize sm (dB vc ve) (ps.take j) = aB
    generalize sm (dF 0) (ps.take j) = a0
    generalize sm (dF 1) (ps.take j) = a1
    generalize sm (dF 2) (ps.take j) = a2
    obtain ⟨bey, nm, f⟩ := p
    cases bey with
    | true =>
      have hvl : Sm (vl vc ve nm) := sm9 (by cases nm <;> simp only [vl] <;> omega)
      refine wS_if (wE_cmp (wE_var rfl (wE_cst (kCmp_of (k := true) rfl (kIf_T (wS_seq (wS_set (wE_bin (wE_var rfl (wE_bin (wE_var rfl (wE_dget (wE_var rfl ⟨by rw [st2_d]; rfl, wE_var rfl (wE_cst ⟨_, get_held st2_d nm, kBin_mul sf hvl (kBin_add (kPut_nm (by (repeat' (first | exact SetAt.zero | exact SetAll.nil | exact SetAllW.nil | apply SetAt.succ | apply SetAll.cons | apply SetAllW.cons))) (qSeq_nx (wS_skip (qSeq_nx (wS_skip ?_))))))⟩)⟩)))))))))))))
      exact ⟨y5, some (.d (.str (wordS true))), some (.d (.str (nmS nm))), some (.d (.int f)), by simp [dW, dB, Int.add_assoc], by simp [dF]⟩
    | false =>
      refine wS_if (wE_cmp (wE_var rfl (wE_cst (kCmp_of (k := false) rfl (kIf_F (wS_seq (wS_if (wE_inD (wE_var rfl (wE_var rfl ⟨_, _, _, rfl, st2_d, rfl, ?_⟩))))))))))
      rw [look_held]
      cases nm with
      | a =>
        have ei := idx_nm .a
        refine kIf_F (wS_seq (wS_augi (wE_var rfl (wE_index (wE_var rfl ⟨rfl, wL_cons (wE_var rfl (wL_nil ⟨_, _, .int 0, rfl, rfl, ei, _, _, _, _, _, rfl, rfl, st2_1, rfl, rfl, wE_var rfl ⟨_, _, rfl, rfl, st2_1, ?_⟩⟩))⟩)))))
        rw [st2_set]
        exact qSeq_nx (wS_skip (qSeq_nx (wS_skip (qSeq_nx (wS_skip ⟨y5, some (.d (.str (wordS false))), some (.d (.str (nmS .a))), some (.d (.int f)), by simp [dW, dB], by simp [dF]⟩)))))
      | b =>
        have ei := idx_nm .b
        refine kIf_F (wS_seq (wS_augi (wE_var rfl (wE_index (wE_var rfl ⟨rfl, wL_cons (wE_var rfl (wL_nil ⟨_, _, .int 1, rfl, rfl, ei, _, _, _, _, _, rfl, rfl, st2_1, rfl, rfl, wE_var rfl ⟨_, _, rfl, rfl, st2_1, ?_⟩⟩))⟩)))))
        rw [st2_set]
        exact qSeq_nx (wS_skip (qSeq_nx (wS_skip (qSeq_nx (wS_skip ⟨y5, some (.d (.str (wordS false))), some (.d (.str (nmS .b))), some (.d (.int f)), by simp [dW, dB], by simp [dF]⟩)))))
      | s =>
        have ei := idx_nm .s
        refine kIf_F (wS_seq (wS_augi (wE_var rfl (wE_index (wE_var rfl ⟨rfl, wL_cons (wE_var rfl (wL_nil ⟨_, _, .int 2, rfl, rfl, ei, _, _, _, _, _, rfl, rfl, st2_1, rfl, rfl, wE_var rfl ⟨_, _, rfl, rfl, st2_1, ?_⟩⟩))⟩)))))
        rw [st2_set]
        exact qSeq_nx (wS_skip (qSeq_nx (wS_skip (qSeq_nx (wS_skip ⟨y5, some (.d (.str (wordS false))), some (.d (.str (nmS .s))), some (.d (.int f)), by simp [dW, dB], by simp [dF]⟩)))))
      | c =>
        refine kIf_T (wS_seq (wS_set (wE_bin (wE_var rfl (wE_bin (wE_var rfl (wE_ixD (wE_var rfl (wE_var rfl ⟨_, _, _, _, rfl, st2_d, rfl, rfl, kBin_mul sf (sm9 (by omega)) (kBin_add (kPut_nm (by (repeat' (first | exact SetAt.zero | exact SetAll.nil | exact SetAllW.nil | apply SetAt.succ | apply SetAll.cons | apply SetAllW.cons))) (qSeq_nx (wS_skip (qSeq_nx (wS_skip (qSeq_nx (wS_skip ?_))))))))⟩)))))))))
        exact ⟨y5, some (.d (.str (wordS false))), some (.d (.str (nmS .c))), some (.d (.int f)), by simp [dW, dB, Int.add_assoc], by simp [dF]⟩
      | e =>
        refine kIf_T (wS_seq (wS_set (wE_bin (wE_var rfl (wE_bin (wE_var rfl (wE_ixD (wE_var rfl (wE_var rfl ⟨_, _, _, _, rfl, st2_d, rfl, rfl, kBin_mul sf (sm9 (by omega)) (kBin_add (kPut_nm (by (repeat' (first | exact SetAt.zero | exact SetAll.nil | exact SetAllW.nil | apply SetAt.succ | apply SetAll.cons | apply SetAllW.cons))) (qSeq_nx (wS_skip (qSeq_nx (wS_skip (qSeq_nx (wS_skip ?_))))))))⟩)))))))))
        exact ⟨y5, some (.d (.str (wordS false))), some (.d (.str (nmS .e))), some (.d (.int f)), by simp [dW, dB, Int.add_assoc], by simp [dF]⟩
      | u => exact absurd rfl (ok.nm.elim (fun z => nomatch z.1) (fun z => z.2))
  · rintro v s' ⟨y5, y9, y10, y11, rfl, rfl⟩
    rw [List.length_map, sm_all, sm_all]
    refine qSeq_nx (wS_seq (wS_ret (wE_tup (wL_cons (wE_var rfl (wL_cons (wE_frl (wE_var rfl ⟨_, _, rfl, st2_1, wL_cons (wE_var rfl (wL_nil (kMk_of (.cons (.cons (.cons .nil))) rfl (qSeq_ret ?_))))⟩))))))))
    rw [st2_gone, List.take_length]
    exact qRet_app k
def gapW (vc ve wl wr : Int) (l r : List Part) : Int := (wr + sm (dW vc ve) r) - (wl + sm (dW vc ve) l)
def gapF (k : Nat) (l r : List Part) : Int := sm (dF k) r - sm (dF k) l
def gapB (vc ve : Int) (l r : List Part) : Int := sm (dB vc ve) r - sm (dB vc ve) l
def testD (word : Str) (wl wr : Int) (l r : List Part) : PD := .tuple [.str word, sideD wl l, sideD wr r]
def gapD (word : Str) (vc ve wl wr : Int) (l r : List Part) : PD := .tuple [.str word, .int (gapW vc ve wl wr l r), .tuple [.int (gapF 0 l r), .int (gapF 1 l r), .int (gapF 2 l r)], .int (gapB vc ve l r)]
variable {word : Str} {wl wr : Int} {l r : List Part}
theorem wC_gapOf (hv : vc.natAbs ≤ 100 ∧ ve.natAbs ≤ 100) (hl : ∀ p ∈ l, p.ok) (hr : ∀ p ∈ r, p.ok) (k : K (.d (gapD word vc ve wl wr l r)) s) : wC (cx P (n + 3)).fe 2 [.d planD, .d (.tuple [.int vc, .int ve]), .d (testD word wl wr l r)] s K := by
  refine wC_run (n := n + 2) (f := 2) (fn := ⟨3, 11, b2⟩) rfl rfl rfl ?_
  refine wS_seq (wS_set (wE_var rfl (kPut_tp (xs := [.str word, sideD wl l, sideD wr r]) (by (repeat' (first | exact SetAt.zero | exact SetAll.nil | exact SetAllW.nil | apply SetAt.succ | apply SetAll.cons | apply SetAllW.cons))) (qSeq_nx (wS_seq (wS_par (wL_cons (wE_call (wL_cons (wE_var rfl (wL_cons (wE_var rfl (wL_cons (wE_var rfl (wL_nil (wC_side (n := n) hv hl (wL_cons (wE_call (wL_cons (wE_var rfl (wL_cons (wE_var rfl (wL_cons (wE_var rfl (wL_nil (wC_side (n := n) hv hr (wL_nil ⟨_, SetAllW.cons (by (repeat' (first | exact SetAt.zero | exact SetAll.nil | exact SetAllW.nil | apply SetAt.succ | apply SetAll.cons | apply SetAllW.cons))) (.cons (by (repeat' (first | exact SetAt.zero | exact SetAll.nil | exact SetAllW.nil | apply SetAt.succ | apply SetAll.cons | apply SetAllW.cons))) .nil), qSeq_nx (wS_seq (wS_set (wE_bi (wL_cons ?_))))⟩)))))))))))))))))))))))))))
  refine wE_map [(sm (dF 0) l, sm (dF 0) r), (sm (dF 1) l, sm (dF 1) r), (sm (dF 2) l, sm (dF 2) r)] (fun p => .tuple [.int p.1, .int p.2]) (fun p => .int (p.2 - p.1)) (by show 3 ≤ 1000000; decide) ?_ (fun x hx => ⟨_, put_tp (xs := [.int x.1, .int x.2]) (by (repeat' (first | exact SetAt.zero | exact SetAll.nil | exact SetAllW.nil | apply SetAt.succ | apply SetAll.cons | apply SetAllW.cons))), ?_⟩) ?_
  · refine wE_zip (wE_ix (wE_var rfl (wE_cst (kIx_of (r := .list (F3 l)) rfl (wE_ix (wE_var rfl (wE_cst (kIx_of (r := .list (F3 r)) rfl ?_))))))))
    exact ⟨_, _, _, rfl, rfl, rfl, kWalk_list ⟨rfl, rfl, rfl⟩⟩
  · exact wE_bin (wE_var rfl (wE_var rfl (kBin_sub ⟨rfl, rfl⟩)))
  refine wL_nil (kBi_of (.d .nil) (z := .tuple [.int (gapF 0 l r), .int (gapF 1 l r), .int (gapF 2 l r)]) rfl (kPut_nm (by (repeat' (first | exact SetAt.zero | exact SetAll.nil | exact SetAllW.nil | apply SetAt.succ | apply SetAll.cons | apply SetAllW.cons))) (qSeq_nx (wS_seq (wS_ret ?_)))))
  refine wE_tup (wL_cons (wE_var rfl (wL_cons (wE_bin (wE_ix (wE_var rfl (wE_cst (kIx_of (r := .int (wr + sm (dW vc ve) r)) rfl (wE_ix (wE_var rfl (wE_cst (kIx_of (r := .int (wl + sm (dW vc ve) l)) rfl (kBin_sub (wL_cons (wE_var rfl (wL_cons ?_))))))))))))))))
  refine wE_bin (wE_ix (wE_var rfl (wE_cst (kIx_of (r := .int (sm (dB vc ve) r)) rfl (wE_ix (wE_var rfl (wE_cst (kIx_of (r := .int (sm (dB vc ve) l)) rfl (kBin_sub (wL_nil (kMk_of (.cons (.cons (.cons (.cons .nil)))) rfl ?_)))))))))))
  exact qSeq_ret (qRet_same k)
theorem wC_first (k : K (.d (.tuple [.int (gapW vc ve wl wr l r), .int 1])) s) : wC (cx P (n + 1)).fe 3 [.d (gapD word vc ve wl wr l r)] s K := by
  refine wC_run (f := 3) (fn := ⟨1, 1, b3⟩) rfl rfl rfl (wS_seq (wS_ret (wE_tup (wL_cons (wE_ix (wE_var rfl (wE_cst (kIx_of (r := .int (gapW vc ve wl wr l r)) rfl (wL_cons (wE_cst (wL_nil (kMk_of (.cons (.cons .nil)) rfl ?_))))))))))))
  exact qSeq_ret (qRet_same k)
def soAt (word : Str) (top r1 : Int) : Bool := if word = "below" then decide (0 < top) || (decide (top = 0) && decide (r1 = 0)) else decide (top = 0) && decide (r1 = 1)
theorem wC_so {r0 r1 : Int} (hw : word = "below" ∨ word = "same") (k : K (.d (.bool (soAt word (r0 + gapB vc ve l r) r1))) s) : wC (cx P (n + 1)).fe 4 [.d (gapD word vc ve wl wr l r), .d (.tuple [.int r0, .int r1])] s K := by
  refine wC_run (f := 4) (fn := ⟨2, 3, b4⟩) rfl rfl rfl (wS_seq (wS_set (wE_bin (wE_ix (wE_var rfl (wE_cst (kIx_of (r := .int r0) rfl (wE_ix (wE_var rfl (wE_cst (kIx_of (r := .int (gapB vc ve l r)) rfl (kBin_add (kPut_nm (by (repeat' (first | exact SetAt.zero | exact SetAll.nil | exact SetAllW.nil | apply SetAt.succ | apply SetAll.cons | apply SetAllW.cons))) (qSeq_nx ?_))))))))))))))
  generalize r0 + gapB vc ve l r = top at k ⊢
  rcases hw with rfl | rfl
  · refine wS_seq (wS_if (wE_cmp (wE_ix (wE_var rfl (wE_cst (kIx_of (r := .str "below") rfl (wE_cst (kCmp_of (k := true) rfl (kIf_T (wS_seq (wS_ret ?_)))))))))))
    refine wE_orB (p := decide (0 < top)) (q := decide (top = 0) && decide (r1 = 0)) (wE_cmp (wE_var rfl (wE_cst (kCmp_of (k := decide (0 < top)) rfl ⟨rfl, rfl⟩)))) (fun _ => wE_andB (p := decide (top = 0)) (q := decide (r1 = 0)) (wE_cmp (wE_var rfl (wE_cst (kCmp_of (k := decide (top = 0)) (eq_int _ _) ⟨rfl, rfl⟩)))) (fun _ => wE_cmp (wE_ix (wE_var rfl (wE_cst (kIx_of (r := .int r1) rfl (wE_cst (kCmp_of (k := decide (r1 = 0)) (eq_int _ _) ⟨rfl, rfl⟩))))))) ⟨rfl, rfl⟩) ?_
    exact qSeq_ret (qSeq_ret (qRet_same k))
  · refine wS_seq (wS_if (wE_cmp (wE_ix (wE_var rfl (wE_cst (kIx_of (r := .str "same") rfl (wE_cst (kCmp_of (k := false) rfl (kIf_F (wS_skip (qSeq_nx (wS_seq (wS_ret ?_)))))))))))))
    refine wE_andB (p := decide (top = 0)) (q := decide (r1 = 1)) (wE_cmp (wE_var rfl (wE_cst (kCmp_of (k := decide (top = 0)) (eq_int _ _) ⟨rfl, rfl⟩)))) (fun _ => wE_cmp (wE_ix (wE_var rfl (wE_cst (kIx_of (r := .int r1) rfl (wE_cst (kCmp_of (k := decide (r1 = 1)) (eq_int _ _) ⟨rfl, rfl⟩))))))) ?_
    exact qSeq_ret (qRet_same k)
def inB : S := match b15 with
  | .seq _ (.seq _ (.seq (.for _ _ (.seq b _)) _)) => b
  | _ => .skip
def rowNs : PD := .list [.str "a", .str "b", .str "s"]
theorem in_ok {x0 x1 x2 y5 y6 y7 y13 y14 y15 : Option W} {σ a b f0 f1 f2 : Int} (hσ : σ = -1 ∨ σ = 1) (hv : vc.natAbs ≤ 100 ∧ ve.natAbs ≤ 100) (hp : ∀ p ∈ ps, p.ok) :
    wS (cx P n) inB [x0, x1, x2, some (.ref s.length), some (.d rowNs), y5, y6, y7, some (.d (.int a)), some (.ref (s.length + 1)), some (.d (.int b)), some (.d (.int σ)), some (.d (sideD w ps)), y13, y14, y15] (st2 s (heldD vc ve) [.int f0, .int f1, .int f2])
    fun o => ∃ z13 z14 z15, o = .nx [x0, x1, x2, some (.ref s.length), some (.d rowNs), y5, y6, y7, some (.d (.int (a + σ * sm (dW vc ve) ps))), some (.ref (s.length + 1)), some (.d (.int (b + σ * sm (dB vc ve) ps))), some (.d (.int σ)), some (.d (sideD w ps)), z13, z14, z15] (st2 s (heldD vc ve) [.int (f0 + σ * sm (dF 0) ps), .int (f1 + σ * sm (dF 1) ps), .int (f2 + σ * sm (dF 2) ps)]) := by
  refine wS_for (fun j v s' => ∃ z13 z14 z15, v = [x0, x1, x2, some (.ref s.length), some (.d rowNs), y5, y6, y7, some (.d (.int (a + σ * sm (dW vc ve) (ps.take j)))), some (.ref (s.length + 1)), some (.d (.int (b + σ * sm (dB vc ve) (ps.take j)))), some (.d (.int σ)), some (.d (sideD w ps)), z13, z14, z15] ∧ s' = st2 s (heldD vc ve) [.int (f0 + σ * sm (dF 0) (ps.take j)), .int (f1 + σ * sm (dF 1) (ps.take j)), .int (f2 + σ * sm (dF 2) (ps.take j))]) (wE_ix (wE_var rfl (wE_cst (kIx_of (r := .tuple (ps.map partD)) rfl (kWalk_tuple ⟨⟨y13, y14, y15, by simp [sm], by simp [sm]⟩, fun _ _ _ _ => rfl, ?_, ?_⟩)))))
  · rintro j v s' x hx ⟨z13, z14, z15, rfl, rfl⟩
    rw [List.getElem?_map] at hx
    obtain ⟨p, hp', rfl⟩ := Option.map_eq_some_iff.mp hx
    have ok := hp p (List.mem_of_getElem? hp')
    have okf := ok.f
    refine ⟨_, put_tp (xs := [.str (wordS p.bey), .str (nmS p.nm), .int p.f]) (by (repeat' (first | exact SetAt.zero | exact SetAll.nil | exact SetAllW.nil | apply SetAt.succ | apply SetAll.cons | apply SetAllW.cons))), wS_seq ?_⟩
    have sf : Sm p.f := sm9 (by omega)
    have ss : Sm σ := sm9 (by rcases hσ with rfl | rfl <;> decide)
    have sg : Sm (σ * p.f) := sm9 (by rcases hσ with rfl | rfl <;> omega)
    simp only [sm_take hp', Int.mul_add]
    generalize σ * sm (dW vc ve) (ps.take j) = aW
    generalize σ * sm (dB vc ve) (ps.take j) = aB
    generalize σ * sm (dF 0) (ps.take j) = a0
    generalize σ * sm (dF 1) (ps.take j) = a1
    generalize σ * sm (dF 2) (ps.take j) = a2
    obtain ⟨bey, nm, f⟩ := p
    cases bey with
    | true =>
      refine wS_if (wE_cmp (wE_var rfl (wE_cst (kCmp_of (k := true) rfl (kIf_T (wS_seq (wS_aug rfl (wE_bin (wE_bin (wE_var rfl (wE_var rfl (kBin_mul ss sf ?_))))))))))))
      cases nm with
      | a => exact absurd ok.nm (by simp)
      | b => exact absurd ok.nm (by simp)
      | s => exact absurd ok.nm (by simp)
      | c =>
        refine wE_ife (wE_cmp (wE_var rfl (wE_cst (kCmp_of (k := true) rfl (kIf_T (wE_ixD (wE_var rfl (wE_var rfl ⟨_, _, _, _, rfl, st2_d, rfl, rfl, kBin_mul sg (sm9 (by omega)) ⟨_, _, _, rfl, rfl, rfl, _, by (repeat' (first | exact SetAt.zero | exact SetAll.nil | exact SetAllW.nil | apply SetAt.succ | apply SetAll.cons | apply SetAllW.cons)), qSeq_nx (wS_skip (qSeq_nx (wS_skip ?_)))⟩⟩))))))))
        exact ⟨some (.d (.str (wordS true))), some (.d (.str (nmS .c))), some (.d (.int f)), by simp [dW, dB, vl, Int.add_assoc, Int.mul_assoc], by simp [dF]⟩
      | e =>
        refine wE_ife (wE_cmp (wE_var rfl (wE_cst (kCmp_of (k := true) rfl (kIf_T (wE_ixD (wE_var rfl (wE_var rfl ⟨_, _, _, _, rfl, st2_d, rfl, rfl, kBin_mul sg (sm9 (by omega)) ⟨_, _, _, rfl, rfl, rfl, _, by (repeat' (first | exact SetAt.zero | exact SetAll.nil | exact SetAllW.nil | apply SetAt.succ | apply SetAll.cons | apply SetAllW.cons)), qSeq_nx (wS_skip (qSeq_nx (wS_skip ?_)))⟩⟩))))))))
        exact ⟨some (.d (.str (wordS true))), some (.d (.str (nmS .e))), some (.d (.int f)), by simp [dW, dB, vl, Int.add_assoc, Int.mul_assoc], by simp [dF]⟩
      | u =>
        refine wE_ife (wE_cmp (wE_var rfl (wE_cst (kCmp_of (k := false) rfl (kIf_F (wE_cst (kBin_mul sg (sm9 (by decide)) ⟨_, _, _, rfl, rfl, rfl, _, by (repeat' (first | exact SetAt.zero | exact SetAll.nil | exact SetAllW.nil | apply SetAt.succ | apply SetAll.cons | apply SetAllW.cons)), qSeq_nx (wS_skip (qSeq_nx (wS_skip ?_)))⟩)))))))
        exact ⟨some (.d (.str (wordS true))), some (.d (.str (nmS .u))), some (.d (.int f)), by simp [dW, dB, vl, Int.add_assoc, Int.mul_assoc], by simp [dF]⟩
    | false =>
      refine wS_if (wE_cmp (wE_var rfl (wE_cst (kCmp_of (k := false) rfl (kIf_F (wS_seq (wS_if (wE_inD (wE_var rfl (wE_var rfl ⟨_, _, _, rfl, st2_d, rfl, ?_⟩))))))))))
      rw [look_held]
      cases nm with
      | a =>
        have ei := idx_nm .a
        refine kIf_F (wS_seq (wS_augi (wE_var rfl (wE_index (wE_var rfl ⟨rfl, wL_cons (wE_var rfl (wL_nil ⟨_, _, .int 0, rfl, rfl, ei, _, _, _, _, _, rfl, rfl, st2_1, rfl, rfl, wE_bin (wE_var rfl (wE_var rfl (kBin_mul ss sf ⟨_, _, rfl, rfl, st2_1, ?_⟩)))⟩))⟩)))))
        rw [st2_set]
        exact qSeq_nx (wS_skip (qSeq_nx (wS_skip (qSeq_nx (wS_skip ⟨some (.d (.str (wordS false))), some (.d (.str (nmS .a))), some (.d (.int f)), by simp [dW, dB], by simp [dF, Int.add_assoc]⟩)))))
      | b =>
        have ei := idx_nm .b
        refine kIf_F (wS_seq (wS_augi (wE_var rfl (wE_index (wE_var rfl ⟨rfl, wL_cons (wE_var rfl (wL_nil ⟨_, _, .int 1, rfl, rfl, ei, _, _, _, _, _, rfl, rfl, st2_1, rfl, rfl, wE_bin (wE_var rfl (wE_var rfl (kBin_mul ss sf ⟨_, _, rfl, rfl, st2_1, ?_⟩)))⟩))⟩)))))
        rw [st2_set]
        exact qSeq_nx (wS_skip (qSeq_nx (wS_skip (qSeq_nx (wS_skip ⟨some (.d (.str (wordS false))), some (.d (.str (nmS .b))), some (.d (.int f)), by simp [dW, dB], by simp [dF, Int.add_assoc]⟩)))))
      | s =>
        have ei := idx_nm .s
        refine kIf_F (wS_seq (wS_augi (wE_var rfl (wE_index (wE_var rfl ⟨rfl, wL_cons (wE_var rfl (wL_nil ⟨_, _, .int 2, rfl, rfl, ei, _, _, _, _, _, rfl, rfl, st2_1, rfl, rfl, wE_bin (wE_var rfl (wE_var rfl (kBin_mul ss sf ⟨_, _, rfl, rfl, st2_1, ?_⟩)))⟩))⟩)))))
        rw [st2_set]
        exact qSeq_nx (wS_skip (qSeq_nx (wS_skip (qSeq_nx (wS_skip ⟨some (.d (.str (wordS false))), some (.d (.str (nmS .s))), some (.d (.int f)), by simp [dW, dB], by simp [dF, Int.add_assoc]⟩)))))
      | c =>
        refine kIf_T (wS_seq (wS_aug rfl (wE_bin (wE_bin (wE_var rfl (wE_var rfl (kBin_mul ss sf (wE_ixD (wE_var rfl (wE_var rfl ⟨_, _, _, _, rfl, st2_d, rfl, rfl, kBin_mul sg (sm9 (by omega)) ⟨_, _, _, rfl, rfl, rfl, _, by (repeat' (first | exact SetAt.zero | exact SetAll.nil | exact SetAllW.nil | apply SetAt.succ | apply SetAll.cons | apply SetAllW.cons)), qSeq_nx (wS_skip (qSeq_nx (wS_skip (qSeq_nx (wS_skip ?_)))))⟩⟩))))))))))
        exact ⟨some (.d (.str (wordS false))), some (.d (.str (nmS .c))), some (.d (.int f)), by simp [dW, dB, Int.add_assoc, Int.mul_assoc], by simp [dF]⟩
      | e =>
        refine kIf_T (wS_seq (wS_aug rfl (wE_bin (wE_bin (wE_var rfl (wE_var rfl (kBin_mul ss sf (wE_ixD (wE_var rfl (wE_var rfl ⟨_, _, _, _, rfl, st2_d, rfl, rfl, kBin_mul sg (sm9 (by omega)) ⟨_, _, _, rfl, rfl, rfl, _, by (repeat' (first | exact SetAt.zero | exact SetAll.nil | exact SetAllW.nil | apply SetAt.succ | apply SetAll.cons | apply SetAllW.cons)), qSeq_nx (wS_skip (qSeq_nx (wS_skip (qSeq_nx (wS_skip ?_)))))⟩⟩))))))))))
        exact ⟨some (.d (.str (wordS false))), some (.d (.str (nmS .e))), some (.d (.int f)), by simp [dW, dB, Int.add_assoc, Int.mul_assoc], by simp [dF]⟩
      | u => exact absurd rfl (ok.nm.elim (fun z => nomatch z.1) (fun z => z.2))
  · rintro v s' ⟨z13, z14, z15, rfl, rfl⟩
    rw [List.length_map, List.take_length]
    exact ⟨_, _, _, rfl⟩
def accI (g : Part → Int) (l r : List Part) : Nat → Int
  | 0 => 0
  | 1 => -1 * sm g l
  | _ => -1 * sm g l + 1 * sm g r
theorem wC_lawGap (hv : vc.natAbs ≤ 100 ∧ ve.natAbs ≤ 100) (hl : ∀ p ∈ l, p.ok) (hr : ∀ p ∈ r, p.ok) (k : K (.d (gapD word vc ve wl wr l r)) s) : wC (cx P (n + 1)).fe 15 [.d planD, .d (.tuple [.int vc, .int ve]), .d (testD word wl wr l r)] s K := by
  refine wC_run (n := n) (f := 15) (fn := ⟨3, 16, b15⟩) rfl rfl rfl ?_
  refine wS_seq (wS_par (wL_cons (wE_dof ?_)))
  refine wE_map [(PyData.tuple [.str "c", .int (-2), .int 3, .int 0], vc), (PyData.tuple [.str "e", .int 0, .int 20, .int 1], ve)] (fun p => .tuple [p.1, .int p.2]) (fun p => .tuple [match p.1 with | .tuple (y :: _) => y | _ => .none, .int p.2]) (by show 2 ≤ 1000000; decide) ?_ (fun x hx => ⟨_, put_tp (xs := [x.1, .int x.2]) (by (repeat' (first | exact SetAt.zero | exact SetAll.nil | exact SetAllW.nil | apply SetAt.succ | apply SetAll.cons | apply SetAllW.cons))), ?_⟩) ?_
  · refine wE_zip (wE_ix (wE_var rfl (wE_cst (kIx_of (r := .tuple planSm) rfl (wE_var rfl ?_)))))
    exact ⟨_, _, _, rfl, rfl, rfl, kWalk_list ⟨rfl, rfl, rfl⟩⟩
  · simp only [List.mem_cons, List.not_mem_nil, or_false] at hx
    rcases hx with rfl | rfl <;> exact wE_tup (wL_cons (wE_ix (wE_var rfl (wE_cst (kIx_of rfl (wL_cons (wE_var rfl (wL_nil (kMk_of (.cons (.cons .nil)) rfl ⟨rfl, rfl⟩)))))))))
  refine ⟨_, heldD vc ve, rfl, by show 2 ≤ 1000000; decide, rfl, wL_cons ?_⟩
  refine wE_map planRows id (fun x => match x with | .tuple (y :: _) => y | _ => .none) (by decide) (wE_ix (wE_var rfl (wE_cst (kIx_of (r := .tuple planRows) rfl (kWalk_tuple ⟨rfl, rfl, rfl⟩))))) (fun x hx => ⟨_, put_nm (by (repeat' (first | exact SetAt.zero | exact SetAll.nil | exact SetAllW.nil | apply SetAt.succ | apply SetAll.cons | apply SetAllW.cons))), ?_⟩) ?_
  · simp only [planRows, List.mem_cons, List.not_mem_nil, or_false] at hx
    rcases hx with rfl | rfl | rfl <;> exact wE_ix (wE_var rfl (wE_cst (kIx_of rfl ⟨rfl, rfl⟩)))
  refine wL_nil ⟨_, SetAllW.cons (by (repeat' (first | exact SetAt.zero | exact SetAll.nil | exact SetAllW.nil | apply SetAt.succ | apply SetAll.cons | apply SetAllW.cons))) (.cons (by (repeat' (first | exact SetAt.zero | exact SetAll.nil | exact SetAllW.nil | apply SetAt.succ | apply SetAll.cons | apply SetAllW.cons))) .nil), qSeq_nx ?_⟩
  refine wS_seq (wS_par (wL_cons (wE_bin (wE_ix (wE_ix (wE_var rfl (wE_cst (kIx_of (r := sideD wr r) rfl (wE_cst (kIx_of (r := .int wr) rfl (wE_ix (wE_ix (wE_var rfl (wE_cst (kIx_of (r := sideD wl l) rfl (wE_cst (kIx_of (r := .int wl) rfl (kBin_sub (wL_cons (wE_newx (wE_lst (wL_cons (wE_cst (wL_nil (kMk_of (.cons .nil) rfl (wE_bi (wL_cons (wE_var rfl (wL_nil (kBi_of (.d .nil) (z := .int 3) rfl ⟨_, _, rfl, rfl, by decide, by decide, by decide, wL_cons (wE_cst (wL_nil ⟨_, SetAllW.cons (by (repeat' (first | exact SetAt.zero | exact SetAll.nil | exact SetAllW.nil | apply SetAt.succ | apply SetAll.cons | apply SetAllW.cons))) (.cons (by (repeat' (first | exact SetAt.zero | exact SetAll.nil | exact SetAllW.nil | apply SetAt.succ | apply SetAll.cons | apply SetAllW.cons))) (.cons (by (repeat' (first | exact SetAt.zero | exact SetAll.nil | exact SetAllW.nil | apply SetAt.succ | apply SetAll.cons | apply SetAllW.cons))) .nil)), qSeq_nx ?_⟩))⟩))))))))))))))))))))))))))))))
  have e0 : s ++ [.dct false false (putAllD (heldD vc ve) [])] ++ [.lst (List.replicate (3 : Int).toNat [PyData.int 0]).flatten] = st2 s (heldD vc ve) [.int (accI (dF 0) l r 0), .int (accI (dF 1) l r 0), .int (accI (dF 2) l r 0)] := by
    rw [List.append_assoc]
    rfl
  have e1 : (s ++ [Ob.dct false false (putAllD (heldD vc ve) [])]).length = s.length + 1 := by rw [List.length_append]; rfl
  rw [e0, e1]
  refine wS_seq (wS_for (fun j v s' => ∃ y5 y6 y7 y11 y12 y13 y14 y15, v = [some (.d planD), some (.d (.tuple [.int vc, .int ve])), some (.d (testD word wl wr l r)), some (.ref s.length), some (.d rowNs), y5, y6, y7, some (.d (.int (wr - wl + accI (dW vc ve) l r j))), some (.ref (s.length + 1)), some (.d (.int (accI (dB vc ve) l r j))), y11, y12, y13, y14, y15] ∧ s' = st2 s (heldD vc ve) [.int (accI (dF 0) l r j), .int (accI (dF 1) l r j), .int (accI (dF 2) l r j)]) ?_)
  refine wE_tup (wL_cons (wE_tup (wL_cons (wE_neg (wE_cst (kUn_of rfl (wL_cons (wE_ix (wE_var rfl (wE_cst (kIx_of (r := sideD wl l) rfl (wL_nil (kMk_of (.cons (.cons .nil)) rfl (wL_cons (wE_tup (wL_cons (wE_cst (wL_cons (wE_ix (wE_var rfl (wE_cst (kIx_of (r := sideD wr r) rfl (wL_nil (kMk_of (.cons (.cons .nil)) rfl (wL_nil (kMk_of (.cons (.cons .nil)) rfl ?_))))))))))))))))))))))))))
  refine kWalk_tuple ⟨⟨_, _, _, _, _, _, _, _, by show _ = _; rw [show wr - wl + accI (dW vc ve) l r 0 = wr - wl by show _ + 0 = _; omega]; rfl, rfl⟩, fun _ _ _ _ => rfl, ?_, ?_⟩
  · rintro j v s' x hx ⟨y5, y6, y7, y11, y12, y13, y14, y15, rfl, rfl⟩
    match j, hx with
    | 0, hx =>
      cases hx
      refine ⟨_, put_tp (xs := [.int (-1), sideD wl l]) (by (repeat' (first | exact SetAt.zero | exact SetAll.nil | exact SetAllW.nil | apply SetAt.succ | apply SetAll.cons | apply SetAllW.cons))), wS_seq ((in_ok (.inl rfl) hv hl).imp ?_)⟩
      rintro o ⟨z13, z14, z15, rfl⟩
      exact qSeq_nx (wS_skip ⟨_, _, _, _, _, _, _, _, by simp only [accI]; rw [show wr - wl + 0 + -1 * sm (dW vc ve) l = wr - wl + -1 * sm (dW vc ve) l by omega, show 0 + -1 * sm (dB vc ve) l = -1 * sm (dB vc ve) l by omega], by simp only [accI, Int.zero_add]⟩)
    | 1, hx =>
      cases hx
      refine ⟨_, put_tp (xs := [.int 1, sideD wr r]) (by (repeat' (first | exact SetAt.zero | exact SetAll.nil | exact SetAllW.nil | apply SetAt.succ | apply SetAll.cons | apply SetAllW.cons))), wS_seq ((in_ok (.inr rfl) hv hr).imp ?_)⟩
      rintro o ⟨z13, z14, z15, rfl⟩
      exact qSeq_nx (wS_skip ⟨_, _, _, _, _, _, _, _, by simp only [accI]; rw [show wr - wl + -1 * sm (dW vc ve) l + 1 * sm (dW vc ve) r = wr - wl + (-1 * sm (dW vc ve) l + 1 * sm (dW vc ve) r) by omega], by simp only [accI]⟩)
    | j + 2, hx => cases hx
  · rintro v s' ⟨y5, y6, y7, y11, y12, y13, y14, y15, rfl, rfl⟩
    refine qSeq_nx (wS_seq (wS_ret (wE_tup (wL_cons (wE_ix (wE_var rfl (wE_cst (kIx_of (r := .str word) rfl (wL_cons (wE_var rfl (wL_cons (wE_bi (wL_cons (wE_var rfl (wL_nil (kBi_of (.ref st2_1 .nil) (z := .tuple [.int (gapF 0 l r), .int (gapF 1 l r), .int (gapF 2 l r)]) ?_ (wL_cons (wE_var rfl (wL_nil (kMk_of (.cons (.cons (.cons (.cons .nil)))) rfl ?_))))))))))))))))))))
    · show some (PyData.tuple [.int (-1 * sm (dF 0) l + 1 * sm (dF 0) r), .int (-1 * sm (dF 1) l + 1 * sm (dF 1) r), .int (-1 * sm (dF 2) l + 1 * sm (dF 2) r)]) = _
      unfold gapF
      rw [show ∀ a b : Int, -1 * a + 1 * b = b - a from fun a b => by omega, show ∀ a b : Int, -1 * a + 1 * b = b - a from fun a b => by omega, show ∀ a b : Int, -1 * a + 1 * b = b - a from fun a b => by omega]
    · show qSeq _ _ _ (.ret (.d (.tuple [.str word, .int (wr - wl + (-1 * sm (dW vc ve) l + 1 * sm (dW vc ve) r)), _, .int (-1 * sm (dB vc ve) l + 1 * sm (dB vc ve) r)])) _)
      rw [show wr - wl + (-1 * sm (dW vc ve) l + 1 * sm (dW vc ve) r) = gapW vc ve wl wr l r by unfold gapW; omega, show -1 * sm (dB vc ve) l + 1 * sm (dB vc ve) r = gapB vc ve l r by unfold gapB; omega]
      exact qSeq_ret (qRet_app k)
/-! # the law's own reckoning -/
def vf (vc ve n0 n1 n2 : Int) : Nm → Int
  | .a => n0
  | .b => n1
  | .s => n2
  | .c => vc
  | .e => ve
  | .u => 1
def held5 (vc ve n0 n1 n2 : Int) : List (PD × PD) := [(.str "c", .int vc), (.str "e", .int ve), (.str "a", .int n0), (.str "b", .int n1), (.str "s", .int n2)]
def dV (val : Nm → Int) (B : Int) (p : Part) : Int := p.f * (if p.bey then val p.nm * B else val p.nm)
variable {n0 n1 n2 B : Int} {m : Nat}
theorem wE_one {F : Fe} {v : En} {i j : Nat} (hd : dictAt s (.ref m) = some (false, held5 vc ve n0 n1 n2)) (nm : Nm) (hi : v[i]? = some (some (.ref m))) (hj : v[j]? = some (some (.d (.str (nmS nm))))) (k : K (.d (.int (vf vc ve n0 n1 n2 nm))) s) :
    wE F (.ife (.cmp .ne (.var j) (.cst (.str ""))) (.ix (.var i) (.var j)) (.cst (.int 1))) v s K := by
  refine wE_ife (wE_cmp (wE_var hj (wE_cst ?_)))
  cases nm with
  | u => exact kCmp_of (k := false) rfl (kIf_F (wE_cst k))
  | _ => exact kCmp_of (k := true) rfl (kIf_T (wE_ixD (wE_var hi (wE_var hj ⟨_, _, _, _, rfl, hd, rfl, rfl, k⟩))))
theorem sm_mul {a b : Int} (ha : a.natAbs ≤ 1000000000000) (hb : b.natAbs ≤ 1000000000000) : Sm (a * b) := by
  have h : (a * b).natAbs ≤ 1000000000000 * 1000000000000 := by rw [Int.natAbs_mul]; exact Nat.mul_le_mul ha hb
  exact Sm.b (by omega) (by omega)
theorem sm12 {a : Int} (ha : a.natAbs ≤ 1000000000000) : Sm a := Sm.b (by omega) (by omega)
theorem wC_worth (hd : dictAt s (.ref m) = some (false, held5 vc ve n0 n1 n2)) (hb : ∀ nm, (vf vc ve n0 n1 n2 nm).natAbs ≤ 1000000000000) (hB : B.natAbs ≤ 1000000000000) (hp : ∀ p ∈ ps, p.ok) (k : K (.d (.int (w + sm (dV (vf vc ve n0 n1 n2) B) ps))) s) :
    wC (cx P (n + 1)).fe 9 [.d (sideD w ps), .d (.int B), .ref m] s K := by
  refine wC_run (f := 9) (fn := ⟨3, 8, b9⟩) rfl rfl rfl (wS_seq (wS_set (wE_ix (wE_var rfl (wE_cst (kIx_of (r := .int w) rfl (kPut_nm (by (repeat' (first | exact SetAt.zero | exact SetAll.nil | exact SetAllW.nil | apply SetAt.succ | apply SetAll.cons | apply SetAllW.cons))) (qSeq_nx (wS_seq ?_)))))))))
  refine wS_for (fun j v s' => ∃ y4 y5 y6 y7, v = [some (.d (sideD w ps)), some (.d (.int B)), some (.ref m), some (.d (.int (w + sm (dV (vf vc ve n0 n1 n2) B) (ps.take j)))), y4, y5, y6, y7] ∧ s' = s) (wE_ix (wE_var rfl (wE_cst (kIx_of (r := .tuple (ps.map partD)) rfl (kWalk_tuple ⟨⟨_, _, _, _, by rw [sm_nil, Int.add_zero]; rfl, rfl⟩, fun _ _ _ _ => rfl, ?_, ?_⟩)))))
  · rintro j v s' x hx ⟨y4, y5, y6, y7, rfl, rfl⟩
    rw [List.getElem?_map] at hx
    obtain ⟨p, hp', rfl⟩ := Option.map_eq_some_iff.mp hx
    have okf := (hp p (List.mem_of_getElem? hp')).f
    have sf : Sm p.f := sm9 (by omega)
    have hbn := hb p.nm
    refine ⟨_, put_tp (xs := [.str (wordS p.bey), .str (nmS p.nm), .int p.f]) (by (repeat' (first | exact SetAt.zero | exact SetAll.nil | exact SetAllW.nil | apply SetAt.succ | apply SetAll.cons | apply SetAllW.cons))), wS_seq (wS_set (wE_one hd p.nm rfl rfl (kPut_nm (by (repeat' (first | exact SetAt.zero | exact SetAll.nil | exact SetAllW.nil | apply SetAt.succ | apply SetAll.cons | apply SetAllW.cons))) (qSeq_nx (wS_seq (wS_aug rfl (wE_bin (wE_var rfl ?_))))))))⟩
    simp only [sm_take hp']
    obtain ⟨bey, nm, f⟩ := p
    cases bey with
    | true =>
      refine wE_ife (wE_cmp (wE_var rfl (wE_cst (kCmp_of (k := false) rfl (kIf_F (wE_bin (wE_var rfl (wE_var rfl (kBin_mul (sm12 hbn) (sm12 hB) (kBin_mul sf (sm_mul hbn hB) ⟨_, _, _, rfl, rfl, rfl, _, by (repeat' (first | exact SetAt.zero | exact SetAll.nil | exact SetAllW.nil | apply SetAt.succ | apply SetAll.cons | apply SetAllW.cons)), qSeq_nx (wS_skip ?_)⟩))))))))))
      exact ⟨some (.d (.str (wordS true))), some (.d (.str (nmS nm))), some (.d (.int f)), some (.d (.int (vf vc ve n0 n1 n2 nm))), by simp [dV, Int.add_assoc], rfl⟩
    | false =>
      refine wE_ife (wE_cmp (wE_var rfl (wE_cst (kCmp_of (k := true) rfl (kIf_T (wE_var rfl (kBin_mul sf (sm12 hbn) ⟨_, _, _, rfl, rfl, rfl, _, by (repeat' (first | exact SetAt.zero | exact SetAll.nil | exact SetAllW.nil | apply SetAt.succ | apply SetAll.cons | apply SetAllW.cons)), qSeq_nx (wS_skip ?_)⟩)))))))
      exact ⟨some (.d (.str (wordS false))), some (.d (.str (nmS nm))), some (.d (.int f)), some (.d (.int (vf vc ve n0 n1 n2 nm))), by simp [dV, Int.add_assoc], rfl⟩
  · rintro v s' ⟨y4, y5, y6, y7, rfl, rfl⟩
    rw [List.length_map, List.take_length]
    exact qSeq_nx (wS_seq (wS_ret (wE_var rfl (qSeq_ret (qRet_same k)))))
def holdsAt (word : Str) (a b : Int) : Bool := if word = "below" then decide (a < b) else decide (a = b)
theorem wC_holds (hw : word = "below" ∨ word = "same") (hd : dictAt s (.ref m) = some (false, held5 vc ve n0 n1 n2)) (hb : ∀ nm, (vf vc ve n0 n1 n2 nm).natAbs ≤ 1000000000000) (hB : B.natAbs ≤ 1000000000000) (hl : ∀ p ∈ l, p.ok) (hr : ∀ p ∈ r, p.ok)
    (k : K (.d (.bool (holdsAt word (wl + sm (dV (vf vc ve n0 n1 n2) B) l) (wr + sm (dV (vf vc ve n0 n1 n2) B) r)))) s) : wC (cx P (n + 2)).fe 10 [.d (testD word wl wr l r), .d (.int B), .ref m] s K := by
  refine wC_run (n := n + 1) (f := 10) (fn := ⟨3, 5, b10⟩) rfl rfl rfl (wS_seq (wS_par (wL_cons (wE_call (wL_cons (wE_ix (wE_var rfl (wE_cst (kIx_of (r := sideD wl l) rfl (wL_cons (wE_var rfl (wL_cons (wE_var rfl (wL_nil (wC_worth (n := n) hd hb hB hl ?_)))))))))))))))
  refine wL_cons (wE_call (wL_cons (wE_ix (wE_var rfl (wE_cst (kIx_of (r := sideD wr r) rfl (wL_cons (wE_var rfl (wL_cons (wE_var rfl (wL_nil (wC_worth (n := n) hd hb hB hr (wL_nil ⟨_, SetAllW.cons (by (repeat' (first | exact SetAt.zero | exact SetAll.nil | exact SetAllW.nil | apply SetAt.succ | apply SetAll.cons | apply SetAllW.cons))) (.cons (by (repeat' (first | exact SetAt.zero | exact SetAll.nil | exact SetAllW.nil | apply SetAt.succ | apply SetAll.cons | apply SetAllW.cons))) .nil), qSeq_nx (wS_seq (wS_ret ?_))⟩)))))))))))))
  generalize wl + sm (dV (vf vc ve n0 n1 n2) B) l = x at k ⊢
  generalize wr + sm (dV (vf vc ve n0 n1 n2) B) r = y at k ⊢
  rcases hw with rfl | rfl
  · refine wE_ife (wE_cmp (wE_ix (wE_var rfl (wE_cst (kIx_of (r := .str "below") rfl (wE_cst (kCmp_of (k := true) rfl (kIf_T (wE_cmp (wE_var rfl (wE_var rfl (kCmp_of (k := decide (x < y)) rfl ?_))))))))))))
    exact qSeq_ret (qRet_same k)
  · refine wE_ife (wE_cmp (wE_ix (wE_var rfl (wE_cst (kIx_of (r := .str "same") rfl (wE_cst (kCmp_of (k := false) rfl (kIf_F (wE_cmp (wE_var rfl (wE_var rfl (kCmp_of (k := decide (x = y)) (eq_int _ _) ?_))))))))))))
    exact qSeq_ret (qRet_same k)
def numV (b : Int) (ds : List Int) : Int := ds.foldr (fun d f => f * b + d) 0
theorem num_bound {b : Int} (hb : 2 ≤ b) : ∀ ds : List Int, (∀ d ∈ ds, 0 ≤ d ∧ d < b) → 0 ≤ numV b ds ∧ numV b ds < b ^ ds.length
  | [], _ => ⟨Int.le_refl _, by show (0 : Int) < b ^ 0; rw [Int.pow_zero]; decide⟩
  | d :: ds, h => by
    obtain ⟨h1, h2⟩ := num_bound hb ds fun x hx => h x (List.mem_cons_of_mem _ hx)
    have hd := h d List.mem_cons_self
    have e : numV b (d :: ds) = numV b ds * b + d := rfl
    have e2 : b ^ (d :: ds).length = b ^ ds.length * b := by rw [List.length_cons, Int.pow_succ]
    have m1 : 0 ≤ numV b ds * b := Int.mul_nonneg h1 (by omega)
    have m2 : numV b ds * b ≤ (b ^ ds.length - 1) * b := Int.mul_le_mul_of_nonneg_right (by omega) (by omega)
    rw [Int.sub_mul, Int.one_mul] at m2
    rw [e, e2]
    omega
theorem pow_bound {b : Int} (h0 : 2 ≤ b) (hb : b ≤ 1000) : ∀ k, k ≤ 3 → 0 < b ^ k ∧ b ^ k ≤ 1000000000
  | 0, _ => by rw [Int.pow_zero]; decide
  | 1, _ => by rw [Int.pow_succ, Int.pow_zero]; omega
  | 2, _ => by
    rw [Int.pow_succ, Int.pow_succ, Int.pow_zero, Int.one_mul]
    have h1 := Int.mul_pos (a := b) (b := b) (by omega) (by omega)
    have h2 : b * b ≤ 1000 * 1000 := Int.mul_le_mul hb hb (by omega) (by decide)
    omega
  | 3, _ => by
    rw [Int.pow_succ, Int.pow_succ, Int.pow_succ, Int.pow_zero, Int.one_mul]
    have h1 := Int.mul_pos (a := b) (b := b) (by omega) (by omega)
    have h2 : b * b ≤ 1000 * 1000 := Int.mul_le_mul hb hb (by omega) (by decide)
    have h3 := Int.mul_pos (a := b * b) (b := b) h1 (by omega)
    have h4 : b * b * b ≤ 1000 * 1000 * 1000 := Int.mul_le_mul h2 hb (by omega) (by decide)
    omega
  | k + 4, h => by omega
theorem wC_number {b : Int} {ds : List Int} (h0 : 2 ≤ b) (hb : b ≤ 1000) (hl : ds.length ≤ 3) (hd : ∀ d ∈ ds, 0 ≤ d ∧ d < b) (k : K (.d (.int (numV b ds))) s) : wC (cx P (n + 1)).fe 11 [.d (.int b), .d (.tuple (ds.map .int))] s K := by
  refine wC_run (f := 11) (fn := ⟨2, 4, b11⟩) rfl rfl rfl (wS_seq (wS_set (wE_cst (kPut_nm (by (repeat' (first | exact SetAt.zero | exact SetAll.nil | exact SetAllW.nil | apply SetAt.succ | apply SetAll.cons | apply SetAllW.cons))) (qSeq_nx (wS_seq ?_))))))
  have er : revD (.tuple (ds.map .int)) = some (.tuple (ds.reverse.map .int)) := by
    show some (PyData.tuple (ds.map PyData.int).reverse) = _
    rw [List.map_reverse]
  refine wS_for (fun j v s' => ∃ y3, v = [some (.d (.int b)), some (.d (.tuple (ds.map .int))), some (.d (.int (numV b (ds.drop (ds.length - j))))), y3] ∧ s' = s) (wE_rev (wE_var rfl (kUn_of er (kWalk_tuple ⟨⟨none, by rw [Nat.sub_zero, List.drop_length]; rfl, rfl⟩, fun _ _ _ _ => rfl, ?_, ?_⟩))))
  · rintro j v s' x hx ⟨y3, rfl, rfl⟩
    rw [List.getElem?_map] at hx
    obtain ⟨d, hd', rfl⟩ := Option.map_eq_some_iff.mp hx
    have hj : j < ds.length := by simpa using (List.getElem?_eq_some_iff.mp hd').1
    rw [List.getElem?_reverse hj] at hd'
    have hi : ds.length - 1 - j < ds.length := by omega
    have ed : ds[ds.length - 1 - j] = d := by
      rw [List.getElem?_eq_getElem hi] at hd'
      exact Option.some.inj hd'
    have e1 : ds.drop (ds.length - (j + 1)) = d :: ds.drop (ds.length - j) := by
      rw [show ds.length - (j + 1) = ds.length - 1 - j by omega, List.drop_eq_getElem_cons hi, ed, show ds.length - 1 - j + 1 = ds.length - j by omega]
    have hb2 := num_bound h0 (ds.drop (ds.length - j)) fun x hx => hd x (List.mem_of_mem_drop hx)
    have hb3 := pow_bound h0 hb (ds.drop (ds.length - j)).length (by rw [List.length_drop]; omega)
    refine ⟨_, put_nm (by (repeat' (first | exact SetAt.zero | exact SetAll.nil | exact SetAllW.nil | apply SetAt.succ | apply SetAll.cons | apply SetAllW.cons))), wS_seq (wS_set (wE_bin (wE_bin (wE_var rfl (wE_var rfl (kBin_mul (sm9 (by omega)) (sm9 (by omega)) (wE_var rfl (kBin_add (kPut_nm (by (repeat' (first | exact SetAt.zero | exact SetAll.nil | exact SetAllW.nil | apply SetAt.succ | apply SetAll.cons | apply SetAllW.cons))) (qSeq_nx (wS_skip ?_)))))))))))⟩
    rw [e1]
    exact ⟨_, rfl, rfl⟩
  · rintro v s' ⟨y3, rfl, rfl⟩
    rw [List.length_map, List.length_reverse, Nat.sub_self, List.drop_zero]
    exact qSeq_nx (wS_seq (wS_ret (wE_var rfl (qSeq_ret (qRet_same k)))))
theorem wC_power {b : Int} {j : Nat} (h0 : 2 ≤ b) (hb : b ≤ 1000) (hj : j ≤ 3) (k : K (.d (.int (b ^ j))) s) : wC (cx P (n + 1)).fe 12 [.d (.int b), .d (.int j)] s K := by
  refine wC_run (f := 12) (fn := ⟨2, 4, b12⟩) rfl rfl rfl (wS_seq (wS_set (wE_cst (kPut_nm (by (repeat' (first | exact SetAt.zero | exact SetAll.nil | exact SetAllW.nil | apply SetAt.succ | apply SetAll.cons | apply SetAllW.cons))) (qSeq_nx (wS_seq ?_))))))
  refine wS_for (fun i v s' => ∃ y3, v = [some (.d (.int b)), some (.d (.int j)), some (.d (.int (b ^ i))), y3] ∧ s' = s) (wE_rng1 (n := j) (wE_var rfl ⟨rfl, rfl⟩) (by omega) (kWalk_list ⟨⟨none, by rw [Int.pow_zero]; rfl, rfl⟩, fun _ _ _ _ => rfl, ?_, ?_⟩))
  · rintro i v s' x hx ⟨y3, rfl, rfl⟩
    have hi : i < j := by simpa using (List.getElem?_eq_some_iff.mp hx).1
    have hp := pow_bound h0 hb i (by omega)
    refine ⟨_, put_nm (by (repeat' (first | exact SetAt.zero | exact SetAll.nil | exact SetAllW.nil | apply SetAt.succ | apply SetAll.cons | apply SetAllW.cons))), wS_seq (wS_set (wE_bin (wE_var rfl (wE_var rfl (kBin_mul (sm9 (by omega)) (sm9 (by omega)) (kPut_nm (by (repeat' (first | exact SetAt.zero | exact SetAll.nil | exact SetAllW.nil | apply SetAt.succ | apply SetAll.cons | apply SetAllW.cons))) (qSeq_nx (wS_skip ?_))))))))⟩
    rw [Int.pow_succ]
    exact ⟨_, rfl, rfl⟩
  · rintro v s' ⟨y3, rfl, rfl⟩
    rw [List.length_map, List.length_range]
    exact qSeq_nx (wS_seq (wS_ret (wE_var rfl (qSeq_ret (qRet_same k)))))
end
/-! # plain sums -/
theorem sm_cons (g : Part → Int) (p : Part) (ps : List Part) : sm g (p :: ps) = g p + sm g ps := by simp [sm]
theorem part_split (vc ve n0 n1 n2 B : Int) (p : Part) (h : p.ok) : dV (vf vc ve n0 n1 n2) B p = dW vc ve p + dF 0 p * n0 + dF 1 p * n1 + dF 2 p * n2 + dB vc ve p * B := by
  obtain ⟨bey, nm, f⟩ := p
  have hn := h.nm
  cases bey <;> cases nm <;> simp [dV, dW, dF, dB, vf, vl, Int.mul_assoc] at hn ⊢
theorem worth_split (vc ve n0 n1 n2 B : Int) : ∀ ps : List Part, (∀ p ∈ ps, p.ok) → sm (dV (vf vc ve n0 n1 n2) B) ps = sm (dW vc ve) ps + sm (dF 0) ps * n0 + sm (dF 1) ps * n1 + sm (dF 2) ps * n2 + sm (dB vc ve) ps * B
  | [], _ => by simp [sm]
  | p :: ps, h => by
    have h1 := part_split vc ve n0 n1 n2 B p (h p List.mem_cons_self)
    have h2 := worth_split vc ve n0 n1 n2 B ps fun x hx => h x (List.mem_cons_of_mem _ hx)
    simp only [sm_cons, h1, h2, Int.add_mul]
    omega
theorem num_snoc (b : Int) : ∀ (l : List Int) (d : Int), numV b (l ++ [d]) = numV b l + d * b ^ l.length
  | [], d => by simp [numV]
  | x :: l, d => by
    have h := num_snoc b l d
    have e1 : numV b (x :: l ++ [d]) = numV b (l ++ [d]) * b + x := rfl
    have e2 : numV b (x :: l) = numV b l * b + x := rfl
    rw [e1, e2, h, Int.add_mul, List.length_cons, Int.pow_succ, Int.mul_assoc]
    omega
theorem num_take {b : Int} {ds : List Int} {k : Nat} {d : Int} (h : ds[k]? = some d) : numV b (ds.take (k + 1)) = numV b (ds.take k) + d * b ^ k := by
  have hk := (List.getElem?_eq_some_iff.mp h).1
  rw [List.take_succ, h]
  show numV b (ds.take k ++ [d]) = _
  rw [num_snoc, List.length_take, Nat.min_eq_left (by omega)]
/-- how far the rests go -/
def topM (g f0 f1 f2 : Int) : Int := max (g.natAbs : Int) ((f0.natAbs : Int) + f1.natAbs + f2.natAbs + 1)
/-- the rest behind k places -/
structure Led (b g f0 f1 f2 : Int) (a0 a1 a2 : List Int) (k : Nat) (t fl : Int) : Prop where
  rem : ∃ r, 0 ≤ r ∧ r < b ^ k ∧ g + f0 * numV b (a0.take k) + f1 * numV b (a1.take k) + f2 * numV b (a2.take k) = t * b ^ k + r ∧ ((fl = 1 ∧ r = 0) ∨ (fl = 0 ∧ r ≠ 0))
  le : (t.natAbs : Int) ≤ topM g f0 f1 f2
theorem led_nil (b g f0 f1 f2 : Int) (a0 a1 a2 : List Int) : Led b g f0 f1 f2 a0 a1 a2 0 g 1 := by
  refine ⟨⟨0, Int.le_refl _, by rw [Int.pow_zero]; decide, ?_, .inl ⟨rfl, rfl⟩⟩, Int.le_max_left _ _⟩
  simp [numV]
theorem fd_le {b f d : Int} (h : 0 ≤ d ∧ d < b) : f * d ≤ (f.natAbs : Int) * (b - 1) ∧ -((f.natAbs : Int) * (b - 1)) ≤ f * d := by
  have h1 : (f.natAbs : Int) * d ≤ (f.natAbs : Int) * (b - 1) := Int.mul_le_mul_of_nonneg_left (by omega) (by omega)
  have h2 : f * d ≤ (f.natAbs : Int) * d := Int.mul_le_mul_of_nonneg_right (by omega) h.1
  have h3 : -(f.natAbs : Int) * d ≤ f * d := Int.mul_le_mul_of_nonneg_right (by omega) h.1
  rw [Int.neg_mul] at h3
  omega
theorem div_le {t M b : Int} (hb : 2 ≤ b) (h1 : t ≤ M * b) (h2 : -(M * b) ≤ t) : ((t / b).natAbs : Int) ≤ M := by
  have q1 : t / b ≤ M := by
    have := Int.ediv_le_ediv (c := b) (by omega) h1
    rwa [Int.mul_ediv_cancel _ (by omega)] at this
  have q2 : -M ≤ t / b := by
    rw [← Int.neg_mul] at h2
    have := Int.ediv_le_ediv (c := b) (by omega) h2
    rwa [Int.mul_ediv_cancel _ (by omega)] at this
  omega
theorem led_step {b g f0 f1 f2 t fl d0 d1 d2 : Int} {a0 a1 a2 : List Int} {k : Nat} (hb : 2 ≤ b) (h : Led b g f0 f1 f2 a0 a1 a2 k t fl) (h0 : a0[k]? = some d0) (h1 : a1[k]? = some d1) (h2 : a2[k]? = some d2) (b0 : 0 ≤ d0 ∧ d0 < b) (b1 : 0 ≤ d1 ∧ d1 < b) (b2 : 0 ≤ d2 ∧ d2 < b)
    (t' : Int) (et : t' = t + (f0 * d0 + f1 * d1 + f2 * d2)) : Led b g f0 f1 f2 a0 a1 a2 (k + 1) (t' / b) (if t' % b = 0 then fl else 0) := by
  obtain ⟨r, r1, r2, r3, r4⟩ := h.rem
  have hM := h.le
  have m0 : 0 ≤ t' % b := Int.emod_nonneg _ (by omega)
  have m1 : t' % b < b := Int.emod_lt_of_pos _ (by omega)
  have dm : b * (t' / b) + t' % b = t' := Int.mul_ediv_add_emod t' b
  have hp : (0 : Int) < b ^ k := by
    have : ∀ k : Nat, (0 : Int) < b ^ k := fun k => by
      induction k with
      | zero => rw [Int.pow_zero]; decide
      | succ k ih => rw [Int.pow_succ]; exact Int.mul_pos ih (by omega)
    exact this k
  generalize hpk : b ^ k = p at r2 r3 hp
  generalize hq : t' / b = q at dm ⊢
  generalize hm : t' % b = m at m0 m1 dm ⊢
  refine ⟨⟨m * p + r, ?_, ?_, ?_, ?_⟩, ?_⟩
  · have := Int.mul_nonneg m0 (by omega : 0 ≤ p)
    omega
  · rw [Int.pow_succ, hpk]
    have e1 : (m + 1) * p ≤ b * p := Int.mul_le_mul_of_nonneg_right (by omega) (by omega)
    rw [Int.add_mul, Int.one_mul, Int.mul_comm b p] at e1
    omega
  · rw [num_take h0, num_take h1, num_take h2, hpk, Int.pow_succ, hpk]
    simp only [Int.mul_add, ← Int.mul_assoc]
    have e1 : t' * p = q * p * b + m * p := by
      rw [← dm, Int.add_mul, Int.mul_comm b q, Int.mul_assoc, Int.mul_comm b p, Int.mul_assoc]
    rw [et, Int.add_mul, Int.add_mul, Int.add_mul] at e1
    omega
  · by_cases z : m = 0
    · rw [if_pos z, z, Int.zero_mul, Int.zero_add]
      exact r4
    · rw [if_neg z]
      have := Int.mul_pos (by omega : 0 < m) hp
      exact .inr ⟨rfl, by omega⟩
  · rw [← hq]
    have k0 := fd_le (f := f0) b0
    have k1 := fd_le (f := f1) b1
    have k2 := fd_le (f := f2) b2
    have hS : (f0.natAbs : Int) + f1.natAbs + f2.natAbs + 1 ≤ topM g f0 f1 f2 := Int.le_max_right _ _
    generalize topM g f0 f1 f2 = M at hM hS ⊢
    have e2 : ((f0.natAbs : Int) + f1.natAbs + f2.natAbs) * (b - 1) ≤ (M - 1) * (b - 1) := Int.mul_le_mul_of_nonneg_right (by omega) (by omega)
    rw [Int.add_mul, Int.add_mul] at e2
    have e3 : (M - 1) * (b - 1) = M * b - M - b + 1 := by rw [Int.sub_mul, Int.mul_sub, Int.mul_sub]; omega
    exact div_le hb (by omega) (by omega)
theorem so_holds {b g f0 f1 f2 gb t fl x y : Int} {a0 a1 a2 : List Int} {k : Nat} {word : Str} (hb : 2 ≤ b) (hw : word = "below" ∨ word = "same") (h : Led b g f0 f1 f2 a0 a1 a2 k t fl) (l0 : a0.length = k) (l1 : a1.length = k) (l2 : a2.length = k)
    (e : y - x = g + f0 * numV b a0 + f1 * numV b a1 + f2 * numV b a2 + gb * b ^ k) : soAt word (t + gb) fl = holdsAt word x y := by
  obtain ⟨r, r1, r2, r3, r4⟩ := h.rem
  rw [List.take_of_length_le (by omega), List.take_of_length_le (by omega), List.take_of_length_le (by omega)] at r3
  generalize b ^ k = p at r2 r3 e
  have e2 : y - x = (t + gb) * p + r := by rw [Int.add_mul]; omega
  generalize t + gb = top at e2
  have big : 0 < top → p ≤ top * p := fun z => by
    have := Int.mul_le_mul_of_nonneg_right (a := 1) (b := top) (c := p) (by omega) (by omega)
    omega
  have low : top < 0 → top * p ≤ -p := fun z => by
    have := Int.mul_le_mul_of_nonneg_right (a := top) (b := -1) (c := p) (by omega) (by omega)
    omega
  have zer : top = 0 → top * p = 0 := fun z => by rw [z, Int.zero_mul]
  rcases hw with rfl | rfl
  · show (decide (0 < top) || (decide (top = 0) && decide (fl = 0))) = decide (x < y)
    rcases Int.lt_trichotomy top 0 with z | z | z
    · have := low z
      rw [decide_eq_false (by omega : ¬ 0 < top), decide_eq_false (by omega : ¬ top = 0), decide_eq_false (by omega : ¬ x < y)]
      rfl
    · have := zer z
      rw [decide_eq_false (by omega : ¬ 0 < top), decide_eq_true z, Bool.false_or, Bool.true_and]
      by_cases zf : fl = 0
      · rw [decide_eq_true zf, decide_eq_true (by omega : x < y)]
      · rw [decide_eq_false zf, decide_eq_false (by omega : ¬ x < y)]
    · have := big z
      rw [decide_eq_true z, decide_eq_true (by omega : x < y)]
      rfl
  · show (decide (top = 0) && decide (fl = 1)) = decide (x = y)
    rcases Int.lt_trichotomy top 0 with z | z | z
    · have := low z
      rw [decide_eq_false (by omega : ¬ top = 0), decide_eq_false (by omega : ¬ x = y)]
      rfl
    · have := zer z
      rw [decide_eq_true z, Bool.true_and]
      by_cases zf : fl = 1
      · rw [decide_eq_true zf, decide_eq_true (by omega : x = y)]
      · rw [decide_eq_false zf, decide_eq_false (by omega : ¬ x = y)]
    · have := big z
      rw [decide_eq_false (by omega : ¬ top = 0), decide_eq_false (by omega : ¬ x = y)]
      rfl
/-! # what is drawn -/
abbrev Ky := Bool × Nm
def kyD (k : Ky) : PD := .tuple [.str (wordS k.1), .str (nmS k.2)]
def kok (k : Ky) : Prop := (k.1 = true ∧ (k.2 = .c ∨ k.2 = .e ∨ k.2 = .u)) ∨ (k.1 = false ∧ k.2 ≠ .u)
theorem same_nm (a b : Nm) : sameD (.str (nmS a)) (.str (nmS b)) = decide (a = b) := by cases a <;> cases b <;> rfl
theorem same_wd (a b : Bool) : sameD (.str (wordS a)) (.str (wordS b)) = decide (a = b) := by cases a <;> cases b <;> rfl
theorem enc_ky : Enc kyD := fun a b => by
  show (sameD (.str (wordS a.1)) (.str (wordS b.1)) && (sameD (.str (nmS a.2)) (.str (nmS b.2)) && true)) = _
  rw [same_nm, same_wd, Bool.and_true]
  obtain ⟨a1, a2⟩ := a
  obtain ⟨b1, b2⟩ := b
  by_cases h1 : a1 = b1 <;> by_cases h2 : a2 = b2 <;> simp [h1, h2]
theorem okKey_ky (k : Ky) : okKey true (kyD k) = true := by
  obtain ⟨a, b⟩ := k
  cases a <;> cases b <;> rfl
def encK (L : List (Ky × Int)) : List (PD × PD) := L.map fun p => (kyD p.1, .int p.2)
structure Okl (j : Nat) (L : List (Ky × Int)) : Prop where
  len : L.length ≤ j
  ok : ∀ p ∈ L, kok p.1 ∧ p.2.natAbs ≤ 9 * j
theorem Okl.put {j : Nat} {L : List (Ky × Int)} (h : Okl j L) {k : Ky} {f : Int} (hk : kok k) (hf : f.natAbs ≤ 9) : Okl (j + 1) (putK L k ((lookT L k).getD 0 + f)) := by
  refine ⟨Nat.le_trans (putK_len L k _) (by have := h.len; omega), fun p hp => ?_⟩
  rcases mem_put.mp hp with rfl | ⟨hp, _⟩
  · refine ⟨hk, ?_⟩
    cases e : lookT L k with
    | none => show (0 + f).natAbs ≤ _; omega
    | some v =>
      have := (h.ok _ (look_mem e)).2
      show (v + f).natAbs ≤ _
      have h2 : v.natAbs ≤ 9 * j := this
      omega
  · have := h.ok p hp
    exact ⟨this.1, by omega⟩
section
variable {n : Nat} {s : Sto} {K : W → Sto → Prop} {w : Int}
theorem one_d {kvs : List (PD × PD)} : dictAt (s ++ [.dct true false kvs]) (.ref s.length) = some (true, kvs) := by
  show (match (s ++ [Ob.dct true false kvs])[s.length]? with | some (.dct m _ kvs) => some (m, kvs) | _ => none) = _
  rw [List.getElem?_append_right (Nat.le_refl _), Nat.sub_self]
  rfl
theorem look_ky (L : List (Ky × Int)) (k : Ky) : lookD (encK L) (kyD k) = (lookT L k).map .int := look_enc enc_ky k L
theorem get_ky {L : List (Ky × Int)} {k : Ky} : getR (s ++ [.dct true false (encK L)]) (.ref s.length) (.d (kyD k)) (.d (.int 0)) = some (.d (.int ((lookT L k).getD 0))) := by
  unfold getR
  rw [one_d]
  show (if okKey true (kyD k) = true then (match lookD (encK L) (kyD k), W.d (.int 0) with | some v, _ => some (W.d v) | none, .d v => some (.d v) | _, _ => none) else none) = _
  rw [if_pos (okKey_ky k), look_ky]
  cases lookT L k <;> rfl
theorem ne_int (a : Int) : cmp2 .ne (.int a) (.int 0) = some (!decide (a = 0)) := by
  show (eqD (.int a) (.int 0)).map (!·) = _
  show some (!(a == 0)) = _
  rw [show (a == (0 : Int)) = decide (a = 0) from rfl]
theorem wC_sum {l : List Part} (hl : l.length ≤ 8) (hp : ∀ p ∈ l, kok (p.bey, p.nm) ∧ p.f.natAbs ≤ 9) (k : ∀ ps : List Part, (∀ p ∈ ps, p.ok) → ps.length ≤ 8 → K (.d (sideD w ps)) s) : wC (cx P (n + 1)).fe 13 [.d (.int w), .d (.list (l.map partD))] s K := by
  refine wC_run (f := 13) (fn := ⟨2, 7, b13⟩) rfl rfl rfl (wS_seq (wS_set (wE_newd (kPut_nm (by (repeat' (first | exact SetAt.zero | exact SetAll.nil | exact SetAllW.nil | apply SetAt.succ | apply SetAll.cons | apply SetAllW.cons))) (qSeq_nx (wS_seq ?_))))))
  refine wS_for (fun j v s' => ∃ L y3 y4 y5 y6, v = [some (.d (.int w)), some (.d (.list (l.map partD))), some (.ref s.length), y3, y4, y5, y6] ∧ s' = s ++ [.dct true false (encK L)] ∧ Okl j L) (wE_var rfl (kWalk_list ⟨⟨[], _, _, _, _, rfl, rfl, Nat.le_refl _, fun p hp => nomatch hp⟩, fun _ _ _ _ => rfl, ?_, ?_⟩))
  · rintro j v s' x hx ⟨L, y3, y4, y5, y6, rfl, rfl, ok⟩
    have hj : j < l.length := by simpa using (List.getElem?_eq_some_iff.mp hx).1
    rw [List.getElem?_map] at hx
    obtain ⟨p, hp', rfl⟩ := Option.map_eq_some_iff.mp hx
    have okp := hp p (List.mem_of_getElem? hp')
    have ol := ok.len
    refine ⟨_, put_tp (xs := [.str (wordS p.bey), .str (nmS p.nm), .int p.f]) (by (repeat' (first | exact SetAt.zero | exact SetAll.nil | exact SetAllW.nil | apply SetAt.succ | apply SetAll.cons | apply SetAllW.cons))), wS_seq (wS_dput (wE_bin (wE_dget (wE_var rfl ⟨by rw [one_d]; rfl, wE_tup (wL_cons (wE_var rfl (wL_cons (wE_var rfl (wL_nil (kMk_of (.cons (.cons .nil)) rfl (wE_cst ⟨_, get_ky (k := (p.bey, p.nm)), wE_var rfl (kBin_add ?_)⟩)))))))⟩))))⟩
    refine wE_var rfl (wE_tup (wL_cons (wE_var rfl (wL_cons (wE_var rfl (wL_nil (kMk_of (.cons (.cons .nil)) rfl ⟨s.length, true, encK L, kyD (p.bey, p.nm), _, rfl, rfl, rfl, ?_, okKey_ky _, ?_, qSeq_nx (wS_skip ?_)⟩)))))))
    · rw [List.getElem?_append_right (Nat.le_refl _), Nat.sub_self]
      rfl
    · unfold encK
      rw [List.length_map]
      omega
    · refine ⟨putK L (p.bey, p.nm) ((lookT L (p.bey, p.nm)).getD 0 + p.f), _, _, _, _, rfl, ?_, ok.put okp.1 okp.2⟩
      rw [List.set_append_right _ _ (Nat.le_refl _), Nat.sub_self]
      show s ++ [Ob.dct true false (putD (encK L) (kyD (p.bey, p.nm)) (.int ((lookT L (p.bey, p.nm)).getD 0 + p.f)))] = _
      unfold encK
      rw [put_enc enc_ky]
  · rintro v s' ⟨L, y3, y4, y5, y6, rfl, rfl, ok⟩
    rw [List.length_map] at ok
    have ol := ok.len
    refine qSeq_nx (wS_seq (wS_ret (wE_tup (wL_cons (wE_var rfl (wL_cons (wE_bi (wL_cons ?_))))))))
    have hs : sortD ((L.map (·.1)).map kyD) = some ((srtT kyD (L.map (·.1))).map kyD) := sort_ok (by rw [List.length_map]; omega) (fun a _ b _ => by
        show PySem.W.alike (kyD a) (kyD b) = true
        unfold kyD
        simp [PySem.W.alike, PySem.W.alikeAll]) (fun a _ => ⟨_, _, rfl⟩) (fun a _ => by
        unfold kyD
        simp [PyData.depth, PyData.depthAll])
    refine wE_filt (srtT kyD (L.map (·.1))) kyD (fun k => !decide ((lookT L k).getD 0 = 0)) (fun k => partD ⟨k.1, k.2, (lookT L k).getD 0⟩) (by rw [len_srt, List.length_map]; omega) ?_ (fun k hk => ?_) ?_
    · refine wE_srt (wE_var rfl ⟨_, ?_, kWalk_list ⟨rfl, rfl, rfl⟩⟩)
      have e : srcD (s ++ [.dct true false (encK L)]) (.ref s.length) = some ((L.map (·.1)).map kyD) := by
        unfold srcD
        rw [one_d]
        show some ((encK L).map (·.1)) = _
        unfold encK
        rw [List.map_map, List.map_map]
        rfl
      rw [e]
      exact hs
    · have hm := mem_srt.mp hk
      obtain ⟨q, hq, rfl⟩ := List.mem_map.mp hm
      obtain ⟨v, hv⟩ : ∃ v, lookT L q.1 = some v := by
        cases e : lookT L q.1 with
        | none => exact absurd rfl (look_none e q hq)
        | some v => exact ⟨v, rfl⟩
      have hlk : lookD (encK L) (kyD q.1) = some (.int v) := by rw [look_ky, hv]; rfl
      refine ⟨_, put_nm (by (repeat' (first | exact SetAt.zero | exact SetAll.nil | exact SetAllW.nil | apply SetAt.succ | apply SetAll.cons | apply SetAllW.cons))), ?_, fun _ => ?_⟩
      · rw [hv]
        exact wE_cmp (wE_ixD (wE_var rfl (wE_var rfl ⟨_, _, _, _, rfl, one_d, okKey_ky _, hlk, wE_cst (kCmp_of (ne_int v) ⟨rfl, rfl⟩)⟩)))
      · rw [hv]
        refine wE_bin (wE_var rfl (wE_tup (wL_cons (wE_ixD (wE_var rfl (wE_var rfl ⟨_, _, _, _, rfl, one_d, okKey_ky _, hlk, wL_nil (kMk_of (.cons .nil) rfl (kBin_addT (xs := [.str (wordS q.1.1), .str (nmS q.1.2)]) (ys := [.int v]) (by show 3 ≤ 1000000; decide) ⟨rfl, rfl⟩))⟩))))))
    · refine wL_nil (kBi_of (.d .nil) (z := .tuple ((((srtT kyD (L.map (·.1))).filter fun k => !decide ((lookT L k).getD 0 = 0)).map fun k => (⟨k.1, k.2, (lookT L k).getD 0⟩ : Part)).map partD)) (by rw [List.map_map]; rfl) (wL_nil (kMk_of (.cons (.cons .nil)) rfl (qSeq_ret (qRet_app (k _ (fun p hp => ?_) ?_))))))
      rotate_left
      · rw [List.length_map]
        refine Nat.le_trans (List.length_filter_le _ _) ?_
        rw [len_srt, List.length_map]
        omega
      obtain ⟨q, hq, rfl⟩ := List.mem_map.mp hp
      have hm := mem_srt.mp (List.mem_filter.mp hq).1
      obtain ⟨u, hu, rfl⟩ := List.mem_map.mp hm
      refine ⟨(ok.ok u hu).1, ?_⟩
      show ((lookT L u.1).getD 0).natAbs ≤ 1000
      cases e : lookT L u.1 with
      | none => decide
      | some v =>
        have h2 : v.natAbs ≤ 9 * l.length := (ok.ok _ (look_mem e)).2
        show v.natAbs ≤ 1000
        omega
end
theorem hBag : P.fns[5]? = some ⟨1, 2, bagB⟩ := rfl
theorem hT : P.fns[6]? = some ⟨2, 7, takeB⟩ := rfl
theorem hS : P.fns[7]? = some ⟨2, 2, someB 6⟩ := rfl
theorem hAl : P.fns[8]? = some ⟨2, 2, alikeB⟩ := rfl
section
variable {F : Fe} {a : E} {v : En} {s : Sto} {K : W → Sto → Prop}
theorem wE_rngC {n : Nat} (hn : n ≤ 1000000) (h : wE F a v s fun x s1 => x = .d (.int n) ∧ K (.d (.list ((List.range n).map fun (i : Nat) => .int (i : Int)))) s1) : wE F (.rng (.cons a .nil)) v s K := by
  obtain ⟨w, s1, e1, rfl, k⟩ := h.out
  have e := ev_cons e1 (ev_nil (s := s1))
  refine ⟨_, _, ?_, k⟩
  rw [evE, e, rngR, Rs.bind_ok]
  have e3 : datas s1 [.d (.int n)] = some [.int n] := rfl
  have e4 : rangeD 0 n = some ((List.range n).map fun (i : Nat) => .int (i : Int)) := by
    have c : -(2 ^ 62) ≤ (0 : Int) ∧ (0 : Int) < 2 ^ 62 ∧ -(2 ^ 62) ≤ (n : Int) ∧ (n : Int) < 2 ^ 62 := by omega
    unfold rangeD
    rw [if_pos c, Int.sub_zero, Int.toNat_natCast]
    simp only [Int.zero_add]
  rw [e3, Option.bind_some]
  simp only [e4, Option.map_some]
  rfl
end
/-- a part as it is first drawn: any name with any word -/
abbrev Raw := {p : Part // p.nm ≠ .u ∧ p.f.natAbs ≤ 9}
abbrev Fin9 := {p : Part // kok (p.bey, p.nm) ∧ p.f.natAbs ≤ 9}
section
variable {n t : Nat} {l : List PD} {r : Sto} {K : W → Sto → Prop}
theorem wC_side14 (hb : Bag t l) (ht : t < 1000000) (k : ∀ w ps l', w.natAbs ≤ 1000 → (∀ p ∈ ps, Part.ok p) → ps.length ≤ 8 → Bag (t + 30) l' → K (.d (sideD w ps)) (.lst l' :: r)) : wC (cx P (n + 4)).fe 14 [.ref 0] (.lst l :: r) K := by
  refine wC_run (n := n + 3) (f := 14) (fn := ⟨1, 6, b14⟩) rfl rfl rfl (wS_seq (wS_set ?_))
  obtain ⟨m, l1, m0, m1, hb1, et⟩ := take_ok (k := n + 2) (rest := r) (many := 5) hT hb (by omega) (by decide) (sm9 (by decide))
  obtain ⟨mm, rfl⟩ : ∃ mm : Nat, m = mm := ⟨m.toNat, by omega⟩
  refine wE_comp (α := Raw) (fun j s => ∃ l, s = .lst l :: r ∧ Bag (t + 1 + 3 * j) l) (fun p => partD p.1) (n := mm) (by omega) ?_ ?_
  · refine wE_rngC (n := mm) (by omega) (wE_call (wL_cons (wE_var rfl (wL_cons (wE_cst (wL_nil (.of et ⟨rfl, kWalk_list ⟨by simp, ⟨l1, rfl, hb1⟩, fun _ _ _ => rfl, ?_⟩⟩)))))))
    rintro j s x hx ⟨l, rfl, hbl⟩
    have hj : j < mm := by simpa using (List.getElem?_eq_some_iff.mp hx).1
    refine ⟨_, put_nm (by (repeat' (first | exact SetAt.zero | exact SetAll.nil | exact SetAllW.nil | apply SetAt.succ | apply SetAll.cons | apply SetAllW.cons))), wE_tup (wL_cons (wE_call (wL_cons (wE_var rfl (wL_cons (wE_lst (wL_cons (wE_cst (wL_cons (wE_cst (wL_cons (wE_cst (wL_nil (kMk_of (.cons (.cons (.cons .nil))) rfl (wL_nil ?_)))))))))))))))⟩
    refine wC_some (n := n + 1) hS hT hbl (by omega) (by simp) (by simp) fun y l2 hy hb2 => ?_
    obtain ⟨bey, rfl⟩ : ∃ b, y = .str (wordS b) := by
      simp only [List.mem_cons, List.not_mem_nil, or_false] at hy
      rcases hy with rfl | rfl | rfl
      · exact ⟨false, rfl⟩
      · exact ⟨false, rfl⟩
      · exact ⟨true, rfl⟩
    refine wL_cons (wE_call (wL_cons (wE_var rfl (wL_cons (wE_lst (wL_cons (wE_cst (wL_cons (wE_cst (wL_cons (wE_cst (wL_cons (wE_cst (wL_cons (wE_cst (wL_nil (kMk_of (.cons (.cons (.cons (.cons (.cons .nil))))) rfl (wL_nil ?_))))))))))))))))))
    refine wC_some (n := n + 1) hS hT hb2 (by omega) (by simp) (by simp) fun y l3 hy hb3 => ?_
    obtain ⟨nm, rfl, hnm⟩ : ∃ nm, y = .str (nmS nm) ∧ nm ≠ .u := by
      simp only [List.mem_cons, List.not_mem_nil, or_false] at hy
      rcases hy with rfl | rfl | rfl | rfl | rfl
      · exact ⟨.a, rfl, by decide⟩
      · exact ⟨.b, rfl, by decide⟩
      · exact ⟨.s, rfl, by decide⟩
      · exact ⟨.c, rfl, by decide⟩
      · exact ⟨.e, rfl, by decide⟩
    refine wL_cons (wE_call (wL_cons (wE_var rfl (wL_cons (wE_lst (wL_cons (wE_cst (wL_cons (wE_cst (wL_cons (wE_neg (wE_cst (kUn_of rfl (wL_cons (wE_cst (wL_cons (wE_neg (wE_cst (kUn_of rfl (wL_cons (wE_cst (wL_nil (kMk_of (.cons (.cons (.cons (.cons (.cons (.cons .nil)))))) rfl (wL_nil ?_))))))))))))))))))))))))
    refine wC_some (n := n + 1) hS hT hb3 (by omega) (by simp) (by simp) fun y l4 hy hb4 => ?_
    obtain ⟨f, rfl, hf⟩ : ∃ f : Int, y = .int f ∧ f.natAbs ≤ 9 := by
      simp only [List.mem_cons, List.not_mem_nil, or_false] at hy
      rcases hy with rfl | rfl | rfl | rfl | rfl | rfl <;> exact ⟨_, rfl, by decide⟩
    exact wL_nil (kMk_of (.cons (.cons (.cons .nil))) rfl ⟨⟨⟨bey, nm, f⟩, hnm, hf⟩, rfl, l4, rfl, hb4.mono (by omega)⟩)
  rintro ys s' hys ⟨l2, rfl, hb2⟩
  refine kPut_nm (by (repeat' (first | exact SetAt.zero | exact SetAll.nil | exact SetAllW.nil | apply SetAt.succ | apply SetAll.cons | apply SetAllW.cons))) (qSeq_nx (wS_seq (wS_set ?_)))
  refine wE_comp (α := Fin9) (fun j s => ∃ l, s = .lst l :: r ∧ Bag (t + 1 + 3 * mm + j) l) (fun p => partD p.1) (n := mm) (by omega) ?_ ?_
  · refine wE_var rfl (kWalk_list ⟨by rw [List.length_map]; exact hys, ⟨l2, rfl, hb2⟩, fun _ _ _ => rfl, ?_⟩)
    rintro j s x hx ⟨l, rfl, hbl⟩
    rw [List.getElem?_map] at hx
    obtain ⟨⟨⟨bey, nm, f⟩, hnm, hf⟩, hp', rfl⟩ := Option.map_eq_some_iff.mp hx
    have hj : j < mm := by rw [← hys]; exact (List.getElem?_eq_some_iff.mp hp').1
    refine ⟨_, put_tp (xs := [.str (wordS bey), .str (nmS nm), .int f]) (by (repeat' (first | exact SetAt.zero | exact SetAll.nil | exact SetAllW.nil | apply SetAt.succ | apply SetAll.cons | apply SetAllW.cons))), wE_tup (wL_cons (wE_var rfl (wL_cons ?_)))⟩
    cases bey with
    | false =>
      refine wE_ife (wE_cmp (wE_var rfl (wE_cst (kCmp_of (k := true) rfl (kIf_T (wE_var rfl (wL_cons (wE_var rfl (wL_nil (kMk_of (.cons (.cons (.cons .nil))) rfl ?_))))))))))
      exact ⟨⟨⟨false, nm, f⟩, .inr ⟨rfl, hnm⟩, hf⟩, rfl, l, rfl, hbl.mono (by omega)⟩
    | true =>
      refine wE_ife (wE_cmp (wE_var rfl (wE_cst (kCmp_of (k := false) rfl (kIf_F (wE_call (wL_cons (wE_var rfl (wL_cons (wE_lst (wL_cons (wE_cst (wL_cons (wE_cst (wL_cons (wE_cst (wL_nil (kMk_of (.cons (.cons (.cons .nil))) rfl (wL_nil ?_)))))))))))))))))))
      refine wC_some (n := n + 1) hS hT hbl (by omega) (by simp) (by simp) fun y l3 hy hb3 => ?_
      obtain ⟨nm', rfl, hnm'⟩ : ∃ nm, y = .str (nmS nm) ∧ (nm = .c ∨ nm = .e ∨ nm = .u) := by
        simp only [List.mem_cons, List.not_mem_nil, or_false] at hy
        rcases hy with rfl | rfl | rfl
        · exact ⟨.c, rfl, .inl rfl⟩
        · exact ⟨.u, rfl, .inr (.inr rfl)⟩
        · exact ⟨.e, rfl, .inr (.inl rfl)⟩
      exact wL_cons (wE_var rfl (wL_nil (kMk_of (.cons (.cons (.cons .nil))) rfl ⟨⟨⟨true, nm', f⟩, .inl ⟨rfl, hnm'⟩, hf⟩, rfl, l3, rfl, hb3.mono (by omega)⟩)))
  rintro zs s' hzs ⟨l3, rfl, hb3⟩
  refine kPut_nm (by (repeat' (first | exact SetAt.zero | exact SetAll.nil | exact SetAllW.nil | apply SetAt.succ | apply SetAll.cons | apply SetAllW.cons))) (qSeq_nx (wS_seq (wS_ret (wE_call (wL_cons (wE_call (wL_cons (wE_var rfl (wL_cons (wE_lst (wL_cons (wE_cst (wL_cons (wE_cst (wL_cons (wE_cst (wL_cons (wE_neg (wE_cst (kUn_of rfl (wL_cons (wE_cst (wL_cons (wE_neg (wE_cst (kUn_of rfl (wL_nil (kMk_of (.cons (.cons (.cons (.cons (.cons (.cons .nil)))))) rfl (wL_nil ?_)))))))))))))))))))))))))))))
  refine wC_some (n := n + 1) hS hT hb3 (by omega) (by simp) (by simp) fun y l4 hy hb4 => ?_
  obtain ⟨w, rfl, hw⟩ : ∃ f : Int, y = .int f ∧ f.natAbs ≤ 1000 := by
    simp only [List.mem_cons, List.not_mem_nil, or_false] at hy
    rcases hy with rfl | rfl | rfl | rfl | rfl | rfl <;> exact ⟨_, rfl, by decide⟩
  have ez : zs.map (fun p => partD p.1) = (zs.map (·.1)).map partD := by rw [List.map_map]; rfl
  rw [ez]
  refine wL_cons (wE_var rfl (wL_nil (wC_sum (n := n + 2) (by rw [List.length_map]; omega) (fun p hp => ?_) fun ps hps hpl => qSeq_ret (qRet_bag (k w ps l4 hw hps hpl (hb4.mono (by omega)))))))
  obtain ⟨q, _, rfl⟩ := List.mem_map.mp hp
  exact q.2
end
/-! # bounds -/
theorem sm_bound {g : Part → Int} {M : Nat} : ∀ ps : List Part, (∀ p ∈ ps, (g p).natAbs ≤ M) → (sm g ps).natAbs ≤ M * ps.length
  | [], _ => by simp [sm]
  | p :: ps, h => by
    have h1 := h p List.mem_cons_self
    have h2 := sm_bound ps fun x hx => h x (List.mem_cons_of_mem _ hx)
    rw [sm_cons, List.length_cons, Nat.mul_add, Nat.mul_one]
    omega
theorem mul_nat {f v : Int} (hf : f.natAbs ≤ 1000) (hv : v.natAbs ≤ 100) : (f * v).natAbs ≤ 100000 := by
  rw [Int.natAbs_mul]
  have := Nat.mul_le_mul hf hv
  omega
theorem dF_bound {k : Nat} {p : Part} (h : p.ok) : (dF k p).natAbs ≤ 1000 := by
  have := h.f
  unfold dF
  split <;> first | exact this | decide
theorem dW_bound {vc ve : Int} {p : Part} (hv : vc.natAbs ≤ 100 ∧ ve.natAbs ≤ 100) (h : p.ok) : (dW vc ve p).natAbs ≤ 100000 := by
  have := h.f
  unfold dW
  split
  · exact mul_nat this hv.1
  · exact mul_nat this hv.2
  · decide
theorem dB_bound {vc ve : Int} {p : Part} (hv : vc.natAbs ≤ 100 ∧ ve.natAbs ≤ 100) (h : p.ok) : (dB vc ve p).natAbs ≤ 100000 := by
  have := h.f
  unfold dB
  split
  · refine mul_nat this ?_
    cases p.nm <;> simp only [vl] <;> omega
  · decide
section
variable {vc ve wl wr : Int} {l r : List Part}
theorem gap_bounds (hv : vc.natAbs ≤ 100 ∧ ve.natAbs ≤ 100) (hl : ∀ p ∈ l, p.ok) (hr : ∀ p ∈ r, p.ok) (ll : l.length ≤ 8) (lr : r.length ≤ 8) (h1 : wl.natAbs ≤ 1000) (h2 : wr.natAbs ≤ 1000) :
    (gapW vc ve wl wr l r).natAbs ≤ 10000000 ∧ (∀ k, (gapF k l r).natAbs ≤ 100000) ∧ (gapB vc ve l r).natAbs ≤ 10000000 := by
  refine ⟨?_, fun k => ?_, ?_⟩
  · have a : (sm (dW vc ve) l).natAbs ≤ 800000 := Nat.le_trans (sm_bound l fun p hp => dW_bound hv (hl p hp)) (by omega)
    have b : (sm (dW vc ve) r).natAbs ≤ 800000 := Nat.le_trans (sm_bound r fun p hp => dW_bound hv (hr p hp)) (by omega)
    unfold gapW
    omega
  · have a : (sm (dF k) l).natAbs ≤ 8000 := Nat.le_trans (sm_bound l fun p hp => dF_bound (k := k) (hl p hp)) (by omega)
    have b : (sm (dF k) r).natAbs ≤ 8000 := Nat.le_trans (sm_bound r fun p hp => dF_bound (k := k) (hr p hp)) (by omega)
    unfold gapF
    omega
  · have a : (sm (dB vc ve) l).natAbs ≤ 800000 := Nat.le_trans (sm_bound l fun p hp => dB_bound hv (hl p hp)) (by omega)
    have b : (sm (dB vc ve) r).natAbs ≤ 800000 := Nat.le_trans (sm_bound r fun p hp => dB_bound hv (hr p hp)) (by omega)
    unfold gapB
    omega
theorem worth_diff (n0 n1 n2 B : Int) (hl : ∀ p ∈ l, p.ok) (hr : ∀ p ∈ r, p.ok) : (wr + sm (dV (vf vc ve n0 n1 n2) B) r) - (wl + sm (dV (vf vc ve n0 n1 n2) B) l) = gapW vc ve wl wr l r + gapF 0 l r * n0 + gapF 1 l r * n1 + gapF 2 l r * n2 + gapB vc ve l r * B := by
  rw [worth_split vc ve n0 n1 n2 B l hl, worth_split vc ve n0 n1 n2 B r hr]
  unfold gapW gapF gapB
  simp only [Int.sub_mul]
  omega
end
def ab (i : Int) : Int := if i < 0 then -i else i
theorem top_ok {q g f0 f1 f2 : Int} (h : (q.natAbs : Int) ≤ topM g f0 f1 f2) : ¬ ((if [ab f0, ab f1, ab f2].sum + 1 > ab g then [ab f0, ab f1, ab f2].sum + 1 else ab g) < ab q) := by
  unfold topM at h
  simp only [ab, List.sum_cons, List.sum_nil]
  omega
theorem gd_word {word : Str} (hw : word = "below" ∨ word = "same") : Gd 0 100 (.str word) := by
  rcases hw with rfl | rfl <;> exact ⟨by decide +kernel, by decide +kernel, by decide +kernel, by decide +kernel⟩
theorem gd_int {i : Int} (h : i.natAbs ≤ 10000000) : Gd 0 100 (.int i) := (Gd.int (Nat.lt_of_le_of_lt h (by decide +kernel))).mono (Nat.le_refl _) (by decide)
theorem gd_gap {word : Str} {g f0 f1 f2 gb : Int} (hw : word = "below" ∨ word = "same") (h : g.natAbs ≤ 10000000) (h0 : f0.natAbs ≤ 100000) (h1 : f1.natAbs ≤ 100000) (h2 : f2.natAbs ≤ 100000) (h3 : gb.natAbs ≤ 10000000) :
    Gd 3 8000 (.list [.tuple [.str word, .int g, .tuple [.int f0, .int f1, .int f2], .int gb], .tuple [.int g, .int 1]]) := by
  refine (Gd.list (d := 2) (b := 2000) fun x hx => ?_).mono (by decide) (by simp only [List.length_cons, List.length_nil]; decide)
  simp only [List.mem_cons, List.not_mem_nil, or_false] at hx
  rcases hx with rfl | rfl
  · refine (Gd.tuple (d := 1) (b := 400) fun x hx => ?_).mono (by decide) (by simp only [List.length_cons, List.length_nil]; decide)
    simp only [List.mem_cons, List.not_mem_nil, or_false] at hx
    rcases hx with rfl | rfl | rfl | rfl
    · exact (gd_word hw).mono (by decide) (by decide)
    · exact (gd_int h).mono (by decide) (by decide)
    · refine (Gd.tuple (d := 0) (b := 100) fun x hx => ?_).mono (by decide) (by simp only [List.length_cons, List.length_nil]; decide)
      simp only [List.mem_cons, List.not_mem_nil, or_false] at hx
      rcases hx with rfl | rfl | rfl <;> exact gd_int (by omega)
    · exact (gd_int h3).mono (by decide) (by decide)
  · refine (Gd.tuple (d := 1) (b := 400) fun x hx => ?_).mono (by decide) (by simp only [List.length_cons, List.length_nil]; decide)
    simp only [List.mem_cons, List.not_mem_nil, or_false] at hx
    rcases hx with rfl | rfl <;> exact (gd_int (by omega)).mono (by decide) (by decide)
theorem ix_ints {ds : List Int} {k : Nat} (h : k < ds.length) : ixD (.tuple (ds.map .int)) (.int k) = some (.int (ds.getD k 0)) := by
  show L2.atI (ds.map PyData.int) (k : Int) = _
  unfold L2.atI L2.ixN
  rw [if_pos (by omega), List.length_map, if_pos (by omega), Option.bind_some, Int.toNat_natCast, List.getElem?_map, List.getElem?_eq_getElem h]
  simp [List.getD, h]
/-! # a turn, a lap -/
def lapB : S := match b16 with
  | .seq _ (.seq _ (.seq (.for _ _ b) _)) => b
  | _ => .skip
def turnB : S := match lapB with
  | .seq _ (.seq _ (.seq _ (.seq _ (.seq (.for _ _ b) _)))) => b
  | _ => .skip
abbrev Dig (b : Int) := {d : Int // 0 ≤ d ∧ d < b}
abbrev Digs (b : Int) (mm : Nat) := {ds : List Int // ds.length = mm ∧ ∀ d ∈ ds, 0 ≤ d ∧ d < b}
def digsD (ds : List Int) : PD := .tuple (ds.map .int)
/-- what a lap has drawn -/
structure Drawn (word : Str) (vc ve wl wr : Int) (l r : List Part) : Prop where
  hw : word = "below" ∨ word = "same"
  hv : vc.natAbs ≤ 100 ∧ ve.natAbs ≤ 100
  hl : ∀ p ∈ l, p.ok
  hr : ∀ p ∈ r, p.ok
  ll : l.length ≤ 8
  lr : r.length ≤ 8
  wl : wl.natAbs ≤ 1000
  wr : wr.natAbs ≤ 1000
section
variable {word : Str} {vc ve wl wr : Int} {l r : List Part} {s : Sto} {n : Nat}
theorem flat_d {s : Sto} {kvs : List (PD × PD)} : dictAt (s ++ [.dct false false kvs]) (.ref s.length) = some (false, kvs) := by
  show (match (s ++ [Ob.dct false false kvs])[s.length]? with | some (.dct m _ kvs) => some (m, kvs) | _ => none) = _
  rw [List.getElem?_append_right (Nat.le_refl _), Nat.sub_self]
  rfl
theorem vf_le {n0 n1 n2 : Int} (hv : vc.natAbs ≤ 100 ∧ ve.natAbs ≤ 100) (h0 : n0.natAbs ≤ 1000000000) (h1 : n1.natAbs ≤ 1000000000) (h2 : n2.natAbs ≤ 1000000000) (nm : Nm) : (vf vc ve n0 n1 n2 nm).natAbs ≤ 1000000000000 := by
  cases nm <;> simp only [vf] <;> omega
theorem turn_ok {z0 z2 z3 z7 z8 z9 z10 z11 z12 z13 z14 z15 z16 z17 z18 z19 : Option W} {t : Nat} {lb : List PD} {rs : Sto} (h : Drawn word vc ve wl wr l r) (hb : Bag t lb) (ht : t < 1000000) :
    wS (cx P (n + 5)) turnB [z0, some (.ref 0), z2, z3, some (.d (testD word wl wr l r)), some (.d (.tuple [.int vc, .int ve])), some (.d (gapD word vc ve wl wr l r)), z7, z8, z9, z10, z11, z12, z13, z14, z15, z16, z17, z18, z19] (.lst lb :: rs)
    fun o => ∃ z8 z9 z10 z11 z12 z13 z14 z15 z16 z17 z18 z19 lb' rs', o = .nx [z0, some (.ref 0), z2, z3, some (.d (testD word wl wr l r)), some (.d (.tuple [.int vc, .int ve])), some (.d (gapD word vc ve wl wr l r)), z7, z8, z9, z10, z11, z12, z13, z14, z15, z16, z17, z18, z19] (.lst lb' :: rs') ∧ Bag (t + 30) lb' := by
  refine wS_seq (wS_set (wE_tup (wL_cons (wE_call (wL_cons (wE_var rfl (wL_cons (wE_lst (wL_cons (wE_cst (wL_cons (wE_cst (wL_cons (wE_cst (wL_cons (wE_cst (wL_nil (kMk_of (.cons (.cons (.cons (.cons .nil)))) rfl (wL_nil ?_)))))))))))))))))))
  refine wC_some (n := n + 3) hS hT hb (by omega) (by simp) (by simp) fun y l1 hy hb1 => ?_
  obtain ⟨b, rfl, hb0⟩ : ∃ f : Int, y = .int f ∧ 2 ≤ f ∧ f ≤ 1000 := by
    simp only [List.mem_cons, List.not_mem_nil, or_false] at hy
    rcases hy with rfl | rfl | rfl | rfl <;> exact ⟨_, rfl, by decide⟩
  refine wL_cons (wE_call (wL_cons (wE_var rfl (wL_cons (wE_cst (wL_nil ?_))))))
  refine wC_take (n := n + 4) hT hb1 (by omega) (by decide) (sm9 (by decide)) fun m l2 m0 m1 hb2 => ?_
  obtain ⟨mm, rfl⟩ : ∃ mm : Nat, m = mm := ⟨m.toNat, by omega⟩
  have sb : Sm b := sm9 (by omega)
  refine wL_nil (kMk_of (.cons (.cons .nil)) rfl (kPut_tp (xs := [.int b, .int mm]) (by (repeat' (first | exact SetAt.zero | exact SetAll.nil | exact SetAllW.nil | apply SetAt.succ | apply SetAll.cons | apply SetAllW.cons))) (qSeq_nx (wS_seq (wS_set ?_)))))
  refine wE_comp (α := Digs b mm) (fun j s => ∃ l, s = .lst l :: rs ∧ Bag (t + 2 + 6 * j) l) (fun ds => digsD ds.1) (n := 3) (by decide) ?_ ?_
  · refine wE_rng1 (n := 3) (wE_cst ⟨rfl, rfl⟩) (by decide) (kWalk_list ⟨by simp, ⟨l2, rfl, hb2⟩, fun _ _ _ => rfl, ?_⟩)
    rintro j s x hx ⟨l, rfl, hbl⟩
    have hj : j < 3 := by simpa using (List.getElem?_eq_some_iff.mp hx).1
    refine ⟨_, put_nm (by (repeat' (first | exact SetAt.zero | exact SetAll.nil | exact SetAllW.nil | apply SetAt.succ | apply SetAll.cons | apply SetAllW.cons))), wE_bi (wL_cons ?_)⟩
    refine wE_comp (α := Dig b) (fun i s => ∃ l, s = .lst l :: rs ∧ Bag (t + 2 + 6 * j + 2 * i) l) (fun d => .int d.1) (n := mm) (by omega) ?_ ?_
    · refine wE_rng1 (n := mm) (wE_var rfl ⟨rfl, rfl⟩) (by omega) (kWalk_list ⟨by simp, ⟨l, rfl, hbl⟩, fun _ _ _ => rfl, ?_⟩)
      rintro i s x hx ⟨l, rfl, hbl⟩
      have hi : i < mm := by simpa using (List.getElem?_eq_some_iff.mp hx).1
      refine ⟨_, put_nm (by (repeat' (first | exact SetAt.zero | exact SetAll.nil | exact SetAllW.nil | apply SetAt.succ | apply SetAll.cons | apply SetAllW.cons))), wE_call (wL_cons (wE_var rfl (wL_cons (wE_lst (wL_cons (wE_cst (wL_cons (wE_bin (wE_var rfl (wE_cst (kBin_sub (wL_cons (wE_call (wL_cons (wE_var rfl (wL_cons (wE_var rfl (wL_nil ?_))))))))))))))))))⟩
      refine wC_take (n := n + 4) hT hbl (by omega) (by omega) sb fun x l3 x0 x1 hb3 => ?_
      refine wL_nil (kMk_of (.cons (.cons (.cons .nil))) rfl (wL_nil ?_))
      refine wC_some (n := n + 3) hS hT hb3 (by omega) (by simp) (by simp) fun y l4 hy hb4 => ?_
      obtain ⟨d, rfl, hd⟩ : ∃ d : Int, y = .int d ∧ 0 ≤ d ∧ d < b := by
        simp only [List.mem_cons, List.not_mem_nil, or_false] at hy
        rcases hy with rfl | rfl | rfl
        · exact ⟨_, rfl, by omega⟩
        · exact ⟨_, rfl, by omega⟩
        · exact ⟨_, rfl, by omega⟩
      exact ⟨⟨d, hd⟩, rfl, l4, rfl, hb4.mono (by omega)⟩
    rintro ys s' hys ⟨l3, rfl, hb3⟩
    refine wL_nil (kBi_of (.d .nil) (z := digsD (ys.map (·.1))) (by unfold digsD; rw [List.map_map]; rfl) ?_)
    exact ⟨⟨ys.map (·.1), by rw [List.length_map]; exact hys, fun d hd => by
      obtain ⟨q, _, rfl⟩ := List.mem_map.mp hd
      exact q.2⟩, rfl, l3, rfl, hb3.mono (by omega)⟩
  rintro ys s' hys ⟨l3, rfl, hb3⟩
  obtain ⟨⟨a0, la0, ha0⟩, ⟨a1, la1, ha1⟩, ⟨a2, la2, ha2⟩, rfl⟩ : ∃ x y z : Digs b mm, ys = [x, y, z] := by
    match ys, hys with
    | [x, y, z], _ => exact ⟨x, y, z, rfl⟩
  obtain ⟨gw, gf, gb⟩ := gap_bounds h.hv h.hl h.hr h.ll h.lr h.wl h.wr
  have gf0 := gf 0
  have gf1 := gf 1
  have gf2 := gf 2
  refine kPut_nm (by (repeat' (first | exact SetAt.zero | exact SetAll.nil | exact SetAllW.nil | apply SetAt.succ | apply SetAll.cons | apply SetAllW.cons))) (qSeq_nx (wS_seq (wS_set (wE_tup (wL_cons (wE_ix (wE_var rfl (wE_cst (kIx_of (r := .int (gapW vc ve wl wr l r)) rfl (wL_cons (wE_cst (wL_nil (kMk_of (.cons (.cons .nil)) rfl (kPut_nm (by (repeat' (first | exact SetAt.zero | exact SetAll.nil | exact SetAllW.nil | apply SetAt.succ | apply SetAll.cons | apply SetAllW.cons))) (qSeq_nx (wS_seq ?_))))))))))))))))
  refine wS_for (fun k v s' => ∃ q fl z11 z12 z14 z15 z16 z17, v = [z0, some (.ref 0), z2, z3, some (.d (testD word wl wr l r)), some (.d (.tuple [.int vc, .int ve])), some (.d (gapD word vc ve wl wr l r)), z7, some (.d (.int b)), some (.d (.int mm)), some (.d (.list [digsD a0, digsD a1, digsD a2])), z11, z12, some (.d (.tuple [.int q, .int fl])), z14, z15, z16, z17, z18, z19] ∧ s' = .lst l3 :: rs ∧ Led b (gapW vc ve wl wr l r) (gapF 0 l r) (gapF 1 l r) (gapF 2 l r) a0 a1 a2 k q fl) ?_
  refine wE_rng1 (n := mm) (wE_var rfl ⟨rfl, rfl⟩) (by omega) (kWalk_list ⟨⟨gapW vc ve wl wr l r, 1, _, _, _, _, _, _, rfl, rfl, led_nil b _ _ _ _ a0 a1 a2⟩, fun _ _ _ ⟨_, _, _, _, _, _, _, _, _, e, _⟩ => e ▸ rfl, ?_, ?_⟩)
  · rintro k v s' x hx ⟨q, fl, z11, z12, z14, z15, z16, z17, rfl, rfl, led⟩
    have hk : k < mm := by simpa using (List.getElem?_eq_some_iff.mp hx).1
    have ex : x = .int k := by
      rw [List.getElem?_map, List.getElem?_range hk] at hx
      exact (Option.some.inj hx).symm
    subst ex
    refine ⟨_, put_nm (by (repeat' (first | exact SetAt.zero | exact SetAll.nil | exact SetAllW.nil | apply SetAt.succ | apply SetAll.cons | apply SetAllW.cons))), wS_seq (wS_set (wE_bin (wE_ix (wE_var rfl (wE_cst (kIx_of (r := .int q) rfl (wE_bi (wL_cons ?_))))))))⟩
    have d0 := List.getElem?_eq_getElem (l := a0) (i := k) (by omega)
    have d1 := List.getElem?_eq_getElem (l := a1) (i := k) (by omega)
    have d2 := List.getElem?_eq_getElem (l := a2) (i := k) (by omega)
    have g0 : a0.getD k 0 = a0[k] := by simp [List.getD, d0]
    have g1 : a1.getD k 0 = a1[k] := by simp [List.getD, d1]
    have g2 : a2.getD k 0 = a2[k] := by simp [List.getD, d2]
    have b0 := ha0 _ (List.getElem_mem (l := a0) (n := k) (by omega))
    have b1 := ha1 _ (List.getElem_mem (l := a1) (n := k) (by omega))
    have b2 := ha2 _ (List.getElem_mem (l := a2) (n := k) (by omega))
    refine wE_map [(gapF 0 l r, a0), (gapF 1 l r, a1), (gapF 2 l r, a2)] (fun p => .tuple [.int p.1, digsD p.2]) (fun p => .int (p.1 * p.2.getD k 0)) (by show 3 ≤ 1000000; decide) ?_ (fun x hx => ⟨_, put_tp (xs := [.int x.1, digsD x.2]) (by (repeat' (first | exact SetAt.zero | exact SetAll.nil | exact SetAllW.nil | apply SetAt.succ | apply SetAll.cons | apply SetAllW.cons))), ?_⟩) ?_
    · refine wE_zip (wE_ix (wE_var rfl (wE_cst (kIx_of (r := .tuple [.int (gapF 0 l r), .int (gapF 1 l r), .int (gapF 2 l r)]) rfl (wE_var rfl ?_)))))
      exact ⟨_, _, _, rfl, rfl, rfl, kWalk_list ⟨rfl, rfl, rfl⟩⟩
    · simp only [List.mem_cons, List.not_mem_nil, or_false] at hx
      rcases hx with rfl | rfl | rfl
      · exact wE_bin (wE_var rfl (wE_ix (wE_var rfl (wE_var rfl (kIx_of (ix_ints (ds := a0) (by omega)) (kBin_mul (i := gapF 0 l r) (j := a0.getD k 0) (sm9 (by omega)) (sm9 (by rw [g0]; omega)) ⟨rfl, rfl⟩))))))
      · exact wE_bin (wE_var rfl (wE_ix (wE_var rfl (wE_var rfl (kIx_of (ix_ints (ds := a1) (by omega)) (kBin_mul (i := gapF 1 l r) (j := a1.getD k 0) (sm9 (by omega)) (sm9 (by rw [g1]; omega)) ⟨rfl, rfl⟩))))))
      · exact wE_bin (wE_var rfl (wE_ix (wE_var rfl (wE_var rfl (kIx_of (ix_ints (ds := a2) (by omega)) (kBin_mul (i := gapF 2 l r) (j := a2.getD k 0) (sm9 (by omega)) (sm9 (by rw [g2]; omega)) ⟨rfl, rfl⟩))))))
    refine wL_nil (kBi_of (.d .nil) (z := .int [gapF 0 l r * a0.getD k 0, gapF 1 l r * a1.getD k 0, gapF 2 l r * a2.getD k 0].sum) rfl (kBin_add (kPut_nm (by (repeat' (first | exact SetAt.zero | exact SetAll.nil | exact SetAllW.nil | apply SetAt.succ | apply SetAll.cons | apply SetAllW.cons))) (qSeq_nx (wS_seq (wS_set (wE_tup (wL_cons ?_))))))))
    have led' := led_step hb0.1 led d0 d1 d2 b0 b1 b2 (q + [gapF 0 l r * a0.getD k 0, gapF 1 l r * a1.getD k 0, gapF 2 l r * a2.getD k 0].sum) (by rw [g0, g1, g2]; simp only [List.sum_cons, List.sum_nil]; omega)
    generalize q + [gapF 0 l r * a0.getD k 0, gapF 1 l r * a1.getD k 0, gapF 2 l r * a2.getD k 0].sum = t' at led' ⊢
    refine wE_bin (wE_var rfl (wE_var rfl (kBin_fdiv (by omega) sb (wL_cons ((?_ : wE _ _ _ _ fun w s1 => w = .d (.int (if t' % b = 0 then fl else 0)) ∧ s1 = .lst l3 :: rs).imp ?_)))))
    · refine wE_ife (wE_cmp (wE_bin (wE_var rfl (wE_var rfl (kBin_mod (by omega) (wE_cst (kCmp_of (k := decide (t' % b = 0)) (eq_int _ _) (kIf_dec (fun z => ?_) fun z => ?_))))))))
      · exact wE_ix (wE_var rfl (wE_cst (kIx_of (r := .int fl) rfl ⟨by rw [if_pos z], rfl⟩)))
      · exact wE_cst ⟨by rw [if_neg z], rfl⟩
    · rintro w s1 ⟨rfl, rfl⟩
      generalize hfl : (if t' % b = 0 then fl else 0) = fl' at led'
      refine wL_nil (kMk_of (.cons (.cons .nil)) rfl (kPut_nm (by (repeat' (first | exact SetAt.zero | exact SetAll.nil | exact SetAllW.nil | apply SetAt.succ | apply SetAll.cons | apply SetAllW.cons))) (qSeq_nx (wS_seq (wS_if (wE_cmp (wE_bi (wL_cons (wE_ix (wE_var rfl (wE_cst (kIx_of (r := .int (t' / b)) rfl (wL_nil (kBi_of (.d .nil) (z := .int (ab (t' / b))) rfl ?_))))))))))))))
      refine wE_bi (wL_cons (wE_bi (wL_cons (wE_ix (wE_var rfl (wE_cst (kIx_of (r := .int (gapW vc ve wl wr l r)) rfl (wL_nil (kBi_of (.d .nil) (z := .int (ab (gapW vc ve wl wr l r))) rfl (wL_cons (wE_bin (wE_bi (wL_cons ?_)))))))))))))
      refine wE_map [gapF 0 l r, gapF 1 l r, gapF 2 l r] .int (fun p => .int (ab p)) (by show 3 ≤ 1000000; decide) (wE_ix (wE_var rfl (wE_cst (kIx_of (r := .tuple [.int (gapF 0 l r), .int (gapF 1 l r), .int (gapF 2 l r)]) rfl (kWalk_tuple ⟨rfl, rfl, rfl⟩))))) (fun x hx => ⟨_, put_nm (by (repeat' (first | exact SetAt.zero | exact SetAll.nil | exact SetAllW.nil | apply SetAt.succ | apply SetAll.cons | apply SetAllW.cons))), wE_bi (wL_cons (wE_var rfl (wL_nil (kBi_of (.d .nil) (z := .int (ab x)) rfl ⟨rfl, rfl⟩))))⟩) ?_
      refine wL_nil (kBi_of (.d .nil) (z := .int [ab (gapF 0 l r), ab (gapF 1 l r), ab (gapF 2 l r)].sum) rfl (wE_cst (kBin_add (wL_nil (kBi_of (.d (.d .nil)) rfl ?_)))))
      refine kCmp_of (k := false) ?_ (kIf_F (wS_skip (qSeq_nx (wS_skip ⟨_, _, _, _, _, _, _, _, rfl, rfl, led'⟩))))
      have hn := top_ok led'.le
      exact congrArg some (decide_eq_false hn)
  rintro v s' ⟨q, fl, z11, z12, z14, z15, z16, z17, rfl, rfl, led⟩
  rw [List.length_map, List.length_range] at led
  have p0 := num_bound hb0.1 a0 ha0
  have p1 := num_bound hb0.1 a1 ha1
  have p2 := num_bound hb0.1 a2 ha2
  have pw := pow_bound hb0.1 hb0.2 mm (by omega)
  rw [la0] at p0
  rw [la1] at p1
  rw [la2] at p2
  have hbd := vf_le (n0 := numV b a0) (n1 := numV b a1) (n2 := numV b a2) h.hv (by omega) (by omega) (by omega)
  refine qSeq_nx (wS_seq (wS_set (wE_dof (wE_bin (wE_lst (wL_cons (wE_tup (wL_cons (wE_cst (wL_cons (wE_ix (wE_var rfl (wE_cst (kIx_of (r := .int vc) rfl (wL_nil (kMk_of (.cons (.cons .nil)) rfl (wL_cons (wE_tup (wL_cons (wE_cst (wL_cons (wE_ix (wE_var rfl (wE_cst (kIx_of (r := .int ve) rfl (wL_nil (kMk_of (.cons (.cons .nil)) rfl (wL_nil (kMk_of (.cons (.cons .nil)) rfl ?_)))))))))))))))))))))))))))))
  refine wE_map [(Nm.a, a0), (Nm.b, a1), (Nm.s, a2)] (fun p => .tuple [.str (nmS p.1), digsD p.2]) (fun p => .tuple [.str (nmS p.1), .int (numV b p.2)]) (by show 3 ≤ 1000000; decide) ?_ (fun x hx => ⟨_, put_tp (xs := [.str (nmS x.1), digsD x.2]) (by (repeat' (first | exact SetAt.zero | exact SetAll.nil | exact SetAllW.nil | apply SetAt.succ | apply SetAll.cons | apply SetAllW.cons))), ?_⟩) ?_
  · refine wE_zip (wE_cst (wE_var rfl ?_))
    exact ⟨.str "abs", .list [digsD a0, digsD a1, digsD a2], _, rfl, rfl, rfl, kWalk_list ⟨rfl, rfl, rfl⟩⟩
  · simp only [List.mem_cons, List.not_mem_nil, or_false] at hx
    rcases hx with rfl | rfl | rfl
    · refine wE_tup (wL_cons (wE_var rfl (wL_cons (wE_call (wL_cons (wE_var rfl (wL_cons (wE_var rfl (wL_nil (wC_number (n := n + 4) (ds := a0) hb0.1 hb0.2 (by omega) ha0 (wL_nil (kMk_of (.cons (.cons .nil)) rfl ?_))))))))))))
      exact ⟨rfl, rfl⟩
    · refine wE_tup (wL_cons (wE_var rfl (wL_cons (wE_call (wL_cons (wE_var rfl (wL_cons (wE_var rfl (wL_nil (wC_number (n := n + 4) (ds := a1) hb0.1 hb0.2 (by omega) ha1 (wL_nil (kMk_of (.cons (.cons .nil)) rfl ?_))))))))))))
      exact ⟨rfl, rfl⟩
    · refine wE_tup (wL_cons (wE_var rfl (wL_cons (wE_call (wL_cons (wE_var rfl (wL_cons (wE_var rfl (wL_nil (wC_number (n := n + 4) (ds := a2) hb0.1 hb0.2 (by omega) ha2 (wL_nil (kMk_of (.cons (.cons .nil)) rfl ?_))))))))))))
      exact ⟨rfl, rfl⟩
  refine kBin_catL (zs := [.tuple [.str "c", .int vc], .tuple [.str "e", .int ve], .tuple [.str (nmS .a), .int (numV b a0)], .tuple [.str (nmS .b), .int (numV b a1)], .tuple [.str (nmS .s), .int (numV b a2)]]) (.cons (.cons .nil)) (by show 5 ≤ 1000000; decide) ⟨_, held5 vc ve (numV b a0) (numV b a1) (numV b a2), rfl, by show 5 ≤ 1000000; decide, rfl, kPut_nm (by (repeat' (first | exact SetAt.zero | exact SetAll.nil | exact SetAllW.nil | apply SetAt.succ | apply SetAll.cons | apply SetAllW.cons))) (qSeq_nx ?_)⟩
  refine wS_seq (wS_if (wE_not (wE_call (wL_cons (wE_call (wL_cons (wE_var rfl (wL_cons (wE_var rfl (wL_nil (wC_so (n := n + 4) h.hw (wL_cons (wE_call (wL_cons (wE_var rfl (wL_cons (wE_call (wL_cons (wE_var rfl (wL_cons (wE_var rfl (wL_nil (wC_power (n := n + 4) hb0.1 hb0.2 (by omega) (wL_cons (wE_var rfl (wL_nil ?_))))))))))))))))))))))))))
  refine wC_holds (n := n + 3) h.hw (flat_d (s := .lst l3 :: rs)) hbd (by omega) h.hl h.hr (wL_nil ?_)
  rw [so_holds (b := b) (a0 := a0) (a1 := a1) (a2 := a2) hb0.1 h.hw led la0 la1 la2 (worth_diff (numV b a0) (numV b a1) (numV b a2) (b ^ mm) h.hl h.hr)]
  refine wC_alike (n := n + 4) hAl Gd.bool (by decide) (by decide) (kIf_T (kIf_F (wS_skip (qSeq_nx (wS_skip ?_)))))
  exact ⟨_, _, _, _, _, _, _, _, _, _, _, _, l3, _, rfl, hb3.mono (by omega)⟩
theorem lap_ok {z0 z3 z4 z5 z6 z7 z8 z9 z10 z11 z12 z13 z14 z15 z16 z17 z18 z19 : Option W} {t : Nat} {lb : List PD} {rs : Sto} (hb : Bag t lb) (ht : t < 100000) :
    wS (cx P (n + 5)) lapB [z0, some (.ref 0), some (.d planD), z3, z4, z5, z6, z7, z8, z9, z10, z11, z12, z13, z14, z15, z16, z17, z18, z19] (.lst lb :: rs)
    fun o => ∃ z4 z5 z6 z7 z8 z9 z10 z11 z12 z13 z14 z15 z16 z17 z18 z19 lb' rs', o = .nx [z0, some (.ref 0), some (.d planD), z3, z4, z5, z6, z7, z8, z9, z10, z11, z12, z13, z14, z15, z16, z17, z18, z19] (.lst lb' :: rs') ∧ Bag (t + 300) lb' := by
  refine wS_seq (wS_set (wE_tup (wL_cons (wE_call (wL_cons (wE_var rfl (wL_cons (wE_lst (wL_cons (wE_cst (wL_cons (wE_cst (wL_nil (kMk_of (.cons (.cons .nil)) rfl (wL_nil ?_)))))))))))))))
  refine wC_some (n := n + 3) hS hT hb (by omega) (by simp) (by simp) fun y l1 hy hb1 => ?_
  obtain ⟨word, rfl, hw⟩ : ∃ f : Str, y = .str f ∧ (f = "below" ∨ f = "same") := by
    simp only [List.mem_cons, List.not_mem_nil, or_false] at hy
    rcases hy with rfl | rfl
    · exact ⟨_, rfl, .inr rfl⟩
    · exact ⟨_, rfl, .inl rfl⟩
  refine wL_cons (wE_call (wL_cons (wE_var rfl (wL_nil ?_))))
  refine wC_side14 (n := n + 1) hb1 (by omega) fun wl l l2 hwl hl ll hb2 => ?_
  refine wL_cons (wE_call (wL_cons (wE_var rfl (wL_nil ?_))))
  refine wC_side14 (n := n + 1) hb2 (by omega) fun wr r l3 hwr hr lr hb3 => ?_
  refine wL_nil (kMk_of (.cons (.cons (.cons .nil))) rfl (kPut_nm (by (repeat' (first | exact SetAt.zero | exact SetAll.nil | exact SetAllW.nil | apply SetAt.succ | apply SetAll.cons | apply SetAllW.cons))) (qSeq_nx (wS_seq (wS_set (wE_tup (wL_cons (wE_bin (wE_call (wL_cons (wE_var rfl (wL_cons (wE_cst (wL_nil ?_))))))))))))))
  refine wC_take (n := n + 4) hT hb3 (by omega) (by decide) (sm9 (by decide)) fun x l4 x0 x1 hb4 => ?_
  refine wE_cst (kBin_sub (wL_cons (wE_call (wL_cons (wE_var rfl (wL_cons (wE_cst (wL_nil ?_))))))))
  refine wC_take (n := n + 4) hT hb4 (by omega) (by decide) (sm9 (by decide)) fun ve l5 y0 y1 hb5 => ?_
  generalize hvc : x - 2 = vc
  have h : Drawn word vc ve wl wr l r := ⟨hw, by omega, hl, hr, ll, lr, hwl, hwr⟩
  obtain ⟨gw, gf, gb⟩ := gap_bounds h.hv h.hl h.hr h.ll h.lr h.wl h.wr
  refine wL_nil (kMk_of (.cons (.cons .nil)) rfl (kPut_nm (by (repeat' (first | exact SetAt.zero | exact SetAll.nil | exact SetAllW.nil | apply SetAt.succ | apply SetAll.cons | apply SetAllW.cons))) (qSeq_nx (wS_seq (wS_set (wE_call (wL_cons (wE_var rfl (wL_cons (wE_var rfl (wL_cons (wE_var rfl (wL_nil (wC_lawGap (n := n + 4) h.hv hl hr (kPut_nm (by (repeat' (first | exact SetAt.zero | exact SetAll.nil | exact SetAllW.nil | apply SetAt.succ | apply SetAll.cons | apply SetAllW.cons))) (qSeq_nx ?_))))))))))))))))
  refine wS_seq (wS_if (wE_not (wE_call (wL_cons (wE_lst (wL_cons (wE_call (wL_cons (wE_var rfl (wL_cons (wE_var rfl (wL_cons (wE_var rfl (wL_nil (wC_gapOf (n := n + 2) h.hv hl hr (wL_cons (wE_call (wL_cons (wE_var rfl (wL_nil (wC_first (n := n + 4) (wL_nil (kMk_of (.cons (.cons .nil)) rfl ?_)))))))))))))))))))))))
  refine wL_cons (wE_lst (wL_cons (wE_var rfl (wL_cons (wE_tup (wL_cons (wE_ix (wE_var rfl (wE_cst (kIx_of (r := .int (gapW vc ve wl wr l r)) rfl (wL_cons (wE_cst (wL_nil (kMk_of (.cons (.cons .nil)) rfl (wL_nil (kMk_of (.cons (.cons .nil)) rfl (wL_nil ?_)))))))))))))))))
  refine wC_alike (n := n + 4) hAl (gd_gap hw gw (gf 0) (gf 1) (gf 2) gb) (by decide) (by decide) (kIf_T (kIf_F (wS_skip (qSeq_nx ?_))))
  refine wS_seq (wS_for (fun j v s' => ∃ z7 z8 z9 z10 z11 z12 z13 z14 z15 z16 z17 z18 z19 lb' rs', v = [z0, some (.ref 0), some (.d planD), z3, some (.d (testD word wl wr l r)), some (.d (.tuple [.int vc, .int ve])), some (.d (gapD word vc ve wl wr l r)), z7, z8, z9, z10, z11, z12, z13, z14, z15, z16, z17, z18, z19] ∧ s' = .lst lb' :: rs' ∧ Bag (t + 70 + 30 * j) lb') ?_)
  refine wE_rng1 (n := 5) (wE_cst ⟨rfl, rfl⟩) (by decide) (kWalk_list ⟨⟨_, _, _, _, _, _, _, _, _, _, _, _, _, l5, _, rfl, rfl, hb5.mono (by omega)⟩, fun _ _ _ _ => rfl, ?_, ?_⟩)
  · rintro j v s x hx ⟨z7, z8, z9, z10, z11, z12, z13, z14, z15, z16, z17, z18, z19, lb', rs', rfl, rfl, hbj⟩
    have hj : j < 5 := by simpa using (List.getElem?_eq_some_iff.mp hx).1
    refine ⟨_, put_nm (by (repeat' (first | exact SetAt.zero | exact SetAll.nil | exact SetAllW.nil | apply SetAt.succ | apply SetAll.cons | apply SetAllW.cons))), (turn_ok h hbj (by omega)).imp ?_⟩
    rintro o ⟨z8, z9, z10, z11, z12, z13, z14, z15, z16, z17, z18, z19, lb'', rs'', rfl, hb'⟩
    exact ⟨_, _, _, _, _, _, _, _, _, _, _, _, _, lb'', rs'', rfl, rfl, hb'.mono (by omega)⟩
  · rintro v s ⟨z7, z8, z9, z10, z11, z12, z13, z14, z15, z16, z17, z18, z19, lb', rs', rfl, rfl, hbj⟩
    exact qSeq_nx (wS_skip ⟨_, _, _, _, _, _, _, _, _, _, _, _, _, _, _, _, lb', rs', rfl, hbj.mono (by simp)⟩)
end
theorem law_true : ∀ ns : List Int, ns.length ≤ 63 → ∃ s, runF P 40 16 [.d (.list (ns.map .int))] [] = .ok (.d (.bool true)) s := fun ns hl => by
  have h : wC (cx P 40).fe 16 [.d (.list (ns.map .int))] [] fun w _ => w = .d (.bool true) := by
    refine wC_run (n := 39) (f := 16) (fn := ⟨1, 20, b16⟩) rfl rfl rfl ?_
    refine wS_seq (wS_set (wE_call (wL_cons (wE_var rfl (wL_nil (wC_bag (n := 38) hBag hl fun l hb => kPut_nm (by (repeat' (first | exact SetAt.zero | exact SetAll.nil | exact SetAllW.nil | apply SetAt.succ | apply SetAll.cons | apply SetAllW.cons))) (qSeq_nx (wS_seq (wS_set ?_)))))))))
    refine wE.imp (K := fun w s1 => w = .d planD ∧ s1 = [.lst l]) ?_ ?_
    · exact ⟨_, _, rfl, rfl, rfl⟩
    rintro w s1 ⟨rfl, rfl⟩
    refine kPut_nm (by (repeat' (first | exact SetAt.zero | exact SetAll.nil | exact SetAllW.nil | apply SetAt.succ | apply SetAll.cons | apply SetAllW.cons))) (qSeq_nx (wS_seq (wS_for (fun j v s => ∃ z3 z4 z5 z6 z7 z8 z9 z10 z11 z12 z13 z14 z15 z16 z17 z18 z19 l r, v = [some (.d (.list (ns.map .int))), some (.ref 0), some (.d planD), z3, z4, z5, z6, z7, z8, z9, z10, z11, z12, z13, z14, z15, z16, z17, z18, z19] ∧ s = .lst l :: r ∧ Bag (0 + 300 * j) l) ?_)))
    refine wE_rng1 (n := 12) (wE_cst ⟨rfl, rfl⟩) (by omega) (kWalk_list ⟨⟨_, _, _, _, _, _, _, _, _, _, _, _, _, _, _, _, _, l, _, rfl, rfl, hb⟩, fun _ _ _ _ => rfl, ?_, ?_⟩)
    · rintro j v s x hx ⟨z3, z4, z5, z6, z7, z8, z9, z10, z11, z12, z13, z14, z15, z16, z17, z18, z19, l, r, rfl, rfl, hb⟩
      have hj : j < 12 := by simpa using (List.getElem?_eq_some_iff.mp hx).1
      refine ⟨_, put_nm (by (repeat' (first | exact SetAt.zero | exact SetAll.nil | exact SetAllW.nil | apply SetAt.succ | apply SetAll.cons | apply SetAllW.cons))), (lap_ok (n := 34) hb (by omega)).imp ?_⟩
      rintro o ⟨z4, z5, z6, z7, z8, z9, z10, z11, z12, z13, z14, z15, z16, z17, z18, z19, l', r', rfl, hb'⟩
      exact ⟨_, _, _, _, _, _, _, _, _, _, _, _, _, _, _, _, _, l', r', rfl, rfl, hb'.mono (by omega)⟩
    · rintro v s ⟨z3, z4, z5, z6, z7, z8, z9, z10, z11, z12, z13, z14, z15, z16, z17, z18, z19, l, r, rfl, rfl, hb⟩
      exact qSeq_nx (wS_seq (wS_ret (wE_cst (qSeq_ret (qRet_d rfl rfl)))))
  obtain ⟨w, s, e, rfl⟩ := h.out
  exact ⟨s, (call_cx P 40 16 _ _).symm.trans e⟩
end K24

set_option Elab.async false
set_option linter.all false
set_option maxRecDepth 100000
set_option maxHeartbeats 2000000
namespace K24
open PySem PySem.Spec PyProof.Rows L2 Mini
abbrev Hm : Prop := ∀ ns : List Int, ns.length ≤ 63 → ∃ s, runF P 40 16 [.d (.list (ns.map .int))] [] = .ok (.d (.bool true)) s
theorem all_mk {l : PySem.W.OpenLaw} {w : World} {K : PySem.W.Frag} {h : Heap} {mg : Str → Option Value} {fa f0 f1 f2 f3 f4 f5 f6 f7 f8 f9 f10 f11 f12 f13 f14 f15 f16  : Addr} (X : K.In h) (G0 : h.Ns mainGlobals mg) (hfa : mg "law" = some (.ref fa)) (hp : l.prog = PySem.Challenge.pw_limbwright_k24_gaps_and_rests_of_tests) (hm : Hm)
    {od0 an0 : Option Addr} {sl0 : Array (Option Value)} {oc0 kV0 dc0 pm0 cd0 ct0 : Value}
    (a0 : PySem.W.nsIn K mainGlobals "small_names" = some (some (.ref f0))) (l0 : K.lookup f0 = some ⟨oc0, od0, .func (PySem.W.fnOf "small_names" "small_names" (defArgs (top 1)) (defBody (top 1)) (defScope (top 1)) .none kV0 dc0 pm0 an0 cd0 ct0), sl0⟩) (c0 : PySem.W.codeIn K cd0 "small_names" = true) (k0 : PySem.W.keepIn K (.ref f0) = true)
    {od1 an1 : Option Addr} {sl1 : Array (Option Value)} {oc1 kV1 dc1 pm1 cd1 ct1 : Value}
    (a1 : PySem.W.nsIn K mainGlobals "side_of" = some (some (.ref f1))) (l1 : K.lookup f1 = some ⟨oc1, od1, .func (PySem.W.fnOf "side_of" "side_of" (defArgs (top 3)) (defBody (top 3)) (defScope (top 3)) .none kV1 dc1 pm1 an1 cd1 ct1), sl1⟩) (c1 : PySem.W.codeIn K cd1 "side_of" = true) (k1 : PySem.W.keepIn K (.ref f1) = true)
    {od2 an2 : Option Addr} {sl2 : Array (Option Value)} {oc2 kV2 dc2 pm2 cd2 ct2 : Value}
    (a2 : PySem.W.nsIn K mainGlobals "gap_of" = some (some (.ref f2))) (l2 : K.lookup f2 = some ⟨oc2, od2, .func (PySem.W.fnOf "gap_of" "gap_of" (defArgs (top 4)) (defBody (top 4)) (defScope (top 4)) .none kV2 dc2 pm2 an2 cd2 ct2), sl2⟩) (c2 : PySem.W.codeIn K cd2 "gap_of" = true) (k2 : PySem.W.keepIn K (.ref f2) = true)
    {od3 an3 : Option Addr} {sl3 : Array (Option Value)} {oc3 kV3 dc3 pm3 cd3 ct3 : Value}
    (a3 : PySem.W.nsIn K mainGlobals "first_rest" = some (some (.ref f3))) (l3 : K.lookup f3 = some ⟨oc3, od3, .func (PySem.W.fnOf "first_rest" "first_rest" (defArgs (top 5)) (defBody (top 5)) (defScope (top 5)) .none kV3 dc3 pm3 an3 cd3 ct3), sl3⟩) (c3 : PySem.W.codeIn K cd3 "first_rest" = true) (k3 : PySem.W.keepIn K (.ref f3) = true)
    {od4 an4 : Option Addr} {sl4 : Array (Option Value)} {oc4 kV4 dc4 pm4 cd4 ct4 : Value}
    (a4 : PySem.W.nsIn K mainGlobals "is_so_at_end" = some (some (.ref f4))) (l4 : K.lookup f4 = some ⟨oc4, od4, .func (PySem.W.fnOf "is_so_at_end" "is_so_at_end" (defArgs (top 6)) (defBody (top 6)) (defScope (top 6)) .none kV4 dc4 pm4 an4 cd4 ct4), sl4⟩) (c4 : PySem.W.codeIn K cd4 "is_so_at_end" = true) (k4 : PySem.W.keepIn K (.ref f4) = true)
    {od5 an5 : Option Addr} {sl5 : Array (Option Value)} {oc5 kV5 dc5 pm5 cd5 ct5 : Value}
    (a5 : PySem.W.nsIn K mainGlobals "_law_bag" = some (some (.ref f5))) (l5 : K.lookup f5 = some ⟨oc5, od5, .func (PySem.W.fnOf "_law_bag" "_law_bag" (defArgs (top 8)) (defBody (top 8)) (defScope (top 8)) .none kV5 dc5 pm5 an5 cd5 ct5), sl5⟩) (c5 : PySem.W.codeIn K cd5 "_law_bag" = true) (k5 : PySem.W.keepIn K (.ref f5) = true)
    {od6 an6 : Option Addr} {sl6 : Array (Option Value)} {oc6 kV6 dc6 pm6 cd6 ct6 : Value}
    (a6 : PySem.W.nsIn K mainGlobals "_law_take" = some (some (.ref f6))) (l6 : K.lookup f6 = some ⟨oc6, od6, .func (PySem.W.fnOf "_law_take" "_law_take" (defArgs (top 9)) (defBody (top 9)) (defScope (top 9)) .none kV6 dc6 pm6 an6 cd6 ct6), sl6⟩) (c6 : PySem.W.codeIn K cd6 "_law_take" = true) (k6 : PySem.W.keepIn K (.ref f6) = true)
    {od7 an7 : Option Addr} {sl7 : Array (Option Value)} {oc7 kV7 dc7 pm7 cd7 ct7 : Value}
    (a7 : PySem.W.nsIn K mainGlobals "_law_some" = some (some (.ref f7))) (l7 : K.lookup f7 = some ⟨oc7, od7, .func (PySem.W.fnOf "_law_some" "_law_some" (defArgs (top 10)) (defBody (top 10)) (defScope (top 10)) .none kV7 dc7 pm7 an7 cd7 ct7), sl7⟩) (c7 : PySem.W.codeIn K cd7 "_law_some" = true) (k7 : PySem.W.keepIn K (.ref f7) = true)
    {od8 an8 : Option Addr} {sl8 : Array (Option Value)} {oc8 kV8 dc8 pm8 cd8 ct8 : Value}
    (a8 : PySem.W.nsIn K mainGlobals "_law_alike" = some (some (.ref f8))) (l8 : K.lookup f8 = some ⟨oc8, od8, .func (PySem.W.fnOf "_law_alike" "_law_alike" (defArgs (top 11)) (defBody (top 11)) (defScope (top 11)) .none kV8 dc8 pm8 an8 cd8 ct8), sl8⟩) (c8 : PySem.W.codeIn K cd8 "_law_alike" = true) (k8 : PySem.W.keepIn K (.ref f8) = true)
    {od9 an9 : Option Addr} {sl9 : Array (Option Value)} {oc9 kV9 dc9 pm9 cd9 ct9 : Value}
    (a9 : PySem.W.nsIn K mainGlobals "_law_worth" = some (some (.ref f9))) (l9 : K.lookup f9 = some ⟨oc9, od9, .func (PySem.W.fnOf "_law_worth" "_law_worth" (defArgs (top 12)) (defBody (top 12)) (defScope (top 12)) .none kV9 dc9 pm9 an9 cd9 ct9), sl9⟩) (c9 : PySem.W.codeIn K cd9 "_law_worth" = true) (k9 : PySem.W.keepIn K (.ref f9) = true)
    {od10 an10 : Option Addr} {sl10 : Array (Option Value)} {oc10 kV10 dc10 pm10 cd10 ct10 : Value}
    (a10 : PySem.W.nsIn K mainGlobals "_law_holds" = some (some (.ref f10))) (l10 : K.lookup f10 = some ⟨oc10, od10, .func (PySem.W.fnOf "_law_holds" "_law_holds" (defArgs (top 13)) (defBody (top 13)) (defScope (top 13)) .none kV10 dc10 pm10 an10 cd10 ct10), sl10⟩) (c10 : PySem.W.codeIn K cd10 "_law_holds" = true) (k10 : PySem.W.keepIn K (.ref f10) = true)
    {od11 an11 : Option Addr} {sl11 : Array (Option Value)} {oc11 kV11 dc11 pm11 cd11 ct11 : Value}
    (a11 : PySem.W.nsIn K mainGlobals "_law_number" = some (some (.ref f11))) (l11 : K.lookup f11 = some ⟨oc11, od11, .func (PySem.W.fnOf "_law_number" "_law_number" (defArgs (top 14)) (defBody (top 14)) (defScope (top 14)) .none kV11 dc11 pm11 an11 cd11 ct11), sl11⟩) (c11 : PySem.W.codeIn K cd11 "_law_number" = true) (k11 : PySem.W.keepIn K (.ref f11) = true)
    {od12 an12 : Option Addr} {sl12 : Array (Option Value)} {oc12 kV12 dc12 pm12 cd12 ct12 : Value}
    (a12 : PySem.W.nsIn K mainGlobals "_law_power" = some (some (.ref f12))) (l12 : K.lookup f12 = some ⟨oc12, od12, .func (PySem.W.fnOf "_law_power" "_law_power" (defArgs (top 15)) (defBody (top 15)) (defScope (top 15)) .none kV12 dc12 pm12 an12 cd12 ct12), sl12⟩) (c12 : PySem.W.codeIn K cd12 "_law_power" = true) (k12 : PySem.W.keepIn K (.ref f12) = true)
    {od13 an13 : Option Addr} {sl13 : Array (Option Value)} {oc13 kV13 dc13 pm13 cd13 ct13 : Value}
    (a13 : PySem.W.nsIn K mainGlobals "_law_sum" = some (some (.ref f13))) (l13 : K.lookup f13 = some ⟨oc13, od13, .func (PySem.W.fnOf "_law_sum" "_law_sum" (defArgs (top 16)) (defBody (top 16)) (defScope (top 16)) .none kV13 dc13 pm13 an13 cd13 ct13), sl13⟩) (c13 : PySem.W.codeIn K cd13 "_law_sum" = true) (k13 : PySem.W.keepIn K (.ref f13) = true)
    {od14 an14 : Option Addr} {sl14 : Array (Option Value)} {oc14 kV14 dc14 pm14 cd14 ct14 : Value}
    (a14 : PySem.W.nsIn K mainGlobals "_law_drawn_side" = some (some (.ref f14))) (l14 : K.lookup f14 = some ⟨oc14, od14, .func (PySem.W.fnOf "_law_drawn_side" "_law_drawn_side" (defArgs (top 17)) (defBody (top 17)) (defScope (top 17)) .none kV14 dc14 pm14 an14 cd14 ct14), sl14⟩) (c14 : PySem.W.codeIn K cd14 "_law_drawn_side" = true) (k14 : PySem.W.keepIn K (.ref f14) = true)
    {od15 an15 : Option Addr} {sl15 : Array (Option Value)} {oc15 kV15 dc15 pm15 cd15 ct15 : Value}
    (a15 : PySem.W.nsIn K mainGlobals "_law_gap" = some (some (.ref f15))) (l15 : K.lookup f15 = some ⟨oc15, od15, .func (PySem.W.fnOf "_law_gap" "_law_gap" (defArgs (top 18)) (defBody (top 18)) (defScope (top 18)) .none kV15 dc15 pm15 an15 cd15 ct15), sl15⟩) (c15 : PySem.W.codeIn K cd15 "_law_gap" = true) (k15 : PySem.W.keepIn K (.ref f15) = true)
    {od16 an16 : Option Addr} {sl16 : Array (Option Value)} {oc16 kV16 dc16 pm16 cd16 ct16 : Value}
    (a16 : PySem.W.nsIn K mainGlobals "law" = some (some (.ref f16))) (l16 : K.lookup f16 = some ⟨oc16, od16, .func (PySem.W.fnOf "law" "law" (defArgs (top 19)) (defBody (top 19)) (defScope (top 19)) .none kV16 dc16 pm16 an16 cd16 ct16), sl16⟩) (c16 : PySem.W.codeIn K cd16 "law" = true) (k16 : PySem.W.keepIn K (.ref f16) = true)
    (z0 : PySem.W.nsIn K mainGlobals "abs" = some none)
    (z1 : PySem.W.nsIn K mainGlobals "dict" = some none)
    (z2 : PySem.W.nsIn K mainGlobals "int" = some none)
    (z3 : PySem.W.nsIn K mainGlobals "len" = some none)
    (z4 : PySem.W.nsIn K mainGlobals "max" = some none)
    (z5 : PySem.W.nsIn K mainGlobals "range" = some none)
    (z6 : PySem.W.nsIn K mainGlobals "repr" = some none)
    (z7 : PySem.W.nsIn K mainGlobals "sorted" = some none)
    (z8 : PySem.W.nsIn K mainGlobals "sum" = some none)
    (z9 : PySem.W.nsIn K mainGlobals "tuple" = some none)
    (z10 : PySem.W.nsIn K mainGlobals "zip" = some none)
    : ∃ (fd : FuncData) (sp : Sp), (∀ (s : Shared) (u : Value), BindsTo s fd ⟨[u], []⟩ [("script", u)]) ∧ (∀ base : Heap, K.In base → base.Ns mainGlobals mg → FnG l.prog w K mg base 40 fa fd ["script"] sp) ∧
      ∀ (H : Hp) (a : Addr) (ns : List Int), ns.length ≤ 63 → SqL K H a (ns.map V.int) → sp [.ref a] H (fun v _ => v = .bl true) fun _ _ _ => False := by
  have e := hfa.symm.trans (PySem.W.mg_of X G0 a16)
  have e2 : f16 = fa := by cases e; rfl
  subst e2
  let C : Cn := ⟨0, K, fun i => [f0, f1, f2, f3, f4, f5, f6, f7, f8, f9, f10, f11, f12, f13, f14, f15, f16][i]?, fun i => ([] : List (Addr × List Str))[i]?, none, w⟩
  have hd : ∀ p ∈ D, ∃ f, mg p.1 = some (.ref f) ∧ C.fa p.2 = some f := ac ⟨f0, PySem.W.mg_of X G0 a0, rfl⟩ (ac ⟨f1, PySem.W.mg_of X G0 a1, rfl⟩ (ac ⟨f2, PySem.W.mg_of X G0 a2, rfl⟩ (ac ⟨f3, PySem.W.mg_of X G0 a3, rfl⟩ (ac ⟨f4, PySem.W.mg_of X G0 a4, rfl⟩ (ac ⟨f5, PySem.W.mg_of X G0 a5, rfl⟩ (ac ⟨f6, PySem.W.mg_of X G0 a6, rfl⟩ (ac ⟨f7, PySem.W.mg_of X G0 a7, rfl⟩ (ac ⟨f8, PySem.W.mg_of X G0 a8, rfl⟩ (ac ⟨f9, PySem.W.mg_of X G0 a9, rfl⟩ (ac ⟨f10, PySem.W.mg_of X G0 a10, rfl⟩ (ac ⟨f11, PySem.W.mg_of X G0 a11, rfl⟩ (ac ⟨f12, PySem.W.mg_of X G0 a12, rfl⟩ (ac ⟨f13, PySem.W.mg_of X G0 a13, rfl⟩ (ac ⟨f14, PySem.W.mg_of X G0 a14, rfl⟩ (ac ⟨f15, PySem.W.mg_of X G0 a15, rfl⟩ (ac ⟨f16, PySem.W.mg_of X G0 a16, rfl⟩ (an)))))))))))))))))
  have hc : ∀ p ∈ G, ∃ u v d, mg p.1 = some u ∧ RelV v u ∧ P.gls[p.2]? = some d ∧ ∀ H ms, Rep C.K H ms d v := an
  have her : ∀ p ∈ R.ers, ∃ Ca names, C.cls p.2 = some (Ca, names) ∧ mg p.1 = some (.ref Ca) := an
  have hm0 : ∀ p ∈ R.mk0, Made0 K mg C p := an
  have hm2 : ∀ p ∈ R.mk2, Made2 K l.prog mg C p := an
  have hfl : ∀ p ∈ R.flds, ∃ Ca, C.cls p.1 = some (Ca, p.2) ∧ XfC K Ca ∧ ∀ n ∈ p.2, PySem.W.findIn K (.ref Ca) n = some none := an
  have hsb : ∀ c k Ca na Ck nk, C.cls c = some (Ca, na) → C.cls k = some (Ck, nk) → PySem.W.exmOne K (.ref Ca) (.ref Ck) = some (P.sub c k) := fun c k Ca na Ck nk h1 h2 => match c, k, h1, h2 with
  | c, k, h1, h2 => by cases h1
  have hb : ∀ x ∈ B, mg x = none := ac (PySem.W.mg_none_of X G0 z0) (ac (PySem.W.mg_none_of X G0 z1) (ac (PySem.W.mg_none_of X G0 z2) (ac (PySem.W.mg_none_of X G0 z3) (ac (PySem.W.mg_none_of X G0 z4) (ac (PySem.W.mg_none_of X G0 z5) (ac (PySem.W.mg_none_of X G0 z6) (ac (PySem.W.mg_none_of X G0 z7) (ac (PySem.W.mg_none_of X G0 z8) (ac (PySem.W.mg_none_of X G0 z9) (ac (PySem.W.mg_none_of X G0 z10) (an)))))))))))
  have tab : ∀ i f, C.fa i = some f → DefOk D G B R K P i f := fun i f h => match i, h with
  | 0, h => by
    cases h
    have F := fun_mk (st := top 1) l0 c0 k0
    exact ⟨⟨top 1, "small_names", _, N0, ["plan"], [], b0, F, F.binds fun _ _ _ _ _ _ us hl => (match us, hl with | [_], _ => rfl), sc0, rfl, rd0⟩⟩
  | 1, h => by
    cases h
    have F := fun_mk (st := top 3) l1 c1 k1
    exact ⟨⟨top 3, "side_of", _, N1, ["plan", "values", "its"], [(7, 38), (15, 19)], b1, F, F.binds fun _ _ _ _ _ _ us hl => (match us, hl with | [_, _, _], _ => rfl), sc1, rfl, rd1⟩⟩
  | 2, h => by
    cases h
    have F := fun_mk (st := top 4) l2 c2 k2
    exact ⟨⟨top 4, "gap_of", _, N2, ["plan", "values", "test"], [], b2, F, F.binds fun _ _ _ _ _ _ us hl => (match us, hl with | [_, _, _], _ => rfl), sc2, rfl, rd2⟩⟩
  | 3, h => by
    cases h
    have F := fun_mk (st := top 5) l3 c3 k3
    exact ⟨⟨top 5, "first_rest", _, N3, ["gap"], [], b3, F, F.binds fun _ _ _ _ _ _ us hl => (match us, hl with | [_], _ => rfl), sc3, rfl, rd3⟩⟩
  | 4, h => by
    cases h
    have F := fun_mk (st := top 6) l4 c4 k4
    exact ⟨⟨top 6, "is_so_at_end", _, N4, ["gap", "rest"], [], b4, F, F.binds fun _ _ _ _ _ _ us hl => (match us, hl with | [_, _], _ => rfl), sc4, rfl, rd4⟩⟩
  | 5, h => by
    cases h
    have F := fun_mk (st := top 8) l5 c5 k5
    exact ⟨⟨top 8, "_law_bag", _, N5, ["script"], [(30, 11)], b5, F, F.binds fun _ _ _ _ _ _ us hl => (match us, hl with | [_], _ => rfl), sc5, rfl, rd5⟩⟩
  | 6, h => by
    cases h
    have F := fun_mk (st := top 9) l6 c6 k6
    exact ⟨⟨top 9, "_law_take", _, N6, ["bag", "many"], [], b6, F, F.binds fun _ _ _ _ _ _ us hl => (match us, hl with | [_, _], _ => rfl), sc6, rfl, rd6⟩⟩
  | 7, h => by
    cases h
    have F := fun_mk (st := top 10) l7 c7 k7
    exact ⟨⟨top 10, "_law_some", _, N7, ["bag", "things"], [], b7, F, F.binds fun _ _ _ _ _ _ us hl => (match us, hl with | [_, _], _ => rfl), sc7, rfl, rd7⟩⟩
  | 8, h => by
    cases h
    have F := fun_mk (st := top 11) l8 c8 k8
    exact ⟨⟨top 11, "_law_alike", _, N8, ["found", "due"], [], b8, F, F.binds fun _ _ _ _ _ _ us hl => (match us, hl with | [_, _], _ => rfl), sc8, rfl, rd8⟩⟩
  | 9, h => by
    cases h
    have F := fun_mk (st := top 12) l9 c9 k9
    exact ⟨⟨top 12, "_law_worth", _, N9, ["its", "base", "held"], [], b9, F, F.binds fun _ _ _ _ _ _ us hl => (match us, hl with | [_, _, _], _ => rfl), sc9, rfl, rd9⟩⟩
  | 10, h => by
    cases h
    have F := fun_mk (st := top 13) l10 c10 k10
    exact ⟨⟨top 13, "_law_holds", _, N10, ["test", "base", "held"], [], b10, F, F.binds fun _ _ _ _ _ _ us hl => (match us, hl with | [_, _, _], _ => rfl), sc10, rfl, rd10⟩⟩
  | 11, h => by
    cases h
    have F := fun_mk (st := top 14) l11 c11 k11
    exact ⟨⟨top 14, "_law_number", _, N11, ["base", "digits"], [], b11, F, F.binds fun _ _ _ _ _ _ us hl => (match us, hl with | [_, _], _ => rfl), sc11, rfl, rd11⟩⟩
  | 12, h => by
    cases h
    have F := fun_mk (st := top 15) l12 c12 k12
    exact ⟨⟨top 15, "_law_power", _, N12, ["base", "many"], [], b12, F, F.binds fun _ _ _ _ _ _ us hl => (match us, hl with | [_, _], _ => rfl), sc12, rfl, rd12⟩⟩
  | 13, h => by
    cases h
    have F := fun_mk (st := top 16) l13 c13 k13
    exact ⟨⟨top 16, "_law_sum", _, N13, ["whole", "parts"], [(70, 12)], b13, F, F.binds fun _ _ _ _ _ _ us hl => (match us, hl with | [_, _], _ => rfl), sc13, rfl, rd13⟩⟩
  | 14, h => by
    cases h
    have F := fun_mk (st := top 17) l14 c14 k14
    exact ⟨⟨top 17, "_law_drawn_side", _, N14, ["bag"], [], b14, F, F.binds fun _ _ _ _ _ _ us hl => (match us, hl with | [_], _ => rfl), sc14, rfl, rd14⟩⟩
  | 15, h => by
    cases h
    have F := fun_mk (st := top 18) l15 c15 k15
    exact ⟨⟨top 18, "_law_gap", _, N15, ["plan", "values", "test"], [(80, 55)], b15, F, F.binds fun _ _ _ _ _ _ us hl => (match us, hl with | [_, _, _], _ => rfl), sc15, rfl, rd15⟩⟩
  | 16, h => by
    cases h
    have F := fun_mk (st := top 19) l16 c16 k16
    exact ⟨⟨top 19, "law", _, N16, ["script"], [], b16, F, F.binds fun _ _ _ _ _ _ us hl => (match us, hl with | [_], _ => rfl), sc16, rfl, rd16⟩⟩
  | i + 17, h => by cases h
  have F := fun_mk (st := top 19) l16 c16 k16
  refine ⟨PySem.W.fnOf "law" "law" (defArgs (top 19)) (defBody (top 19)) (defScope (top 19)) .none kV16 dc16 pm16 an16 cd16 ct16, spF C P 40 16, fun s v => .of_eq rfl, fun base _ _ => ?_, fun H a ns hl hs => sp_law hs (hm ns hl)⟩
  exact fng_succ (k := 39) rfl rfl hd hc hb her hm0 hm2 hfl hsb (fns_all rfl rfl hd hc hb her hm0 hm2 hfl hsb tab 39) F sc16 rfl rd16
end K24

open PySem PySem.W PyProof.Rows in
set_option maxRecDepth 100000 in
set_option maxHeartbeats 0 in
theorem PySem.Challenge.cw_limbwright_k24_gaps_and_rests_of_tests_holds : PySem.Challenge.rw_limbwright_k24_gaps_and_rests_of_tests.Holds := by
  w_on; o_law; k_head; (case hw => w_witness2)
  k_fill
  refine Mini.walk_all (l := PySem.Challenge.rw_limbwright_k24_gaps_and_rests_of_tests) (n := 63) (k := 40) (x := "script") rfl (by decide) rfl ⟨rfl, by decide, by decide⟩ (fun w h Y => PySem.W.kIn_of Y) ?F
  case F =>
    intro w mg fa h KX G hmg
    refine' K24.all_mk KX G hmg rfl K24.law_true ?a0 ?l0 ?c0 ?k0 ?a1 ?l1 ?c1 ?k1 ?a2 ?l2 ?c2 ?k2 ?a3 ?l3 ?c3 ?k3 ?a4 ?l4 ?c4 ?k4 ?a5 ?l5 ?c5 ?k5 ?a6 ?l6 ?c6 ?k6 ?a7 ?l7 ?c7 ?k7 ?a8 ?l8 ?c8 ?k8 ?a9 ?l9 ?c9 ?k9 ?a10 ?l10 ?c10 ?k10 ?a11 ?l11 ?c11 ?k11 ?a12 ?l12 ?c12 ?k12 ?a13 ?l13 ?c13 ?k13 ?a14 ?l14 ?c14 ?k14 ?a15 ?l15 ?c15 ?k15 ?a16 ?l16 ?c16 ?k16 ?z0 ?z1 ?z2 ?z3 ?z4 ?z5 ?z6 ?z7 ?z8 ?z9 ?z10
    (case a0 => k_is)
    (case l0 => k_is)
    (case c0 => k_is)
    (case k0 => k_is)
    (case a1 => k_is)
    (case l1 => k_is)
    (case c1 => k_is)
    (case k1 => k_is)
    (case a2 => k_is)
    (case l2 => k_is)
    (case c2 => k_is)
    (case k2 => k_is)
    (case a3 => k_is)
    (case l3 => k_is)
    (case c3 => k_is)
    (case k3 => k_is)
    (case a4 => k_is)
    (case l4 => k_is)
    (case c4 => k_is)
    (case k4 => k_is)
    (case a5 => k_is)
    (case l5 => k_is)
    (case c5 => k_is)
    (case k5 => k_is)
    (case a6 => k_is)
    (case l6 => k_is)
    (case c6 => k_is)
    (case k6 => k_is)
    (case a7 => k_is)
    (case l7 => k_is)
    (case c7 => k_is)
    (case k7 => k_is)
    (case a8 => k_is)
    (case l8 => k_is)
    (case c8 => k_is)
    (case k8 => k_is)
    (case a9 => k_is)
    (case l9 => k_is)
    (case c9 => k_is)
    (case k9 => k_is)
    (case a10 => k_is)
    (case l10 => k_is)
    (case c10 => k_is)
    (case k10 => k_is)
    (case a11 => k_is)
    (case l11 => k_is)
    (case c11 => k_is)
    (case k11 => k_is)
    (case a12 => k_is)
    (case l12 => k_is)
    (case c12 => k_is)
    (case k12 => k_is)
    (case a13 => k_is)
    (case l13 => k_is)
    (case c13 => k_is)
    (case k13 => k_is)
    (case a14 => k_is)
    (case l14 => k_is)
    (case c14 => k_is)
    (case k14 => k_is)
    (case a15 => k_is)
    (case l15 => k_is)
    (case c15 => k_is)
    (case k15 => k_is)
    (case a16 => k_is)
    (case l16 => k_is)
    (case c16 => k_is)
    (case k16 => k_is)
    (case z0 => k_is)
    (case z1 => k_is)
    (case z2 => k_is)
    (case z3 => k_is)
    (case z4 => k_is)
    (case z5 => k_is)
    (case z6 => k_is)
    (case z7 => k_is)
    (case z8 => k_is)
    (case z9 => k_is)
    (case z10 => k_is)

