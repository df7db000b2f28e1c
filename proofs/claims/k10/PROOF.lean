import PyProof.Rows.All
import Wide.All
import OpenK.AllK
import Wide.FinOn
import HandS.ForMost
import HandS.Wide
import HandS.TupAny
import HandS.Style
import HandS.Deep
import HandS.Zip
import HandS.ForExc
import HandS.TryMany
import HandS.ExcInit
import HandS.ExcField
import HandS.IsInst
import HandS.CallSlots
import HandS.TupMul
import PySem.Challenge.RW_limbwright_k10_forms_reckoned
set_option Elab.async false
set_option linter.all false
set_option maxRecDepth 100000
/-! Mini, part A: plain data, a small language, its evaluator. No machine in sight. -/
namespace Mini
open PySem
abbrev PD := PyData
/-- a value: plain data, a thing of the store, a def -/
inductive W where
  | d (x : PD) | ref (n : Nat) | fn (i : Nat)
/-- a thing of the store: a list, a dict, that may change -/
inductive Ob where
  | lst (xs : List PD) | dct (kvs : List (PD × PD))
abbrev Sto := List Ob
abbrev En := List (Option W)
inductive Rs (α : Type) where
  | ok (a : α) (s : Sto) | exc (c : Nat) (xs : List PD) (s : Sto) | stuck
def Rs.bind {α β : Type} (r : Rs α) (f : α → Sto → Rs β) : Rs β :=
  match r with
  | .ok a s => f a s
  | .exc c xs s => .exc c xs s
  | .stuck => .stuck
/-- an answer that may lack -/
def Rs.of {α : Type} (o : Option α) (s : Sto) : Rs α :=
  match o with
  | some a => .ok a s
  | none => .stuck
def LIM : Nat := 16777216
def view (s : Sto) : W → Option PD
  | .d x => some x
  | .ref n =>
    match s[n]? with
    | some (.lst xs) => some (.list xs)
    | some (.dct kvs) => some (.dict kvs)
    | none => none
  | .fn _ => none
inductive O2 where
  | add | sub | mul | fdiv | mod | pow
  deriving DecidableEq
def bin2 (o : O2) (x y : PD) : Option PD :=
  match o, x, y with
  | .add, .int i, .int j => some (.int (i + j))
  | .add, .str a, .str b => if a.length + b.length ≤ LIM then some (.str (a ++ b)) else none
  | .add, .list a, .list b => if a.length + b.length ≤ LIM then some (.list (a ++ b)) else none
  | .add, .tuple a, .tuple b => if a.length + b.length ≤ LIM then some (.tuple (a ++ b)) else none
  | .sub, .int i, .int j => some (.int (i - j))
  | .mul, .int i, .int j => if i.natAbs.log2 + j.natAbs.log2 < 1000000 then some (.int (i * j)) else none
  | .mul, .tuple a, .int k => if 0 ≤ k ∧ k ≤ 1000 ∧ a.length ≤ 1000 then some (.tuple (List.replicate k.toNat a).flatten) else none
  | .mul, .list a, .int k => if 0 ≤ k ∧ k ≤ 1000 ∧ a.length ≤ 1000 then some (.list (List.replicate k.toNat a).flatten) else none
  | .fdiv, .int i, .int j => if 0 < j ∧ j.natAbs.log2 < 9000 then some (.int (i / j)) else none
  | .mod, .int i, .int j => if j = 0 then none else some (.int (i.fmod j))
  | .pow, .int i, .int j => if 0 ≤ j ∧ j ≤ 1000000 ∧ i.natAbs < 2 ^ 64 then some (.int (i ^ j.toNat)) else none
  | _, _, _ => none
inductive Cm where
  | eq | ne | lt | le | gt | ge | is | isnot | mem | nmem
  deriving DecidableEq
def eqD (x y : PD) : Option Bool :=
  match x, y with
  | .int i, .int j => some (decide (i = j))
  | .str i, .str j => some (decide (i = j))
  | x, y => if SeqAt.shaped x && SeqAt.shaped y then some (PyData.eqv x y) else none
def memD (x y : PD) : Option Bool :=
  match y with
  | .list ys => if SeqAt.shaped x && SeqAt.shaped (.list ys) then some (ys.any fun z => PyData.eqv z x) else none
  | _ => none
def cmp2 (o : Cm) (x y : PD) : Option Bool :=
  match o with
  | .eq => eqD x y
  | .ne => (eqD x y).map (!·)
  | .lt => match x, y with | .int i, .int j => some (decide (i < j)) | _, _ => none
  | .le => match x, y with | .int i, .int j => some (decide (i ≤ j)) | _, _ => none
  | .gt => match x, y with | .int i, .int j => some (decide (j < i)) | _, _ => none
  | .ge => match x, y with | .int i, .int j => some (decide (j ≤ i)) | _, _ => none
  | .is => match x, y with | .bool a, .bool b => some (decide (a = b)) | .none, .none => some true | .bool _, .none | .int _, .none | .str _, .none | .list _, .none | .tuple _, .none => some false | _, _ => none
  | .isnot => match x, y with | .bool a, .bool b => some (!decide (a = b)) | .none, .none => some false | .bool _, .none | .int _, .none | .str _, .none | .list _, .none | .tuple _, .none => some true | _, _ => none
  | .mem => memD x y
  | .nmem => (memD x y).map (!·)
/-- the intsD of a list of intsD -/
def intsD : List PD → Option (List Int)
  | [] => some []
  | .int i :: r => (intsD r).map (i :: ·)
  | _ :: _ => none
def boolsD : List PD → Option (List Bool)
  | [] => some []
  | .bool i :: r => (boolsD r).map (i :: ·)
  | _ :: _ => none
def maxI : Int → List Int → Int
  | m, [] => m
  | m, x :: r => maxI (if x > m then x else m) r
def minI : Int → List Int → Int
  | m, [] => m
  | m, x :: r => minI (if x < m then x else m) r
inductive Bi where
  | len | abs | int | sum | all | any | tuple | list | max | min | repr
  deriving DecidableEq
def bi (b : Bi) (xs : List PD) : Option PD :=
  match b, xs with
  | .len, [.list l] => some (.int l.length)
  | .len, [.tuple l] => some (.int l.length)
  | .len, [.str z] => if z.length ≤ LIM then some (.int z.length) else none
  | .abs, [.int i] => some (.int (if i < 0 then -i else i))
  | .int, [.int i] => some (.int i)
  | .int, [.bool k] => some (.int (if k then 1 else 0))
  | .sum, [.list l] => (intsD l).map fun ns => .int ns.sum
  | .all, [.list l] => (boolsD l).map fun bs => .bool (bs.all id)
  | .any, [.list l] => (boolsD l).map fun bs => .bool (bs.any id)
  | .tuple, [.list l] => some (.tuple l)
  | .tuple, [.tuple l] => some (.tuple l)
  | .list, [.list l] => some (.list l)
  | .list, [.tuple l] => some (.list l)
  | .max, [.int i, .int j] => some (.int (if j > i then j else i))
  | .min, [.int i, .int j] => some (.int (if j < i then j else i))
  | .repr, [x] => if x.showable && SeqAt.shaped x && decide (x.shown.length ≤ LIM) then some (.str x.shown) else none
  | _, _ => none
/-- an item by its place, from behind if below 0 -/
def ixD (x i : PD) : Option PD :=
  match x, i with
  | .list l, .int i => L2.atI l i
  | .tuple l, .int i => L2.atI l i
  | _, _ => none
def cutL {α : Type} (xs : List α) (lo hi : Option Int) : List α := (xs.drop (HT.sIx xs.length 0 lo)).take (HT.sIx xs.length xs.length hi - HT.sIx xs.length 0 lo)
def slD (x : PD) (lo hi : Option Int) : Option PD :=
  match x with
  | .list l => some (.list (cutL l lo hi))
  | .tuple l => some (.tuple (cutL l lo hi))
  | _ => none
def revD (x : PD) : Option PD :=
  match x with
  | .list l => some (.list l.reverse)
  | .tuple l => some (.tuple l.reverse)
  | _ => none
inductive Ty where
  | int | bool | str | tuple | list
  deriving DecidableEq
def isD (t : Ty) (x : PD) : Option Bool :=
  match t, x with
  | .int, .int _ | .int, .bool _ | .bool, .bool _ | .str, .str _ | .tuple, .tuple _ | .list, .list _ => some true
  | _, .dict _ => none
  | _, _ => some false
/-- what a for walks -/
def itemsD : PD → Option (List PD)
  | .list l => some l
  | .tuple l => some l
  | _ => none
def rangeD (lo hi : Int) : Option (List PD) :=
  if -(2 ^ 62) ≤ lo ∧ lo < 2 ^ 62 ∧ -(2 ^ 62) ≤ hi ∧ hi < 2 ^ 62 then some ((List.range (hi - lo).toNat).map fun (i : Nat) => .int (lo + i)) else none
def zipD (x y : PD) : Option (List PD) :=
  match x, y with
  | .list a, .list b => some (List.zipWith (fun u v => .tuple [u, v]) a b)
  | .tuple a, .tuple b => some (List.zipWith (fun u v => .tuple [u, v]) a b)
  | _, _ => none
mutual
def sameD : PD → PD → Bool
  | .none, .none => true
  | .bool a, .bool b => a == b
  | .int a, .int b => a == b
  | .str a, .str b => a == b
  | .list a, .list b => sameL a b
  | .tuple a, .tuple b => sameL a b
  | _, _ => false
def sameL : List PD → List PD → Bool
  | [], [] => true
  | a :: r, b :: t => sameD a b && sameL r t
  | _, _ => false
end
/-- a walked list of the store stands as it did -/
def kept (g : List (Nat × List PD)) (s : Sto) : Bool :=
  g.all fun p => match s[p.1]? with | some (.lst xs) => sameL xs p.2 | _ => false
def guardOf (w : W) (s : Sto) : List (Nat × List PD) :=
  match w with
  | .ref n => match s[n]? with | some (.lst xs) => [(n, xs)] | _ => []
  | _ => []
/-- targets -/
inductive Tg where
  | nm (i : Nat) | tp (is : List Nat)
def putS (v : En) (i : Nat) (w : W) : Option En := if i < v.length then some (v.set i (some w)) else none
def putAll : List Nat → List PD → En → Option En
  | [], [], v => some v
  | i :: is, x :: xs, v => (putS v i (.d x)).bind fun v => putAll is xs v
  | _, _, _ => none
def putAllW : List Nat → List W → En → Option En
  | [], [], v => some v
  | i :: is, x :: xs, v => (putS v i x).bind fun v => putAllW is xs v
  | _, _, _ => none
def putT (t : Tg) (w : W) (s : Sto) (v : En) : Option En :=
  match t with
  | .nm i => putS v i w
  | .tp is => (view s w).bind fun x => match x with
    | .tuple xs => putAll is xs v
    | .list xs => putAll is xs v
    | _ => none
inductive Me where
  | append | extend | pop
  deriving DecidableEq
/-- a method of a thing of the store -/
def meth (m : Me) (n : Nat) (xs : List PD) (s : Sto) : Option (PD × Sto) :=
  match m, s[n]?, xs with
  | .append, some (.lst l), [x] => if l.length < LIM then some (.none, s.set n (.lst (l ++ [x]))) else none
  | .extend, some (.lst l), [.list x] => if l.length + x.length ≤ LIM then some (.none, s.set n (.lst (l ++ x))) else none
  | .pop, some (.lst l), [] => (l[l.length - 1]?).map fun x => (x, s.set n (.lst l.dropLast))
  | _, _, _ => none
/-- o[i] = x -/
def setD (n : Nat) (i x : PD) (s : Sto) : Option Sto :=
  match s[n]?, i with
  | some (.lst l), .int k => (L2.ixN l.length k).map fun j => s.set n (.lst (l.set j x))
  | _, _ => none
/-- o[i] of a thing of the store -/
def getA (o i : W) (s : Sto) : Option PD :=
  match o, view s i with
  | .ref n, some (.int k) => match s[n]? with
    | some (.lst l) => (L2.ixN l.length k).bind fun j => l[j]?
    | _ => none
  | _, _ => none
def setA (o i : W) (z : PD) (s : Sto) : Option Sto :=
  match o with
  | .ref n => (view s i).bind fun i => setD n i z s
  | _ => none
inductive E where
  | cst (d : PD) | var (i : Nat) | glob (i : Nat) | fn (i : Nat)
  | bin (o : O2) (a b : E) | neg (a : E) | not (a : E) | and (a b : E) | or (a b : E) | ife (c a b : E)
  | cmp (o : Cm) (a b : E) | chain (o o' : Cm) (a b c : E)
  | nil | cons (a b : E)
  | tup (es : E) | lst (es : E) | newl (es : E)
  | call (f : Nat) (es : E) | callv (i : Nat) (es : E) | bi (b : Bi) (es : E) | meth (m : Me) (o : E) (es : E)
  | ix (a b : E) | sl (a lo hi : E) | rev (a : E) | isi (a : E) (t : Ty)
  | rng (es : E) | zip (a b : E)
  | comp (new : Bool) (elt : E) (t : Tg) (it : E) (c : E) (own : List Nat)
  | fld (k : Nat)
/-- what the evaluator leans on: calls, constants of the module, the fields of the error at hand -/
structure Fe where
  call : Nat → List W → Sto → Rs W
  glob : Nat → Option PD
  cur : List PD
def viewR (w : W) (s : Sto) : Rs PD := .of (view s w) s
def datas (s : Sto) : List W → Option (List PD)
  | [] => some []
  | w :: r => (view s w).bind fun x => (datas s r).map (x :: ·)
def pures : List W → Option (List PD)
  | [] => some []
  | .d x :: r => (pures r).map (x :: ·)
  | _ :: _ => none
def asB : PD → Option Bool
  | .bool b => some b
  | _ => none
def asI : PD → Option Int
  | .int i => some i
  | _ => none
def compL (g : Sto → Bool) (f : PD → Sto → Rs (Option PD)) : List PD → Sto → Rs (List PD)
  | [], s => if g s then .ok [] s else .stuck
  | x :: r, s => if g s then
      match f x s with
      | .ok none s => compL g f r s
      | .ok (some y) s => (compL g f r s).bind fun ys s => if ys.length < LIM then .ok (y :: ys) s else .stuck
      | _ => .stuck
    else .stuck
def wipeE (v : En) : List Nat → En
  | [] => v
  | i :: is => (wipeE v is).set i none
/-- as a test -/
def tst (r : Rs W) : Rs Bool := r.bind fun x s => (viewR x s).bind fun x s => .of (asB x) s
/-- a slice's end -/
def endOf (e : E) (r : Sto → Rs W) (s : Sto) : Rs (Option Int) :=
  match e with
  | .nil => .ok none s
  | _ => (r s).bind fun x s => (viewR x s).bind fun x s => .of ((asI x).map some) s
/-- what is walked: its items, and the lists of the store that they come from -/
def walk (r : Rs W) : Rs (List PD × List (Nat × List PD)) := r.bind fun x s => .of ((view s x).bind fun p => (itemsD p).map fun l => (l, guardOf x s)) s
def bin2R (o : O2) (r : Rs W) (q : Sto → Rs W) : Rs W := r.bind fun x s => (q s).bind fun y s => .of ((view s x).bind fun x => (view s y).bind fun y => (bin2 o x y).map W.d) s
/-- what x op= y may be here (a list would change in its place) -/
def aug2 (o : O2) (x y : PD) : Option PD :=
  match o, x, y with
  | .add, .int i, .int j => some (.int (i + j))
  | .add, .str a, .str b => if a.length + b.length ≤ LIM then some (.str (a ++ b)) else none
  | .sub, .int i, .int j => some (.int (i - j))
  | _, _, _ => none
def augR (o : O2) (r : Rs W) (q : Sto → Rs W) : Rs W := r.bind fun x s => (q s).bind fun y s => .of ((view s x).bind fun x => (view s y).bind fun y => (aug2 o x y).map W.d) s
def cmpR (o : Cm) (r : Rs W) (q : Sto → Rs W) : Rs W := r.bind fun x s => (q s).bind fun y s => .of ((view s x).bind fun x => (view s y).bind fun y => (cmp2 o x y).map fun b => W.d (.bool b)) s
def ixR (r : Rs W) (q : Sto → Rs W) : Rs W := r.bind fun x s => (q s).bind fun y s => .of ((view s x).bind fun x => (view s y).bind fun y => (ixD x y).map W.d) s
def un1R (f : PD → Option PD) (r : Rs W) : Rs W := r.bind fun x s => .of ((view s x).bind fun x => (f x).map W.d) s
def negD : PD → Option PD
  | .int i => some (.int (-i))
  | _ => none
def chainR (o o' : Cm) (r : Rs W) (q t : Sto → Rs W) : Rs W := r.bind fun x s => (q s).bind fun y s => (Rs.of ((view s x).bind fun x => (view s y).bind fun y => cmp2 o x y) s).bind fun k s =>
  if k then (t s).bind fun z s => .of ((view s y).bind fun y => (view s z).bind fun z => (cmp2 o' y z).map fun b => W.d (.bool b)) s else .ok (.d (.bool false)) s
def mkR (f : List PD → PD) (r : Rs (List W)) : Rs W := r.bind fun ws s => .of ((pures ws).bind fun xs => if xs.length ≤ LIM then some (W.d (f xs)) else none) s
def newR (r : Rs (List W)) : Rs W := r.bind fun ws s => match pures ws with | some xs => if xs.length ≤ LIM then .ok (.ref s.length) (s ++ [.lst xs]) else .stuck | none => .stuck
def methArgs (m : Me) (ws : List W) (s : Sto) : Option (List PD) :=
  match m with
  | .append => pures ws
  | _ => datas s ws
def biR (b : Bi) (r : Rs (List W)) : Rs W := r.bind fun ws s => .of ((datas s ws).bind fun xs => (bi b xs).map W.d) s
def methR (m : Me) (r : Rs W) (q : Sto → Rs (List W)) : Rs W := r.bind fun w s => (q s).bind fun ws s => match w with
  | .ref n => match (methArgs m ws s).bind fun xs => meth m n xs s with | some (x, s) => .ok (.d x) s | none => .stuck
  | _ => .stuck
def slR (r : Rs W) (l h : Sto → Rs (Option Int)) : Rs W := r.bind fun x s => (l s).bind fun l s => (h s).bind fun h s => .of ((view s x).bind fun x => (slD x l h).map W.d) s
def rngR (r : Rs (List W)) : Rs W := r.bind fun ws s => .of ((datas s ws).bind fun xs => match xs with
  | [.int j] => (rangeD 0 j).map fun l => .d (.list l)
  | [.int i, .int j] => (rangeD i j).map fun l => .d (.list l)
  | _ => none) s
def zipR (r : Rs W) (q : Sto → Rs W) : Rs W := r.bind fun x s => (q s).bind fun y s => match x, y with
  | .d x, .d y => .of ((zipD x y).map fun l => W.d (.list l)) s
  | _, _ => .stuck
/-- one turn of a comprehension -/
def turnC (t : Tg) (v : En) (c elt : En → Sto → Rs W) (x : PD) (s : Sto) : Rs (Option PD) :=
  match putT t (.d x) s v with
  | some v' => (tst (c v' s)).bind fun b s => if b then (elt v' s).bind fun w s => match w with | .d y => .ok (some y) s | _ => .stuck else .ok none s
  | none => .stuck
def compR (new : Bool) (r : Rs (List PD × List (Nat × List PD))) (f : PD → Sto → Rs (Option PD)) : Rs W := r.bind fun p s => (compL (kept p.2) f p.1 s).bind fun ys s => if new then .ok (.ref s.length) (s ++ [.lst ys]) else .ok (.d (.list ys)) s
mutual
def evE (F : Fe) : E → En → Sto → Rs W
  | .cst d, _, s => .ok (.d d) s
  | .var i, v, s => match v[i]? with | some (some w) => .ok w s | _ => .stuck
  | .glob i, _, s => .of ((F.glob i).map W.d) s
  | .fn i, _, s => .ok (.fn i) s
  | .bin o a b, v, s => bin2R o (evE F a v s) (evE F b v)
  | .neg a, v, s => un1R negD (evE F a v s)
  | .not a, v, s => (tst (evE F a v s)).bind fun b s => .ok (.d (.bool (!b))) s
  | .and a b, v, s => (tst (evE F a v s)).bind fun x s => if x then evE F b v s else .ok (.d (.bool false)) s
  | .or a b, v, s => (tst (evE F a v s)).bind fun x s => if x then .ok (.d (.bool true)) s else evE F b v s
  | .ife c a b, v, s => (tst (evE F c v s)).bind fun x s => if x then evE F a v s else evE F b v s
  | .cmp o a b, v, s => cmpR o (evE F a v s) (evE F b v)
  | .chain o o' a b c, v, s => chainR o o' (evE F a v s) (evE F b v) (evE F c v)
  | .nil, _, _ => .stuck
  | .cons _ _, _, _ => .stuck
  | .tup es, v, s => mkR .tuple (evL F es v s)
  | .lst es, v, s => mkR .list (evL F es v s)
  | .newl es, v, s => newR (evL F es v s)
  | .call f es, v, s => (evL F es v s).bind fun ws s => F.call f ws s
  | .callv i es, v, s => match v[i]? with | some (some (.fn f)) => (evL F es v s).bind fun ws s => F.call f ws s | _ => .stuck
  | .bi b es, v, s => biR b (evL F es v s)
  | .meth m o es, v, s => methR m (evE F o v s) (evL F es v)
  | .ix a b, v, s => ixR (evE F a v s) (evE F b v)
  | .sl a lo hi, v, s => slR (evE F a v s) (endOf lo (evE F lo v)) (endOf hi (evE F hi v))
  | .rev a, v, s => un1R revD (evE F a v s)
  | .isi a t, v, s => un1R (fun x => (isD t x).map .bool) (evE F a v s)
  | .rng es, v, s => rngR (evL F es v s)
  | .zip a b, v, s => zipR (evE F a v s) (evE F b v)
  | .comp new elt t it c own, v, s => compR new (walk (evE F it v s)) (turnC t (wipeE v own) (evE F c) (evE F elt))
  | .fld k, _, s => .of ((F.cur[k]?).map W.d) s
def evL (F : Fe) : E → En → Sto → Rs (List W)
  | .nil, _, s => .ok [] s
  | .cons a b, v, s => (evE F a v s).bind fun x s => (evL F b v s).bind fun xs s => .ok (x :: xs) s
  | _, _, _ => .stuck
end
example (F : Fe) (a : E) (v : En) (s : Sto) : evE F (.neg a) v s = un1R negD (evE F a v s) := rfl

/-- statements -/
inductive S where
  | skip | seq (a b : S)
  | set (t : Tg) (e : E) | par (is : List Nat) (es : E) | aug (i : Nat) (o : O2) (e : E)
  | seti (o i e : E) | augi (o i : E) (q : O2) (e : E)
  | ex (e : E) | ret (e : E) | retn
  | ifs (c : E) (a b : S) | whl (c : E) (b : S) | for (t : Tg) (it : E) (b : S) | brk | cnt
  | raise (c : Nat) (es : E)
  | try (b h : S) | hnd (c : Nat) (b h : S)
inductive Out where
  | nx (v : En) (s : Sto) | ret (w : W) (s : Sto) | brk (v : En) (s : Sto) | cnt (v : En) (s : Sto) | exc (c : Nat) (xs : List PD) (v : En) (s : Sto) | stuck
def Rs.out {α : Type} (r : Rs α) (v : En) (f : α → Sto → Out) : Out :=
  match r with
  | .ok a s => f a s
  | .exc c xs s => .exc c xs v s
  | .stuck => .stuck
def Out.of (o : Option En) (s : Sto) : Out :=
  match o with
  | some v => .nx v s
  | none => .stuck
def Out.ofS (v : En) (o : Option Sto) : Out :=
  match o with
  | some s => .nx v s
  | none => .stuck
def Out.andThen (o : Out) (f : En → Sto → Out) : Out :=
  match o with
  | .nx v s => f v s
  | o => o
def forL (g : Sto → Bool) (f : PD → En → Sto → Out) : List PD → En → Sto → Out
  | [], v, s => if g s then .nx v s else .stuck
  | x :: r, v, s => if g s then
      match f x v s with
      | .nx v s => forL g f r v s
      | .cnt v s => forL g f r v s
      | .brk v s => .nx v s
      | o => o
    else .stuck
/-- one turn of a for -/
def turnS (t : Tg) (b : En → Sto → Out) (x : PD) (v : En) (s : Sto) : Out :=
  match putT t (.d x) s v with
  | some v => b v s
  | none => .stuck
def whlL (c : En → Sto → Rs Bool) (f : En → Sto → Out) : Nat → En → Sto → Out
  | 0, _, _ => .stuck
  | n + 1, v, s => (c v s).out v fun b s => if b then
      match f v s with
      | .nx v s => whlL c f n v s
      | .cnt v s => whlL c f n v s
      | .brk v s => .nx v s
      | o => o
    else .nx v s
/-- how often a while may turn -/
def TURNS : Nat := 1000000000000
/-- what statements lean on besides: is one class of errors below another -/
structure Fs where
  fe : Fe
  sub : Nat → Nat → Bool
mutual
def evS (F : Fs) : S → En → Sto → Out
  | .skip, v, s => .nx v s
  | .seq a b, v, s => (evS F a v s).andThen (evS F b)
  | .set t e, v, s => (evE F.fe e v s).out v fun w s => .of (putT t w s v) s
  | .par is es, v, s => (evL F.fe es v s).out v fun ws s => .of (putAllW is ws v) s
  | .aug i o e, v, s => match v[i]? with
    | some (some x) => (augR o (.ok x s) (evE F.fe e v)).out v fun w s => .of (putS v i w) s
    | _ => .stuck
  | .seti o i e, v, s => (evE F.fe e v s).out v fun x s => (evE F.fe o v s).out v fun o s => (evE F.fe i v s).out v fun i s => match o, x with
    | .ref n, .d x => .ofS v ((view s i).bind fun i => setD n i x s)
    | _, _ => .stuck
  | .augi o i q e, v, s => (evE F.fe o v s).out v fun o s => (evE F.fe i v s).out v fun i s => (Rs.of (getA o i s) s).out v fun x s => (evE F.fe e v s).out v fun y s => (Rs.of ((view s y).bind (aug2 q x)) s).out v fun z s => .ofS v (setA o i z s)
  | .ex e, v, s => (evE F.fe e v s).out v fun _ s => .nx v s
  | .ret e, v, s => (evE F.fe e v s).out v fun w s => .ret w s
  | .retn, _, s => .ret (.d .none) s
  | .ifs c a b, v, s => (tst (evE F.fe c v s)).out v fun k s => if k then evS F a v s else evS F b v s
  | .whl c b, v, s => whlL (fun v s => tst (evE F.fe c v s)) (evS F b) TURNS v s
  | .for t it b, v, s => (walk (evE F.fe it v s)).out v fun p s => forL (kept p.2) (turnS t (evS F b)) p.1 v s
  | .brk, v, s => .brk v s
  | .cnt, v, s => .cnt v s
  | .raise c es, v, s => (evL F.fe es v s).out v fun ws s => match pures ws with | some xs => .exc c xs v s | none => .stuck
  | .try b h, v, s => match evS F b v s with
    | .exc c xs v s => evH F c xs h v s
    | o => o
  | .hnd _ _ _, _, _ => .stuck
/-- the clauses of a try -/
def evH (F : Fs) (c : Nat) (xs : List PD) : S → En → Sto → Out
  | .hnd k b h, v, s => if F.sub c k then evS { F with fe := { F.fe with cur := xs } } b v s else evH F c xs h v s
  | .skip, v, s => .exc c xs v s
  | _, _, _ => .stuck
end
/-- a def: how many parameters, how many names, its body -/
structure Fn where
  np : Nat
  nn : Nat
  body : S
structure Pg where
  fns : List Fn
  gls : List PD
  sub : Nat → Nat → Bool
/-- the store as the def's caller sees it -/
def back (n : Nat) (w : W) (s : Sto) : Rs W :=
  match w with
  | .ref m => if m < n then .ok w (s.take n) else .ok w s
  | _ => .ok w (s.take n)
def startE (f : Fn) (ws : List W) : En := ws.map some ++ List.replicate (f.nn - f.np) none
def runF (P : Pg) : Nat → Nat → List W → Sto → Rs W
  | 0, _, _, _ => .stuck
  | k + 1, f, ws, s =>
    match P.fns[f]? with
    | none => .stuck
    | some fn => if ws.length = fn.np then
        match evS ⟨⟨runF P k, fun i => P.gls[i]?, []⟩, P.sub⟩ fn.body (startE fn ws) s with
        | .ret w s' => back s.length w s'
        | .nx _ s' => back s.length (.d .none) s'
        | .exc c xs _ s' => .exc c xs (s'.take s.length)
        | _ => .stuck
      else .stuck
end Mini

set_option Elab.async false
set_option linter.all false
set_option maxRecDepth 100000
set_option maxHeartbeats 2000000
/-! Mini, part B: plain data beside the tracked heap; what an answer of the evaluator promises. -/
namespace Mini
open PySem PySem.Spec PyProof.Rows L2
/-- what stands fast through a law -/
structure Cn where
  k : Nat
  K : PySem.W.Frag
  fa : Nat → Option Addr
  cls : Nat → Option (Addr × List Str)
def KL (K : PySem.W.Frag) (a : Addr) (xs : List V) : Prop :=
  ∃ (o : Obj) (its : Array Value) (n : Nat), K.lookup a = some o ∧ o.cls = .type "list" ∧ o.dict = none ∧ o.data = .seq its n ∧ its.size ≤ sizeLine ∧ Vals xs its.toList
def KT (K : PySem.W.Frag) (a : Addr) (xs : List V) : Prop :=
  ∃ (o : Obj) (its : Array Value) (n : Nat), K.lookup a = some o ∧ o.cls = .type "tuple" ∧ o.data = .seq its n ∧ its.size ≤ sizeLine ∧ Vals xs its.toList
section
variable (K : PySem.W.Frag) (H : Hp) (ms : List Addr)
mutual
/-- plain data; none of its lists is among ms -/
def Rep : PD → V → Prop
  | .none, v => v = .non
  | .bool b, v => v = .bl b
  | .int i, v => v = .int i
  | .str x, v => v = .str x
  | .list ds, v => ∃ a xs, v = .ref a ∧ ((a ∉ ms ∧ Rd H a (.lst xs)) ∨ KL K a xs) ∧ RepL ds xs
  | .tuple ds, v => ∃ a xs, v = .ref a ∧ ((a ∉ ms ∧ Rd H a (.tup xs)) ∨ KT K a xs) ∧ RepL ds xs
  | .dict _, _ => False
def RepL : List PD → List V → Prop
  | [], vs => vs = []
  | d :: ds, vs => ∃ v r, vs = v :: r ∧ Rep d v ∧ RepL ds r
end
end
/-- what is not among ms stays, and does not come among ms' -/
structure Sub (H : Hp) (ms : List Addr) (H' : Hp) (ms' : List Addr) : Prop where
  old : ∀ a o, a ∉ ms → H a = some o → H' a = some o ∧ a ∉ ms'
/-- the heap goes on: what is not among ms stays, nor do its first k change, what comes to ms is new -/
structure Ext (k : Nat) (H : Hp) (ms : List Addr) (H' : Hp) (ms' : List Addr) : Prop where
  old : ∀ a o, a ∉ ms → H a = some o → H' a = some o
  more : ∃ new, ms' = ms ++ new ∧ ∀ a ∈ new, a ∉ ms ∧ H a = none
  keep : ∀ (i : Nat) a o, i < k → ms[i]? = some a → H a = some o → H' a = some o
section
variable {K : PySem.W.Frag} {H H' H'' : Hp} {ms ms' ms'' : List Addr} {k : Nat}
theorem Ext.refl : Ext k H ms H ms := ⟨fun _ _ _ e => e, ⟨[], by simp, by simp⟩, fun _ _ _ _ _ e => e⟩
theorem Ext.notin (x : Ext k H ms H' ms') {a : Addr} {o : HO} (h : a ∉ ms) (e : H a = some o) : a ∉ ms' := by
  obtain ⟨new, rfl, hn⟩ := x.more
  intro q
  rcases List.mem_append.mp q with q | q
  · exact h q
  · rw [(hn a q).2] at e; cases e
theorem Ext.sub (x : Ext k H ms H' ms') : Sub H ms H' ms' := ⟨fun a o h e => ⟨x.old a o h e, x.notin h e⟩⟩
theorem Ext.get (x : Ext k H ms H' ms') {n : Nat} {a : Addr} (h : ms[n]? = some a) : ms'[n]? = some a := by
  obtain ⟨new, rfl, _⟩ := x.more
  rw [List.getElem?_append_left (List.getElem?_eq_some_iff.mp h).1]; exact h
theorem more_trans {new new' : List Addr} (h : ∀ a ∈ new, a ∉ ms ∧ H a = none) (ho : ∀ a o, a ∉ ms → H a = some o → H' a = some o) (h' : ∀ a ∈ new', a ∉ ms ++ new ∧ H' a = none) : ∀ a ∈ new ++ new', a ∉ ms ∧ H a = none := fun a ha => by
  rcases List.mem_append.mp ha with q | q
  · exact h a q
  · have h1 := h' a q
    have hm : a ∉ ms := fun z => h1.1 (List.mem_append_left _ z)
    refine ⟨hm, ?_⟩
    cases e : H a with
    | none => rfl
    | some o =>
      have := ho a o hm e
      rw [h1.2] at this; cases this
theorem Ext.trans (x : Ext k H ms H' ms') (y : Ext k H' ms' H'' ms'') : Ext k H ms H'' ms'' := by
  refine ⟨fun a o h e => y.old a o (x.notin h e) (x.old a o h e), ?_, fun i a o hi ha e => y.keep i a o hi (x.get ha) (x.keep i a o hi ha e)⟩
  obtain ⟨new, rfl, hn⟩ := x.more
  obtain ⟨new', rfl, hn'⟩ := y.more
  exact ⟨new ++ new', by rw [List.append_assoc], more_trans hn x.old hn'⟩
theorem Sub.rd (x : Sub H ms H' ms') {a : Addr} {u : HO} (h : a ∉ ms) (r : Rd H a u) : Rd H' a u ∧ a ∉ ms' := by
  rcases r with r | ⟨o, r⟩
  · have z := x.old a _ h r
    exact ⟨.inl z.1, z.2⟩
  · have z := x.old a _ h r
    exact ⟨.inr ⟨o, z.1⟩, z.2⟩
theorem Ext.rd (x : Ext k H ms H' ms') {a : Addr} {u : HO} (h : a ∉ ms) (r : Rd H a u) : Rd H' a u ∧ a ∉ ms' := x.sub.rd h r
/-- the callee's own things forgotten -/
theorem Ext.cut (x : Ext k H ms H' ms') : Ext k H ms H' ms := ⟨x.old, ⟨[], by simp, by simp⟩, x.keep⟩
mutual
theorem Rep.monoS (x : Sub H ms H' ms') : ∀ (d : PD) (v : V), Rep K H ms d v → Rep K H' ms' d v
  | .none, _, h => h
  | .bool _, _, h => h
  | .int _, _, h => h
  | .str _, _, h => h
  | .list ds, _, h => by
    obtain ⟨a, xs, e, h1, h2⟩ := h
    exact ⟨a, xs, e, h1.imp (fun q => let z := x.rd q.1 q.2; ⟨z.2, z.1⟩) (fun q => q), RepL.monoS x ds xs h2⟩
  | .tuple ds, _, h => by
    obtain ⟨a, xs, e, h1, h2⟩ := h
    exact ⟨a, xs, e, h1.imp (fun q => let z := x.rd q.1 q.2; ⟨z.2, z.1⟩) (fun q => q), RepL.monoS x ds xs h2⟩
  | .dict _, _, h => h
theorem RepL.monoS (x : Sub H ms H' ms') : ∀ (ds : List PD) (vs : List V), RepL K H ms ds vs → RepL K H' ms' ds vs
  | [], _, h => h
  | d :: ds, _, h => by
    obtain ⟨v, r, e, h1, h2⟩ := h
    exact ⟨v, r, e, Rep.monoS x d v h1, RepL.monoS x ds r h2⟩
end
theorem Rep.mono (x : Ext k H ms H' ms') (d : PD) (v : V) (h : Rep K H ms d v) : Rep K H' ms' d v := Rep.monoS x.sub d v h
theorem RepL.mono (x : Ext k H ms H' ms') (ds : List PD) (vs : List V) (h : RepL K H ms ds vs) : RepL K H' ms' ds vs := RepL.monoS x.sub ds vs h
theorem RepL.length : ∀ {ds : List PD} {vs : List V}, RepL K H ms ds vs → vs.length = ds.length
  | [], _, h => by rw [show _ = [] from h]; rfl
  | d :: ds, _, h => by
    obtain ⟨v, r, rfl, _, h2⟩ := h
    rw [List.length_cons, List.length_cons, RepL.length h2]
theorem RepL.get : ∀ {ds : List PD} {vs : List V} {i : Nat} {d : PD}, RepL K H ms ds vs → ds[i]? = some d → ∃ v, vs[i]? = some v ∧ Rep K H ms d v
  | [], _, _, _, _, e => by simp at e
  | d :: ds, _, 0, _, h, e => by
    obtain ⟨v, r, rfl, h1, h2⟩ := h
    simp only [List.getElem?_cons_zero, Option.some.injEq] at e
    subst e
    exact ⟨v, rfl, h1⟩
  | d :: ds, _, i + 1, _, h, e => by
    obtain ⟨v, r, rfl, h1, h2⟩ := h
    exact RepL.get (i := i) h2 (by simpa using e)
theorem RepL.append : ∀ {ds es : List PD} {vs us : List V}, RepL K H ms ds vs → RepL K H ms es us → RepL K H ms (ds ++ es) (vs ++ us)
  | [], _, _, _, h, h' => by rw [show _ = [] from h]; exact h'
  | d :: ds, _, _, _, h, h' => by
    obtain ⟨v, r, rfl, h1, h2⟩ := h
    exact ⟨v, r ++ _, rfl, h1, RepL.append h2 h'⟩
theorem RepL.one {d : PD} {v : V} (h : Rep K H ms d v) : RepL K H ms [d] [v] := ⟨v, [], rfl, h, rfl⟩
theorem RepL.take : ∀ {ds : List PD} {vs : List V} (n : Nat), RepL K H ms ds vs → RepL K H ms (ds.take n) (vs.take n)
  | _, _, 0, _ => rfl
  | [], _, n + 1, h => by rw [show _ = [] from h]; rfl
  | d :: ds, _, n + 1, h => by
    obtain ⟨v, r, rfl, h1, h2⟩ := h
    exact ⟨v, r.take n, rfl, h1, RepL.take n h2⟩
theorem RepL.drop : ∀ {ds : List PD} {vs : List V} (n : Nat), RepL K H ms ds vs → RepL K H ms (ds.drop n) (vs.drop n)
  | _, _, 0, h => h
  | [], _, n + 1, h => by rw [show _ = [] from h]; rfl
  | d :: ds, _, n + 1, h => by
    obtain ⟨v, r, rfl, h1, h2⟩ := h
    exact RepL.drop n h2
theorem RepL.reverse {ds : List PD} {vs : List V} (h : RepL K H ms ds vs) : RepL K H ms ds.reverse vs.reverse := by
  induction ds generalizing vs with
  | nil => rw [show vs = [] from h]; rfl
  | cons d ds ih =>
    obtain ⟨v, r, rfl, h1, h2⟩ := h
    rw [List.reverse_cons, List.reverse_cons]
    exact RepL.append (ih h2) (RepL.one h1)
theorem RepL.set : ∀ {ds : List PD} {vs : List V} {d : PD} {v : V} (n : Nat), Rep K H ms d v → RepL K H ms ds vs → RepL K H ms (ds.set n d) (vs.set n v)
  | [], _, _, _, _, _, h => by rw [show _ = [] from h]; rfl
  | d :: ds, _, _, _, 0, q, h => by
    obtain ⟨v, r, rfl, h1, h2⟩ := h
    exact ⟨_, r, rfl, q, h2⟩
  | d :: ds, _, _, _, n + 1, q, h => by
    obtain ⟨v, r, rfl, h1, h2⟩ := h
    exact ⟨v, _, rfl, h1, RepL.set n q h2⟩
theorem RepL.dropLast {ds : List PD} {vs : List V} (h : RepL K H ms ds vs) : RepL K H ms ds.dropLast vs.dropLast := by
  rw [List.dropLast_eq_take, List.dropLast_eq_take, h.length]
  exact h.take _
theorem RepL.rep {ds : List PD} {vs : List V} (h : RepL K H ms ds vs) : ∀ k : Nat, RepL K H ms (List.replicate k ds).flatten (List.replicate k vs).flatten
  | 0 => rfl
  | k + 1 => by
    rw [List.replicate_succ, List.replicate_succ, List.flatten_cons, List.flatten_cons]
    exact h.append (RepL.rep h k)
/-- read as it stands now: plain data, or the contents of a list of the store -/
def Now (K : PySem.W.Frag) (H : Hp) (ms : List Addr) (d : PD) (v : V) : Prop :=
  Rep K H ms d v ∨ ∃ a xs ds, d = .list ds ∧ v = .ref a ∧ H a = some (.lst xs) ∧ RepL K H ms ds xs
theorem Now.list {ds : List PD} {v : V} (h : Now K H ms (.list ds) v) : ∃ a xs, v = .ref a ∧ SqL K H a xs ∧ RepL K H ms ds xs := by
  rcases h with ⟨a, xs, e, h1, h2⟩ | ⟨a, xs, ds', e1, e2, h1, h2⟩
  · exact ⟨a, xs, e, h1.elim (fun q => .inl q.2) .inr, h2⟩
  · cases e1
    exact ⟨a, xs, e2, .inl (.inl h1), h2⟩
theorem Now.tuple {ds : List PD} {v : V} (h : Now K H ms (.tuple ds) v) : ∃ a xs, v = .ref a ∧ SqT K H a xs ∧ RepL K H ms ds xs := by
  rcases h with ⟨a, xs, e, h1, h2⟩ | ⟨a, xs, ds', e1, e2, h1, h2⟩
  · exact ⟨a, xs, e, h1.elim (fun q => .inl q.2) .inr, h2⟩
  · cases e1
theorem Now.tupleR {ds : List PD} {v : V} (h : Now K H ms (.tuple ds) v) : Rep K H ms (.tuple ds) v := by
  rcases h with h | ⟨a, xs, ds', e1, e2, h1, h2⟩
  · exact h
  · cases e1
theorem Now.int {i : Int} {v : V} (h : Now K H ms (.int i) v) : v = .int i := by
  rcases h with h | ⟨a, xs, ds', e1, e2, h1, h2⟩
  · exact h
  · cases e1
theorem Now.bool {i : Bool} {v : V} (h : Now K H ms (.bool i) v) : v = .bl i := by
  rcases h with h | ⟨a, xs, ds', e1, e2, h1, h2⟩
  · exact h
  · cases e1
theorem Now.str {i : Str} {v : V} (h : Now K H ms (.str i) v) : v = .str i := by
  rcases h with h | ⟨a, xs, ds', e1, e2, h1, h2⟩
  · exact h
  · cases e1
theorem Now.none {v : V} (h : Now K H ms .none v) : v = .non := by
  rcases h with h | ⟨a, xs, ds', e1, e2, h1, h2⟩
  · exact h
  · cases e1
theorem Now.dict {l} {v : V} (h : Now K H ms (.dict l) v) : False := by
  rcases h with h | ⟨a, xs, ds', e1, e2, h1, h2⟩
  · exact h
  · cases e1
/-- in the layer's own words -/
theorem SqL_of {a : Addr} {xs : List V} (h : (a ∉ ms ∧ Rd H a (.lst xs)) ∨ KL K a xs) : SqL K H a xs := h.elim (fun q => .inl q.2) .inr
theorem SqT_of {a : Addr} {xs : List V} (h : (a ∉ ms ∧ Rd H a (.tup xs)) ∨ KT K a xs) : SqT K H a xs := h.elim (fun q => .inl q.2) .inr
mutual
theorem Rep.dp : ∀ (d : PD) (v : V), Rep K H ms d v → Dp K H v d
  | .none, _, h => by rw [show _ = V.non from h]; exact .non
  | .bool b, _, h => by rw [show _ = V.bl b from h]; exact .bl b
  | .int i, _, h => by rw [show _ = V.int i from h]; exact .int i
  | .str x, _, h => by rw [show _ = V.str x from h]; exact .str x
  | .list ds, _, h => by
    obtain ⟨a, xs, rfl, h1, h2⟩ := h
    exact .lst (SqL_of h1) (RepL.dp ds xs h2)
  | .tuple ds, _, h => by
    obtain ⟨a, xs, rfl, h1, h2⟩ := h
    exact .tup (SqT_of h1) (RepL.dp ds xs h2)
  | .dict _, _, h => h.elim
theorem RepL.dp : ∀ (ds : List PD) (vs : List V), RepL K H ms ds vs → DpAll K H vs ds
  | [], _, h => by rw [show _ = [] from h]; exact .nil
  | d :: ds, _, h => by
    obtain ⟨v, r, rfl, h1, h2⟩ := h
    exact .cons (Rep.dp d v h1) (RepL.dp ds r h2)
end
theorem Now.dp {d : PD} {v : V} (h : Now K H ms d v) : Dp K H v d := by
  rcases h with h | ⟨a, xs, ds', rfl, rfl, h1, h2⟩
  · exact Rep.dp d v h
  · exact .lst (SqL.of h1) (RepL.dp _ _ h2)
end
/-! ### the store, the names -/
def ObRep (K : PySem.W.Frag) (H : Hp) (ms : List Addr) (a : Addr) : Ob → Prop
  | .lst xs => ∃ vs, H a = some (.lst vs) ∧ RepL K H ms xs vs
  | .dct _ => False
/-- the first C.k of ms are lists that are under way, the others are the store's -/
structure StRep (C : Cn) (H : Hp) (ms : List Addr) (st : Sto) : Prop where
  len : ms.length = C.k + st.length
  nd : ms.Nodup
  ob : ∀ (n : Nat) a o, ms[C.k + n]? = some a → st[n]? = some o → ObRep C.K H ms a o
  there : ∀ a ∈ ms, ∃ o, H a = some o
def WRep (C : Cn) (H : Hp) (ms : List Addr) (w : W) (v : V) : Prop :=
  match w with
  | .d x => Rep C.K H ms x v
  | .ref n => ∃ a, ms[C.k + n]? = some a ∧ v = .ref a
  | .fn i => ∃ f, C.fa i = some f ∧ v = .ref f
structure EnRep (C : Cn) (H : Hp) (ms : List Addr) (σ : L2.St) (env : En) : Prop where
  len : σ.length = env.length
  at_ : ∀ (i : Nat) w, env[i]? = some (some w) → ∃ v, σ[i]? = some (some v) ∧ WRep C H ms w v
/-- an error: its class, its dict with the fields -/
def ExRep (C : Cn) (H : Hp) (ms : List Addr) (c : Nat) (xs : List PD) (cls : Value) (d : Option Addr) : Prop :=
  ∃ Ca names, C.cls c = some (Ca, names) ∧ cls = .ref Ca ∧ names.length = xs.length ∧
    (names ≠ [] → ∃ dd fs, d = some dd ∧ dd ∉ ms ∧ H dd = some (.xd fs) ∧ ∀ (i : Nat) name x, names[i]? = some name → xs[i]? = some x → ∃ v, fs.lookup name = some v ∧ Rep C.K H ms x v)
section
variable {C : Cn} {H H' H'' : Hp} {ms ms' ms'' : List Addr} {st : Sto} {σ : L2.St} {env : En}
theorem WRep.mono (x : Ext C.k H ms H' ms') {w : W} {v : V} (h : WRep C H ms w v) : WRep C H' ms' w v := by
  cases w with
  | d y => exact Rep.mono x y v h
  | ref n => obtain ⟨a, e, q⟩ := h; exact ⟨a, x.get e, q⟩
  | fn i => exact h
theorem EnRep.mono (x : Ext C.k H ms H' ms') (h : EnRep C H ms σ env) : EnRep C H' ms' σ env := ⟨h.len, fun i w e => let ⟨v, a, b⟩ := h.at_ i w e; ⟨v, a, b.mono x⟩⟩
theorem ExRep.mono (x : Ext C.k H ms H' ms') {c : Nat} {xs : List PD} {cls : Value} {d : Option Addr} (h : ExRep C H ms c xs cls d) : ExRep C H' ms' c xs cls d := by
  obtain ⟨Ca, names, h1, h2, h3, h4⟩ := h
  refine ⟨Ca, names, h1, h2, h3, fun q => ?_⟩
  obtain ⟨dd, fs, a, b, c, r⟩ := h4 q
  refine ⟨dd, fs, a, x.notin b c, x.old dd _ b c, fun i name y e1 e2 => ?_⟩
  obtain ⟨v, z1, z2⟩ := r i name y e1 e2
  exact ⟨v, z1, Rep.mono x y v z2⟩
theorem StRep.free (h : StRep C H ms st) {p : Addr} (hp : H p = none) : p ∉ ms := fun z => by
  obtain ⟨o, e⟩ := h.there p z
  rw [hp] at e; cases e
/-- a new thing that is none of the store's -/
theorem Ext.new {k : Nat} {p : Addr} {o : HO} (hp : H p = none) : Ext k H ms (upd H p o) ms :=
  ⟨fun a u _ e => by rw [upd_ne (ne_of_none e hp)]; exact e, ⟨[], by simp, by simp⟩, fun i a u _ _ e => by rw [upd_ne (ne_of_none e hp)]; exact e⟩
theorem ObRep.mono (x : Ext C.k H ms H' ms') {a : Addr} {o : Ob} (e : ∀ u, H a = some u → H' a = some u) (h : ObRep C.K H ms a o) : ObRep C.K H' ms' a o := by
  cases o with
  | lst xs => obtain ⟨vs, h1, h2⟩ := h; exact ⟨vs, e _ h1, RepL.mono x _ _ h2⟩
  | dct _ => exact h
theorem StRep.new (h : StRep C H ms st) {p : Addr} {o : HO} (hp : H p = none) : StRep C (upd H p o) ms st :=
  ⟨h.len, h.nd, fun n a u e1 e2 => ObRep.mono (C := C) (Ext.new hp) (fun u e => by rw [upd_ne (ne_of_none e hp)]; exact e) (h.ob n a u e1 e2), fun a ha => by
    obtain ⟨o, e⟩ := h.there a ha
    exact ⟨o, by rw [upd_ne (ne_of_none e hp)]; exact e⟩⟩
/-- a new thing of the store -/
theorem Ext.newS {p : Addr} {o : HO} (h : StRep C H ms st) (hp : H p = none) : Ext C.k H ms (upd H p o) (ms ++ [p]) :=
  ⟨fun a u _ e => by rw [upd_ne (ne_of_none e hp)]; exact e, ⟨[p], rfl, fun a ha => by
    have : a = p := by simpa using ha
    subst this
    exact ⟨h.free hp, hp⟩⟩, fun i a u _ _ e => by rw [upd_ne (ne_of_none e hp)]; exact e⟩
theorem StRep.newS (h : StRep C H ms st) {p : Addr} {xs : List V} {ds : List PD} (hp : H p = none) (r : RepL C.K H ms ds xs) : StRep C (upd H p (.lst xs)) (ms ++ [p]) (st ++ [.lst ds]) := by
  have x : Ext C.k H ms (upd H p (.lst xs)) (ms ++ [p]) := Ext.newS h hp
  refine ⟨by simp [h.len]; omega, ?_, fun n a o e1 e2 => ?_, fun a ha => ?_⟩
  · rw [List.nodup_append]
    refine ⟨h.nd, by simp, fun a ha b hb => ?_⟩
    have : b = p := by simpa using hb
    subst this
    intro z; subst z
    exact h.free hp ha
  · have hlen := h.len
    by_cases hn : n < st.length
    · rw [List.getElem?_append_left (by omega)] at e1
      rw [List.getElem?_append_left hn] at e2
      exact ObRep.mono (C := C) x (fun u e => by rw [upd_ne (ne_of_none e hp)]; exact e) (h.ob n a o e1 e2)
    · have hl := (List.getElem?_eq_some_iff.mp e2).1
      have : n = st.length := by simp at hl; omega
      subst this
      rw [List.getElem?_append_right (by omega), ← hlen, Nat.sub_self] at e1
      rw [List.getElem?_append_right (Nat.le_refl _), Nat.sub_self] at e2
      simp at e1 e2
      subst e1; subst e2
      exact ⟨xs, upd_same, RepL.mono x _ _ r⟩
  · rcases List.mem_append.mp ha with z | z
    · obtain ⟨o, e⟩ := h.there a z
      exact ⟨o, by rw [upd_ne (ne_of_none e hp)]; exact e⟩
    · have : a = p := by simpa using z
      subst this
      exact ⟨_, upd_same⟩
/-- a thing of the store changed -/
theorem Ext.write {n : Nat} {a : Addr} {o : HO} (h : StRep C H ms st) (ha : ms[C.k + n]? = some a) : Ext C.k H ms (upd H a o) ms :=
  ⟨fun b u hb e => by rw [upd_ne (fun z => hb (by subst z; exact List.mem_of_getElem? ha))]; exact e, ⟨[], by simp, by simp⟩, fun i b u hi hb e => by
    rw [upd_ne (fun z => ?_)]
    · exact e
    · subst z
      obtain ⟨i1, q1⟩ := List.getElem?_eq_some_iff.mp hb
      obtain ⟨i2, q2⟩ := List.getElem?_eq_some_iff.mp ha
      have := (List.getElem_inj h.nd).mp (q1.trans q2.symm)
      omega⟩
theorem StRep.write (h : StRep C H ms st) {n : Nat} {a : Addr} {xs : List V} {ds : List PD} (ha : ms[C.k + n]? = some a) (r : RepL C.K H ms ds xs) : StRep C (upd H a (.lst xs)) ms (st.set n (.lst ds)) := by
  have x : Ext C.k H ms (upd H a (.lst xs)) ms := Ext.write h ha
  have hlen := h.len
  have hlt := (List.getElem?_eq_some_iff.mp ha).1
  refine ⟨by simp [h.len], h.nd, fun m b o e1 e2 => ?_, fun b hb => ?_⟩
  · by_cases hm : m = n
    · subst hm
      rw [ha] at e1; cases e1
      rw [List.getElem?_set_self (by omega)] at e2
      cases e2
      exact ⟨xs, upd_same, RepL.mono x _ _ r⟩
    · rw [List.getElem?_set_ne (Ne.symm hm)] at e2
      have hne : b ≠ a := fun z => by
        subst z
        obtain ⟨i1, q1⟩ := List.getElem?_eq_some_iff.mp e1
        obtain ⟨i2, q2⟩ := List.getElem?_eq_some_iff.mp ha
        have := (List.getElem_inj h.nd).mp (q1.trans q2.symm)
        omega
      exact ObRep.mono (C := C) x (fun u e => by rw [upd_ne hne]; exact e) (h.ob m b o e1 e2)
  · by_cases hb2 : b = a
    · subst hb2; exact ⟨_, upd_same⟩
    · obtain ⟨o, e⟩ := h.there b hb
      exact ⟨o, by rw [upd_ne hb2]; exact e⟩
/-- what a value is now -/
theorem WRep.now (h : StRep C H ms st) {w : W} {v : V} {d : PD} (r : WRep C H ms w v) (e : view st w = some d) : Now C.K H ms d v := by
  cases w with
  | d x => cases e; exact .inl r
  | fn i => cases e
  | ref n =>
    obtain ⟨a, ha, rfl⟩ := r
    simp only [view] at e
    cases q : st[n]? with
    | none => rw [q] at e; cases e
    | some o =>
      rw [q] at e
      have z := h.ob n a o ha q
      cases o with
      | lst xs =>
        cases e
        obtain ⟨vs, h1, h2⟩ := z
        exact .inr ⟨a, vs, xs, rfl, rfl, h1, h2⟩
      | dct _ => exact z.elim
theorem EnRep.put (h : EnRep C H ms σ env) {i : Nat} {w : W} {v : V} {env' : En} (r : WRep C H ms w v) (e : putS env i w = some env') : EnRep C H ms (σ.set i (some v)) env' := by
  unfold putS at e
  split at e
  · rename_i hi
    cases e
    refine ⟨by simp [h.len], fun j u e => ?_⟩
    by_cases hj : j = i
    · subst hj
      rw [List.getElem?_set_self hi] at e
      cases e
      exact ⟨v, List.getElem?_set_self (by rw [h.len]; exact hi), r⟩
    · rw [List.getElem?_set_ne (Ne.symm hj)] at e
      obtain ⟨z, z1, z2⟩ := h.at_ j u e
      exact ⟨z, by rw [List.getElem?_set_ne (Ne.symm hj)]; exact z1, z2⟩
  · cases e
theorem EnRep.wipe (h : EnRep C H ms σ env) : ∀ is : List Nat, EnRep C H ms (L2.wipe σ is) (wipeE env is)
  | [] => h
  | i :: is => by
    have ih := EnRep.wipe h is
    unfold L2.wipe wipeE
    refine ⟨by simp [ih.len], fun j u e => ?_⟩
    by_cases hj : j = i
    · subst hj
      by_cases hl : j < (wipeE env is).length
      · rw [List.getElem?_set_self hl] at e; cases e
      · rw [List.getElem?_eq_none (by simpa using hl)] at e; cases e
    · rw [List.getElem?_set_ne (Ne.symm hj)] at e
      obtain ⟨z, z1, z2⟩ := ih.at_ j u e
      exact ⟨z, by rw [List.getElem?_set_ne (Ne.symm hj)]; exact z1, z2⟩
end
/-! ### what an answer promises -/
section
variable {C : Cn} {W₀ : WX} {α β : Type} {H H' H'' : Hp} {ms ms' ms'' : List Addr} {σ : L2.St}
/-- Q of what is told, the wish W₀ of an error; an evaluator that is stuck promises nothing -/
def Post (C : Cn) (W₀ : WX) (σ : L2.St) (H : Hp) (ms : List Addr) (r : Rs α) (Q : α → Sto → Hp → List Addr → Prop) : Prop :=
  match r with
  | .ok a st => ∀ H' ms', Ext C.k H ms H' ms' → StRep C H' ms' st → Q a st H' ms'
  | .exc c xs st => ∀ cls d H' ms', Ext C.k H ms H' ms' → StRep C H' ms' st → ExRep C H' ms' c xs cls d → W₀ cls d σ H'
  | .stuck => False
theorem Post.mono {r : Rs α} {Q : α → Sto → Hp → List Addr → Prop} (x : Ext C.k H ms H' ms') (h : Post C W₀ σ H ms r Q) : Post C W₀ σ H' ms' r Q := by
  cases r with
  | ok a st => exact fun H2 ms2 x2 s2 => h H2 ms2 (x.trans x2) s2
  | exc c xs st => exact fun cls d H2 ms2 x2 s2 => h cls d H2 ms2 (x.trans x2) s2
  | stuck => exact h
theorem Post.imp {r : Rs α} {Q Q' : α → Sto → Hp → List Addr → Prop} (h : Post C W₀ σ H ms r Q) (k : ∀ a st H' ms', Ext C.k H ms H' ms' → StRep C H' ms' st → Q a st H' ms' → Q' a st H' ms') : Post C W₀ σ H ms r Q' := by
  cases r with
  | ok a st => exact fun H2 ms2 x2 s2 => k _ _ _ _ x2 s2 (h H2 ms2 x2 s2)
  | exc c xs st => exact h
  | stuck => exact h
theorem Post.bind {r : Rs α} {f : α → Sto → Rs β} {Q : β → Sto → Hp → List Addr → Prop} (h : Post C W₀ σ H ms (r.bind f) Q) : Post C W₀ σ H ms r fun a st H' ms' => Post C W₀ σ H' ms' (f a st) Q := by
  cases r with
  | ok a st =>
    have h : Post C W₀ σ H ms (f a st) Q := h
    exact fun H2 ms2 x2 s2 => h.mono x2
  | exc c xs st => exact h
  | stuck => exact h
theorem Post.of {o : Option α} {st : Sto} {Q : α → Sto → Hp → List Addr → Prop} (h : Post C W₀ σ H ms (Rs.of o st) Q) : ∃ a, o = some a ∧ ∀ H' ms', Ext C.k H ms H' ms' → StRep C H' ms' st → Q a st H' ms' := by
  cases o with
  | none => exact h.elim
  | some a => exact ⟨a, rfl, h⟩
end
end Mini

set_option Elab.async false
set_option linter.all false
set_option maxRecDepth 100000
set_option maxHeartbeats 2000000
/-! Mini, part C: the readings by the evaluator, expressions. -/
namespace Mini
open PySem PySem.Spec PyProof.Rows L2
theorem peW {X : Cx} {e : Expr} {t t' : TE} (h : PE X e t) (k : ∀ σ H Q, t' σ H Q → t σ H Q) : PE X e t' := ⟨fun pins s σ H Q I q => h.run pins s σ H Q I (k σ H Q q)⟩
theorem ptW {X : Cx} {e : Expr} {t t' : TT} (h : PT X e t) (k : ∀ σ H Q, t' σ H Q → t σ H Q) : PT X e t' := ⟨fun pins s σ H Q I q => h.run pins s σ H Q I (k σ H Q q)⟩
theorem pwW {X : Cx} {e : Expr} {t t' : TT} (h : PW X e t) (k : ∀ σ H Q, t' σ H Q → t σ H Q) : PW X e t' := ⟨fun wh pins s σ H Q I q => h.run wh pins s σ H Q I (k σ H Q q)⟩
theorem paW {X : Cx} {es : List Expr} {t t' : TA} (h : PA X es t) (k : ∀ σ H Q, t' σ H Q → t σ H Q) : PA X es t' := ⟨fun pos pins s σ H Q I q => h.run pos pins s σ H Q I (k σ H Q q)⟩
section
variable (C : Cn) (F : Fe) (W₀ : WX)
abbrev WReps (C : Cn) (H : Hp) (ms : List Addr) (ws : List W) (vs : List V) : Prop := Paired (WRep C H ms) ws vs
/-- the reading of a coded expression; of a test; of arguments -/
def rdE (c : E) : TE := fun σ H Q => ∃ env st ms, EnRep C H ms σ env ∧ StRep C H ms st ∧ Post C W₀ σ H ms (evE F c env st) fun w _ H' ms' => ∀ v, WRep C H' ms' w v → Q v H'
def rdB (c : E) : TT := fun σ H Q => ∃ env st ms, EnRep C H ms σ env ∧ StRep C H ms st ∧ Post C W₀ σ H ms (tst (evE F c env st)) fun b _ H' _ => Q b H'
def rdL (c : E) : TA := fun σ H Q => ∃ env st ms, EnRep C H ms σ env ∧ StRep C H ms st ∧ Post C W₀ σ H ms (evL F c env st) fun ws _ H' ms' => ∀ vs, WReps C H' ms' ws vs → Q vs H'
end
section
variable {C : Cn} {F : Fe} {W₀ : WX} {X : Cx} {β : Type} {σ : L2.St} {H : Hp} {ms : List Addr} {env : En} {st : Sto}
theorem rd_bind {c : E} {f : W → Sto → Rs β} {Q₀ : β → Sto → Hp → List Addr → Prop} {K : VK} (en : EnRep C H ms σ env) (sr : StRep C H ms st) (h : Post C W₀ σ H ms ((evE F c env st).bind f) Q₀)
    (k : ∀ v w st' H' ms', EnRep C H' ms' σ env → StRep C H' ms' st' → Ext C.k H ms H' ms' → WRep C H' ms' w v → Post C W₀ σ H' ms' (f w st') Q₀ → K v H') : rdE C F W₀ c σ H K :=
  ⟨env, st, ms, en, sr, h.bind.imp fun w st' H' ms' x s' q v r => k v w st' H' ms' (en.mono x) s' x r q⟩
theorem rdB_bind {c : E} {f : Bool → Sto → Rs β} {Q₀ : β → Sto → Hp → List Addr → Prop} {K : Bool → Hp → Prop} (en : EnRep C H ms σ env) (sr : StRep C H ms st) (h : Post C W₀ σ H ms ((tst (evE F c env st)).bind f) Q₀)
    (k : ∀ b st' H' ms', EnRep C H' ms' σ env → StRep C H' ms' st' → Ext C.k H ms H' ms' → Post C W₀ σ H' ms' (f b st') Q₀ → K b H') : rdB C F W₀ c σ H K :=
  ⟨env, st, ms, en, sr, h.bind.imp fun w st' H' ms' x s' q => k w st' H' ms' (en.mono x) s' x q⟩
theorem rdL_bind {c : E} {f : List W → Sto → Rs β} {Q₀ : β → Sto → Hp → List Addr → Prop} {K : List V → Hp → Prop} (en : EnRep C H ms σ env) (sr : StRep C H ms st) (h : Post C W₀ σ H ms ((evL F c env st).bind f) Q₀)
    (k : ∀ vs ws st' H' ms', EnRep C H' ms' σ env → StRep C H' ms' st' → Ext C.k H ms H' ms' → WReps C H' ms' ws vs → Post C W₀ σ H' ms' (f ws st') Q₀ → K vs H') : rdL C F W₀ c σ H K :=
  ⟨env, st, ms, en, sr, h.bind.imp fun w st' H' ms' x s' q v r => k v w st' H' ms' (en.mono x) s' x r q⟩
theorem WReps.mono {H' : Hp} {ms' : List Addr} (x : Ext C.k H ms H' ms') : ∀ {ws : List W} {vs : List V}, WReps C H ms ws vs → WReps C H' ms' ws vs
  | _, _, .nil => .nil
  | _, _, .cons r t => .cons (r.mono x) (WReps.mono x t)
/-- an answer that is told at once -/
theorem Post.ok {α : Type} {a : α} {Q : α → Sto → Hp → List Addr → Prop} (sr : StRep C H ms st) (h : Post C W₀ σ H ms (.ok a st) Q) : Q a st H ms := h H ms Ext.refl sr
theorem tst_bool {b : Bool} {Q : Bool → Sto → Hp → List Addr → Prop} (h : Post C W₀ σ H ms (tst (.ok (.d (.bool b)) st)) Q) : Post C W₀ σ H ms (.ok b st) Q := h
/-- a test by its value -/
theorem rdB_of {c : E} {K : Bool → Hp → Prop} (h : rdB C F W₀ c σ H K) : tB (rdE C F W₀ c) σ H K := by
  obtain ⟨env, st, ms, en, sr, h⟩ := h
  refine rd_bind en sr h fun v w st' H' ms' en' sr' x r q => ?_
  obtain ⟨d, e, q⟩ := q.bind.of
  have n := r.now sr' e
  obtain ⟨b, eb, q2⟩ := (q H' ms' Ext.refl sr').of
  have q3 := q2 H' ms' Ext.refl sr'
  clear q2 q
  cases d with
  | bool k =>
    cases eb
    exact ⟨_, n.bool, q3⟩
  | _ => cases eb
/-! ### names, constants -/
theorem se_int {i j pos} : PE X (.Constant (.int i) j pos) (rdE C F W₀ (.cst (.int i))) := peW pe_int fun σ H Q ⟨env, st, ms, en, sr, h⟩ => Post.ok sr h _ rfl
theorem se_bl {b j pos} : PE X (.Constant (.bool b) j pos) (rdE C F W₀ (.cst (.bool b))) := peW pe_bl fun σ H Q ⟨env, st, ms, en, sr, h⟩ => Post.ok sr h _ rfl
theorem se_non {j pos} : PE X (.Constant .none j pos) (rdE C F W₀ (.cst .none)) := peW pe_non fun σ H Q ⟨env, st, ms, en, sr, h⟩ => Post.ok sr h _ rfl
theorem se_str {x j pos} : PE X (.Constant (.str x) j pos) (rdE C F W₀ (.cst (.str x))) := peW pe_str fun σ H Q ⟨env, st, ms, en, sr, h⟩ => Post.ok sr h _ rfl
theorem se_var {i : Nat} {x : Str} {pos : Pos} (hN : X.N[i]? = some x) (hv : Vis X.env.scope x) (hd : (x == ("__debug__" : Str)) = false) (hcd : (x == ("__classdict__" : Str)) = false) : PE X (.Name x pos) (rdE C F W₀ (.var i)) :=
  peW (pe_var hN hv hd hcd) fun σ H Q ⟨env, st, ms, en, sr, h⟩ => by
    simp only [evE] at h
    split at h
    · rename_i w e
      obtain ⟨v, e1, r⟩ := en.at_ i w e
      exact ⟨v, e1, Post.ok sr h v r⟩
    · exact h.elim
theorem se_glob {i : Nat} {x : Str} {u : Value} {v : V} {d : PD} {pos : Pos} (hg : Gl X x) (hm : X.mg x = some u) (r : RelV v u) (hd : (x == ("__debug__" : Str)) = false) (e : F.glob i = some d) (hr : ∀ H ms, Rep C.K H ms d v) : PE X (.Name x pos) (rdE C F W₀ (.glob i)) :=
  peW (pe_glob hg hm r hd) fun σ H Q ⟨env, st, ms, en, sr, h⟩ => by
    simp only [evE, e] at h
    exact Post.ok sr h v (hr H ms)
theorem se_fn {i : Nat} {x : Str} {f : Addr} {pos : Pos} (hg : Gl X x) (hm : X.mg x = some (.ref f)) (hd : (x == ("__debug__" : Str)) = false) (e : C.fa i = some f) : PE X (.Name x pos) (rdE C F W₀ (.fn i)) :=
  peW (pe_glob (v := .ref f) hg hm rfl hd) fun σ H Q ⟨env, st, ms, en, sr, h⟩ => Post.ok sr h _ ⟨f, e, rfl⟩
/-! ### and, or, not, if -/
variable {a b c : Expr} {ca cb cc : E} {pos : Pos}
theorem st_of {e : Expr} {c : E} (h : PE X e (rdE C F W₀ c)) (he : ∀ whole, isTrue e X.env whole = (do let v ← whole; standAt e.pos; holding [v] (truthy v))) : PT X e (rdB C F W₀ c) := ptW (pt_val h he) fun σ H Q q => rdB_of q
theorem se_not (ha : PE X a (rdE C F W₀ ca)) : PE X (.UnaryOp .Not a pos) (rdE C F W₀ (.not ca)) := peW (pe_not ha) fun σ H Q ⟨env, st, ms, en, sr, h⟩ =>
  rdB_of (rdB_bind en sr h fun b st' H' ms' en' sr' x q => Post.ok sr' q _ rfl)
theorem st_not (ha : PT X a (rdB C F W₀ ca)) : PT X (.UnaryOp .Not a pos) (rdB C F W₀ (.not ca)) := ptW (pt_not ha) fun σ H Q ⟨env, st, ms, en, sr, h⟩ => by
  have e : tst (evE F (.not ca) env st) = (tst (evE F ca env st)).bind fun b s => .ok (!b) s := by
    simp only [evE]
    cases tst (evE F ca env st) <;> rfl
  rw [e] at h
  exact rdB_bind en sr h fun b st' H' ms' en' sr' x q => Post.ok sr' q
theorem tst_bind {α : Type} (r : Rs α) (f : α → Sto → Rs W) : tst (r.bind f) = r.bind fun a s => tst (f a s) := by cases r <;> rfl
theorem se_and {rest : List Expr} (ha : PE X a (rdE C F W₀ ca)) (hb : PE X (.BoolOp .And (b :: rest) pos) (rdE C F W₀ cb)) : PE X (.BoolOp .And (a :: b :: rest) pos) (rdE C F W₀ (.and ca cb)) := peW (pe_and ha hb) fun σ H Q ⟨env, st, ms, en, sr, h⟩ =>
  rdB_of (rdB_bind en sr h fun k st' H' ms' en' sr' x q => by
    cases k with
    | true => exact ⟨env, st', ms', en', sr', q⟩
    | false => exact Post.ok sr' q _ rfl)
theorem se_or {rest : List Expr} (ha : PE X a (rdE C F W₀ ca)) (hb : PE X (.BoolOp .Or (b :: rest) pos) (rdE C F W₀ cb)) : PE X (.BoolOp .Or (a :: b :: rest) pos) (rdE C F W₀ (.or ca cb)) := peW (pe_or ha hb) fun σ H Q ⟨env, st, ms, en, sr, h⟩ =>
  rdB_of (rdB_bind en sr h fun k st' H' ms' en' sr' x q => by
    cases k with
    | false => exact ⟨env, st', ms', en', sr', q⟩
    | true => exact Post.ok sr' q _ rfl)
theorem sw_and {rest : List Expr} (ha : PT X a (rdB C F W₀ ca)) (hb : PW X (.BoolOp .And (b :: rest) pos) (rdB C F W₀ cb)) : PW X (.BoolOp .And (a :: b :: rest) pos) (rdB C F W₀ (.and ca cb)) := pwW (pw_and ha hb) fun σ H Q ⟨env, st, ms, en, sr, h⟩ => by
  simp only [evE, tst_bind] at h
  exact rdB_bind en sr h fun k st' H' ms' en' sr' x q => by
    cases k with
    | true => exact ⟨env, st', ms', en', sr', q⟩
    | false => exact Post.ok sr' (tst_bool q)
theorem sw_or {rest : List Expr} (ha : PT X a (rdB C F W₀ ca)) (hb : PW X (.BoolOp .Or (b :: rest) pos) (rdB C F W₀ cb)) : PW X (.BoolOp .Or (a :: b :: rest) pos) (rdB C F W₀ (.or ca cb)) := pwW (pw_or ha hb) fun σ H Q ⟨env, st, ms, en, sr, h⟩ => by
  simp only [evE, tst_bind] at h
  exact rdB_bind en sr h fun k st' H' ms' en' sr' x q => by
    cases k with
    | false => exact ⟨env, st', ms', en', sr', q⟩
    | true => exact Post.ok sr' (tst_bool q)
theorem se_ife (hc : PT X c (rdB C F W₀ cc)) (ha : PE X a (rdE C F W₀ ca)) (hb : PE X b (rdE C F W₀ cb)) : PE X (.IfExp c a b pos) (rdE C F W₀ (.ife cc ca cb)) := peW (pe_ifExp hc ha hb) fun σ H Q ⟨env, st, ms, en, sr, h⟩ =>
  rdB_bind en sr h fun k st' H' ms' en' sr' x q => by
    cases k with
    | true => exact ⟨env, st', ms', en', sr', q⟩
    | false => exact ⟨env, st', ms', en', sr', q⟩
/-- a test of a conditional expression, by its value -/
theorem st_ife {cc : E} (hc : PT X c (rdB C F W₀ cc)) (ha : PT X a (rdB C F W₀ ca)) (hb : PT X b (rdB C F W₀ cb)) : PT X (.IfExp c a b pos) (rdB C F W₀ (.ife cc ca cb)) := by
  refine ⟨fun pins s σ H Q I ⟨env, st, ms, en, sr, h⟩ => ?_⟩
  simp only [evE, tst_bind] at h
  have q := rdB_bind (K := fun k H' => if k = true then rdB C F W₀ ca σ H' Q else rdB C F W₀ cb σ H' Q) en sr h fun k st' H' ms' en' sr' x q => by
    cases k with
    | true => exact ⟨env, st', ms', en', sr', q⟩
    | false => exact ⟨env, st', ms', en', sr', q⟩
  rw [PySem.isTrue]
  refine wpAny_bind (thn (hc.run pins s σ H _ I q) fun d s1 ⟨H1, I1, q1⟩ => ?_)
  cases d with
  | true => exact ha.run pins s1 σ H1 Q I1 q1
  | false => exact hb.run pins s1 σ H1 Q I1 q1
end
end Mini

set_option Elab.async false
set_option linter.all false
set_option maxRecDepth 100000
set_option maxHeartbeats 2000000
/-! Mini, part D: operators. -/
namespace Mini
open PySem PySem.Spec PyProof.Rows L2
/-! ### the operator * of a tuple, of a list, by any small number -/
section
variable {prog : Program} {w : World} {A : Around} {E : Value → Shared → Prop} {s : Shared}
theorem tmulOne (l : Addr) (items : Array Value) (n : Nat) (dd : Option Addr) (sl : Array (Option Value)) (x : Int) (u : Tok) (c0 : (decide (x < -(2 ^ 63)) || decide (x ≥ 2 ^ 63)) = false) (c1 : (items.isEmpty || x == 1) = true) :
    Meets (Builtin.«tuple.__mul__» ⟨[.ref l, .int x u], []⟩) (fun _ R s => s.heap.get? l = some { cls := .type "tuple", dict := dd, data := .seq items n, slots := sl } ∧ R (.ok (.ret (Value.ref l))) s) :=
  .of_wp fun prog w A R s h => by
    obtain ⟨hp, g, d, tk, os⟩ := s
    obtain ⟨hl, h⟩ := h
    have f1 := AutoSeq1.idx_int
    wp_walk using wpAny_loadPart' hl
    repeat (first
      | (refine wpAny_ite_false (decide_eq_false (by rw [c0]; exact Bool.false_ne_true)) ?_; wp_walk using wpAny_loadPart' hl)
      | (refine wpAny_ite_true (decide_eq_true c1) ?_; wp_walk using wpAny_loadPart' hl))
    exact ⟨_, rfl, h⟩
theorem tmulNil (l : Addr) (items : Array Value) (n : Nat) (dd : Option Addr) (sl : Array (Option Value)) (x : Int) (u : Tok) (c0 : (decide (x < -(2 ^ 63)) || decide (x ≥ 2 ^ 63)) = false) (c1 : (items.isEmpty || x == 1) = false) (c2 : (decide (x ≤ 0) || items.isEmpty) = true) :
    Meets (Builtin.«tuple.__mul__» ⟨[.ref l, .int x u], []⟩) (fun _ R s => s.heap.get? l = some { cls := .type "tuple", dict := dd, data := .seq items n, slots := sl } ∧
      R (.ok (.ret (Value.ref s.heap.objs.size))) { s with heap := s.heap.push { cls := Value.type "tuple", data := Data.seq #[] }, toks := s.toks }) :=
  .of_wp fun prog w A R s h => by
    obtain ⟨hp, g, d, tk, os⟩ := s
    obtain ⟨hl, h⟩ := h
    have f1 := AutoSeq1.idx_int
    wp_walk using wpAny_loadPart' hl
    repeat (first
      | (refine wpAny_ite_false (decide_eq_false (by rw [c0]; exact Bool.false_ne_true)) ?_; wp_walk using wpAny_loadPart' hl)
      | (refine wpAny_ite_false (decide_eq_false (by rw [c1]; exact Bool.false_ne_true)) ?_; wp_walk using wpAny_loadPart' hl)
      | (refine wpAny_ite_true (decide_eq_true c2) ?_; wp_walk using wpAny_loadPart' hl))
    exact ⟨_, rfl, h⟩
end
theorem lmulW (l : Addr) (items : Array Value) (n : Nat) (dd : Option Addr) (sl : Array (Option Value)) (x : Int) (u : Tok) (c0 : ¬(!Builtin.List.listFitsIndex x) = true) (c1 : ¬items.size * x.toNat > (2 ^ 63 - 1) / 8) (c2 : ¬Builtin.List.listTooLong (items.size * x.toNat) = true) :
    Meets (Builtin.«list.__mul__» ⟨[.ref l, .int x u], []⟩) (fun _ R s => s.heap.get? l = some { cls := .type "list", dict := dd, data := .seq items n, slots := sl } ∧
      R (.ok (.ret (Value.ref s.heap.objs.size))) { s with heap := s.heap.push { cls := Value.type "list", data := Data.seq (List.foldl (fun x1 x2 => x1 ++ x2) #[] (List.replicate (if items.isEmpty = true then 0 else x.toNat) items)) }, toks := s.toks }) :=
  .of_wp fun prog w A R s h => by
    obtain ⟨hp, g, d, tk, os⟩ := s
    obtain ⟨hl, h⟩ := h
    have hsz := PySem.AutoListH.joined_fits c2
    wp_walk using wpAny_loadPart' hl
    refine wpAny_ite_false (decide_eq_false (Nat.not_lt.mpr hsz)) ?_
    wp_walk using wpAny_loadPart' hl
    exact ⟨_, rfl, h⟩
theorem irmulL (a : Int) (t : Tok) (l : Addr) (items : Array Value) (n : Nat) (dd : Option Addr) (sl : Array (Option Value)) :
    Meets (Builtin.«int.__rmul__» ⟨[.int a t, .ref l], []⟩) (fun _ R s => s.heap.get? l = some { cls := .type "list", dict := dd, data := .seq items n, slots := sl } ∧ R (.ok (.ret Value.notImplemented)) s) :=
  .of_wp fun prog w A R s h => by
    obtain ⟨hp, g, d, tk, os⟩ := s
    obtain ⟨hl, h⟩ := h
    wp_walk using wpAny_loadPart' hl
    exact ⟨_, rfl, h⟩
/-! ### binary operators by plain data -/
/-- what an operator of two values promises, by plain data -/
def rBin (C : Cn) (f : PD → PD → Option PD) : R2 := fun x y H Q => ∃ ms st p q d, StRep C H ms st ∧ Now C.K H ms p x ∧ Now C.K H ms q y ∧ f p q = some d ∧ ∀ H', Ext C.k H ms H' ms → StRep C H' ms st → ∀ v, Rep C.K H' ms d v → Q v H'
section
variable {X : Cx} {C : Cn}
/-- a rule of the layer, weakened -/
theorem opW {f : Value → Value → Sem Value} {r r' : R2} (h : OpR X f r) (k : ∀ x y H Q, r' x y H Q → r x y H Q) : OpR X f r' := fun pins s σ H x y v u Q I rx ry q => h pins s σ H x y v u Q I rx ry (k x y H Q q)
theorem LIM_le {n : Nat} (h : n ≤ LIM) : n ≤ sizeLine := by rw [sizeLine_eq]; exact h
theorem LIM_lt {n : Nat} (h : n < LIM) : n < sizeLine := by rw [sizeLine_eq]; exact h
/-- a new tuple of plain data -/
theorem mkTup {H : Hp} {ms : List Addr} {st : Sto} {ds : List PD} {xs : List V} {Q : VK} (sr : StRep C H ms st) (r : RepL C.K H ms ds xs) (q : ∀ H', Ext C.k H ms H' ms → StRep C H' ms st → ∀ v, Rep C.K H' ms (.tuple ds) v → Q v H') :
    ∀ p, H p = none → Q (.ref p) (upd H p (.tup xs)) := fun p hp =>
  q _ (Ext.new hp) (sr.new hp) _ ⟨p, xs, rfl, .inl ⟨sr.free hp, .inl upd_same⟩, RepL.mono (Ext.new (k := 0) hp) _ _ r⟩
theorem mkLst {H : Hp} {ms : List Addr} {st : Sto} {ds : List PD} {xs : List V} {Q : VK} (sr : StRep C H ms st) (r : RepL C.K H ms ds xs) (q : ∀ H', Ext C.k H ms H' ms → StRep C H' ms st → ∀ v, Rep C.K H' ms (.list ds) v → Q v H') :
    ∀ p, H p = none → Q (.ref p) (upd H p (.lst xs)) := fun p hp =>
  q _ (Ext.new hp) (sr.new hp) _ ⟨p, xs, rfl, .inl ⟨sr.free hp, .inl upd_same⟩, RepL.mono (Ext.new (k := 0) hp) _ _ r⟩
/-- two ints, a condition on them, an int -/
def rI1 (Cd : Int → Int → Prop) (g : Int → Int → Int) : R2 := fun x y H Q => ∃ i j, x = .int i ∧ y = .int j ∧ Cd i j ∧ Q (.int (g i j)) H
/-- list + list, whatever lists -/
theorem op_catL : OpR X (binaryOp .Add) (fun x y H Q => ∃ l b xs zs, x = .ref l ∧ y = .ref b ∧ SqL X.K H l xs ∧ SqL X.K H b zs ∧ xs.length + zs.length ≤ sizeLine ∧ ∀ p, H p = none → Q (.ref p) (upd H p (.lst (xs ++ zs)))) := by
  intro pins s σ H x y v u Q I rx ry h
  obtain ⟨l, b, xs, zs, rfl, rfl, hH, hB, hz, q⟩ := h
  cases rx
  cases ry
  obtain ⟨its, r, p1, _⟩ := I.list hH
  obtain ⟨its2, r2, p2, _⟩ := I.list hB
  obtain ⟨⟨cls, dd, data, sl⟩, n, ho, hc, hdd, hd⟩ := id p1
  obtain ⟨⟨cls2, dd2, data2, sl2⟩, n2, ho2, hc2, hdd2, hd2⟩ := id p2
  simp only at hc hd hc2 hd2 hdd hdd2
  subst hc hd hc2 hd2 hdd hdd2
  refine concat_meets ⟨_, ho, rfl⟩ ⟨_, ho2, rfl⟩ noFill_list_add seq_list_add PySem.F.slot_list_add PySem.F.entry_list_add (PySem.F.args_list_add_2 _ _) (list_addW l b its.toArray its2.toArray n n2 _ _ sl sl2 (by rw [List.size_toArray, List.size_toArray, ← r.length, ← r2.length]; exact hz)) ⟨ho, ho2, ?_⟩
  have ea : its.toArray ++ its2.toArray = (its ++ its2).toArray := by simp
  rw [ea]
  exact ⟨.ref _, _, I.lnew (t' := s.toks) (r.append r2) (by rw [List.length_append]; exact hz), rfl, q _ I.fresh⟩
theorem so_add : OpR X (binaryOp .Add) (fun x y H Q => X.K = C.K ∧ rBin C (bin2 .add) x y H Q) := by
  refine opW (OpR.or op_add (OpR.or op_add_str (OpR.or op_catL op_catA))) fun x y H Q h => ?_
  obtain ⟨hK, ms, st, p, q, d, sr, n1, n2, e, k⟩ := h
  unfold bin2 at e
  split at e <;> (try contradiction)
  · cases e
    rw [n1.int, n2.int]
    exact .inl ⟨_, _, rfl, rfl, k H Ext.refl sr _ rfl⟩
  · split at e
    · cases e
      rw [n1.str, n2.str]
      exact .inr (.inl ⟨_, _, rfl, rfl, LIM_le (by assumption), k H Ext.refl sr _ rfl⟩)
    · cases e
  · split at e
    · cases e
      obtain ⟨a, xs, rfl, h1, r1⟩ := n1.list
      obtain ⟨b, ys, rfl, h2, r2⟩ := n2.list
      refine .inr (.inr (.inl ⟨a, b, xs, ys, rfl, rfl, by rw [hK]; exact h1, by rw [hK]; exact h2, ?_, mkLst sr (r1.append r2) k⟩))
      rw [r1.length, r2.length]; exact LIM_le (by assumption)
    · cases e
  · rename_i _ _ _ ds es _
    split at e
    · rename_i hl
      cases e
      have t1 := n1.tupleR
      have t2 := n2.tupleR
      obtain ⟨a, xs, rfl, h1, r1⟩ := n1.tuple
      obtain ⟨b, ys, rfl, h2, r2⟩ := n2.tuple
      have hl : xs.length + ys.length ≤ sizeLine := by rw [r1.length, r2.length]; exact LIM_le hl
      refine .inr (.inr (.inr ⟨a, b, xs, ys, rfl, rfl, by rw [hK]; exact h1, by rw [hK]; exact h2, hl, fun z => ?_, fun _ z => ?_, fun _ _ => mkTup sr (r1.append r2) k⟩))
      · have := r1.length
        rw [z] at this
        obtain rfl : ds = [] := List.eq_nil_of_length_eq_zero (by simpa using this.symm)
        exact k H Ext.refl sr _ (by rw [List.nil_append]; exact t2)
      · have := r2.length
        rw [z] at this
        obtain rfl : es = [] := List.eq_nil_of_length_eq_zero (by simpa using this.symm)
        exact k H Ext.refl sr _ (by rw [List.append_nil]; exact t1)
    · cases e
theorem so_sub : OpR X (binaryOp .Sub) (rBin C (bin2 .sub)) := by
  refine opW op_sub fun x y H Q h => ?_
  obtain ⟨ms, st, p, q, d, sr, n1, n2, e, k⟩ := h
  unfold bin2 at e
  split at e <;> (try contradiction)
  cases e
  rw [n1.int, n2.int]
  exact ⟨_, _, rfl, rfl, k H Ext.refl sr _ rfl⟩
theorem so_fdiv : OpR X (binaryOp .FloorDiv) (rBin C (bin2 .fdiv)) := by
  refine opW op_fdivW fun x y H Q h => ?_
  obtain ⟨ms, st, p, q, d, sr, n1, n2, e, k⟩ := h
  unfold bin2 at e
  split at e <;> (try contradiction)
  split at e
  · cases e
    rw [n1.int, n2.int]
    exact ⟨_, _, rfl, rfl, by assumption, k H Ext.refl sr _ rfl⟩
  · cases e
theorem so_mod : OpR X (binaryOp .Mod) (rBin C (bin2 .mod)) := by
  refine opW op_modN fun x y H Q h => ?_
  obtain ⟨ms, st, p, q, d, sr, n1, n2, e, k⟩ := h
  unfold bin2 at e
  split at e <;> (try contradiction)
  split at e
  · cases e
  · cases e
    rw [n1.int, n2.int]
    exact ⟨_, _, rfl, rfl, by assumption, k H Ext.refl sr _ rfl⟩
theorem so_pow : OpR X (binaryOp .Pow) (rBin C (bin2 .pow)) := by
  refine opW op_pow fun x y H Q h => ?_
  obtain ⟨ms, st, p, q, d, sr, n1, n2, e, k⟩ := h
  unfold bin2 at e
  split at e <;> (try contradiction)
  split at e
  · cases e
    rw [n1.int, n2.int]
    exact ⟨_, _, rfl, rfl, by assumption, k H Ext.refl sr _ rfl⟩
  · cases e
/-- tuple * int, from 0 to 1000 -/
theorem op_tmul : OpR X (binaryOp .Mult) (fun x y H Q => ∃ l k xs, x = .ref l ∧ y = .int k ∧ SqT X.K H l xs ∧ 0 ≤ k ∧ k ≤ 1000 ∧ xs.length ≤ 1000 ∧ (xs = [] ∨ k = 1 → Q (.ref l) H) ∧ (xs ≠ [] → k ≠ 1 → ∀ p, H p = none → Q (.ref p) (upd H p (.tup (List.replicate k.toNat xs).flatten)))) := by
  intro pins s σ H x y v u Q I rx ry h
  obtain ⟨l, k, xs, rfl, rfl, hT, h1, h2, hz, q1, q2⟩ := h
  by_cases hx : xs = [] ∨ k = 1
  · have q := q1 hx
    cases rx
    obtain ⟨t, rfl⟩ := ry
    obtain ⟨its, r, ⟨⟨cls, dd, data, sl⟩, ho, hc, n, hd⟩, hs⟩ := I.tuple hT
    simp only at hc hd
    subst hc hd
    have c0 : (decide (k < -(2 ^ 63)) || decide (k ≥ 2 ^ 63)) = false := by
      rw [decide_eq_false (by omega), decide_eq_false (by omega)] <;> rfl
    have c1 : (its.toArray.isEmpty || k == 1) = true := by
      rcases hx with z | z
      · subst z
        cases r
        rfl
      · subst z
        rw [Bool.or_eq_true]
        exact .inr rfl
    refine wpAny_binaryOp_repeat_ref (T := "tuple") (U := "int") (by decide) ⟨_, ho, rfl⟩ (fun s' => typeIs_int s' k t) noFill_tuple_mul F.fills_int_mul F.slot_int_rmul repeat_tuple F.slot_int_index.lookup
      (call_meets F.slot_int_rmul (typeIs_int s k t) F.entry_int_rmul (F.args_int_rmul_2 _ _) (int_rmul_tuple k t l its.toArray n dd sl)
        ⟨ho, rfl, ⟨_, ho, rfl⟩, call_meets F.slot_tuple_mul ⟨_, ho, rfl⟩ F.entry_tuple_mul (F.args_tuple_mul_2 _ _) (tmulOne l its.toArray n dd sl k t c0 c1) ⟨ho, ?_⟩⟩)
    exact ⟨.ref l, H, I, rfl, q⟩
  · have hne : xs ≠ [] := fun z => hx (.inl z)
    have hk1 : k ≠ 1 := fun z => hx (.inr z)
    have q := q2 hne hk1
    by_cases h0 : k = 0
    · subst h0
      cases rx
      obtain ⟨t, rfl⟩ := ry
      obtain ⟨its, r, ⟨⟨cls, dd, data, sl⟩, ho, hc, n, hd⟩, hs⟩ := I.tuple hT
      simp only at hc hd
      subst hc hd
      have hn : its.toArray.isEmpty = false := by
        cases r with
        | nil => exact absurd rfl hne
        | cons _ _ => rfl
      have c1 : (its.toArray.isEmpty || (0 : Int) == 1) = false := by rw [hn]; rfl
      have c2 : (decide ((0 : Int) ≤ 0) || its.toArray.isEmpty) = true := rfl
      refine wpAny_binaryOp_repeat_ref (T := "tuple") (U := "int") (by decide) ⟨_, ho, rfl⟩ (fun s' => typeIs_int s' 0 t) noFill_tuple_mul F.fills_int_mul F.slot_int_rmul repeat_tuple F.slot_int_index.lookup
        (call_meets F.slot_int_rmul (typeIs_int s 0 t) F.entry_int_rmul (F.args_int_rmul_2 _ _) (int_rmul_tuple 0 t l its.toArray n dd sl)
          ⟨ho, rfl, ⟨_, ho, rfl⟩, call_meets F.slot_tuple_mul ⟨_, ho, rfl⟩ F.entry_tuple_mul (F.args_tuple_mul_2 _ _) (tmulNil l its.toArray n dd sl 0 t (by decide) c1 c2) ⟨ho, ?_⟩⟩)
      refine ⟨.ref s.heap.objs.size, _, I.laid (t' := s.toks) (o := .tup []) (fun b ob q => Heap.get?_push_of_some _ q) (Nat.le_refl _) ?_, rfl, q _ (I.hok.fresh (Nat.le_refl _))⟩
      exact ⟨Nat.zero_le _, [], .nil, IsTup.new _ _⟩
    · exact op_repT pins s σ H _ _ v u Q I rx ry ⟨l, k, xs, rfl, rfl, hT, hne, by omega, h2, hz, q⟩
/-- list * int, from 0 to 1000 -/
theorem op_lmul : OpR X (binaryOp .Mult) (fun x y H Q => ∃ l k xs, x = .ref l ∧ y = .int k ∧ SqL X.K H l xs ∧ 0 ≤ k ∧ k ≤ 1000 ∧ xs.length ≤ 1000 ∧ ∀ p, H p = none → Q (.ref p) (upd H p (.lst (List.replicate k.toNat xs).flatten))) := by
  intro pins s σ H x y v u Q I rx ry h
  obtain ⟨l, k, xs, rfl, rfl, hT, h1, h2, hz, q⟩ := h
  cases rx
  obtain ⟨t, rfl⟩ := ry
  obtain ⟨its, r, ⟨⟨cls, dd, data, sl⟩, n, ho, hc, hdd, hd⟩, hs⟩ := I.list hT
  simp only at hc hd hdd
  subst hc hd hdd
  have hle : its.length = xs.length := r.length.symm
  have a1 : k.toNat * xs.length ≤ 1000 * 1000 := Nat.mul_le_mul (by omega) hz
  have a2 : its.toArray.size * k.toNat ≤ 1000000 := by rw [List.size_toArray, hle, Nat.mul_comm]; exact a1
  have hcap : ¬ its.toArray.size * k.toNat > (2 ^ 63 - 1) / 8 := by omega
  have hfit : ¬ (!Builtin.List.listFitsIndex k) = true := by
    rw [fitsIndex_both (by omega) (by omega)]
    exact Bool.false_ne_true
  have hlong : ¬ Builtin.List.listTooLong (its.toArray.size * k.toNat) = true := by
    rw [notLongL (by rw [sizeLine_eq]; omega)]
    exact Bool.false_ne_true
  have hnew : List.foldl (fun x1 x2 => x1 ++ x2) #[] (List.replicate (if its.toArray.isEmpty = true then 0 else k.toNat) its.toArray) = (List.replicate k.toNat its).flatten.toArray := by
    rw [size_rep]
    cases its with
    | nil => simp
    | cons a r' => rw [if_neg (by simp)]
  refine wpAny_binaryOp_repeat_ref (T := "list") (U := "int") (by decide) ⟨_, ho, rfl⟩ (fun s' => typeIs_int s' k t) noFill_list_mul F.fills_int_mul F.slot_int_rmul repeat_list F.slot_int_index.lookup
    (call_meets F.slot_int_rmul (typeIs_int s k t) F.entry_int_rmul (F.args_int_rmul_2 _ _) (irmulL k t l its.toArray n _ sl)
      ⟨ho, rfl, ⟨_, ho, rfl⟩, call_meets F.slot_list_mul ⟨_, ho, rfl⟩ F.entry_list_mul (F.args_list_mul_2 _ _) (lmulW l its.toArray n _ sl k t hfit hcap hlong) ⟨ho, ?_⟩⟩)
  rw [hnew]
  exact ⟨.ref _, _, I.lnew (t' := s.toks) (r.rep k.toNat) (by rw [PyProof.Rows.lm_len_rep_flat, sizeLine_eq]; omega), rfl, q _ I.fresh⟩
theorem so_mul : OpR X (binaryOp .Mult) (fun x y H Q => X.K = C.K ∧ rBin C (bin2 .mul) x y H Q) := by
  refine opW (OpR.or op_mulW (OpR.or op_tmul op_lmul)) fun x y H Q h => ?_
  obtain ⟨hK, ms, st, p, q, d, sr, n1, n2, e, k⟩ := h
  unfold bin2 at e
  split at e <;> (try contradiction)
  · split at e
    · cases e
      rw [n1.int, n2.int]
      exact .inl ⟨_, _, rfl, rfl, by assumption, k H Ext.refl sr _ rfl⟩
    · cases e
  · rename_i _ _ _ ds i _
    split at e
    · rename_i hc
      cases e
      have t1 := n1.tupleR
      obtain ⟨a, xs, rfl, h1, r1⟩ := n1.tuple
      rw [n2.int]
      refine .inr (.inl ⟨a, i, xs, rfl, rfl, by rw [hK]; exact h1, hc.1, hc.2.1, by rw [r1.length]; exact hc.2.2, fun z => ?_, fun _ _ => mkTup sr (r1.rep _) k⟩)
      refine k H Ext.refl sr _ ?_
      rcases z with z | z
      · have := r1.length
        rw [z] at this
        obtain rfl : ds = [] := List.eq_nil_of_length_eq_zero (by simpa using this.symm)
        have : (List.replicate i.toNat ([] : List PD)).flatten = [] := by
          rw [List.flatten_eq_nil_iff]
          intro l hl
          exact List.eq_of_mem_replicate hl
        rw [this]
        exact t1
      · subst z
        have : (List.replicate (1 : Int).toNat ds).flatten = ds := by simp
        rw [this]
        exact t1
    · cases e
  · rename_i _ _ _ ds i _
    split at e
    · rename_i hc
      cases e
      obtain ⟨a, xs, rfl, h1, r1⟩ := n1.list
      rw [n2.int]
      exact .inr (.inr ⟨a, i, xs, rfl, rfl, by rw [hK]; exact h1, hc.1, hc.2.1, by rw [r1.length]; exact hc.2.2, mkLst sr (r1.rep _) k⟩)
    · cases e
/-- every binary operator of the small language -/
def opOf : O2 → Operator
  | .add => .Add
  | .sub => .Sub
  | .mul => .Mult
  | .fdiv => .FloorDiv
  | .mod => .Mod
  | .pow => .Pow
theorem so_bin (hK : X.K = C.K) (o : O2) : OpR X (binaryOp (opOf o)) (rBin C (bin2 o)) := by
  cases o with
  | add => exact opW so_add fun _ _ _ _ h => ⟨hK, h⟩
  | sub => exact so_sub
  | mul => exact opW so_mul fun _ _ _ _ h => ⟨hK, h⟩
  | fdiv => exact so_fdiv
  | mod => exact so_mod
  | pow => exact so_pow
/-! ### comparisons -/
def rCm (C : Cn) (f : PD → PD → Option Bool) : R2 := fun x y H Q => ∃ ms st p q b, StRep C H ms st ∧ Now C.K H ms p x ∧ Now C.K H ms q y ∧ f p q = some b ∧ Q (.bl b) H
theorem dec_vint {i j : Int} : decide (V.int i = V.int j) = decide (i = j) := decide_eq_decide.mpr ⟨fun e => V.int.inj e, fun e => by rw [e]⟩
theorem dec_vstr {i j : Str} : decide (V.str i = V.str j) = decide (i = j) := decide_eq_decide.mpr ⟨fun e => V.str.inj e, fun e => by rw [e]⟩
theorem sc_eq (hu : X.A.units + 64 < cLine) : OpR X (compareOp .Eq) (fun x y H Q => X.K = C.K ∧ rCm C eqD x y H Q) := by
  refine opW (OpR.or op_eq (op_eqD hu)) fun x y H Q h => ?_
  obtain ⟨hK, ms, st, p, q, b, sr, n1, n2, e, k⟩ := h
  unfold eqD at e
  split at e
  · cases e
    rw [n1.int, n2.int]
    exact .inl ⟨rfl, by rw [dec_vint]; exact k⟩
  · cases e
    rw [n1.str, n2.str]
    exact .inl ⟨rfl, by rw [dec_vstr]; exact k⟩
  · split at e
    · rename_i hs
      cases e
      rw [Bool.and_eq_true] at hs
      exact .inr ⟨p, q, by rw [hK]; exact n1.dp, by rw [hK]; exact n2.dp, hs.1, hs.2, k⟩
    · cases e
theorem sc_ne (hu : X.A.units + 64 < cLine) : OpR X (compareOp .NotEq) (fun x y H Q => X.K = C.K ∧ rCm C (fun x y => (eqD x y).map (!·)) x y H Q) := by
  refine opW (OpR.or op_ne (op_neD hu)) fun x y H Q h => ?_
  obtain ⟨hK, ms, st, p, q, b, sr, n1, n2, e, k⟩ := h
  simp only [eqD] at e
  split at e
  · cases e
    rw [n1.int, n2.int]
    exact .inl ⟨rfl, by rw [dec_vint]; exact k⟩
  · cases e
    rw [n1.str, n2.str]
    exact .inl ⟨rfl, by rw [dec_vstr]; exact k⟩
  · split at e
    · rename_i hs
      cases e
      rw [Bool.and_eq_true] at hs
      exact .inr ⟨p, q, by rw [hK]; exact n1.dp, by rw [hK]; exact n2.dp, hs.1, hs.2, k⟩
    · cases e
theorem sc_mem (hu : X.A.units + 65 < cLine) : OpR X (compareOp .In) (fun x y H Q => X.K = C.K ∧ rCm C memD x y H Q) := by
  refine opW (op_inD hu) fun x y H Q h => ?_
  obtain ⟨hK, ms, st, p, q, b, sr, n1, n2, e, k⟩ := h
  unfold memD at e
  split at e <;> (try contradiction)
  split at e
  · rename_i hs
    cases e
    rw [Bool.and_eq_true] at hs
    exact ⟨p, _, by rw [hK]; exact n1.dp, by rw [hK]; exact n2.dp, hs.1, hs.2, k⟩
  · cases e
theorem sc_nmem (hu : X.A.units + 65 < cLine) : OpR X (compareOp .NotIn) (fun x y H Q => X.K = C.K ∧ rCm C (fun x y => (memD x y).map (!·)) x y H Q) := by
  refine opW (op_notInD hu) fun x y H Q h => ?_
  obtain ⟨hK, ms, st, p, q, b, sr, n1, n2, e, k⟩ := h
  simp only [memD] at e
  split at e <;> (try contradiction)
  split at e
  · rename_i hs
    cases e
    rw [Bool.and_eq_true] at hs
    exact ⟨p, _, by rw [hK]; exact n1.dp, by rw [hK]; exact n2.dp, hs.1, hs.2, k⟩
  · cases e
theorem isN_of {H : Hp} {ms : List Addr} {d : PD} {v : V} {K : PySem.W.Frag} (n : Now K H ms d v) : (d = .none ∧ v = .non) ∨ (d ≠ .none ∧ v ≠ .non) := by
  cases d with
  | none => exact .inl ⟨rfl, n.none⟩
  | bool b => exact .inr ⟨nofun, by rw [n.bool]; nofun⟩
  | int b => exact .inr ⟨nofun, by rw [n.int]; nofun⟩
  | str b => exact .inr ⟨nofun, by rw [n.str]; nofun⟩
  | list b => obtain ⟨a, xs, rfl, _⟩ := n.list; exact .inr ⟨nofun, nofun⟩
  | tuple b => obtain ⟨a, xs, rfl, _⟩ := n.tuple; exact .inr ⟨nofun, nofun⟩
  | dict b => exact n.dict.elim
theorem sc_is : OpR X (compareOp .Is) (rCm C (cmp2 .is)) := by
  refine opW (OpR.or op_isN op_isBl) fun x y H Q h => ?_
  obtain ⟨ms, st, p, q, b, sr, n1, n2, e, k⟩ := h
  simp only [cmp2] at e
  split at e <;> (try contradiction)
  · cases e
    rw [n1.bool, n2.bool]
    exact .inr ⟨_, _, rfl, rfl, k⟩
  all_goals
    cases e
    rcases isN_of n1 with ⟨z, z1⟩ | ⟨z, z1⟩
    all_goals first
      | (exfalso; cases z; done)
      | exact absurd rfl z
      | (refine .inl ⟨n2.none, ?_⟩
         first
          | (rw [decide_eq_true z1]; exact k)
          | (rw [decide_eq_false z1]; exact k))
theorem sc_isnot : OpR X (compareOp .IsNot) (rCm C (cmp2 .isnot)) := by
  refine opW (OpR.or op_notN op_notBl) fun x y H Q h => ?_
  obtain ⟨ms, st, p, q, b, sr, n1, n2, e, k⟩ := h
  simp only [cmp2] at e
  split at e <;> (try contradiction)
  · cases e
    rw [n1.bool, n2.bool]
    exact .inr ⟨_, _, rfl, rfl, k⟩
  all_goals
    cases e
    rcases isN_of n1 with ⟨z, z1⟩ | ⟨z, z1⟩
    all_goals first
      | (exfalso; cases z; done)
      | exact absurd rfl z
      | (refine .inl ⟨n2.none, ?_⟩
         first
          | (rw [decide_eq_true z1]; exact k)
          | (rw [decide_eq_false z1]; exact k))
theorem sc_int {op : CmpOp} {f : PD → PD → Option Bool} {g : Int → Int → Bool} (ho : OpR X (compareOp op) (rI0 fun i j => .bl (g i j))) (hf : ∀ p q b, f p q = some b → ∃ i j, p = .int i ∧ q = .int j ∧ b = g i j) : OpR X (compareOp op) (rCm C f) := by
  refine opW ho fun x y H Q h => ?_
  obtain ⟨ms, st, p, q, b, sr, n1, n2, e, k⟩ := h
  obtain ⟨i, j, rfl, rfl, rfl⟩ := hf p q b e
  exact ⟨i, j, n1.int, n2.int, k⟩
def cmOf : Cm → CmpOp
  | .eq => .Eq
  | .ne => .NotEq
  | .lt => .Lt
  | .le => .LtE
  | .gt => .Gt
  | .ge => .GtE
  | .is => .Is
  | .isnot => .IsNot
  | .mem => .In
  | .nmem => .NotIn
theorem so_cmp (hK : X.K = C.K) (hu : X.A.units + 65 < cLine) (o : Cm) : OpR X (compareOp (cmOf o)) (rCm C (cmp2 o)) := by
  have hu' : X.A.units + 64 < cLine := by omega
  cases o with
  | eq => exact opW (sc_eq hu') fun _ _ _ _ h => ⟨hK, h⟩
  | ne => exact opW (sc_ne hu') fun _ _ _ _ h => ⟨hK, h⟩
  | lt =>
    refine sc_int op_lt fun p q b e => ?_
    simp only [cmp2] at e
    split at e <;> (try contradiction)
    cases e
    exact ⟨_, _, rfl, rfl, rfl⟩
  | le =>
    refine sc_int op_le fun p q b e => ?_
    simp only [cmp2] at e
    split at e <;> (try contradiction)
    cases e
    exact ⟨_, _, rfl, rfl, rfl⟩
  | gt =>
    refine sc_int op_gt fun p q b e => ?_
    simp only [cmp2] at e
    split at e <;> (try contradiction)
    cases e
    exact ⟨_, _, rfl, rfl, rfl⟩
  | ge =>
    refine sc_int op_ge fun p q b e => ?_
    simp only [cmp2] at e
    split at e <;> (try contradiction)
    cases e
    exact ⟨_, _, rfl, rfl, rfl⟩
  | is => exact sc_is
  | isnot => exact sc_isnot
  | mem => exact opW (sc_mem hu) fun _ _ _ _ h => ⟨hK, h⟩
  | nmem => exact opW (sc_nmem hu) fun _ _ _ _ h => ⟨hK, h⟩
end
/-! ### the expressions of operators -/
section
variable {C : Cn} {F : Fe} {W₀ : WX} {X : Cx} {a b c : Expr} {ca cb cc : E} {pos : Pos}
theorem view_bind {α β : Type} {w : W} {st : Sto} {f : PD → Option α} {d : α} (h : (view st w).bind f = some d) : ∃ x, view st w = some x ∧ f x = some d := Option.bind_eq_some_iff.mp h
theorem se_bin (hK : X.K = C.K) (o : O2) (ha : PE X a (rdE C F W₀ ca)) (hb : PE X b (rdE C F W₀ cb)) : PE X (.BinOp a (opOf o) b pos) (rdE C F W₀ (.bin o ca cb)) :=
  peW (pe_op (so_bin (C := C) hK o) ha hb) fun σ H Q ⟨env, st, ms, en, sr, h⟩ =>
    rd_bind en sr h fun x w st1 H1 ms1 en1 sr1 e1 r1 h1 => rd_bind en1 sr1 h1 fun y w2 st2 H2 ms2 en2 sr2 e2 r2 h2 => by
      obtain ⟨d, e, q⟩ := h2.of
      obtain ⟨p, ep, e⟩ := Option.bind_eq_some_iff.mp e
      obtain ⟨p2, ep2, e⟩ := Option.bind_eq_some_iff.mp e
      obtain ⟨z, ez, rfl⟩ := Option.map_eq_some_iff.mp e
      exact ⟨ms2, st2, p, p2, z, sr2, (r1.mono e2).now sr2 ep, r2.now sr2 ep2, ez, fun H' x' s' v rv => q H' ms2 x' s' v rv⟩
theorem rCm_of {o : Cm} {x y : V} {w w2 : W} {st : Sto} {H : Hp} {ms : List Addr} {σ : L2.St} {Q : VK} (sr : StRep C H ms st) (r1 : WRep C H ms w x) (r2 : WRep C H ms w2 y)
    (h : Post C W₀ σ H ms (Rs.of ((view st w).bind fun x => (view st w2).bind fun y => (cmp2 o x y).map fun b => W.d (.bool b)) st) fun w _ H' ms' => ∀ v, WRep C H' ms' w v → Q v H') : rCm C (cmp2 o) x y H Q := by
  obtain ⟨d, e, q⟩ := h.of
  obtain ⟨p, ep, e⟩ := Option.bind_eq_some_iff.mp e
  obtain ⟨p2, ep2, e⟩ := Option.bind_eq_some_iff.mp e
  obtain ⟨z, ez, rfl⟩ := Option.map_eq_some_iff.mp e
  exact ⟨ms, st, p, p2, z, sr, r1.now sr ep, r2.now sr ep2, ez, q H ms Ext.refl sr _ rfl⟩
theorem se_cmp (hK : X.K = C.K) (hu : X.A.units + 65 < cLine) (o : Cm) (ha : PE X a (rdE C F W₀ ca)) (hb : PE X b (rdE C F W₀ cb)) (hm : behindInMarks (cmOf o) b = false) : PE X (.Compare a [cmOf o] [b] pos) (rdE C F W₀ (.cmp o ca cb)) :=
  peW (pe_cmpR (so_cmp (C := C) hK hu o) ha hb hm) fun σ H Q ⟨env, st, ms, en, sr, h⟩ =>
    rd_bind en sr h fun x w st1 H1 ms1 en1 sr1 e1 r1 h1 => rd_bind en1 sr1 h1 fun y w2 st2 H2 ms2 en2 sr2 e2 r2 h2 => rCm_of sr2 (r1.mono e2) r2 h2
theorem st_cmp (hK : X.K = C.K) (hu : X.A.units + 65 < cLine) (o : Cm) (ha : PE X a (rdE C F W₀ ca)) (hb : PE X b (rdE C F W₀ cb)) (hm : behindInMarks (cmOf o) b = false) : PT X (.Compare a [cmOf o] [b] pos) (rdB C F W₀ (.cmp o ca cb)) :=
  ptW (pt_cmpR (so_cmp (C := C) hK hu o) ha hb hm) fun σ H Q ⟨env, st, ms, en, sr, h⟩ => by
    simp only [evE, cmpR, tst_bind] at h
    refine rd_bind en sr h fun x w st1 H1 ms1 en1 sr1 e1 r1 h1 => rd_bind en1 sr1 h1 fun y w2 st2 H2 ms2 en2 sr2 e2 r2 h2 => ?_
    obtain ⟨d, e, q⟩ := (Post.bind h2).of
    obtain ⟨p, ep, e⟩ := Option.bind_eq_some_iff.mp e
    obtain ⟨p2, ep2, e⟩ := Option.bind_eq_some_iff.mp e
    obtain ⟨z, ez, rfl⟩ := Option.map_eq_some_iff.mp e
    exact ⟨ms2, st2, p, p2, z, sr2, (r1.mono e2).now sr2 ep, r2.now sr2 ep2, ez, z, rfl, (q H2 ms2 Ext.refl sr2) H2 ms2 Ext.refl sr2⟩
theorem chain_of {o o' : Cm} {σ : L2.St} {H : Hp} {Q : VK} {env : En} {st : Sto} {ms : List Addr} (en : EnRep C H ms σ env) (sr : StRep C H ms st)
    (h : Post C W₀ σ H ms (evE F (.chain o o' ca cb cc) env st) fun w _ H' ms' => ∀ v, WRep C H' ms' w v → Q v H') :
    tChain (rCm C (cmp2 o)) (rCm C (cmp2 o')) (rdE C F W₀ ca) (rdE C F W₀ cb) (rdE C F W₀ cc) σ H Q :=
  rd_bind en sr h fun x w st1 H1 ms1 en1 sr1 e1 r1 h1 => rd_bind en1 sr1 h1 fun y w2 st2 H2 ms2 en2 sr2 e2 r2 h2 => by
    obtain ⟨z, e, q⟩ := (Post.bind h2).of
    obtain ⟨p, ep, e⟩ := Option.bind_eq_some_iff.mp e
    obtain ⟨p2, ep2, e⟩ := Option.bind_eq_some_iff.mp e
    have q := q H2 ms2 Ext.refl sr2
    refine ⟨ms2, st2, p, p2, z, sr2, (r1.mono e2).now sr2 ep, r2.now sr2 ep2, e, z, rfl, ?_⟩
    cases z with
    | false => exact Post.ok sr2 q _ rfl
    | true =>
      refine rd_bind en2 sr2 q fun u w3 st3 H3 ms3 en3 sr3 e3 r3 h3 => rCm_of sr3 (r2.mono e3) r3 h3
theorem se_chain (hK : X.K = C.K) (hu : X.A.units + 65 < cLine) (o o' : Cm) (ha : PE X a (rdE C F W₀ ca)) (hb : PE X b (rdE C F W₀ cb)) (hc : PE X c (rdE C F W₀ cc)) (hm : lastMarks [cmOf o, cmOf o'] [b, c] = false) :
    PE X (.Compare a [cmOf o, cmOf o'] [b, c] pos) (rdE C F W₀ (.chain o o' ca cb cc)) :=
  peW (pe_chain (so_cmp (C := C) hK hu o) (so_cmp (C := C) hK hu o') ha hb hc hm) fun σ H Q ⟨env, st, ms, en, sr, h⟩ => chain_of en sr h
theorem st_chain (hK : X.K = C.K) (hu : X.A.units + 65 < cLine) (o o' : Cm) (ha : PE X a (rdE C F W₀ ca)) (hb : PE X b (rdE C F W₀ cb)) (hc : PE X c (rdE C F W₀ cc)) (hm : lastMarks [cmOf o, cmOf o'] [b, c] = false) :
    PT X (.Compare a [cmOf o, cmOf o'] [b, c] pos) (rdB C F W₀ (.chain o o' ca cb cc)) :=
  ptW (pt_chain (so_cmp (C := C) hK hu o) (so_cmp (C := C) hK hu o') ha hb hc hm) fun σ H Q ⟨env, st, ms, en, sr, h⟩ => by
    refine chain_of (Q := fun x H' => ∃ k, x = .bl k ∧ Q k H') en sr ?_
    refine h.bind.imp fun w st' H' ms' x s' q v r => ?_
    obtain ⟨d, e, q⟩ := q.bind.of
    obtain ⟨b', eb, q2⟩ := (q H' ms' Ext.refl s').of
    have n := r.now s' e
    have q3 := q2 H' ms' Ext.refl s'
    clear q2 q
    cases d with
    | bool k =>
      cases eb
      exact ⟨_, n.bool, q3⟩
    | _ => cases eb
theorem se_neg (ha : PE X a (rdE C F W₀ ca)) : PE X (.UnaryOp .USub a pos) (rdE C F W₀ (.neg ca)) :=
  peW (pe_un un_neg ha) fun σ H Q ⟨env, st, ms, en, sr, h⟩ => rd_bind en sr h fun x w st1 H1 ms1 en1 sr1 e1 r1 h1 => by
    obtain ⟨d, e, q⟩ := h1.of
    obtain ⟨p, ep, e⟩ := Option.bind_eq_some_iff.mp e
    obtain ⟨z, ez, rfl⟩ := Option.map_eq_some_iff.mp e
    have n := r1.now sr1 ep
    have q := q H1 ms1 Ext.refl sr1
    cases p with
    | int i =>
      cases ez
      rw [n.int]
      exact ⟨i, rfl, q _ rfl⟩
    | _ => cases ez
end
end Mini

set_option Elab.async false
set_option linter.all false
set_option maxRecDepth 100000
set_option maxHeartbeats 2000000
/-! Mini, part E: arguments, displays, built-ins, subscripts. -/
namespace Mini
open PySem PySem.Spec PyProof.Rows L2
/-! ### t[::-1] of a tuple -/
section
variable {prog : Program} {w : World} {A : Around} {E : Value → Shared → Prop} {s : Shared}
theorem backAdj (n : Nat) : Builtin.Slice.sliceAdjust none none (-1) (n : Int) = ((n : Int) - 1, -1) := rfl
theorem backPlaces (n : Nat) : Builtin.Slice.slicePlaces ((n : Int) - 1) (-1) (-1) = n := by
  unfold Builtin.Slice.slicePlaces
  rw [if_neg (by decide)]
  by_cases h : (n : Int) - 1 > -1
  · rw [if_pos h, show (-(-1) : Int) = 1 by decide, Int.ediv_one]
    omega
  · rw [if_neg h]
    omega
theorem backApplied {sl : Addr} {vl vu vs : Value} {n : Nat} {Q : Int × Int × Nat → Shared → Prop} (hs : s.heap.IsSliceOf sl vl vu vs) (pl : IsPart vl none) (pu : IsPart vu none) (ps : IsPart vs (some (-1)))
    (h : Q ((n : Int) - 1, -1, n) s) : wpAny (model prog w) A (Builtin.Slice.sliceApplied (.ref sl) (pure (n : Int))) Q E s := by
  obtain ⟨os, hos, hcs, hds⟩ := id hs
  unfold Builtin.Slice.sliceApplied Builtin.Slice.sliceFields
  refine wpAny_bind (wpAny_bind (wpAny_field hos hds (x := vl) rfl (wpAny_bind (wpAny_field hos hds (x := vu) rfl (wpAny_bind (wpAny_field hos hds (x := vs) rfl (wpAny_pure ?_)))))))
  refine wpAny_bind (HT.slicePart_ ps ?_)
  show wpAny _ _ (if ((-1 : Int) == 0) = true then _ else _) _ _ s
  rw [if_neg (by decide)]
  refine wpAny_bind (HT.slicePart_ pl (wpAny_bind (HT.slicePart_ pu (wpAny_bind (wpAny_pure ?_)))))
  show wpAny _ _ (pure (((n : Int) - 1), (-1 : Int), Builtin.Slice.slicePlaces ((n : Int) - 1) (-1) (-1))) _ _ s
  rw [backPlaces]
  exact wpAny_pure h
theorem backPick (xs : Array Value) : ((List.range xs.size).filterMap fun (k : Nat) => xs[(((xs.size : Nat) : Int) - 1 + (k : Int) * (-1)).toNat]?) = xs.toList.reverse := by
  have e : (fun (k : Nat) => xs[(((xs.size : Nat) : Int) - 1 + (k : Int) * (-1)).toNat]?) = (xs[·]?) ∘ fun (k : Nat) => (((xs.size : Nat) : Int) - 1 + (k : Int) * (-1)).toNat := rfl
  rw [e, ← List.filterMap_map]
  have e2 : (List.range xs.size).map (fun (k : Nat) => (((xs.size : Nat) : Int) - 1 + (k : Int) * (-1)).toNat) = (List.range xs.size).map fun k => xs.size - 1 - k := by
    apply List.map_congr_left
    intro k hk
    have := List.mem_range.mp hk
    omega
  rw [e2, PySem.W.krv_range, List.filterMap_reverse, PySem.W.krv_all]
theorem getBack {t sl : Addr} {items : Array Value} {vl vu vs : Value} {Q : Value → Shared → Prop} (ht : IsTup s.heap t items) (hs : s.heap.IsSliceOf sl vl vu vs) (pl : IsPart vl none) (pu : IsPart vu none) (ps : IsPart vs (some (-1)))
    (h : Q (.ref s.heap.objs.size) { s with heap := s.heap.push { cls := .type "tuple", data := .seq items.toList.reverse.toArray } }) (hsz : items.size ≤ sizeLine) : wpAny (model prog w) A (getItem (.ref t) (.ref sl)) Q E s := by
  have htake : sizeOk (.seq items.toList.reverse.toArray) := by
    show items.toList.reverse.toArray.size ≤ sizeLine
    rw [List.size_toArray, List.length_reverse, Array.length_toList]
    exact hsz
  obtain ⟨os, hos, hcs, hds⟩ := id hs
  have hTs : s.TypeIs (.ref sl) "slice" := ⟨os, hos, hcs⟩
  unfold getItem
  try with_reducible refine wpAny_holding ?_
  first | refine wpAny_bind (wpAny_pure ?_) | skip
  refine wpAny_bind (wpAny_sequenceKey ht.typeIs (by decide) ?_)
  refine wpAny_bind (wpAny_callSpecial?_slot (name := Str.ofString "__getitem__") ht.typeIs PyProof.Rows.slot_tuple_getitem
    (wpAny_call_entry PyProof.Rows.slot_tuple_getitem ht.typeIs entry_tuple_getitem ?_ (args_tuple_getitem _ _)))
  show wpAny _ _ (Builtin.Tuple.tupleItemsOf (.ref t) >>= _) _ _ s
  refine wpAny_bind (tupleItemsOf_ ht ?_)
  refine wpAny_bind (wpAny_typeOf hTs ?_)
  rw [if_pos (by decide)]
  refine wpAny_bind (backApplied hs pl pu ps ?_)
  have hno : ¬ ((((items.size : Nat) : Int) - 1 == 0 && (-1 : Int) == 1 && items.size == items.size) = true) := by
    rw [show ((-1 : Int) == 1) = false from rfl, Bool.and_false, Bool.false_and]
    exact Bool.false_ne_true
  show wpAny _ _ (if ((((items.size : Nat) : Int) - 1 == 0 && (-1 : Int) == 1 && items.size == items.size) = true) then _ else _) _ _ s
  rw [if_neg hno, backPick]
  first
    | exact wpAny_bind (m := Builtin.Tuple.tupleExact _) (wpAny_newObj_type (wpAny_pure ⟨_, rfl, wpAny_pure h⟩) htake)
    | exact wpAny_bind (m := Builtin.Tuple.tupleExact _) (wpAny_newObj_type (wpAny_bind (wpAny_pure (wpAny_pure ⟨_, rfl, wpAny_pure h⟩))) htake)
    | exact wpAny_bind (wpAny_bind (m := Builtin.Tuple.tupleExact _) (wpAny_newObj_type (wpAny_pure (wpAny_pure ⟨_, rfl, wpAny_pure h⟩)) htake))
    | exact wpAny_bind (wpAny_bind (m := Builtin.Tuple.tupleExact _) (wpAny_newObj_type (wpAny_pure ⟨_, rfl, wpAny_pure h⟩) htake))
end
def tRev (K : PySem.W.Frag) (te : TE) : TE := fun σ H Q => te σ H fun x H1 => ∃ a xs, x = .ref a ∧ ((SqL K H1 a xs ∧ ∀ p, H1 p = none → Q (.ref p) (upd H1 p (.lst xs.reverse))) ∨ (SqT K H1 a xs ∧ ∀ p, H1 p = none → Q (.ref p) (upd H1 p (.tup xs.reverse))))
theorem pe_rev {X : Cx} {e : Expr} {te : TE} {k : Nat} {p1 p2 p3 pos : Pos} (he : PE X e te) : PE X (.Subscript e (.Slice none none (some (.UnaryOp .USub (.Constant (.int 1) k p1) p2)) p3) pos) (tRev X.K te) := by
  refine ⟨fun pins s σ H Q I h => ?_⟩
  refine Subscript_ (thn (he.run pins s σ H _ I h) fun v s1 ⟨x, H1, I1, r1, q1⟩ => ?_)
  obtain ⟨a, xs, ex, hx⟩ := q1
  subst ex
  cases r1
  have hst : PO X (some (.UnaryOp .USub (.Constant (.int 1) k p1) p2)) (tPart (tUn (rU fun i => .int (-i)) (tC (.int 1)))) := po_some (pe_un un_neg pe_int)
  refine wpAny_Slice (thn (po_none.run pins s1 σ H1 (fun o H2 => o = none ∧ H2 = H1) I1 ⟨rfl, rfl⟩) fun vl s2 ⟨l, H2, I2, pl, el, e2⟩ => ?_)
  subst el e2
  refine thn (po_none.run pins s2 σ H2 (fun o H3 => o = none ∧ H3 = H2) I2 ⟨rfl, rfl⟩) fun vu s3 ⟨u, H3, I3, pu, eu, e3⟩ => ?_
  subst eu e3
  refine thn (hst.run pins s3 σ H3 (fun o H4 => o = some (-1) ∧ H4 = H3) I3 ⟨1, rfl, -1, rfl, rfl, rfl⟩) fun vs s4 ⟨o, H4, I4, ps, eo, e4⟩ => ?_
  subst eo e4
  have I5 : L2.Inv X pins σ H4 { s4 with heap := s4.heap.push { cls := .type "slice", data := .fields #[vl, vu, vs] } } := I4.kept (t' := s4.toks) fun b ob q => Heap.get?_push_of_some _ q
  show wpAny (model X.prog X.w) X.A (subscriptTail e (.Slice none none (some (.UnaryOp .USub (.Constant (.int 1) k p1) p2)) p3) (.ref a) (.ref s4.heap.objs.size)) (EP X pins σ Q) X.xe { s4 with heap := s4.heap.push { cls := .type "slice", data := .fields #[vl, vu, vs] } }
  rcases hx with ⟨hx, q⟩ | ⟨hx, q⟩
  · obtain ⟨its, r, ht, hz⟩ := I5.list hx
    have hlen := r.length
    refine tail_any (ops := [.ref a, .ref s4.heap.objs.size]) ht.isList.typeIs (PySem.slot_list_getitem.lookup) ?_ (by with_unfolding_all rfl)
    refine wpAny_getItem_list_slice ht.isList (Heap.IsSliceOf.new _ vl vu vs) pl pu ps (by decide) ?_ (by rw [List.size_toArray]; omega)
    rw [PySem.W.krv_pick]
    refine ⟨.ref _, _, I5.laid (t' := s4.toks) (o := .lst xs.reverse) (fun b ob q => Heap.get?_push_of_some _ q) (Nat.le_refl _) ?_, rfl, q _ (I5.hok.fresh (Nat.le_refl _))⟩
    exact ⟨by rw [List.length_reverse]; exact hz, _, 0, r.reverse, Heap.get?_push_size _ rfl⟩
  · obtain ⟨its, r, ht, hz⟩ := I5.tuple hx
    have hlen := r.length
    refine tail_any (ops := [.ref a, .ref s4.heap.objs.size]) ht.typeIs (PyProof.Rows.slot_tuple_getitem.lookup) ?_ (by with_unfolding_all rfl)
    refine getBack ht (Heap.IsSliceOf.new _ vl vu vs) pl pu ps ?_ (by rw [List.size_toArray]; omega)
    refine ⟨.ref _, _, I5.laid (t' := s4.toks) (o := .tup xs.reverse) (fun b ob q => Heap.get?_push_of_some _ q) (Nat.le_refl _) ?_, rfl, q _ (I5.hok.fresh (Nat.le_refl _))⟩
    exact ⟨by rw [List.length_reverse]; exact hz, its.reverse, r.reverse, IsTup.new _ _⟩
/-! ### arguments -/
def nostar : Expr → Bool
  | .Starred _ _ => false
  | _ => true
theorem star_eq {e : Expr} {es : List Expr} {env : Env} (h : nostar e = true) : starEach (e :: es) env = (false, eval e env) :: starEach es env := by
  cases e <;> first | rfl | cases h
theorem star_any {es : List Expr} {env : Env} {pos : Pos} (h : es.all nostar = true) : (backTo pos (starEach es env)).any (·.1) = false := by
  induction es with
  | nil => rfl
  | cons e es ih =>
    rw [List.all_cons, Bool.and_eq_true] at h
    rw [star_eq h.1]
    exact ih h.2
section
variable {C : Cn} {F : Fe} {W₀ : WX} {X : Cx} {a b c : Expr} {ca cb cc : E} {pos : Pos} {H : Hp} {ms : List Addr} {st : Sto}
theorem sl_nil : PA X [] (rdL C F W₀ .nil) := paW pa_nil fun σ H Q ⟨env, st, ms, en, sr, h⟩ => Post.ok sr h [] .nil
theorem sl_cons {es : List Expr} (ha : PE X a (rdE C F W₀ ca)) (hb : PA X es (rdL C F W₀ cb)) (hn : nostar a = true) : PA X (a :: es) (rdL C F W₀ (.cons ca cb)) :=
  paW (pa_cons ha hb (star_eq hn)) fun σ H Q ⟨env, st, ms, en, sr, h⟩ => rd_bind en sr h fun x w st1 H1 ms1 en1 sr1 e1 r1 h1 => rdL_bind en1 sr1 h1 fun vs ws st2 H2 ms2 en2 sr2 e2 r2 h2 =>
    Post.ok sr2 h2 _ (.cons (r1.mono e2) r2)
theorem pures_rep : ∀ {ws : List W} {vs : List V} {xs : List PD}, WReps C H ms ws vs → pures ws = some xs → RepL C.K H ms xs vs
  | _, _, _, .nil, e => by cases e; rfl
  | .d x :: _, _, _, .cons r t, e => by
    obtain ⟨ys, e1, rfl⟩ := Option.map_eq_some_iff.mp e
    exact ⟨_, _, rfl, r, pures_rep t e1⟩
  | .ref _ :: _, _, _, .cons r t, e => by cases e
  | .fn _ :: _, _, _, .cons r t, e => by cases e
abbrev Nows (K : PySem.W.Frag) (H : Hp) (ms : List Addr) (ps : List PD) (vs : List V) : Prop := Paired (Now K H ms) ps vs
theorem datas_now (sr : StRep C H ms st) : ∀ {ws : List W} {vs : List V} {xs : List PD}, WReps C H ms ws vs → datas st ws = some xs → Nows C.K H ms xs vs
  | _, _, _, .nil, e => by cases e; exact .nil
  | w :: _, _, _, .cons r t, e => by
    obtain ⟨p, e1, e2⟩ := Option.bind_eq_some_iff.mp e
    obtain ⟨ys, e3, rfl⟩ := Option.map_eq_some_iff.mp e2
    exact .cons (r.now sr e1) (datas_now sr t e3)
/-! ### displays -/
theorem se_tup {es : List Expr} {k : Nat} (h : PA X es (rdL C F W₀ ca)) : PE X (.Tuple es k pos) (rdE C F W₀ (.tup ca)) :=
  peW (pe_tup h) fun σ H Q ⟨env, st, ms, en, sr, h⟩ => rdL_bind en sr h fun vs ws st1 H1 ms1 en1 sr1 e1 r1 h1 => by
    obtain ⟨d, e, q⟩ := h1.of
    obtain ⟨xs, ex, e⟩ := Option.bind_eq_some_iff.mp e
    split at e
    · cases e
      have r := pures_rep r1 ex
      exact ⟨by rw [r.length]; exact LIM_le (by assumption), mkTup sr1 r fun H' x' s' v rv => q H' ms1 x' s' v rv⟩
    · cases e
theorem se_lst {es : List Expr} (h : PA X es (rdL C F W₀ ca)) : PE X (.List es pos) (rdE C F W₀ (.lst ca)) :=
  peW (pe_lst h) fun σ H Q ⟨env, st, ms, en, sr, h⟩ => rdL_bind en sr h fun vs ws st1 H1 ms1 en1 sr1 e1 r1 h1 => by
    obtain ⟨d, e, q⟩ := h1.of
    obtain ⟨xs, ex, e⟩ := Option.bind_eq_some_iff.mp e
    split at e
    · cases e
      have r := pures_rep r1 ex
      exact ⟨by rw [r.length]; exact LIM_le (by assumption), mkLst sr1 r fun H' x' s' v rv => q H' ms1 x' s' v rv⟩
    · cases e
theorem se_newl {es : List Expr} (h : PA X es (rdL C F W₀ ca)) : PE X (.List es pos) (rdE C F W₀ (.newl ca)) :=
  peW (pe_lst h) fun σ H Q ⟨env, st, ms, en, sr, h⟩ => rdL_bind en sr h fun vs ws st1 H1 ms1 en1 sr1 e1 r1 h1 => by
    split at h1
    · rename_i xs ex
      split at h1
      · have r := pures_rep r1 ex
        refine ⟨by rw [r.length]; exact LIM_le (by assumption), fun p hp => ?_⟩
        refine h1 _ _ (Ext.newS sr1 hp) (sr1.newS hp r) _ ⟨p, ?_, rfl⟩
        rw [← sr1.len, List.getElem?_append_right (Nat.le_refl _), Nat.sub_self]
        rfl
      · exact h1.elim
    · exact h1.elim
/-! ### built-ins -/
/-- what a built-in promises, by plain data -/
def rBi (C : Cn) (f : List PD → Option PD) : List V → Hp → VK → Prop := fun vs H Q => ∃ ms st ps d, StRep C H ms st ∧ Nows C.K H ms ps vs ∧ f ps = some d ∧ ∀ H', Ext C.k H ms H' ms → StRep C H' ms st → ∀ v, Rep C.K H' ms d v → Q v H'
theorem caW {f : Value} {r r' : List V → Hp → VK → Prop} (h : CallR X f r) (k : ∀ vs H Q, r' vs H Q → r vs H Q) : CallR X f r' := fun pins s σ H xs us Q I rv q => h pins s σ H xs us Q I rv (k xs H Q q)
theorem now1 {K : PySem.W.Frag} {p : PD} {vs : List V} (h : Nows K H ms [p] vs) : ∃ v, vs = [v] ∧ Now K H ms p v := by
  cases h with
  | cons r t => cases t; exact ⟨_, rfl, r⟩
theorem now2 {K : PySem.W.Frag} {p q : PD} {vs : List V} (h : Nows K H ms [p, q] vs) : ∃ v u, vs = [v, u] ∧ Now K H ms p v ∧ Now K H ms q u := by
  cases h with
  | cons r t =>
    obtain ⟨u, rfl, z⟩ := now1 t
    exact ⟨_, u, rfl, r, z⟩
theorem ints_rep : ∀ {l : List PD} {vs : List V} {ns : List Int}, RepL C.K H ms l vs → intsD l = some ns → vs = ns.map V.int
  | [], _, _, r, e => by cases e; exact r
  | .int i :: l, _, _, ⟨v, vs, e1, r1, r2⟩, e => by
    obtain ⟨ys, e2, rfl⟩ := Option.map_eq_some_iff.mp e
    rw [e1, ints_rep r2 e2, show v = V.int i from r1]
    rfl
  | .none :: _, _, _, _, e => by cases e
  | .bool _ :: _, _, _, _, e => by cases e
  | .str _ :: _, _, _, _, e => by cases e
  | .list _ :: _, _, _, _, e => by cases e
  | .tuple _ :: _, _, _, _, e => by cases e
  | .dict _ :: _, _, _, _, e => by cases e
theorem bools_rep : ∀ {l : List PD} {vs : List V} {ns : List Bool}, RepL C.K H ms l vs → boolsD l = some ns → vs = ns.map V.bl
  | [], _, _, r, e => by cases e; exact r
  | .bool i :: l, _, _, ⟨v, vs, e1, r1, r2⟩, e => by
    obtain ⟨ys, e2, rfl⟩ := Option.map_eq_some_iff.mp e
    rw [e1, bools_rep r2 e2, show v = V.bl i from r1]
    rfl
  | .none :: _, _, _, _, e => by cases e
  | .int _ :: _, _, _, _, e => by cases e
  | .str _ :: _, _, _, _, e => by cases e
  | .list _ :: _, _, _, _, e => by cases e
  | .tuple _ :: _, _, _, _, e => by cases e
  | .dict _ :: _, _, _, _, e => by cases e
theorem cb_len (hK : X.K = C.K) : CallR X (.builtin "len") (rBi C (bi .len)) := by
  refine caW (CallR.or call_len_seq call_len_str) fun vs H Q h => ?_
  obtain ⟨ms, st, ps, d, sr, n, e, k⟩ := h
  simp only [bi] at e
  split at e <;> (try contradiction)
  · cases e
    obtain ⟨v, rfl, nn⟩ := now1 n
    obtain ⟨a, xs, rfl, h1, r1⟩ := nn.list
    exact .inl ⟨a, xs, rfl, .inl (by rw [hK]; exact h1), k H Ext.refl sr _ (by rw [r1.length]; rfl)⟩
  · cases e
    obtain ⟨v, rfl, nn⟩ := now1 n
    obtain ⟨a, xs, rfl, h1, r1⟩ := nn.tuple
    exact .inl ⟨a, xs, rfl, .inr (by rw [hK]; exact h1), k H Ext.refl sr _ (by rw [r1.length]; rfl)⟩
  · split at e
    · cases e
      obtain ⟨v, rfl, nn⟩ := now1 n
      exact .inr ⟨_, by rw [nn.str], LIM_le (by assumption), k H Ext.refl sr _ rfl⟩
    · cases e
theorem cb_abs : CallR X (.builtin "abs") (rBi C (bi .abs)) := by
  refine caW call_abs fun vs H Q h => ?_
  obtain ⟨ms, st, ps, d, sr, n, e, k⟩ := h
  simp only [bi] at e
  split at e <;> (try contradiction)
  cases e
  obtain ⟨v, rfl, nn⟩ := now1 n
  exact ⟨_, by rw [nn.int], k H Ext.refl sr _ rfl⟩
theorem cb_int : CallR X (.type "int") (rBi C (bi .int)) := by
  refine caW call_int1 fun vs H Q h => ?_
  obtain ⟨ms, st, ps, d, sr, n, e, k⟩ := h
  simp only [bi] at e
  split at e <;> (try contradiction)
  · cases e
    obtain ⟨v, rfl, nn⟩ := now1 n
    exact .inl ⟨_, by rw [nn.int], k H Ext.refl sr _ rfl⟩
  · cases e
    obtain ⟨v, rfl, nn⟩ := now1 n
    exact .inr ⟨_, by rw [nn.bool], k H Ext.refl sr _ rfl⟩
theorem cb_sum (hK : X.K = C.K) (hc : X.calm = true) : CallR X (.builtin "sum") (rBi C (bi .sum)) := by
  refine caW (cr_sum hc) fun vs H Q h => ?_
  obtain ⟨ms, st, ps, d, sr, n, e, k⟩ := h
  simp only [bi] at e
  split at e <;> (try contradiction)
  obtain ⟨ns, en, rfl⟩ := Option.map_eq_some_iff.mp e
  obtain ⟨v, rfl, nn⟩ := now1 n
  obtain ⟨a, xs, rfl, h1, r1⟩ := nn.list
  exact ⟨a, ns, rfl, by rw [hK, ← ints_rep r1 en]; exact h1, k H Ext.refl sr _ rfl⟩
theorem cb_all (hK : X.K = C.K) (hc : X.calm = true) : CallR X (.builtin "all") (rBi C (bi .all)) := by
  refine caW (cr_all hc) fun vs H Q h => ?_
  obtain ⟨ms, st, ps, d, sr, n, e, k⟩ := h
  simp only [bi] at e
  split at e <;> (try contradiction)
  obtain ⟨ns, en, rfl⟩ := Option.map_eq_some_iff.mp e
  obtain ⟨v, rfl, nn⟩ := now1 n
  obtain ⟨a, xs, rfl, h1, r1⟩ := nn.list
  exact ⟨a, ns, rfl, by rw [hK, ← bools_rep r1 en]; exact h1, k H Ext.refl sr _ rfl⟩
theorem cb_any (hK : X.K = C.K) (hc : X.calm = true) : CallR X (.builtin "any") (rBi C (bi .any)) := by
  refine caW (cr_any hc) fun vs H Q h => ?_
  obtain ⟨ms, st, ps, d, sr, n, e, k⟩ := h
  simp only [bi] at e
  split at e <;> (try contradiction)
  obtain ⟨ns, en, rfl⟩ := Option.map_eq_some_iff.mp e
  obtain ⟨v, rfl, nn⟩ := now1 n
  obtain ⟨a, xs, rfl, h1, r1⟩ := nn.list
  exact ⟨a, ns, rfl, by rw [hK, ← bools_rep r1 en]; exact h1, k H Ext.refl sr _ rfl⟩
theorem cb_tuple (hK : X.K = C.K) : CallR X (.type "tuple") (rBi C (bi .tuple)) := by
  refine caW call_tuple_of fun vs H Q h => ?_
  obtain ⟨ms, st, ps, d, sr, n, e, k⟩ := h
  simp only [bi] at e
  split at e <;> (try contradiction)
  · cases e
    obtain ⟨v, rfl, nn⟩ := now1 n
    obtain ⟨a, xs, rfl, h1, r1⟩ := nn.list
    exact ⟨a, xs, rfl, .inl ⟨by rw [hK]; exact h1, mkTup sr r1 k⟩⟩
  · cases e
    obtain ⟨v, rfl, nn⟩ := now1 n
    have t := nn.tupleR
    obtain ⟨a, xs, rfl, h1, r1⟩ := nn.tuple
    exact ⟨a, xs, rfl, .inr ⟨by rw [hK]; exact h1, k H Ext.refl sr _ t⟩⟩
theorem cb_list (hK : X.K = C.K) : CallR X (.type "list") (rBi C (bi .list)) := by
  refine caW call_list_of fun vs H Q h => ?_
  obtain ⟨ms, st, ps, d, sr, n, e, k⟩ := h
  simp only [bi] at e
  split at e <;> (try contradiction)
  · cases e
    obtain ⟨v, rfl, nn⟩ := now1 n
    obtain ⟨a, xs, rfl, h1, r1⟩ := nn.list
    exact ⟨a, xs, rfl, .inl (by rw [hK]; exact h1), mkLst sr r1 k⟩
  · cases e
    obtain ⟨v, rfl, nn⟩ := now1 n
    obtain ⟨a, xs, rfl, h1, r1⟩ := nn.tuple
    exact ⟨a, xs, rfl, .inr (by rw [hK]; exact h1), mkLst sr r1 k⟩
theorem cb_max (hc : X.calm = true) : CallR X (.builtin "max") (rBi C (bi .max)) := by
  refine caW (call_max2 hc) fun vs H Q h => ?_
  obtain ⟨ms, st, ps, d, sr, n, e, k⟩ := h
  simp only [bi] at e
  split at e <;> (try contradiction)
  cases e
  obtain ⟨v, u, rfl, n1, n2⟩ := now2 n
  exact ⟨_, _, by rw [n1.int, n2.int], k H Ext.refl sr _ rfl⟩
theorem cb_min (hc : X.calm = true) : CallR X (.builtin "min") (rBi C (bi .min)) := by
  refine caW (call_min2 hc) fun vs H Q h => ?_
  obtain ⟨ms, st, ps, d, sr, n, e, k⟩ := h
  simp only [bi] at e
  split at e <;> (try contradiction)
  cases e
  obtain ⟨v, u, rfl, n1, n2⟩ := now2 n
  exact ⟨_, _, by rw [n1.int, n2.int], k H Ext.refl sr _ rfl⟩
/-- repr of plain data -/
theorem call_repr (hg : X.A.guards = some []) (hu : X.A.units + 65 < cLine) : CallR X (.builtin "repr") (fun vs H Q => ∃ d v, vs = [v] ∧ Dp X.K H v d ∧ d.showable = true ∧ SeqAt.shaped d = true ∧ d.shown.length ≤ sizeLine ∧ Q (.str d.shown) H) := by
  intro pins s σ H xs us Q I r h
  obtain ⟨d, v, rfl, hd, hs, sh, hz, q⟩ := h
  obtain ⟨u, rfl, ru⟩ := vals1 r
  have hdep := SeqAt.depth_of_shaped sh
  obtain ⟨as, rd⟩ := Dp.reads I d v u hd ru
  have big : ∀ a : Addr, u = .ref a → wpAny (model X.prog X.w) X.A (call (.builtin "repr") [u]) (EP X pins σ Q) X.xe s := fun a e => by
    subst e
    exact repr_of_reads' rd hs (PyData.noDict_hsm (PyData.hasDict_of_canLay d (SeqAt.canLay_of_shaped sh))) hg (by omega) (fun _ _ e => e) (fun h' t tk hk => ⟨.str d.shown, H, I.kept (t' := tk) hk, ⟨t, rfl⟩, q⟩) hz
  cases hd with
  | non => cases ru; exact PySem.P.repr_of_none ⟨.str _, H, I.tok _, ⟨_, rfl⟩, q⟩
  | bl b => cases ru; exact PySem.P.repr_of_bool ⟨.str _, H, I.tok _, ⟨_, rfl⟩, by cases b <;> exact q⟩
  | int i =>
    obtain ⟨t, rfl⟩ := ru
    exact PySem.P.repr_of_int (by simpa [PyData.showable] using hs) ⟨.str _, H, I.tok _, ⟨_, rfl⟩, q⟩
  | str x =>
    obtain ⟨t, rfl⟩ := ru
    exact PySem.P.repr_of_str ⟨.str _, H, I.tok _, ⟨_, rfl⟩, q⟩ hz
  | lst _ _ => exact big _ ru
  | tup _ _ => exact big _ ru
theorem cb_repr (hK : X.K = C.K) (hg : X.A.guards = some []) (hu : X.A.units + 65 < cLine) : CallR X (.builtin "repr") (rBi C (bi .repr)) := by
  refine caW (call_repr hg hu) fun vs H Q h => ?_
  obtain ⟨ms, st, ps, d, sr, n, e, k⟩ := h
  simp only [bi] at e
  split at e <;> (try contradiction)
  split at e
  · rename_i hh
    cases e
    obtain ⟨v, rfl, nn⟩ := now1 n
    rw [Bool.and_eq_true, Bool.and_eq_true, decide_eq_true_eq] at hh
    exact ⟨_, v, rfl, by rw [hK]; exact nn.dp, hh.1.1, hh.1.2, LIM_le hh.2, k H Ext.refl sr _ rfl⟩
  · cases e
def biVal : Bi → Value
  | .len => .builtin "len"
  | .abs => .builtin "abs"
  | .int => .type "int"
  | .sum => .builtin "sum"
  | .all => .builtin "all"
  | .any => .builtin "any"
  | .tuple => .type "tuple"
  | .list => .type "list"
  | .max => .builtin "max"
  | .min => .builtin "min"
  | .repr => .builtin "repr"
theorem cb_bi (hK : X.K = C.K) (hc : X.calm = true) (hg : X.A.guards = some []) (hu : X.A.units + 65 < cLine) (b : Bi) : CallR X (biVal b) (rBi C (bi b)) := by
  cases b with
  | len => exact cb_len hK
  | abs => exact cb_abs
  | int => exact cb_int
  | sum => exact cb_sum hK hc
  | all => exact cb_all hK hc
  | any => exact cb_any hK hc
  | tuple => exact cb_tuple hK
  | list => exact cb_list hK
  | max => exact cb_max hc
  | min => exact cb_min hc
  | repr => exact cb_repr hK hg hu
end
end Mini

set_option Elab.async false
set_option linter.all false
set_option maxRecDepth 100000
set_option maxHeartbeats 2000000
/-! Mini, part F: calls of built-ins, subscripts, what is walked, comprehensions. -/
namespace Mini
open PySem PySem.Spec PyProof.Rows L2
section
variable {C : Cn} {F : Fe} {W₀ : WX} {X : Cx} {a b c : Expr} {ca cb cc : E} {pos : Pos}
def biName : Bi → Str
  | .len => "len"
  | .abs => "abs"
  | .int => "int"
  | .sum => "sum"
  | .all => "all"
  | .any => "any"
  | .tuple => "tuple"
  | .list => "list"
  | .max => "max"
  | .min => "min"
  | .repr => "repr"
theorem biVal_kind (b : Bi) : (∃ id, biVal b = .builtin id) ∨ ∃ T, biVal b = .type T := by cases b <;> first | exact .inl ⟨_, rfl⟩ | exact .inr ⟨_, rfl⟩
theorem boot_bi (b : Bi) : bootBuiltins (biName b) = some (biVal b) := by cases b <;> decide +kernel
theorem biName_n (b : Bi) : biName b ≠ "__name__" := by cases b <;> decide +kernel
theorem biName_d (b : Bi) : (biName b == ("__debug__" : Str)) = false := by cases b <;> decide +kernel
theorem se_bi {p : Pos} {es : List Expr} (hK : X.K = C.K) (hc : X.calm = true) (hgd : X.A.guards = some []) (hu : X.A.units + 65 < cLine) (f : Bi) (hg : Gl X (biName f)) (hm : X.mg (biName f) = none)
    (ha : PA X (a :: es) (rdL C F W₀ ca)) (hn : (a :: es).all nostar = true) : PE X (.Call (.Name (biName f) p) (a :: es) [] pos) (rdE C F W₀ (.bi f ca)) := by
  have hh := hn
  rw [List.all_cons, Bool.and_eq_true] at hh
  have go : ∀ r : List V → Hp → VK → Prop, r = rBi C (bi f) → ∀ σ H Q, rdE C F W₀ (.bi f ca) σ H Q → tCB r (rdL C F W₀ ca) σ H Q := fun r er σ H Q ⟨env, st, ms, en, sr, h⟩ =>
    rdL_bind en sr h fun vs ws st1 H1 ms1 en1 sr1 e1 r1 h1 => by
      obtain ⟨d, e, q⟩ := h1.of
      obtain ⟨xs, ex, e⟩ := Option.bind_eq_some_iff.mp e
      obtain ⟨z, ez, rfl⟩ := Option.map_eq_some_iff.mp e
      rw [er]
      exact ⟨ms1, st1, xs, z, sr1, datas_now sr1 r1 ex, ez, fun H' x' s' v rv => q H' ms1 x' s' v rv⟩
  have cb := cb_bi (X := X) (C := C) hK hc hgd hu f
  have bt := boot_bi f
  rcases biVal_kind f with ⟨id, e⟩ | ⟨T, e⟩
  · rw [e] at cb bt
    exact peW (pe_callB cb hg hm bt ha (biName_n f) (biName_d f) (star_eq hh.1) (star_any hh.2)) (go _ rfl)
  · rw [e] at cb bt
    exact peW (pe_callTy cb hg hm bt ha (biName_n f) (biName_d f) (star_eq hh.1) (star_any hh.2)) (go _ rfl)
/-! ### subscripts -/
def noslice : Expr → Bool
  | .Slice _ _ _ _ => false
  | _ => true
theorem plain_ix {b : Expr} (h : noslice b = true) : PlainIx b := fun o i => by
  cases b <;> first | rfl | cases h
theorem atI_rep {K : PySem.W.Frag} {H : Hp} {ms : List Addr} {l : List PD} {xs : List V} {i : Int} {d : PD} (r : RepL K H ms l xs) (e : atI l i = some d) : ∃ v, atI xs i = some v ∧ Rep K H ms d v := by
  unfold atI at e ⊢
  obtain ⟨j, e1, e2⟩ := Option.bind_eq_some_iff.mp e
  obtain ⟨v, e3, rv⟩ := r.get e2
  exact ⟨v, by rw [r.length, e1]; exact e3, rv⟩
theorem se_ix (hK : X.K = C.K) (ha : PE X a (rdE C F W₀ ca)) (hb : PE X b (rdE C F W₀ cb)) (hn : noslice b = true) : PE X (.Subscript a b pos) (rdE C F W₀ (.ix ca cb)) :=
  peW (pe_ix ix_seq ha hb (plain_ix hn)) fun σ H Q ⟨env, st, ms, en, sr, h⟩ =>
    rd_bind en sr h fun x w st1 H1 ms1 en1 sr1 e1 r1 h1 => rd_bind en1 sr1 h1 fun y w2 st2 H2 ms2 en2 sr2 e2 r2 h2 => by
      obtain ⟨d, e, q⟩ := h2.of
      obtain ⟨p, ep, e⟩ := Option.bind_eq_some_iff.mp e
      obtain ⟨p2, ep2, e⟩ := Option.bind_eq_some_iff.mp e
      obtain ⟨z, ez, rfl⟩ := Option.map_eq_some_iff.mp e
      have n1 := (r1.mono e2).now sr2 ep
      have n2 := r2.now sr2 ep2
      have q := q H2 ms2 Ext.refl sr2
      unfold ixD at ez
      split at ez <;> (try contradiction)
      · obtain ⟨aa, xs, rfl, hq, rr⟩ := n1.list
        obtain ⟨v, ev, rv⟩ := atI_rep rr ez
        exact .inl ⟨aa, xs, _, v, rfl, n2.int, by rw [hK]; exact hq, ev, q v rv⟩
      · obtain ⟨aa, xs, rfl, hq, rr⟩ := n1.tuple
        obtain ⟨v, ev, rv⟩ := atI_rep rr ez
        exact .inr (.inl ⟨aa, xs, _, v, rfl, n2.int, by rw [hK]; exact hq, ev, q v rv⟩)
/-- a slice's end -/
def rdO (C : Cn) (F : Fe) (W₀ : WX) (c : E) : TO := fun σ H Q => ∃ env st ms, EnRep C H ms σ env ∧ StRep C H ms st ∧ Post C W₀ σ H ms (endOf c (evE F c env) st) fun o _ H' _ => Q o H'
theorem so_none : PO X none (rdO C F W₀ .nil) := ⟨fun pins s σ H Q I ⟨env, st, ms, en, sr, h⟩ => po_none.run pins s σ H Q I (Post.ok sr h)⟩
theorem endOf_some {c : E} {r : Sto → Rs W} {s : Sto} (h : c ≠ .nil) : endOf c r s = (r s).bind fun x s => (viewR x s).bind fun x s => .of ((asI x).map some) s := by
  cases c <;> first | rfl | exact absurd rfl h
theorem so_some (ha : PE X a (rdE C F W₀ ca)) (hn : ca ≠ .nil) : PO X (some a) (rdO C F W₀ ca) := ⟨fun pins s σ H Q I ⟨env, st, ms, en, sr, h⟩ => (po_some ha).run pins s σ H Q I (by
  rw [endOf_some hn] at h
  refine rd_bind en sr h fun x w st1 H1 ms1 en1 sr1 e1 r1 h1 => ?_
  obtain ⟨p, ep, h2⟩ := h1.bind.of
  obtain ⟨o, eo, h3⟩ := (h2 H1 ms1 Ext.refl sr1).of
  obtain ⟨i, ei, rfl⟩ := Option.map_eq_some_iff.mp eo
  have n := r1.now sr1 ep
  have q := h3 H1 ms1 Ext.refl sr1
  clear h2 h3
  cases p with
  | int j => cases ei; exact ⟨_, n.int, q⟩
  | _ => cases ei)⟩
def rSl (C : Cn) : V → Option Int → Option Int → Hp → VK → Prop := fun x lo hi H Q => ∃ ms st p d, StRep C H ms st ∧ Now C.K H ms p x ∧ slD p lo hi = some d ∧ ∀ H', Ext C.k H ms H' ms → StRep C H' ms st → ∀ v, Rep C.K H' ms d v → Q v H'
theorem cut_rep {K : PySem.W.Frag} {H : Hp} {ms : List Addr} {l : List PD} {xs : List V} (r : RepL K H ms l xs) (lo hi : Option Int) : RepL K H ms (cutL l lo hi) (cutV xs lo hi) := by
  unfold cutL cutV
  rw [r.length]
  exact (r.drop _).take _
theorem sl_all (hK : X.K = C.K) : SlR X (rSl C) := by
  have base := SlR.or (sl_list (X := X)) (sl_tupA (X := X))
  intro pins s σ H x v vl vu lo hi sl Q I rx hs pl pu h
  refine base pins s σ H x v vl vu lo hi sl Q I rx hs pl pu ?_
  obtain ⟨ms, st, p, d, sr, n, e, k⟩ := h
  unfold slD at e
  split at e <;> (try contradiction)
  · cases e
    obtain ⟨aa, xs, rfl, hq, rr⟩ := n.list
    exact .inl ⟨aa, xs, rfl, by rw [hK]; exact hq, mkLst sr (cut_rep rr lo hi) k⟩
  · rename_i l
    cases e
    have t := n.tupleR
    obtain ⟨aa, xs, rfl, hq, rr⟩ := n.tuple
    refine .inr ⟨aa, xs, rfl, by rw [hK]; exact hq, fun hw => ?_, fun _ => mkTup sr (cut_rep rr lo hi) k⟩
    refine k H Ext.refl sr _ ?_
    have : cutL l lo hi = l := by
      unfold cutL
      rw [← rr.length, hw.1, hw.2, List.drop_zero, Nat.sub_zero, rr.length, List.take_length]
    rw [this]
    exact t
theorem se_sl {clo chi : E} {lo hi : Option Expr} {p2 : Pos} (hK : X.K = C.K) (ha : PE X a (rdE C F W₀ ca)) (hl : PO X lo (rdO C F W₀ clo)) (hh : PO X hi (rdO C F W₀ chi)) : PE X (.Subscript a (.Slice lo hi none p2) pos) (rdE C F W₀ (.sl ca clo chi)) :=
  peW (pe_slice (sl_all (C := C) hK) ha hl hh) fun σ H Q ⟨env, st, ms, en, sr, h⟩ =>
    rd_bind en sr h fun x w st1 H1 ms1 en1 sr1 e1 r1 h1 => ⟨env, st1, ms1, en1, sr1, h1.bind.imp fun o st2 H2 ms2 x2 sr2 h2 => ⟨env, st2, ms2, en1.mono x2, sr2, h2.bind.imp fun o2 st3 H3 ms3 x3 sr3 h3 => by
      obtain ⟨d, e, q⟩ := h3.of
      obtain ⟨p, ep, e⟩ := Option.bind_eq_some_iff.mp e
      obtain ⟨z, ez, rfl⟩ := Option.map_eq_some_iff.mp e
      exact ⟨ms3, st3, p, z, sr3, ((r1.mono x2).mono x3).now sr3 ep, ez, fun H' x' s' v rv => q H' ms3 x' s' v rv⟩⟩⟩
theorem se_rev {k : Nat} {p1 p2 p3 : Pos} (hK : X.K = C.K) (ha : PE X a (rdE C F W₀ ca)) : PE X (.Subscript a (.Slice none none (some (.UnaryOp .USub (.Constant (.int 1) k p1) p2)) p3) pos) (rdE C F W₀ (.rev ca)) :=
  peW (pe_rev ha) fun σ H Q ⟨env, st, ms, en, sr, h⟩ =>
    rd_bind en sr h fun x w st1 H1 ms1 en1 sr1 e1 r1 h1 => by
      obtain ⟨d, e, q⟩ := h1.of
      obtain ⟨p, ep, e⟩ := Option.bind_eq_some_iff.mp e
      obtain ⟨z, ez, rfl⟩ := Option.map_eq_some_iff.mp e
      have n := r1.now sr1 ep
      unfold revD at ez
      split at ez <;> (try contradiction)
      · cases ez
        obtain ⟨aa, xs, rfl, hq, rr⟩ := n.list
        exact ⟨aa, xs, rfl, .inl ⟨by rw [hK]; exact hq, mkLst sr1 rr.reverse fun H' x' s' v rv => q H' ms1 x' s' v rv⟩⟩
      · cases ez
        obtain ⟨aa, xs, rfl, hq, rr⟩ := n.tuple
        exact ⟨aa, xs, rfl, .inr ⟨by rw [hK]; exact hq, mkTup sr1 rr.reverse fun H' x' s' v rv => q H' ms1 x' s' v rv⟩⟩
/-! ### isinstance -/
def tyName : Ty → String
  | .int => "int"
  | .bool => "bool"
  | .str => "str"
  | .tuple => "tuple"
  | .list => "list"
theorem ty_list {K : PySem.W.Frag} {H : Hp} {a : Addr} {xs : List V} (h : SqL K H a xs) : TyX K H (.ref a) (.type "list") := by
  rcases h with (h | ⟨o, h⟩) | ⟨o, its, n, h1, h2, _⟩
  · exact .base (.lst h)
  · exact .base (.frz h)
  · exact .kList h1 h2
theorem ty_tup {K : PySem.W.Frag} {H : Hp} {a : Addr} {xs : List V} (h : SqT K H a xs) : TyX K H (.ref a) (.type "tuple") := by
  rcases h with (h | ⟨o, h⟩) | ⟨o, its, n, h1, h2, _⟩
  · exact .base (.tup h)
  · exact .fTuple h
  · exact .kTuple h1 h2
theorem now_ty {K : PySem.W.Frag} {H : Hp} {ms : List Addr} {d : PD} {v : V} {t : Ty} {b : Bool} (n : Now K H ms d v) (e : isD t d = some b) : ∃ T, TyX K H v (.type T) ∧ PySem.W.kitOne K (.type T) (.type (tyName t)) = some b := by
  cases d with
  | none => rw [n.none]; exact ⟨"NoneType", .base .non, kit_ty (by cases t <;> cases e <;> decide +kernel)⟩
  | bool x => rw [n.bool]; exact ⟨"bool", .base (.bl x), kit_ty (by cases t <;> cases e <;> decide +kernel)⟩
  | int x => rw [n.int]; exact ⟨"int", .base (.int x), kit_ty (by cases t <;> cases e <;> decide +kernel)⟩
  | str x => rw [n.str]; exact ⟨"str", .base (.str x), kit_ty (by cases t <;> cases e <;> decide +kernel)⟩
  | list x => obtain ⟨a, xs, rfl, h, _⟩ := n.list; exact ⟨"list", ty_list h, kit_ty (by cases t <;> cases e <;> decide +kernel)⟩
  | tuple x => obtain ⟨a, xs, rfl, h, _⟩ := n.tuple; exact ⟨"tuple", ty_tup h, kit_ty (by cases t <;> cases e <;> decide +kernel)⟩
  | dict x => exact n.dict.elim
theorem boot_ty (t : Ty) : bootBuiltins (tyName t) = some (.type (tyName t)) := by cases t <;> decide +kernel
theorem ty_n (t : Ty) : (tyName t : Str) ≠ "__name__" := by cases t <;> decide +kernel
theorem ty_d (t : Ty) : ((tyName t : Str) == ("__debug__" : Str)) = false := by cases t <;> decide +kernel
theorem se_isi {p p2 : Pos} (hK : X.K = C.K) (t : Ty) (hg : Gl X "isinstance") (hm : X.mg "isinstance" = none) (hg2 : Gl X (tyName t)) (hm2 : X.mg (tyName t) = none) (ha : PE X a (rdE C F W₀ ca)) (hn : nostar a = true) :
    PE X (.Call (.Name "isinstance" p) [a, .Name (tyName t) p2] [] pos) (rdE C F W₀ (.isi ca t)) := by
  have hty : PE X (.Name (tyName t) p2) (tC (.ty (tyName t))) := pe_bltn hg2 hm2 (boot_ty t) rfl (ty_n t) (ty_d t)
  have hargs := pa_cons ha (pa_cons hty pa_nil (star_eq rfl)) (star_eq hn)
  refine peW (pe_callB call_isi hg hm (by decide +kernel) hargs (by decide) (by decide) (star_eq hn) (star_any rfl)) fun σ H Q ⟨env, st, ms, en, sr, h⟩ => ?_
  refine rd_bind en sr h fun x w st1 H1 ms1 en1 sr1 e1 r1 h1 => ?_
  obtain ⟨d, e, q⟩ := h1.of
  obtain ⟨p, ep, e⟩ := Option.bind_eq_some_iff.mp e
  obtain ⟨z, ez, rfl⟩ := Option.map_eq_some_iff.mp e
  obtain ⟨b, eb, rfl⟩ := Option.map_eq_some_iff.mp ez
  obtain ⟨T, tx, k⟩ := now_ty (r1.now sr1 ep) eb
  exact ⟨x, _, _, _, b, rfl, .ty _, by rw [hK]; exact tx, by rw [hK]; exact k, q H1 ms1 Ext.refl sr1 _ rfl⟩
end
end Mini

set_option Elab.async false
set_option linter.all false
set_option maxRecDepth 100000
set_option maxHeartbeats 2000000
/-! Mini, part G: what is walked, comprehensions. -/
namespace Mini
open PySem PySem.Spec PyProof.Rows L2
abbrev Cn.at (C : Cn) (k : Nat) : Cn := { C with k := k }
/-- a later world, perhaps with more lists under way, in which the walked lists g stand -/
structure Seen (C : Cn) (H0 : Hp) (ms0 : List Addr) (g : List (Nat × List PD)) (k : Nat) (H : Hp) (ms : List Addr) (st : Sto) : Prop where
  sub : Sub H0 ms0 H ms
  idx : ∀ (n : Nat) a, ms0[C.k + n]? = some a → ms[k + n]? = some a
  sr : StRep (C.at k) H ms st
  kp : kept g st = true
/-- a walk J yields the items ds, as long as the lists of g stand -/
structure Wk (C : Cn) (J : It) (g : List (Nat × List PD)) (ds : List PD) (H0 : Hp) (ms0 : List Addr) : Prop where
  go : ∀ i x k H ms st, Seen C H0 ms0 g k H ms st → ds[i]? = some x → J.go i H
  yld : ∀ i d k H ms st x H', Seen C H0 ms0 g k H ms st → ds[i]? = some d → J.yld i H x H' → Ext k H ms H' ms ∧ StRep (C.at k) H' ms st ∧ Rep C.K H' ms d x ∧ ∀ a o, H a = some o → H' a = some o
  stop : ∀ i k H ms st, Seen C H0 ms0 g k H ms st → ds.length ≤ i → J.stop i H
mutual
theorem sameD_eq : ∀ a b : PD, sameD a b = true → a = b
  | .none, b, h => by cases b <;> first | rfl | cases h
  | .bool x, b, h => by
    cases b <;> first | (rw [eq_of_beq (show (x == _) = true from h)]) | cases h
  | .int x, b, h => by
    cases b <;> first | (rw [eq_of_beq (show (x == _) = true from h)]) | cases h
  | .str x, b, h => by
    cases b <;> first | (rw [eq_of_beq (show (x == _) = true from h)]) | cases h
  | .list x, b, h => by
    cases b <;> first | (rw [sameL_eq x _ h]) | cases h
  | .tuple x, b, h => by
    cases b <;> first | (rw [sameL_eq x _ h]) | cases h
  | .dict x, b, h => by cases b <;> cases h
theorem sameL_eq : ∀ a b : List PD, sameL a b = true → a = b
  | [], [], _ => rfl
  | [], _ :: _, h => by cases h
  | _ :: _, [], h => by cases h
  | a :: r, b :: t, h => by
    have h : (sameD a b && sameL r t) = true := h
    rw [Bool.and_eq_true] at h
    rw [sameD_eq a b h.1, sameL_eq r t h.2]
end
theorem kept_one {n : Nat} {ds : List PD} {st : Sto} (h : kept [(n, ds)] st = true) : st[n]? = some (.lst ds) := by
  unfold kept at h
  rw [List.all_cons, Bool.and_eq_true] at h
  have h := h.1
  simp only at h
  split at h
  · rename_i xs e
    rw [e, sameL_eq _ _ h]
  · cases h
section
variable {C : Cn} {F : Fe} {W₀ : WX} {X : Cx} {ca cb cc : E} {pos : Pos} {H : Hp} {ms : List Addr} {st : Sto}
/-- a list, a tuple read at each turn as it stands -/
theorem wk_list {a : Addr} {g : List (Nat × List PD)} {ds : List PD} (h : ∀ k H' ms' st, Seen C H ms g k H' ms' st → ∃ xs, SqL C.K H' a xs ∧ RepL C.K H' ms' ds xs) : Wk C (Itl C.K a) g ds H ms where
  go := fun i x k H' ms' st sn e => by
    obtain ⟨xs, hq, r⟩ := h k H' ms' st sn
    obtain ⟨v, ev, _⟩ := r.get e
    exact ⟨xs, v, hq, ev⟩
  yld := fun i d k H' ms' st x H2 sn e y => by
    obtain ⟨xs, hq, r⟩ := h k H' ms' st sn
    obtain ⟨v, ev, rv⟩ := r.get e
    obtain ⟨rfl, y⟩ := y
    have := y xs hq
    rw [ev] at this
    cases this
    exact ⟨Ext.refl, sn.sr, rv, fun _ _ e => e⟩
  stop := fun i k H' ms' st sn e => by
    obtain ⟨xs, hq, r⟩ := h k H' ms' st sn
    exact ⟨xs, hq, by rw [r.length]; exact e⟩
theorem wk_tup {a : Addr} {g : List (Nat × List PD)} {ds : List PD} (h : ∀ k H' ms' st, Seen C H ms g k H' ms' st → ∃ xs, SqT C.K H' a xs ∧ RepL C.K H' ms' ds xs) : Wk C (Itt C.K a) g ds H ms where
  go := fun i x k H' ms' st sn e => by
    obtain ⟨xs, hq, r⟩ := h k H' ms' st sn
    obtain ⟨v, ev, _⟩ := r.get e
    exact ⟨xs, v, hq, ev⟩
  yld := fun i d k H' ms' st x H2 sn e y => by
    obtain ⟨xs, hq, r⟩ := h k H' ms' st sn
    obtain ⟨v, ev, rv⟩ := r.get e
    obtain ⟨rfl, y⟩ := y
    have := y xs hq
    rw [ev] at this
    cases this
    exact ⟨Ext.refl, sn.sr, rv, fun _ _ e => e⟩
  stop := fun i k H' ms' st sn e => by
    obtain ⟨xs, hq, r⟩ := h k H' ms' st sn
    exact ⟨xs, hq, by rw [r.length]; exact e⟩
theorem rangeD_get {lo hi : Int} {l : List PD} (h : rangeD lo hi = some l) : l.length = (hi - lo).toNat ∧ ∀ (i : Nat) x, l[i]? = some x → i < (hi - lo).toNat ∧ x = .int (lo + i) := by
  unfold rangeD at h
  split at h
  · cases h
    refine ⟨by rw [List.length_map, List.length_range], fun i x e => ?_⟩
    rw [List.getElem?_map] at e
    obtain ⟨j, e1, rfl⟩ := Option.map_eq_some_iff.mp e
    obtain ⟨h1, h2⟩ := List.getElem?_eq_some_iff.mp e1
    rw [List.length_range] at h1
    rw [List.getElem_range] at h2
    subst h2
    exact ⟨h1, rfl⟩
  · cases h
theorem wk_rng {lo hi : Int} {l : List PD} (h : rangeD lo hi = some l) : Wk C (Itr lo (hi - lo).toNat) [] l H ms where
  go := fun i x k H' ms' st sn e => ((rangeD_get h).2 i x e).1
  yld := fun i d k H' ms' st x H2 sn e y => by
    obtain ⟨rfl, rfl⟩ := y
    obtain ⟨_, rfl⟩ := (rangeD_get h).2 i d e
    exact ⟨Ext.refl, sn.sr, rfl, fun _ _ e => e⟩
  stop := fun i k H' ms' st sn e => by
    rw [(rangeD_get h).1] at e
    exact e
theorem zip_get {f : PD → PD → PD} {a b : List PD} {i : Nat} {d : PD} (h : (List.zipWith f a b)[i]? = some d) : ∃ x y, a[i]? = some x ∧ b[i]? = some y ∧ d = f x y := by
  rw [List.getElem?_zipWith] at h
  split at h
  · cases h
    exact ⟨_, _, by assumption, by assumption, rfl⟩
  · cases h
theorem pair_yld {k : Nat} {H' : Hp} {ms' : List Addr} {T : Addr} {x y : V} {p q : PD} (s1 : StRep (C.at k) H' ms' st) (hT : H' T = none) (r1 : Rep C.K H' ms' p x) (r2 : Rep C.K H' ms' q y) :
    Ext k H' ms' (upd H' T (.tup [x, y])) ms' ∧ StRep (C.at k) (upd H' T (.tup [x, y])) ms' st ∧ Rep C.K (upd H' T (.tup [x, y])) ms' (.tuple [p, q]) (.ref T) ∧ ∀ a o, H' a = some o → (upd H' T (.tup [x, y])) a = some o :=
  ⟨Ext.new hT, s1.new hT, ⟨T, [x, y], rfl, .inl ⟨s1.free hT, .inl upd_same⟩, x, [y], rfl, Rep.mono (Ext.new (k := 0) hT) _ _ r1, y, [], rfl, Rep.mono (Ext.new (k := 0) hT) _ _ r2, rfl⟩, fun a o e => by rw [upd_ne (ne_of_none e hT)]; exact e⟩
theorem wk_zipL {a b : Addr} {da db : List PD} (ha : ∀ H' ms', Sub H ms H' ms' → ∃ xs, SqL C.K H' a xs ∧ RepL C.K H' ms' da xs) (hb : ∀ H' ms', Sub H ms H' ms' → ∃ xs, SqL C.K H' b xs ∧ RepL C.K H' ms' db xs) :
    Wk C (Itz C.K a b) [] (List.zipWith (fun u v => .tuple [u, v]) da db) H ms where
  go := fun i x k H' ms' st sn e => by
    obtain ⟨xs, h1, r1⟩ := ha H' ms' sn.sub
    obtain ⟨ys, h2, r2⟩ := hb H' ms' sn.sub
    obtain ⟨p, q, e1, e2, _⟩ := zip_get e
    obtain ⟨v, ev, _⟩ := r1.get e1
    obtain ⟨u, eu, _⟩ := r2.get e2
    exact ⟨xs, ys, v, u, h1, h2, ev, eu⟩
  yld := fun i d k H' ms' st x H2 sn e y => by
    obtain ⟨xs, h1, r1⟩ := ha H' ms' sn.sub
    obtain ⟨ys, h2, r2⟩ := hb H' ms' sn.sub
    obtain ⟨p, q, e1, e2, rfl⟩ := zip_get e
    obtain ⟨v, ev, rv⟩ := r1.get e1
    obtain ⟨u, eu, ru⟩ := r2.get e2
    obtain ⟨T, x', y', rfl, hT, rfl, y1, y2⟩ := y
    have z1 := y1 xs h1
    have z2 := y2 ys h2
    rw [ev] at z1
    rw [eu] at z2
    cases z1
    cases z2
    exact pair_yld sn.sr hT rv ru
  stop := fun i k H' ms' st sn e => by
    obtain ⟨xs, h1, r1⟩ := ha H' ms' sn.sub
    obtain ⟨ys, h2, r2⟩ := hb H' ms' sn.sub
    rw [List.length_zipWith] at e
    exact ⟨xs, ys, h1, h2, by rw [r1.length, r2.length]; omega⟩
theorem wk_zipT {a b : Addr} {da db : List PD} (ha : ∀ H' ms', Sub H ms H' ms' → ∃ xs, SqT C.K H' a xs ∧ RepL C.K H' ms' da xs) (hb : ∀ H' ms', Sub H ms H' ms' → ∃ xs, SqT C.K H' b xs ∧ RepL C.K H' ms' db xs) :
    Wk C (RZ.ItzT C.K a b) [] (List.zipWith (fun u v => .tuple [u, v]) da db) H ms where
  go := fun i x k H' ms' st sn e => by
    obtain ⟨xs, h1, r1⟩ := ha H' ms' sn.sub
    obtain ⟨ys, h2, r2⟩ := hb H' ms' sn.sub
    obtain ⟨p, q, e1, e2, _⟩ := zip_get e
    obtain ⟨v, ev, _⟩ := r1.get e1
    obtain ⟨u, eu, _⟩ := r2.get e2
    exact ⟨xs, ys, v, u, h1, h2, ev, eu⟩
  yld := fun i d k H' ms' st x H2 sn e y => by
    obtain ⟨xs, h1, r1⟩ := ha H' ms' sn.sub
    obtain ⟨ys, h2, r2⟩ := hb H' ms' sn.sub
    obtain ⟨p, q, e1, e2, rfl⟩ := zip_get e
    obtain ⟨v, ev, rv⟩ := r1.get e1
    obtain ⟨u, eu, ru⟩ := r2.get e2
    obtain ⟨T, x', y', rfl, hT, rfl, y1, y2⟩ := y
    have z1 := y1 xs h1
    have z2 := y2 ys h2
    rw [ev] at z1
    rw [eu] at z2
    cases z1
    cases z2
    exact pair_yld sn.sr hT rv ru
  stop := fun i k H' ms' st sn e => by
    obtain ⟨xs, h1, r1⟩ := ha H' ms' sn.sub
    obtain ⟨ys, h2, r2⟩ := hb H' ms' sn.sub
    rw [List.length_zipWith] at e
    exact ⟨xs, ys, h1, h2, by rw [r1.length, r2.length]; omega⟩
/-- the reading of what is walked -/
def rdW (C : Cn) (F : Fe) (W₀ : WX) (c : E) : TI := fun σ H R => ∃ env st ms, EnRep C H ms σ env ∧ StRep C H ms st ∧ Post C W₀ σ H ms (walk (evE F c env st)) fun p st' H' ms' => ∀ J, Wk C J p.2 p.1 H' ms' → R J H'
/-- a list or a tuple -/
def iSeq (K : PySem.W.Frag) (tl : TE) : TI := fun σ H R => tl σ H fun x H1 => ∃ a xs, x = .ref a ∧ ((SqL K H1 a xs ∧ R (Itl K a) H1) ∨ (SqT K H1 a xs ∧ R (Itt K a) H1))
theorem pi_seq {tg l : Expr} {tl : TE} (hl : PE X l tl) : PI X tg l (iSeq X.K tl) := by
  refine ⟨fun pins s σ H R I h => ?_⟩
  refine thn (hl.run pins s σ H _ I h) fun v s1 ⟨x, H1, I1, r1, q1⟩ => ?_
  obtain ⟨a, xs, e, q⟩ := q1
  subst e
  cases r1
  rcases q with ⟨hq, q⟩ | ⟨hq, q⟩
  · obtain ⟨its, rv, p, hz⟩ := I1.list hq
    refine wpAny_pyIter_list p.isList ?_
    refine ⟨s1.heap.objs.size, [s1.heap.objs.size], _, _, H1, rfl, I1.kept (t' := s1.toks) fun b o e => Heap.get?_push_of_some _ e, turn_list a _, ⟨_, Heap.get?_push_size _ rfl, rfl, rfl⟩, fun b hb => ?_, q⟩
    have e : b = s1.heap.objs.size := by simpa using hb
    subst e
    exact I1.fpOk (Nat.le_refl _) (I1.hok.fresh (Nat.le_refl _))
  · obtain ⟨its, rv, p, hz⟩ := I1.tuple hq
    refine wpAny_pyIter_tuple (show s1.heap.IsTuple a its.toArray from p) ?_
    refine ⟨s1.heap.objs.size, [s1.heap.objs.size], _, _, H1, rfl, I1.kept (t' := s1.toks) fun b o e => Heap.get?_push_of_some _ e, turn_tuple a _, ⟨_, Heap.get?_push_size _ rfl, rfl, rfl⟩, fun b hb => ?_, q⟩
    have e : b = s1.heap.objs.size := by simpa using hb
    subst e
    exact I1.fpOk (Nat.le_refl _) (I1.hok.fresh (Nat.le_refl _))
theorem piW {tg l : Expr} {t t' : TI} (h : PI X tg l t) (k : ∀ σ H R, t' σ H R → t σ H R) : PI X tg l t' := ⟨fun pins s σ H R I q => h.run pins s σ H R I (k σ H R q)⟩
theorem sw_seq {tg l : Expr} (hK : X.K = C.K) (hl : PE X l (rdE C F W₀ ca)) : PI X tg l (rdW C F W₀ ca) :=
  piW (pi_seq hl) fun σ H R ⟨env, st, ms, en, sr, h⟩ => rd_bind en sr h fun x w st1 H1 ms1 en1 sr1 e1 r1 h1 => by
    obtain ⟨p, e, q⟩ := h1.of
    obtain ⟨d, ed, e⟩ := Option.bind_eq_some_iff.mp e
    obtain ⟨l', el, rfl⟩ := Option.map_eq_some_iff.mp e
    have q := q H1 ms1 Ext.refl sr1
    have n := r1.now sr1 ed
    rw [hK]
    unfold itemsD at el
    split at el <;> (try contradiction)
    · cases el
      cases w with
      | d y =>
        cases ed
        obtain ⟨a, xs, rfl, h1, rr⟩ := r1
        refine ⟨a, xs, rfl, .inl ⟨SqL_of h1, q _ (wk_list fun k H' ms' st' sn => ⟨xs, ?_, RepL.monoS sn.sub _ _ rr⟩)⟩⟩
        rcases h1 with h1 | h1
        · exact .inl (sn.sub.rd h1.1 h1.2).1
        · exact .inr h1
      | fn i => cases ed
      | ref m =>
        obtain ⟨a, ha, rfl⟩ := r1
        have hm : st1[m]? = some (.lst l') := by
          simp only [view] at ed
          split at ed
          · cases ed; assumption
          · cases ed
          · cases ed
        obtain ⟨vs, hv, rr⟩ := sr1.ob m a _ ha hm
        refine ⟨a, vs, rfl, .inl ⟨SqL.of hv, q _ ?_⟩⟩
        have eg : guardOf (.ref m) st1 = [(m, l')] := by simp only [guardOf, hm]
        rw [eg]
        refine wk_list fun k H' ms' st' sn => ?_
        obtain ⟨vs', hv', rr'⟩ := sn.sr.ob m a _ (sn.idx m a ha) (kept_one sn.kp)
        exact ⟨vs', SqL.of hv', rr'⟩
    · cases el
      have hw : w = .d (.tuple l') := by
        cases w with
        | d y => cases ed; rfl
        | fn i => cases ed
        | ref m =>
          simp only [view] at ed
          split at ed <;> cases ed
      subst hw
      obtain ⟨a, xs, rfl, h1, rr⟩ := r1
      refine ⟨a, xs, rfl, .inr ⟨SqT_of h1, q _ (wk_tup fun k H' ms' st' sn => ⟨xs, ?_, RepL.monoS sn.sub _ _ rr⟩)⟩⟩
      rcases h1 with h1 | h1
      · exact .inl (sn.sub.rd h1.1 h1.2).1
      · exact .inr h1
theorem walk_bind {α : Type} (r : Rs α) (f : α → Sto → Rs W) : walk (r.bind f) = r.bind fun a s => walk (f a s) := by cases r <;> rfl
theorem walk_of {o : Option PD} {st : Sto} {σ : L2.St} {Q : List PD × List (Nat × List PD) → Sto → Hp → List Addr → Prop} (h : Post C W₀ σ H ms (walk (.of (o.map W.d) st)) Q) : ∃ d l, o = some d ∧ itemsD d = some l ∧ ∀ H' ms', Ext C.k H ms H' ms' → StRep C H' ms' st → Q (l, []) st H' ms' := by
  cases o with
  | none => exact h.elim
  | some d =>
    have h : Post C W₀ σ H ms (Rs.of ((itemsD d).map fun l => (l, [])) st) Q := h
    obtain ⟨p, e, q⟩ := h.of
    obtain ⟨l, el, rfl⟩ := Option.map_eq_some_iff.mp e
    exact ⟨d, l, rfl, el, q⟩
def rngD : List PD → Option PD
  | [.int j] => (rangeD 0 j).map PyData.list
  | [.int i, .int j] => (rangeD i j).map PyData.list
  | _ => none
theorem rngD_opt (xs : List PD) : (match xs with
  | [.int j] => (rangeD 0 j).map fun l => W.d (.list l)
  | [.int i, .int j] => (rangeD i j).map fun l => W.d (.list l)
  | _ => none) = (rngD xs).map W.d := by
  unfold rngD
  split
  · rw [Option.map_map]; rfl
  · rw [Option.map_map]; rfl
  · rfl
theorem rngR_eq (r : Rs (List W)) : rngR r = r.bind fun ws s => .of (((datas s ws).bind rngD).map W.d) s := by
  cases r with
  | ok ws s =>
    show Rs.of ((datas s ws).bind fun xs => _) s = Rs.of (((datas s ws).bind rngD).map W.d) s
    congr 1
    cases datas s ws with
    | none => rfl
    | some xs => exact rngD_opt xs
  | exc c xs s => rfl
  | stuck => rfl
theorem rangeD_ok {lo hi : Int} {l : List PD} (h : rangeD lo hi = some l) : -(2 ^ 62) ≤ lo ∧ lo < 2 ^ 62 ∧ -(2 ^ 62) ≤ hi ∧ hi < 2 ^ 62 := by
  unfold rangeD at h
  split at h
  · assumption
  · cases h
theorem evL1 {env : En} : evL F (.cons ca .nil) env st = (evE F ca env st).bind fun x s => .ok [x] s := rfl
theorem evL2 {env : En} : evL F (.cons ca (.cons cb .nil)) env st = (evE F ca env st).bind fun x s => (evE F cb env s).bind fun y s => .ok [x, y] s := by
  simp only [evL]
  cases evE F ca env st with
  | ok x s => simp only [Rs.bind]; cases evE F cb env s <;> rfl
  | exc c xs s => rfl
  | stuck => rfl
theorem bind_bind {α β γ : Type} (r : Rs α) (f : α → Sto → Rs β) (g : β → Sto → Rs γ) : (r.bind f).bind g = r.bind fun a s => (f a s).bind g := by cases r <;> rfl
theorem sw_rng1 {tg a : Expr} {p : Pos} (hg : Gl X "range") (hm : X.mg "range" = none) (ha : PE X a (rdE C F W₀ ca)) (hn : nostar a = true) : PI X tg (.Call (.Name "range" p) [a] [] pos) (rdW C F W₀ (.rng (.cons ca .nil))) :=
  piW (pi_range1 hg hm (pa_cons ha pa_nil (star_eq hn)) (star_eq hn)) fun σ H R ⟨env, st, ms, en, sr, h⟩ => by
    simp only [evE, rngR_eq, walk_bind, evL1, bind_bind] at h
    refine rd_bind en sr h fun x w st1 H1 ms1 en1 sr1 e1 r1 h1 => ?_
    obtain ⟨d, l, e, el, q⟩ := walk_of h1
    have q := q H1 ms1 Ext.refl sr1
    obtain ⟨xs, ex, e⟩ := Option.bind_eq_some_iff.mp e
    obtain ⟨p, ep, ex⟩ := Option.bind_eq_some_iff.mp ex
    cases ex
    have n := r1.now sr1 ep
    unfold rngD at e
    split at e <;> (try contradiction)
    · rename_i hh
      cases hh
      obtain ⟨l', er, rfl⟩ := Option.map_eq_some_iff.mp e
      cases el
      have hb := rangeD_ok er
      have := wk_rng (C := C) (H := H1) (ms := ms1) er
      rw [Int.sub_zero] at this
      exact ⟨_, by rw [n.int], hb.2.2.1, hb.2.2.2, q _ this⟩
    · rename_i hh
      cases hh
theorem sw_rng2 {tg a b : Expr} {p : Pos} (hg : Gl X "range") (hm : X.mg "range" = none) (ha : PE X a (rdE C F W₀ ca)) (hb : PE X b (rdE C F W₀ cb)) (hn : nostar a = true) (hn2 : nostar b = true) : PI X tg (.Call (.Name "range" p) [a, b] [] pos) (rdW C F W₀ (.rng (.cons ca (.cons cb .nil)))) :=
  piW (pi_range2 hg hm (pa_cons ha (pa_cons hb pa_nil (star_eq hn2)) (star_eq hn)) (by rw [star_eq hn, star_eq hn2]; rfl) (star_eq hn2)) fun σ H R ⟨env, st, ms, en, sr, h⟩ => by
    simp only [evE, rngR_eq, walk_bind, evL2, bind_bind] at h
    refine rd_bind en sr h fun x w st1 H1 ms1 en1 sr1 e1 r1 h1 => rd_bind en1 sr1 h1 fun y w2 st2 H2 ms2 en2 sr2 e2 r2 h2 => ?_
    obtain ⟨d, l, e, el, q⟩ := walk_of h2
    have q := q H2 ms2 Ext.refl sr2
    obtain ⟨xs, ex, e⟩ := Option.bind_eq_some_iff.mp e
    obtain ⟨p, ep, ex⟩ := Option.bind_eq_some_iff.mp ex
    obtain ⟨ys, ey, rfl⟩ := Option.map_eq_some_iff.mp ex
    obtain ⟨p2, ep2, ey⟩ := Option.bind_eq_some_iff.mp ey
    cases ey
    have n1 := (r1.mono e2).now sr2 ep
    have n2 := r2.now sr2 ep2
    unfold rngD at e
    split at e <;> (try contradiction)
    · rename_i hh
      cases hh
    · rename_i hh
      cases hh
      obtain ⟨l', er, rfl⟩ := Option.map_eq_some_iff.mp e
      cases el
      exact ⟨_, _, by rw [n1.int, n2.int], rangeD_ok er, q _ (wk_rng er)⟩
theorem zipR_walk {env : En} : walk (zipR (evE F ca env st) (evE F cb env)) = (evE F ca env st).bind fun x s => (evE F cb env s).bind fun y s => walk (match x, y with
  | .d x, .d y => .of ((zipD x y).map fun l => W.d (.list l)) s
  | _, _ => .stuck) := by
  unfold zipR
  rw [walk_bind]
  congr 1
  funext x s
  exact walk_bind _ _
theorem sw_zip {a b : Expr} {elts : List Expr} {kk : Nat} {p tpos : Pos} (hK : X.K = C.K) (hg : Gl X "zip") (hm : X.mg "zip" = none) (ha : PE X a (rdE C F W₀ ca)) (hb : PE X b (rdE C F W₀ cb)) (hn : nostar a = true) (hn2 : nostar b = true) :
    PI X (.Tuple elts kk tpos) (.Call (.Name "zip" p) [a, b] [] pos) (rdW C F W₀ (.zip ca cb)) :=
  piW (RZ.pi_zipA hg hm (pa_cons ha (pa_cons hb pa_nil (star_eq hn2)) (star_eq hn)) (star_eq hn) (star_any (by rw [List.all_cons, hn2]; rfl))) fun σ H R ⟨env, st, ms, en, sr, h⟩ => by
    simp only [evE, zipR_walk] at h
    refine rd_bind en sr h fun x w st1 H1 ms1 en1 sr1 e1 r1 h1 => rd_bind en1 sr1 h1 fun y w2 st2 H2 ms2 en2 sr2 e2 r2 h2 => ?_
    have r1 := r1.mono e2
    cases w with
    | ref n => exact h2.elim
    | fn n => exact h2.elim
    | d x1 =>
      cases w2 with
      | ref n => exact h2.elim
      | fn n => exact h2.elim
      | d y1 =>
        obtain ⟨d, l, e, el, q⟩ := walk_of (o := (zipD x1 y1).map PyData.list) (by rw [Option.map_map]; exact h2)
        have q := q H2 ms2 Ext.refl sr2
        obtain ⟨l', ez, rfl⟩ := Option.map_eq_some_iff.mp e
        cases el
        unfold zipD at ez
        rw [hK]
        split at ez <;> (try contradiction)
        · cases ez
          obtain ⟨a1, xs, rfl, q1, rr1⟩ := r1
          obtain ⟨b1, ys, rfl, q2, rr2⟩ := r2
          refine ⟨a1, b1, xs, ys, rfl, .inl ⟨SqL_of q1, SqL_of q2, q _ (wk_zipL (fun H' ms' x' => ⟨xs, ?_, RepL.monoS x' _ _ rr1⟩) fun H' ms' x' => ⟨ys, ?_, RepL.monoS x' _ _ rr2⟩)⟩⟩
          · rcases q1 with q1 | q1
            · exact .inl (x'.rd q1.1 q1.2).1
            · exact .inr q1
          · rcases q2 with q1 | q1
            · exact .inl (x'.rd q1.1 q1.2).1
            · exact .inr q1
        · cases ez
          obtain ⟨a1, xs, rfl, q1, rr1⟩ := r1
          obtain ⟨b1, ys, rfl, q2, rr2⟩ := r2
          refine ⟨a1, b1, xs, ys, rfl, .inr ⟨SqT_of q1, SqT_of q2, q _ (wk_zipT (fun H' ms' x' => ⟨xs, ?_, RepL.monoS x' _ _ rr1⟩) fun H' ms' x' => ⟨ys, ?_, RepL.monoS x' _ _ rr2⟩)⟩⟩
          · rcases q1 with q1 | q1
            · exact .inl (x'.rd q1.1 q1.2).1
            · exact .inr q1
          · rcases q2 with q1 | q1
            · exact .inl (x'.rd q1.1 q1.2).1
            · exact .inr q1
end
end Mini

set_option Elab.async false
set_option linter.all false
set_option maxRecDepth 100000
set_option maxHeartbeats 2000000
/-! Mini, part H: targets, comprehensions. -/
namespace Mini
open PySem PySem.Spec PyProof.Rows L2
def Tg.slots : Tg → List Nat
  | .nm i => [i]
  | .tp is => is
/-- the reading of a target -/
def rdG (C : Cn) (t : Tg) : TG := fun v σ H Q => ∃ env st ms w env', EnRep C H ms σ env ∧ StRep C H ms st ∧ WRep C H ms w v ∧ putT t w st env = some env' ∧ ∀ σ', EnRep C H ms σ' env' → (∀ j, j ∉ t.slots → σ'[j]? = σ[j]?) → σ'.length = σ.length → Q σ' H
section
variable {C : Cn} {F : Fe} {W₀ : WX} {X : Cx} {ca cb cc : E} {pos : Pos} {H : Hp} {ms : List Addr} {st : Sto} {σ : L2.St}
theorem pgW {tg : Expr} {t t' : TG} (h : PG X tg t) (k : ∀ v σ H Q, t' v σ H Q → t v σ H Q) : PG X tg t' := ⟨fun pins s σ H v u Q I r q => h.run pins s σ H v u Q I r (k v σ H Q q)⟩
theorem set_off {i : Nat} {v : Option V} (σ : L2.St) : (∀ j, j ∉ [i] → (σ.set i v)[j]? = σ[j]?) ∧ (σ.set i v).length = σ.length :=
  ⟨fun j hj => List.getElem?_set_ne (fun z => hj (by simp [z])), List.length_set⟩
theorem sg_nm {i : Nat} {x : Str} (hN : X.N.Nodup) (hi : X.N[i]? = some x) (hx : Loc X.env.scope x) (hf : X.fn x = true ∨ X.env.scope.names.lookup x = some .local) : PG X (.Name x pos) (rdG C (.nm i)) :=
  pgW (pg_name hN hi hx hf) fun v σ H Q ⟨env, st, ms, w, env', en, sr, r, e, q⟩ => q _ (en.put r e) (set_off σ).1 (set_off σ).2
def gNames : List Nat → TGs
  | [] => gNil
  | i :: is => gCons (gName i) (gNames is)
theorem gNames_of : ∀ (is : List Nat) {ds : List PD} {xs : List V} {σ : L2.St} {env env' : En} {Q : L2.St → Hp → Prop}, EnRep C H ms σ env → RepL C.K H ms ds xs → putAll is ds env = some env' →
    (∀ σ', EnRep C H ms σ' env' → (∀ j, j ∉ is → σ'[j]? = σ[j]?) → σ'.length = σ.length → Q σ' H) → gNames is xs σ H Q
  | [], ds, xs, σ, env, env', Q, en, r, e, q => by
    cases ds with
    | nil =>
      cases e
      exact ⟨r, q σ en (fun _ _ => rfl) rfl⟩
    | cons d ds => cases e
  | i :: is, ds, xs, σ, env, env', Q, en, r, e, q => by
    cases ds with
    | nil => cases e
    | cons d ds =>
      obtain ⟨v, vs, rfl, r1, r2⟩ := r
      obtain ⟨env1, e1, e2⟩ := Option.bind_eq_some_iff.mp e
      refine ⟨v, vs, rfl, ?_⟩
      refine gNames_of is (en.put (w := .d d) r1 e1) r2 e2 fun σ' en' h1 h2 => q σ' en' (fun j hj => ?_) ?_
      · rw [h1 j fun z => hj (List.mem_cons_of_mem _ z)]
        exact (set_off σ).1 j fun z => hj (by simp at z; simp [z])
      · rw [h2]; exact (set_off σ).2
/-- the names of a written target -/
inductive NamesAt (X : Cx) : List Expr → List Nat → Prop
  | nil : NamesAt X [] []
  | cons {x : Str} {p : Pos} {i : Nat} {es : List Expr} {is : List Nat} (hi : X.N[i]? = some x) (hx : Loc X.env.scope x) (hf : X.fn x = true ∨ X.env.scope.names.lookup x = some .local) (r : NamesAt X es is) : NamesAt X (.Name x p :: es) (i :: is)
theorem names_pgs (hN : X.N.Nodup) : ∀ {es : List Expr} {is : List Nat}, NamesAt X es is → PGs X es (gNames is)
  | _, _, .nil => pgs_nil
  | _, _, .cons hi hx hf r => pgs_cons (pg_name hN hi hx hf) (names_pgs hN r)
theorem names_len {env : Env} : ∀ {es : List Expr} {is : List Nat}, NamesAt X es is → (assignEach es env).length = is.length
  | _, _, .nil => rfl
  | _, _, .cons _ _ _ r => by
    show (_ :: assignEach _ env).length = _
    rw [List.length_cons, names_len r]; rfl
theorem names_idx {env : Env} : ∀ {es : List Expr} {is : List Nat}, NamesAt X es is → (assignEach es env).findIdx? (·.1) = none
  | _, _, .nil => rfl
  | _, _, .cons (x := x) (p := p) (es := es) _ _ _ r => by
    show ((false, assign (.Name x p) env) :: assignEach es env).findIdx? (·.1) = none
    rw [List.findIdx?_cons, names_idx r]
    rfl
theorem putAll_len : ∀ {is : List Nat} {ds : List PD} {env env' : En}, putAll is ds env = some env' → ds.length = is.length
  | [], [], _, _, _ => rfl
  | [], _ :: _, _, _, e => by cases e
  | _ :: _, [], _, _, e => by cases e
  | i :: is, d :: ds, _, _, e => by
    obtain ⟨env1, e1, e2⟩ := Option.bind_eq_some_iff.mp e
    rw [List.length_cons, List.length_cons, putAll_len e2]
theorem sg_tp {es : List Expr} {is : List Nat} {k : Nat} (hK : X.K = C.K) (hc : X.calm = true) (hN : X.N.Nodup) (h : NamesAt X es is) : PG X (.Tuple es k pos) (rdG C (.tp is)) := by
  refine ⟨fun pins s σ H v u Q I rv ⟨env, st, ms, w, env', en, sr, r, e, q⟩ => ?_⟩
  obtain ⟨d, ed, e⟩ := Option.bind_eq_some_iff.mp e
  split at e
  · have n := r.now sr ed
    obtain ⟨a, vs, rfl, hq, rr⟩ := n.tuple
    exact (pg_tup hc (names_pgs hN h) (names_len h) (names_idx h)).run pins s σ H _ u Q I rv ⟨a, vs, rfl, by rw [hK]; exact hq, by rw [rr.length, putAll_len e], gNames_of is en rr e q⟩
  · have n := r.now sr ed
    obtain ⟨a, vs, rfl, hq, rr⟩ := n.list
    exact (pg_lst hc (names_pgs hN h) (names_len h) (names_idx h)).run pins s σ H _ u Q I rv ⟨a, vs, rfl, by rw [hK]; exact hq, by rw [rr.length, putAll_len e], gNames_of is en rr e q⟩
  · cases e
/-! ### slots forgotten -/
theorem wipe_in {σ : L2.St} {i : Nat} : ∀ {vs : List Nat}, i ∈ vs → i < σ.length → (L2.wipe σ vs)[i]? = some none
  | [], h, _ => by cases h
  | v :: vs, h, hl => by
    unfold L2.wipe
    by_cases hi : v = i
    · subst hi
      exact List.getElem?_set_self (by rw [wipe_length]; exact hl)
    · rw [List.getElem?_set_ne hi]
      rcases List.mem_cons.mp h with z | z
      · exact absurd z.symm hi
      · exact wipe_in z hl
theorem wipe_eq {σ σ' : L2.St} {vs : List Nat} (hl : σ'.length = σ.length) (h : ∀ j, j ∉ vs → σ'[j]? = σ[j]?) : L2.wipe σ' vs = L2.wipe σ vs := by
  apply List.ext_getElem?
  intro j
  by_cases hj : j ∈ vs
  · by_cases hlt : j < σ.length
    · rw [wipe_in hj hlt, wipe_in hj (by rw [hl]; exact hlt)]
    · rw [List.getElem?_eq_none (by rw [wipe_length]; omega), List.getElem?_eq_none (by rw [wipe_length]; omega)]
  · rw [wipe_out hj, wipe_out hj]
    exact h j hj
/-! ### the evaluator's comprehension, turn by turn -/
theorem compL_exc {g : Sto → Bool} {f : PD → Sto → Rs (Option PD)} : ∀ {ds : List PD} {s s' : Sto} {c : Nat} {xs : List PD}, compL g f ds s ≠ .exc c xs s'
  | [], s, s', c, xs => by
    unfold compL
    split <;> nofun
  | d :: ds, s, s', c, xs => by
    unfold compL
    split
    · split
      · exact compL_exc
      · rename_i y s1 _
        intro e
        cases q : compL g f ds s1 with
        | ok ys s2 =>
          rw [q] at e
          simp only [Rs.bind] at e
          split at e <;> cases e
        | exc c xs s2 => exact compL_exc q
        | stuck => rw [q] at e; cases e
      · nofun
    · nofun
theorem compL_nil {g : Sto → Bool} {f : PD → Sto → Rs (Option PD)} {s s' : Sto} {ys : List PD} (h : compL g f [] s = .ok ys s') : g s = true ∧ ys = [] ∧ s' = s := by
  unfold compL at h
  split at h
  · cases h
    exact ⟨by assumption, rfl, rfl⟩
  · cases h
theorem compL_cons {g : Sto → Bool} {f : PD → Sto → Rs (Option PD)} {d : PD} {ds : List PD} {s s' : Sto} {ys : List PD} (h : compL g f (d :: ds) s = .ok ys s') :
    g s = true ∧ ∃ o s1, f d s = .ok o s1 ∧ ((o = none ∧ compL g f ds s1 = .ok ys s') ∨ ∃ y yr, o = some y ∧ compL g f ds s1 = .ok yr s' ∧ ys = y :: yr ∧ yr.length < LIM) := by
  unfold compL at h
  split at h
  · rename_i hg
    refine ⟨hg, ?_⟩
    split at h
    · rename_i s1 e
      exact ⟨none, s1, e, .inl ⟨rfl, h⟩⟩
    · rename_i y s1 e
      refine ⟨some y, s1, e, .inr ?_⟩
      cases q : compL g f ds s1 with
      | ok yr s2 =>
        rw [q] at h
        simp only [Rs.bind] at h
        split at h
        · cases h
          exact ⟨y, yr, rfl, rfl, rfl, by assumption⟩
        · cases h
      | exc c xs s2 => exact absurd q compL_exc
      | stuck => rw [q] at h; cases h
    · cases h
  · cases h
theorem turnC_ok {t : Tg} {v : En} {c elt : En → Sto → Rs W} {x : PD} {s s1 : Sto} {o : Option PD} (h : turnC t v c elt x s = .ok o s1) :
    ∃ v', putT t (.d x) s v = some v' ∧ ∃ b s2, tst (c v' s) = .ok b s2 ∧ ((b = false ∧ o = none ∧ s1 = s2) ∨ (b = true ∧ ∃ y, elt v' s2 = .ok (.d y) s1 ∧ o = some y)) := by
  unfold turnC at h
  split at h
  · rename_i v' e
    refine ⟨v', e, ?_⟩
    cases q : tst (c v' s) with
    | ok b s2 =>
      rw [q] at h
      refine ⟨b, s2, rfl, ?_⟩
      simp only [Rs.bind] at h
      cases b with
      | false =>
        simp only [Bool.false_eq_true, if_false] at h
        cases h
        exact .inl ⟨rfl, rfl, rfl⟩
      | true =>
        simp only [if_true] at h
        refine .inr ⟨rfl, ?_⟩
        cases q2 : elt v' s2 with
        | ok w s3 =>
          rw [q2] at h
          cases w with
          | d y => cases h; exact ⟨y, rfl, rfl⟩
          | ref n => cases h
          | fn n => cases h
        | exc c xs s3 => rw [q2] at h; cases h
        | stuck => rw [q2] at h; cases h
    | exc c xs s2 => rw [q] at h; cases h
    | stuck => rw [q] at h; cases h
  · cases h
/-! ### a list under way -/
abbrev Cn.up (C : Cn) : Cn := { C with k := C.k + 1 }
mutual
theorem Rep.up {K : PySem.W.Frag} {D : Addr} {o : HO} (hD : H D = none) : ∀ (d : PD) (v : V), Rep K H ms d v → Rep K (upd H D o) (D :: ms) d v
  | .none, _, h => h
  | .bool _, _, h => h
  | .int _, _, h => h
  | .str _, _, h => h
  | .list ds, _, h => by
    obtain ⟨a, xs, e, h1, h2⟩ := h
    refine ⟨a, xs, e, h1.imp (fun q => ?_) (fun q => q), RepL.up hD ds xs h2⟩
    rcases q.2 with z | ⟨ob, z⟩
    · have ne := ne_of_none z hD
      exact ⟨fun w => (List.mem_cons.mp w).elim ne q.1, .inl (by rw [upd_ne ne]; exact z)⟩
    · have ne := ne_of_none z hD
      exact ⟨fun w => (List.mem_cons.mp w).elim ne q.1, .inr ⟨ob, by rw [upd_ne ne]; exact z⟩⟩
  | .tuple ds, _, h => by
    obtain ⟨a, xs, e, h1, h2⟩ := h
    refine ⟨a, xs, e, h1.imp (fun q => ?_) (fun q => q), RepL.up hD ds xs h2⟩
    rcases q.2 with z | ⟨ob, z⟩
    · have ne := ne_of_none z hD
      exact ⟨fun w => (List.mem_cons.mp w).elim ne q.1, .inl (by rw [upd_ne ne]; exact z)⟩
    · have ne := ne_of_none z hD
      exact ⟨fun w => (List.mem_cons.mp w).elim ne q.1, .inr ⟨ob, by rw [upd_ne ne]; exact z⟩⟩
  | .dict _, _, h => h
theorem RepL.up {K : PySem.W.Frag} {D : Addr} {o : HO} (hD : H D = none) : ∀ (ds : List PD) (vs : List V), RepL K H ms ds vs → RepL K (upd H D o) (D :: ms) ds vs
  | [], _, h => h
  | d :: ds, _, h => by
    obtain ⟨v, r, e, h1, h2⟩ := h
    exact ⟨v, r, e, Rep.up hD d v h1, RepL.up hD ds r h2⟩
end
mutual
theorem Rep.less {K : PySem.W.Frag} {ms' : List Addr} (hs : ∀ a, a ∈ ms → a ∈ ms') : ∀ (d : PD) (v : V), Rep K H ms' d v → Rep K H ms d v
  | .none, _, h => h
  | .bool _, _, h => h
  | .int _, _, h => h
  | .str _, _, h => h
  | .list ds, _, h => by
    obtain ⟨a, xs, e, h1, h2⟩ := h
    exact ⟨a, xs, e, h1.imp (fun q => ⟨fun z => q.1 (hs a z), q.2⟩) (fun q => q), RepL.less hs ds xs h2⟩
  | .tuple ds, _, h => by
    obtain ⟨a, xs, e, h1, h2⟩ := h
    exact ⟨a, xs, e, h1.imp (fun q => ⟨fun z => q.1 (hs a z), q.2⟩) (fun q => q), RepL.less hs ds xs h2⟩
  | .dict _, _, h => h
theorem RepL.less {K : PySem.W.Frag} {ms' : List Addr} (hs : ∀ a, a ∈ ms → a ∈ ms') : ∀ (ds : List PD) (vs : List V), RepL K H ms' ds vs → RepL K H ms ds vs
  | [], _, h => h
  | d :: ds, _, h => by
    obtain ⟨v, r, e, h1, h2⟩ := h
    exact ⟨v, r, e, Rep.less hs d v h1, RepL.less hs ds r h2⟩
end
theorem up_get (C : Cn) (D : Addr) (ms : List Addr) (n : Nat) : (D :: ms)[C.up.k + n]? = ms[C.k + n]? := by
  show (D :: ms)[C.k + 1 + n]? = _
  rw [show C.k + 1 + n = (C.k + n) + 1 by omega, List.getElem?_cons_succ]
theorem EnRep.up {D : Addr} {o : HO} {env : En} (hD : H D = none) (en : EnRep C H ms σ env) : EnRep C.up (upd H D o) (D :: ms) σ env :=
  ⟨en.len, fun i w e => by
    obtain ⟨v, e1, r⟩ := en.at_ i w e
    refine ⟨v, e1, ?_⟩
    cases w with
    | d x => exact Rep.up hD x v r
    | ref n => obtain ⟨a, ha, q⟩ := r; exact ⟨a, by rw [up_get]; exact ha, q⟩
    | fn i => exact r⟩
theorem StRep.up {D : Addr} {o : HO} (hD : H D = none) (sr : StRep C H ms st) : StRep C.up (upd H D o) (D :: ms) st :=
  ⟨by rw [List.length_cons, sr.len]; show C.k + st.length + 1 = C.k + 1 + st.length; omega, List.nodup_cons.mpr ⟨sr.free hD, sr.nd⟩, fun n a u e1 e2 => by
    rw [up_get] at e1
    have q := sr.ob n a u e1 e2
    cases u with
    | lst xs =>
      obtain ⟨vs, h1, h2⟩ := q
      exact ⟨vs, by rw [upd_ne (ne_of_none h1 hD)]; exact h1, RepL.up hD _ _ h2⟩
    | dct _ => exact q, fun a ha => by
    rcases List.mem_cons.mp ha with z | z
    · subst z; exact ⟨_, upd_same⟩
    · obtain ⟨u, e⟩ := sr.there a z
      exact ⟨u, by rw [upd_ne (ne_of_none e hD)]; exact e⟩⟩
theorem StRep.down {D : Addr} (sr : StRep C.up H (D :: ms) st) : StRep C H ms st :=
  ⟨by have := sr.len; rw [List.length_cons] at this; have : ms.length + 1 = C.k + 1 + st.length := this; omega, (List.nodup_cons.mp sr.nd).2, fun n a u e1 e2 => by
    have q := sr.ob n a u (by rw [up_get]; exact e1) e2
    cases u with
    | lst xs =>
      obtain ⟨vs, h1, h2⟩ := q
      exact ⟨vs, h1, RepL.less (fun a ha => List.mem_cons_of_mem _ ha) _ _ h2⟩
    | dct _ => exact q, fun a ha => sr.there a (List.mem_cons_of_mem _ ha)⟩
/-- what runs beside a list under way leaves it -/
theorem Ext.viaUp {D : Addr} {H1 H4 : Hp} {ms1 ms2 ms' : List Addr} (hD : H1 D = none) (x : Ext C.k H1 ms1 H ms2) (y : Ext C.up.k H (D :: ms2) H4 ms') : ∃ ms4, ms' = D :: ms4 ∧ Ext C.k H1 ms1 H4 ms4 ∧ (∀ o, H D = some o → H4 D = some o) ∧ ∀ (n : Nat) a, ms2[n]? = some a → ms4[n]? = some a := by
  obtain ⟨new', rfl, hn'⟩ := y.more
  refine ⟨ms2 ++ new', rfl, ⟨fun a u ha e => ?_, ?_, fun i a o hi ha e => ?_⟩, fun o e => y.keep 0 D o (Nat.succ_pos _) rfl e, fun n a h => by rw [List.getElem?_append_left (List.getElem?_eq_some_iff.mp h).1]; exact h⟩
  · have ne := ne_of_none e hD
    exact y.old a u (fun z => (List.mem_cons.mp z).elim ne (x.notin ha e)) (x.old a u ha e)
  · obtain ⟨new, rfl, hn⟩ := x.more
    refine ⟨new ++ new', by rw [List.append_assoc], more_trans hn x.old fun a ha => ?_⟩
    obtain ⟨h1, h2⟩ := hn' a ha
    exact ⟨fun z => h1 (List.mem_cons_of_mem _ z), h2⟩
  · exact y.keep (i + 1) a o (Nat.succ_lt_succ hi) (by rw [List.getElem?_cons_succ]; exact x.get ha) (x.keep i a o hi ha e)
theorem Ext.app {D : Addr} {H1 : Hp} {ms1 : List Addr} {o : HO} (hD : H1 D = none) (x : Ext C.k H1 ms1 H ms) : Ext C.k H1 ms1 (upd H D o) ms :=
  ⟨fun a u ha e => by rw [upd_ne (ne_of_none e hD)]; exact x.old a u ha e, x.more, fun i a u hi ha e => by rw [upd_ne (ne_of_none e hD)]; exact x.keep i a u hi ha e⟩
theorem Ext.own {D : Addr} {o : HO} : Ext 0 H (D :: ms) (upd H D o) (D :: ms) :=
  ⟨fun a u ha e => by rw [upd_ne (fun z => ha (by rw [z]; exact List.mem_cons_self))]; exact e, ⟨[], by simp, by simp⟩, fun i a u hi => absurd hi (Nat.not_lt_zero _)⟩
theorem StRep.app {D : Addr} {o : HO} (sr : StRep C.up H (D :: ms) st) : StRep C.up (upd H D o) (D :: ms) st :=
  ⟨sr.len, sr.nd, fun n a u e1 e2 => by
    have q := sr.ob n a u e1 e2
    have ne : a ≠ D := fun z => by
      subst z
      rw [up_get] at e1
      exact (List.nodup_cons.mp sr.nd).1 (List.mem_of_getElem? e1)
    cases u with
    | lst xs =>
      obtain ⟨vs, h1, h2⟩ := q
      exact ⟨vs, by rw [upd_ne ne]; exact h1, RepL.mono Ext.own _ _ h2⟩
    | dct _ => exact q, fun a ha => by
    by_cases ne : a = D
    · subst ne; exact ⟨_, upd_same⟩
    · obtain ⟨u, e⟩ := sr.there a ha
      exact ⟨u, by rw [upd_ne ne]; exact e⟩⟩
/-- a list that was under way comes to the store -/
theorem StRep.land {D : Addr} {acc : List V} {ys : List PD} (sr : StRep C.up H (D :: ms) st) (hD : H D = some (.lst acc)) (r : RepL C.K H (D :: ms) ys acc) : StRep C H (ms ++ [D]) (st ++ [.lst ys]) := by
  have hlen : ms.length = C.k + st.length := sr.down.len
  have inc : ∀ a, a ∈ ms ++ [D] → a ∈ D :: ms := fun a ha => by
    rcases List.mem_append.mp ha with z | z
    · exact List.mem_cons_of_mem _ z
    · have : a = D := by simpa using z
      rw [this]; exact List.mem_cons_self
  refine ⟨by simp [hlen]; omega, ?_, fun n a o e1 e2 => ?_, fun a ha => sr.there a (inc a ha)⟩
  · rw [List.nodup_append]
    refine ⟨(List.nodup_cons.mp sr.nd).2, by simp, fun a ha b hb => ?_⟩
    have : b = D := by simpa using hb
    subst this
    intro z; subst z
    exact (List.nodup_cons.mp sr.nd).1 ha
  · by_cases hn : n < st.length
    · rw [List.getElem?_append_left (by omega)] at e1
      rw [List.getElem?_append_left hn] at e2
      have q := sr.ob n a o (by rw [up_get]; exact e1) e2
      cases o with
      | lst xs =>
        obtain ⟨vs, h1, h2⟩ := q
        exact ⟨vs, h1, RepL.less inc _ _ h2⟩
      | dct _ => exact q
    · have hl := (List.getElem?_eq_some_iff.mp e2).1
      have : n = st.length := by simp at hl; omega
      subst this
      rw [List.getElem?_append_right (by omega), ← hlen, Nat.sub_self] at e1
      rw [List.getElem?_append_right (Nat.le_refl _), Nat.sub_self] at e2
      simp at e1 e2
      subst e1; subst e2
      exact ⟨acc, hD, RepL.less inc _ _ r⟩
theorem compL_len {g : Sto → Bool} {f : PD → Sto → Rs (Option PD)} : ∀ {ds : List PD} {s s' : Sto} {ys : List PD}, compL g f ds s = .ok ys s' → ys.length ≤ LIM
  | [], s, s', ys, h => by rw [(compL_nil h).2.1]; exact Nat.zero_le _
  | d :: ds, s, s', ys, h => by
    obtain ⟨_, o, s1, _, h | ⟨y, yr, _, _, rfl, hl⟩⟩ := compL_cons h
    · exact compL_len h.2
    · rw [List.length_cons]; exact hl
/-- no error is let out -/
def Wno : WX := fun _ _ _ _ => False
theorem comp_rd {own : List (Str × Nat)} {t : Tg} {cit celt : E} {new : Bool} {Q : VK} (hsl : ∀ i ∈ t.slots, i ∈ own.map (·.2)) (h0 : rdE C F W₀ (.comp new celt t cit cc (own.map (·.2))) σ H Q) :
    tLc (rdW C F W₀ cit) (rdG C.up t) (rdB C.up F Wno cc) (rdE C.up F Wno celt) (own.map (·.2)) σ H Q := by
  obtain ⟨env, st, ms, en, sr, h⟩ := h0
  refine ⟨env, st, ms, en, sr, h.bind.imp fun p st1 H1 ms1 x1 sr1 h1 J wk D hD => ?_⟩
  have en1 := en.mono x1
  obtain ⟨ds, g⟩ := p
  simp only at h1 wk
  generalize hf : turnC t (wipeE env (own.map (·.2))) (evE F cc) (evE F celt) = f at h1
  cases q : compL (kept g) f ds st1 with
  | exc c xs s => exact absurd q compL_exc
  | stuck => rw [q] at h1; exact h1.elim
  | ok ys st2 =>
    rw [q] at h1
    have hLIM := compL_len q
    have en2 : EnRep C.up (upd H1 D (.lst [])) (D :: ms1) (L2.wipe σ (own.map (·.2))) (wipeE env (own.map (·.2))) := (en1.wipe _).up hD
    refine ⟨fun i m H' => i ≤ ds.length ∧ m = ds.length - i ∧ ∃ s ms2 acc done rest, compL (kept g) f (ds.drop i) s = .ok rest st2 ∧ done ++ rest = ys ∧ Ext C.k H1 ms1 H' ms2 ∧ StRep C.up H' (D :: ms2) s ∧ H' D = some (.lst acc) ∧ RepL C.K H' (D :: ms2) done acc,
      ⟨ds.length, Nat.zero_le _, rfl, st1, ms1, [], [], ys, q, rfl, Ext.new hD, sr1.up hD, upd_same, rfl⟩, ?_⟩
    rintro i m H' ⟨hi, rfl, s, ms2, acc, done, rest, ec, ey, x2, s2, hDl, rr⟩
    have hDm : D ∉ ms2 := (List.nodup_cons.mp s2.nd).1
    have hsub : Sub H1 ms1 H' (D :: ms2) := ⟨fun a o ha e => ⟨x2.old a o ha e, fun z => (List.mem_cons.mp z).elim (ne_of_none e hD) (x2.notin ha e)⟩⟩
    have seen : kept g s = true → Seen C H1 ms1 g C.up.k H' (D :: ms2) s := fun hg => ⟨hsub, fun n a ha => by rw [up_get]; exact x2.get ha, s2, hg⟩
    rcases Nat.lt_or_ge i ds.length with hlt | hge
    · right
      have ed : ds.drop i = ds[i] :: ds.drop (i + 1) := List.drop_eq_getElem_cons hlt
      rw [ed] at ec
      obtain ⟨hg1, o, s1, ef, ho⟩ := compL_cons ec
      have sn := seen hg1
      have edi : ds[i]? = some ds[i] := List.getElem?_eq_getElem hlt
      refine ⟨wk.go i _ _ _ _ _ sn edi, _, fun H2 h2 => ⟨ds.length - (i + 1), by omega, h2⟩, fun x H2 y => ?_⟩
      obtain ⟨x3, s3, r3, k3⟩ := wk.yld i _ _ _ _ _ x H2 sn edi y
      rw [← hf] at ef
      obtain ⟨v', ev, b, sb, eb, hb⟩ := turnC_ok ef
      obtain ⟨ms3, e3, x23, kD, _⟩ := Ext.viaUp hD x2 x3
      obtain rfl : ms2 = ms3 := (List.cons.inj e3).2
      have enH : EnRep C.up H2 (D :: ms2) (L2.wipe σ (own.map (·.2))) (wipeE env (own.map (·.2))) := by
        refine ⟨en2.len, fun j w e => ?_⟩
        obtain ⟨v, e1, r⟩ := (en1.wipe (own.map (·.2))).at_ j w e
        refine ⟨v, e1, ?_⟩
        have hsub2 : Sub H1 ms1 H2 (D :: ms2) := ⟨fun a o ha e => ⟨x23.old a o ha e, fun z => (List.mem_cons.mp z).elim (ne_of_none e hD) (x23.notin ha e)⟩⟩
        cases w with
        | d y => exact Rep.monoS hsub2 y v r
        | ref n =>
          obtain ⟨a, ha, q⟩ := r
          exact ⟨a, by rw [up_get]; exact x2.get ha, q⟩
        | fn i => exact r
      refine ⟨_, s, D :: ms2, .d ds[i], v', enH, s3, r3, ev, fun σ' en' hoff hlen => ⟨?_, ?_⟩⟩
      · rw [wipe_eq (σ := L2.wipe σ (own.map (·.2))) (by rw [hlen]) fun j hj => hoff j fun z => hj (hsl j z)]
        exact wipe_eq (wipe_length _ _) fun j hj => wipe_out hj
      · refine ⟨v', s, D :: ms2, en', s3, ?_⟩
        show Post C.up Wno σ' H2 (D :: ms2) (tst (evE F cc v' s)) _
        rw [eb]
        intro H4 ms4 x4 s4
        obtain ⟨ms4', rfl, x24, kD4, hix⟩ := Ext.viaUp hD x23 x4
        rcases hb with ⟨rfl, rfl, rfl⟩ | ⟨rfl, yv, ee, rfl⟩
        · simp only [Bool.false_eq_true, if_false]
          rcases ho with ⟨_, ho⟩ | ⟨y2, yr, z, _⟩
          · exact ⟨hlt, trivial, s1, ms4', acc, done, rest, ho, ey, x24, s4, kD4 _ (kD _ hDl), RepL.mono x4 _ _ (RepL.mono x3 _ _ rr)⟩
          · cases z
        · simp only [if_true]
          refine ⟨v', sb, D :: ms4', en'.mono x4, s4, ?_⟩
          rw [ee]
          intro H5 ms5 x5 s5 vv rv
          obtain ⟨ms5', rfl, x25, kD5, _⟩ := Ext.viaUp hD x24 x5
          rcases ho with ⟨z, _⟩ | ⟨y2, yr, z, ho, rfl, hl⟩
          · cases z
          · cases z
            have rr5 : RepL C.K H5 (D :: ms5') done acc := RepL.mono x5 _ _ (RepL.mono x4 _ _ (RepL.mono x3 _ _ rr))
            refine ⟨acc, kD5 _ (kD4 _ (kD _ hDl)), ?_, hlt, trivial, s1, ms5', acc ++ [vv], done ++ [yv], yr, ho, by rw [List.append_assoc]; exact ey, x25.app hD, s5.app, upd_same, ?_⟩
            · rw [rr.length]
              refine LIM_lt ?_
              rw [← ey, List.length_append, List.length_cons] at hLIM
              omega
            · exact RepL.mono Ext.own _ _ (rr5.append (RepL.one rv))
    · left
      have e : i = ds.length := Nat.le_antisymm hi hge
      rw [e, List.drop_length] at ec
      obtain ⟨hg1, rfl, rfl⟩ := compL_nil ec
      rw [List.append_nil] at ey
      subst ey
      have sn := seen hg1
      refine ⟨wk.stop i _ _ _ _ sn hge, ?_⟩
      have h2 : Post C W₀ σ H1 ms1 (if new = true then Rs.ok (W.ref st2.length) (st2 ++ [.lst done]) else .ok (.d (.list done)) st2) _ := h1
      cases new with
      | true =>
        rw [if_pos rfl] at h2
        refine h2 H' (ms2 ++ [D]) ⟨x2.old, ?_, x2.keep⟩ (s2.land hDl rr) _ ⟨D, ?_, rfl⟩
        · obtain ⟨nw, rfl, hn⟩ := x2.more
          refine ⟨nw ++ [D], by rw [List.append_assoc], fun a ha => ?_⟩
          rcases List.mem_append.mp ha with z | z
          · exact hn a z
          · have : a = D := by simpa using z
            subst this
            exact ⟨sr1.free hD, hD⟩
        · rw [← s2.down.len, List.getElem?_append_right (Nat.le_refl _), Nat.sub_self]
          rfl
      | false =>
        rw [if_neg Bool.false_ne_true] at h2
        exact h2 H' ms2 x2 s2.down _ ⟨D, acc, rfl, .inl ⟨hDm, .inl hDl⟩, RepL.less (fun a ha => List.mem_cons_of_mem _ ha) _ _ rr⟩
theorem se_comp {elt tg iter : Expr} {ifs : List Expr} {scope : Scope} {own : List (Str × Nat)} {t : Tg} {cit celt : E} {new : Bool} (hK : X.K = C.K) (hc : X.calm = true) (hN : X.N.Nodup) (hi : PI X tg iter (rdW C F W₀ cit)) (ok : BlkOk X.N X.env.scope scope own)
    (hsl : ∀ i ∈ t.slots, i ∈ own.map (·.2))
    (hg : ∀ (s : Shared) (H : Hp) (A : Addr) (cl : List (Str × Addr)) (fp : List Addr), PG (X.blk s H scope (compEnvC scope cl A X.env) fp) tg (rdG C.up t))
    (ht : ∀ (s : Shared) (H : Hp) (A : Addr) (cl : List (Str × Addr)) (fp : List Addr), PTs (X.blk s H scope (compEnvC scope cl A X.env) fp) ifs (rdB C.up F Wno cc))
    (he : ∀ (s : Shared) (H : Hp) (A : Addr) (cl : List (Str × Addr)) (fp : List Addr), PE (X.blk s H scope (compEnvC scope cl A X.env) fp) elt (rdE C.up F Wno celt)) (hs : ∀ x, foldedSetIterable iter X.env x = pure x) :
    PE X (.ListComp elt [⟨tg, iter, ifs, 0⟩] scope pos) (rdE C F W₀ (.comp new celt t cit cc (own.map (·.2)))) := by 
  exact peW (pe_lc hc hN hi ok hg ht he hs) fun σ H Q h => comp_rd hsl h
end
end Mini

set_option Elab.async false
set_option linter.all false
set_option maxRecDepth 100000
set_option maxHeartbeats 2000000
/-! Mini, part I: defs and their calls. -/
namespace Mini
open PySem PySem.Spec PyProof.Rows L2
/-- a def keeps a promise, called where no repr is under way -/
structure FnG (P : Program) (w : World) (K : PySem.W.Frag) (mg : Str → Option Value) (base : Heap) (k : Nat) (f : Addr) (fd : FuncData) (ps : List Str) (sp : Sp) : Prop where
  len : ∀ vs H Q E, sp vs H Q E → vs.length = ps.length
  run : ∀ (A : Around) (outer : List Env) (s : Shared) (H : Hp) (args : Args) (us : List Value) (vs : List V) (Q : VK) (E : XK), A.guards = some [] → Room k A → Env0 P w K mg base A outer s H → BindsTo s fd args (ps.zip us) → Vals vs us → sp vs H Q E →
    codeAny (model P w) A (.call (.ref f) args) (CR (L2.CX P w) outer P w H s Q E) s
/-- by the def's body -/
theorem fng_of {P : Program} {w : World} {K : PySem.W.Frag} {mg : Str → Option Value} {base : Heap} {k : Nat} {f : Addr} {name qual : Str} {params : Arguments} {body : List Stmt} {scope : Scope} {dV kV doc pm cdv ct oc : Value} {an od : Option Addr}
    {osl : Array (Option Value)} {N ps : List Str} {sp : Sp} (lk : K.lookup f = some ⟨oc, od, .func (PySem.W.fnOf name qual params body scope dV kV doc pm an cdv ct), osl⟩) (hcd : PySem.W.codeIn K cdv qual = true) (S : FnScope N ps scope)
    (len : ∀ vs H Q E, sp vs H Q E → vs.length = ps.length)
    (hbody : ∀ (A : Around) (outer : List Env) (s : Shared) (H : Hp) (vs : List V) (Q : VK) (E : XK), A.guards = some [] → Room k (A.deeper (envOfC qual scope s.heap.objs.size f cdv)) → sp vs H Q E →
      ∃ t, PSs (cxOf (L2.CX P w) P w K mg base N qual scope f cdv A outer s H E) body t ∧ t { nx := fun _ H' => Q .non H', rt := Q } (start N vs) H) :
    FnG P w K mg base (k + 1) f (PySem.W.fnOf name qual params body scope dV kV doc pm an cdv ct) ps sp := by
  refine ⟨len, fun A outer s H args us vs Q E hgd hr e0 hb r hsp => ?_⟩
  have hl := len _ _ _ _ hsp
  have KX : K.In s.heap := e0.mod.kin.keeps fun b o e => (e0.bs b o e).1
  have lim : s.heap.NoLimit := e0.mod.nolimit.keeps fun b o e => (e0.bs b o e).1
  have kinds : ∀ y ∈ ps.zip us, scope.names.lookup y.1 = some .local ∨ (scope.names.lookup y.1 = some .cell ∧ ((cellsFrom (s.heap.objs.size + 1) scope.names []).lookup y.1).isSome = true) := fun ⟨n, v⟩ hy =>
    (S.par n (List.of_mem_zip hy).1).imp (fun q => q) fun q => ⟨q, PySem.W.cellsFrom_some _ _ _ (.inl q)⟩
  refine codeAny_call_function hr.depth (KX _ _ lk) rfl S.co S.gen rfl (PySem.W.codeRec_of KX hcd) (hb _ _ _ _ ?_)
  refine wpAny_newFunctionEnv_cells S.kind kinds fun env he s1 x => ?_
  subst he
  refine ⟨lim.keeps x.toInCall.keep, codeAny_func ?_⟩
  obtain ⟨t, ht, hq⟩ := hbody A outer s H vs Q E hgd (hr.deeper _) hsp
  have I : L2.Inv (cxOf (L2.CX P w) P w K mg base N qual scope f cdv A outer s H E) [] (start N vs) H s1 := inv_start S hr.hd e0 hl r x
  refine wpAny_mono (ht.run [] s1 (start N vs) H _ I hq) (fun fl s' hs => ?_) fun e s' hs => hs
  cases fl with
  | ret u =>
    obtain ⟨v, σ', H', J, rv, q⟩ := hs
    exact ⟨v, H', J.os, J.bare, J.base, J.hok, rv, q⟩
  | next =>
    obtain ⟨σ', H', J, q⟩ := hs
    exact ⟨V.non, H', J.os, J.bare, J.base, J.hok, rfl, q⟩
  | brk =>
    obtain ⟨_, _, _, q⟩ := hs
    exact q.elim
  | cont =>
    obtain ⟨_, _, _, q⟩ := hs
    exact q.elim
/-- the promise of the i-th def, by the evaluator -/
def spF (C : Cn) (P : Pg) (k i : Nat) : Sp := fun vs H Q E => ∃ (kk : Nat) (ms : List Addr) (st : Sto) (ws : List W), StRep (C.at kk) H ms st ∧ WReps (C.at kk) H ms ws vs ∧
  Post (C.at kk) (fun cls d _ H' => E cls d H') [] H ms (runF P k i ws st) fun w _ H' ms' => ∀ v, WRep (C.at kk) H' ms' w v → Q v H'
/-- all defs that the evaluator knows keep their promises -/
def Fns (C : Cn) (P : Pg) (k : Nat) (prog : Program) (w : World) (K : PySem.W.Frag) (mg : Str → Option Value) (base : Heap) : Prop :=
  ∀ i f, C.fa i = some f → ∃ fd ps, PySem.W.keepIn K (.ref f) = true ∧ Binds K fd ps [] ∧ FnG prog w K mg base k f fd ps (spF C P k i)
section
variable {C : Cn} {F : Fe} {W₀ : WX} {X : Cx} {P : Pg} {k : Nat} {ca : E} {pos : Pos} {H : Hp} {ms : List Addr} {st : Sto} {σ : L2.St}
theorem Fns.at (h : Fns C P k X.prog X.w X.K X.mg X.base) (kk : Nat) : Fns (C.at kk) P k X.prog X.w X.K X.mg X.base := h
/-- the callee runs -/
theorem run_fng {i : Nat} {f : Addr} {pins : List (Addr × Obj)} {s : Shared} {Q : VK} {us : List Value} {vs : List V} {ws : List W} (G : Fns C P k X.prog X.w X.K X.mg X.base) (hf : C.fa i = some f) (hg : X.A.guards = some []) (hr : Room k X.A) (tk : Takes X W₀)
    (I : L2.Inv X pins σ H s) (r : Vals vs us) (sr : StRep C H ms st) (rw' : WReps C H ms ws vs) (h : Post C W₀ σ H ms (runF P k i ws st) fun w _ H' ms' => ∀ v, WRep C H' ms' w v → Q v H') :
    wpAny (model X.prog X.w) X.A (call (.ref f) us) (EP X pins σ Q) X.xe s := by
  obtain ⟨fd, ps, hk, hb, g⟩ := G i f hf
  have sp : spF C P k i vs H Q (fun cls d H' => W₀ cls d σ H') := by
    refine ⟨C.k, ms, st, ws, sr, rw', ?_⟩
    cases q : runF P k i ws st with
    | ok w s1 => rw [q] at h; exact h
    | exc c xs s1 => rw [q] at h; exact h
    | stuck => rw [q] at h; exact h
  have hl : (us ++ []).length = ps.length := by rw [List.append_nil, ← r.length]; exact g.len _ _ _ _ sp
  have bd := hb s us I.kIn hl
  rw [List.append_nil] at bd
  refine wpAny_call (codeAny_mono (g.run X.A X.stack s H ⟨us, []⟩ us vs Q _ hg hr I.env0 bd r sp) fun res s' hq => ?_)
  cases res with
  | error e => exact tk _ _ (XE.of_call I (fun cls d H' z => z) hq)
  | ok fl =>
    cases fl with
    | ret u => exact I.after hq
    | next => exact hq.elim
    | brk => exact hq.elim
    | cont => exact hq.elim
theorem se_call {e : Expr} {es : List Expr} {i : Nat} {f : Addr} {x : Str} {p : Pos} (hF : F.call = runF P k) (G : Fns C P k X.prog X.w X.K X.mg X.base) (hf : C.fa i = some f) (hg : X.A.guards = some []) (hr : Room k X.A) (tk : Takes X W₀)
    (hgl : Gl X x) (hm : X.mg x = some (.ref f)) (hd : (x == ("__debug__" : Str)) = false) (ha : PA X (e :: es) (rdL C F W₀ ca)) (hn : (e :: es).all nostar = true) : PE X (.Call (.Name x p) (e :: es) [] pos) (rdE C F W₀ (.call i ca)) := by
  rw [List.all_cons, Bool.and_eq_true] at hn
  obtain ⟨fd, ps, hk, hb, g⟩ := G i f hf
  refine ⟨fun pins s σ H Q I ⟨env, st, ms, en, sr, h⟩ => ?_⟩
  refine wpAny_Call_Name_kw (ld_glob I hgl hm ?_ hd)
  have hq := rdL_bind (K := fun vs H1 => ∃ st1 ms1 ws, StRep C H1 ms1 st1 ∧ WReps C H1 ms1 ws vs ∧ Post C W₀ σ H1 ms1 (runF P k i ws st1) fun w _ H' ms' => ∀ v, WRep C H' ms' w v → Q v H') en sr h
    fun vs ws st1 H1 ms1 en1 sr1 e1 r1 h1 => ⟨st1, ms1, ws, sr1, r1, by rw [← hF]; exact h1⟩
  refine PySem.W.callWith_K (h₀ := X.base) I.ok.mod.kin hk (thn (ha.run pos pins s σ H _ I hq) fun us s1 ⟨vs, H1, I1, r, q⟩ => ⟨I1.kIn, ?_⟩) (star_eq hn.1) (star_any hn.2)
  obtain ⟨st1, ms1, ws, sr1, r1, h1⟩ := q
  exact run_fng G hf hg hr tk I1 r sr1 r1 h1
theorem se_call0 {i : Nat} {f : Addr} {x : Str} {p : Pos} (hF : F.call = runF P k) (G : Fns C P k X.prog X.w X.K X.mg X.base) (hf : C.fa i = some f) (hg : X.A.guards = some []) (hr : Room k X.A) (tk : Takes X W₀)
    (hgl : Gl X x) (hm : X.mg x = some (.ref f)) (hd : (x == ("__debug__" : Str)) = false) : PE X (.Call (.Name x p) [] [] pos) (rdE C F W₀ (.call i .nil)) := by
  obtain ⟨fd, ps, hk, hb, g⟩ := G i f hf
  refine ⟨fun pins s σ H Q I ⟨env, st, ms, en, sr, h⟩ => ?_⟩
  refine wpAny_Call_Name_kw (ld_glob I hgl hm ?_ hd)
  have h : Post C W₀ σ H ms (F.call i [] st) _ := h
  rw [hF] at h
  exact PySem.W.callWith_K0 I.kIn hk (run_fng (us := []) G hf hg hr tk I .nil sr .nil h)
theorem se_callv {e : Expr} {es : List Expr} {i : Nat} {x : Str} {p : Pos} (hF : F.call = runF P k) (G : Fns C P k X.prog X.w X.K X.mg X.base) (hg : X.A.guards = some []) (hr : Room k X.A) (tk : Takes X W₀)
    (hN : X.N[i]? = some x) (hv : Vis X.env.scope x) (hd : (x == ("__debug__" : Str)) = false) (hcd : (x == ("__classdict__" : Str)) = false) (ha : PA X (e :: es) (rdL C F W₀ ca)) (hn : (e :: es).all nostar = true) : PE X (.Call (.Name x p) (e :: es) [] pos) (rdE C F W₀ (.callv i ca)) := by
  rw [List.all_cons, Bool.and_eq_true] at hn
  refine ⟨fun pins s σ H Q I ⟨env, st, ms, en, sr, h⟩ => ?_⟩
  simp only [evE] at h
  split at h
  · rename_i j ej
    obtain ⟨v, ev, rj⟩ := en.at_ i _ ej
    obtain ⟨f, hf, rfl⟩ := rj
    obtain ⟨fd, ps, hk, hb, g⟩ := G j f hf
    refine wpAny_Call_Name_kw (thn ((pe_var (pos := p) hN hv hd hcd).run pins s σ H (fun v H1 => v = .ref f ∧ H1 = H) I ⟨.ref f, ev, rfl, rfl⟩) fun u s1 ⟨v, H1, I1, r1, q1⟩ => ?_)
    obtain ⟨rfl, rfl⟩ := q1
    cases r1
    have hq := rdL_bind (K := fun vs H2 => ∃ st1 ms1 ws, StRep C H2 ms1 st1 ∧ WReps C H2 ms1 ws vs ∧ Post C W₀ σ H2 ms1 (runF P k j ws st1) fun w _ H' ms' => ∀ v, WRep C H' ms' w v → Q v H') en sr h
      fun vs ws st1 H2 ms1 en1 sr1 e1 r1 h1 => ⟨st1, ms1, ws, sr1, r1, by rw [← hF]; exact h1⟩
    refine PySem.W.callWith_K (h₀ := X.base) I1.ok.mod.kin hk (thn (ha.run pos pins s1 σ _ _ I1 hq) fun us s2 ⟨vs, H2, I2, r, q⟩ => ⟨I2.kIn, ?_⟩) (star_eq hn.1) (star_any hn.2)
    obtain ⟨st1, ms1, ws, sr1, r1, h1⟩ := q
    exact run_fng G hf hg hr tk I2 r sr1 r1 h1
  · exact h.elim
end
end Mini

set_option Elab.async false
set_option linter.all false
set_option maxRecDepth 100000
set_option maxHeartbeats 2000000
/-! Mini, part J: statements. -/
namespace Mini
open PySem PySem.Spec PyProof.Rows L2
/-- what an outcome of the evaluator promises -/
def PostS (C : Cn) (W₀ : WX) (D : Ends) (H : Hp) (ms : List Addr) : Out → Prop
  | .nx v s => ∀ σ' H' ms', Ext C.k H ms H' ms' → EnRep C H' ms' σ' v → StRep C H' ms' s → D.nx σ' H'
  | .brk v s => ∀ σ' H' ms', Ext C.k H ms H' ms' → EnRep C H' ms' σ' v → StRep C H' ms' s → D.bk σ' H'
  | .cnt v s => ∀ σ' H' ms', Ext C.k H ms H' ms' → EnRep C H' ms' σ' v → StRep C H' ms' s → D.ct σ' H'
  | .ret w s => ∀ v H' ms', Ext C.k H ms H' ms' → StRep C H' ms' s → WRep C H' ms' w v → D.rt v H'
  | .exc c xs v s => ∀ cls d σ' H' ms', Ext C.k H ms H' ms' → EnRep C H' ms' σ' v → StRep C H' ms' s → ExRep C H' ms' c xs cls d → W₀ cls d σ' H'
  | .stuck => False
def rdS (C : Cn) (F : Fs) (W₀ : WX) (c : S) : TS := fun D σ H => ∃ env st ms, EnRep C H ms σ env ∧ StRep C H ms st ∧ PostS C W₀ D H ms (evS F c env st)
theorem psW {X : Cx} {s : Stmt} {t t' : TS} (h : PS X s t) (k : ∀ D σ H, t' D σ H → t D σ H) : PS X s t' := ⟨fun pins s σ H D I q => h.run pins s σ H D I (k D σ H q)⟩
theorem pssW {X : Cx} {s : List Stmt} {t t' : TS} (h : PSs X s t) (k : ∀ D σ H, t' D σ H → t D σ H) : PSs X s t' := ⟨fun pins s σ H D I q => h.run pins s σ H D I (k D σ H q)⟩
section
variable {C : Cn} {F : Fs} {W₀ : WX} {X : Cx} {α : Type} {H H' : Hp} {ms ms' : List Addr} {σ : L2.St} {env : En} {st : Sto} {D : Ends}
theorem PostS.mono {o : Out} (x : Ext C.k H ms H' ms') (h : PostS C W₀ D H ms o) : PostS C W₀ D H' ms' o := by
  cases o with
  | nx v s => exact fun σ2 H2 ms2 x2 => h σ2 H2 ms2 (x.trans x2)
  | brk v s => exact fun σ2 H2 ms2 x2 => h σ2 H2 ms2 (x.trans x2)
  | cnt v s => exact fun σ2 H2 ms2 x2 => h σ2 H2 ms2 (x.trans x2)
  | ret w s => exact fun σ2 H2 ms2 x2 => h σ2 H2 ms2 (x.trans x2)
  | exc c xs v s => exact fun cls d σ2 H2 ms2 x2 => h cls d σ2 H2 ms2 (x.trans x2)
  | stuck => exact h
theorem PostS.out {r : Rs α} {f : α → Sto → Out} (en : EnRep C H ms σ env) (h : PostS C W₀ D H ms (r.out env f)) : Post C W₀ σ H ms r fun a st' H' ms' => PostS C W₀ D H' ms' (f a st') := by
  cases r with
  | ok a s =>
    have h : PostS C W₀ D H ms (f a s) := h
    exact fun H2 ms2 x2 s2 => h.mono x2
  | exc c xs s => exact fun cls d H2 ms2 x2 s2 e => h cls d σ H2 ms2 x2 (en.mono x2) s2 e
  | stuck => exact h
theorem PostS.of {o : Option En} (h : PostS C W₀ D H ms (Out.of o st)) : ∃ v, o = some v ∧ PostS C W₀ D H ms (.nx v st) := by
  cases o with
  | none => exact h.elim
  | some v => exact ⟨v, rfl, h⟩
/-- an expression within a statement -/
theorem rs_bind {c : E} {f : W → Sto → Out} {K : VK} (en : EnRep C H ms σ env) (sr : StRep C H ms st) (h : PostS C W₀ D H ms ((evE F.fe c env st).out env f))
    (k : ∀ v w st' H' ms', EnRep C H' ms' σ env → StRep C H' ms' st' → Ext C.k H ms H' ms' → WRep C H' ms' w v → PostS C W₀ D H' ms' (f w st') → K v H') : rdE C F.fe W₀ c σ H K :=
  ⟨env, st, ms, en, sr, (h.out en).imp fun w st' H' ms' x s' q v r => k v w st' H' ms' (en.mono x) s' x r q⟩
theorem rsB_bind {c : E} {f : Bool → Sto → Out} {K : Bool → Hp → Prop} (en : EnRep C H ms σ env) (sr : StRep C H ms st) (h : PostS C W₀ D H ms ((tst (evE F.fe c env st)).out env f))
    (k : ∀ b st' H' ms', EnRep C H' ms' σ env → StRep C H' ms' st' → Ext C.k H ms H' ms' → PostS C W₀ D H' ms' (f b st') → K b H') : rdB C F.fe W₀ c σ H K :=
  ⟨env, st, ms, en, sr, (h.out en).imp fun w st' H' ms' x s' q => k w st' H' ms' (en.mono x) s' x q⟩
theorem rsL_bind {c : E} {f : List W → Sto → Out} {K : List V → Hp → Prop} (en : EnRep C H ms σ env) (sr : StRep C H ms st) (h : PostS C W₀ D H ms ((evL F.fe c env st).out env f))
    (k : ∀ vs ws st' H' ms', EnRep C H' ms' σ env → StRep C H' ms' st' → Ext C.k H ms H' ms' → WReps C H' ms' ws vs → PostS C W₀ D H' ms' (f ws st') → K vs H') : rdL C F.fe W₀ c σ H K :=
  ⟨env, st, ms, en, sr, (h.out en).imp fun w st' H' ms' x s' q v r => k v w st' H' ms' (en.mono x) s' x r q⟩
/-! ### blocks, small statements -/
variable {e : Expr} {ca cb cc : E} {a b : List Stmt} {sa sb : S} {pos : Pos}
theorem ss_nil : PSs X [] (rdS C F W₀ .skip) := pssW pss_nil fun D σ H ⟨env, st, ms, en, sr, h⟩ => h σ H ms Ext.refl en sr
theorem ss_cons {s : Stmt} {ss : List Stmt} (h1 : PS X s (rdS C F W₀ sa)) (h2 : PSs X ss (rdS C F W₀ sb)) : PSs X (s :: ss) (rdS C F W₀ (.seq sa sb)) :=
  pssW (pss_cons h1 h2) fun D σ H ⟨env, st, ms, en, sr, h⟩ => by
    refine ⟨env, st, ms, en, sr, ?_⟩
    have h : PostS C W₀ D H ms ((evS F sa env st).andThen (evS F sb)) := h
    cases q : evS F sa env st with
    | nx v s =>
      rw [q] at h
      have h : PostS C W₀ D H ms (evS F sb v s) := h
      exact fun σ' H' ms' x en' sr' => ⟨v, s, ms', en', sr', h.mono x⟩
    | brk v s => rw [q] at h; exact h
    | cnt v s => rw [q] at h; exact h
    | ret w s => rw [q] at h; exact h
    | exc c xs v s => rw [q] at h; exact h
    | stuck => rw [q] at h; exact h
theorem sx_pass : PS X (.Pass pos) (rdS C F W₀ .skip) := psW ps_pass fun D σ H ⟨env, st, ms, en, sr, h⟩ => h σ H ms Ext.refl en sr
theorem sx_break : PS X (.Break pos) (rdS C F W₀ .brk) := psW ps_break fun D σ H ⟨env, st, ms, en, sr, h⟩ => h σ H ms Ext.refl en sr
theorem sx_continue : PS X (.Continue pos) (rdS C F W₀ .cnt) := psW ps_continue fun D σ H ⟨env, st, ms, en, sr, h⟩ => h σ H ms Ext.refl en sr
def nocomp : Expr → Bool
  | .ListComp _ _ _ _ => false
  | .SetComp _ _ _ _ => false
  | .DictComp _ _ _ _ _ => false
  | _ => true
theorem sw_off {e : Expr} {t : Option Expr} {l : Nat} {env : Env} (h : nocomp e = true) : swapsWith e t l env = pure false := by
  cases e <;> first | rfl | cases h
theorem sx_expr (he : PE X e (rdE C F.fe W₀ ca)) (hn : nocomp e = true) : PS X (.Expr e pos) (rdS C F W₀ (.ex ca)) :=
  psW (ps_expr he (sw_off hn)) fun D σ H ⟨env, st, ms, en, sr, h⟩ => rs_bind en sr h fun v w st' H' ms' en' sr' x r q => q σ H' ms' Ext.refl en' sr'
theorem sx_ret (he : PE X e (rdE C F.fe W₀ ca)) : PS X (.Return (some e) pos) (rdS C F W₀ (.ret ca)) :=
  psW (ps_ret he) fun D σ H ⟨env, st, ms, en, sr, h⟩ => rs_bind en sr h fun v w st' H' ms' en' sr' x r q => q v H' ms' Ext.refl sr' r
theorem sx_retn : PS X (.Return none pos) (rdS C F W₀ .retn) :=
  psW ps_retN fun D σ H ⟨env, st, ms, en, sr, h⟩ => h .non H ms Ext.refl sr rfl
theorem sx_if (hc : PT X e (rdB C F.fe W₀ cc)) (ha : PSs X a (rdS C F W₀ sa)) (hb : PSs X b (rdS C F W₀ sb)) : PS X (.If e a b pos) (rdS C F W₀ (.ifs cc sa sb)) :=
  psW (ps_if hc ha hb) fun D σ H ⟨env, st, ms, en, sr, h⟩ => rsB_bind en sr h fun k st' H' ms' en' sr' x q => by
    cases k with
    | true => exact ⟨env, st', ms', en', sr', q⟩
    | false => exact ⟨env, st', ms', en', sr', q⟩
/-! ### assignments -/
theorem sx_set {i : Nat} {x : Str} {pos' : Pos} (hN : X.N.Nodup) (hi : X.N[i]? = some x) (hx : Loc X.env.scope x) (hf : X.fn x = true ∨ X.env.scope.names.lookup x = some .local) (he : PE X e (rdE C F.fe W₀ ca)) (hs : swapsWith e (some (.Name x pos')) pos.line X.env = pure false) :
    PS X (.Assign [.Name x pos'] e pos) (rdS C F W₀ (.set (.nm i) ca)) :=
  psW (ps_set hN hi hx he hs hf) fun D σ H ⟨env, st, ms, en, sr, h⟩ => rs_bind en sr h fun v w st' H' ms' en' sr' x r q => by
    obtain ⟨v', ev, q⟩ := q.of
    exact q _ H' ms' Ext.refl (en'.put r ev) sr'
theorem tup_sw {e : Expr} {ts : List Expr} {k : Nat} {p : Pos} {l : Nat} {env : Env} : swapsWithSole [.Tuple ts k p] e l env = pure false := by
  show swapsWith e (some (.Tuple ts k p)) l env = pure false
  cases e <;> rfl
theorem sx_tup {ts : List Expr} {is : List Nat} {k : Nat} {p : Pos} (hK : X.K = C.K) (hc : X.calm = true) (hN : X.N.Nodup) (hn : NamesAt X ts is) (he : PE X e (rdE C F.fe W₀ ca)) (hw : swappedStores [.Tuple ts k p] e X.env = pure none) :
    PS X (.Assign [.Tuple ts k p] e pos) (rdS C F W₀ (.set (.tp is) ca)) :=
  psW (ps_asg he (sg_tp (C := C) hK hc hN hn) tup_sw hw rfl) fun D σ H ⟨env, st, ms, en, sr, h⟩ => rs_bind en sr h fun v w st' H' ms' en' sr' x r q => by
    obtain ⟨v', ev, q⟩ := q.of
    exact ⟨env, st', ms', w, v', en', sr', r, ev, fun σ' en2 _ _ => q σ' H' ms' Ext.refl en2 sr'⟩
theorem sx_setLc {i : Nat} {x : Str} {py : Pos} {elt tg iter : Expr} {ifs : List Expr} {scope : Scope} {own : List (Str × Nat)} {t : Tg} {cit celt : E} {new : Bool} {lpos : Pos} (hK : X.K = C.K) (hc : X.calm = true) (hN : X.N.Nodup) (hy : X.N[i]? = some x) (hyl : X.env.scope.names.lookup x = some .local)
    (hsw : swapsWith (.ListComp elt [⟨tg, iter, ifs, 0⟩] scope lpos) (some (.Name x py)) pos.line X.env = pure true) (hi : PI X tg iter (rdW C F.fe W₀ cit)) (ok : BlkOk X.N X.env.scope scope own)
    (hsl : ∀ i ∈ t.slots, i ∈ own.map (·.2))
    (hg : ∀ (s : Shared) (H : Hp) (A : Addr) (cl : List (Str × Addr)) (fp : List Addr), PG (X.blk s H scope (compEnvC scope cl A X.env) fp) tg (rdG C.up t))
    (ht : ∀ (s : Shared) (H : Hp) (A : Addr) (cl : List (Str × Addr)) (fp : List Addr), PTs (X.blk s H scope (compEnvC scope cl A X.env) fp) ifs (rdB C.up F.fe Wno cc))
    (he : ∀ (s : Shared) (H : Hp) (A : Addr) (cl : List (Str × Addr)) (fp : List Addr), PE (X.blk s H scope (compEnvC scope cl A X.env) fp) elt (rdE C.up F.fe Wno celt)) (hs : ∀ x, foldedSetIterable iter X.env x = pure x) :
    PS X (.Assign [.Name x py] (.ListComp elt [⟨tg, iter, ifs, 0⟩] scope lpos) pos) (rdS C F W₀ (.set (.nm i) (.comp new celt t cit cc (own.map (·.2))))) :=
  psW (ps_setLc hc hN hy hyl hsw hi ok hg ht he hs) fun D σ H ⟨env, st, ms, en, sr, h⟩ => by
    refine comp_rd (new := new) hsl (Q := fun v H1 => D.nx (σ.set i (some v)) H1) ?_
    exact rs_bind en sr h fun v w st' H' ms' en' sr' x r q => by
      obtain ⟨v', ev, q⟩ := q.of
      exact q _ H' ms' Ext.refl (en'.put r ev) sr'
/-! ### a, b = x, y -/
theorem sx_par2 {i j : Nat} {x y : Str} {e1 e2 : Expr} {px py pt : Pos} {kt k2 : Nat} {pt2 : Pos} (hc : X.calm = true) (hN : X.N.Nodup) (hi : X.N[i]? = some x) (hj : X.N[j]? = some y) (hij : i ≠ j) (hx : X.env.scope.names.lookup x = some .local) (hy : X.env.scope.names.lookup y = some .local)
    (ha : PA X [e1, e2] (rdL C F.fe W₀ ca)) (hw : swappedStores [.Tuple [.Name x px, .Name y py] kt pt] (.Tuple [e1, e2] k2 pt2) X.env = pure (some [x, y])) :
    PS X (.Assign [.Tuple [.Name x px, .Name y py] kt pt] (.Tuple [e1, e2] k2 pt2) pos) (rdS C F W₀ (.par [i, j] ca)) :=
  psW (ps_par hc hN hi hj hij hx hy ha hw tup_sw) fun D σ H ⟨env, st, ms, en, sr, h⟩ => rsL_bind en sr h fun vs ws st' H' ms' en' sr' x r q => by
    obtain ⟨v', ev, q9⟩ := q.of
    clear q
    cases r with
    | nil => cases ev
    | cons r1 r =>
      obtain ⟨env1, p1, ev⟩ := Option.bind_eq_some_iff.mp ev
      cases r with
      | nil => cases ev
      | cons r2 r =>
        obtain ⟨env2, p2, ev⟩ := Option.bind_eq_some_iff.mp ev
        cases r with
        | nil =>
          cases ev
          exact ⟨_, _, rfl, q9 _ H' ms' Ext.refl ((en'.put r1 p1).put r2 p2) sr'⟩
        | cons _ _ => cases ev
theorem sx_par3 {i j l : Nat} {x y z : Str} {e1 e2 e3 : Expr} {px py pz pt : Pos} {kt k2 : Nat} {pt2 : Pos} (hc : X.calm = true) (hN : X.N.Nodup) (hi : X.N[i]? = some x) (hj : X.N[j]? = some y) (hl : X.N[l]? = some z) (hij : i ≠ j) (hil : i ≠ l) (hjl : j ≠ l)
    (hx : X.env.scope.names.lookup x = some .local) (hy : X.env.scope.names.lookup y = some .local) (hz : X.env.scope.names.lookup z = some .local)
    (ha : PA X [e1, e2, e3] (rdL C F.fe W₀ ca)) (hw : swappedStores [.Tuple [.Name x px, .Name y py, .Name z pz] kt pt] (.Tuple [e1, e2, e3] k2 pt2) X.env = pure (some [x, y, z])) :
    PS X (.Assign [.Tuple [.Name x px, .Name y py, .Name z pz] kt pt] (.Tuple [e1, e2, e3] k2 pt2) pos) (rdS C F W₀ (.par [i, j, l] ca)) :=
  psW (ps_par3 hc hN hi hj hl hij hil hjl hx hy hz ha hw tup_sw) fun D σ H ⟨env, st, ms, en, sr, h⟩ => rsL_bind en sr h fun vs ws st' H' ms' en' sr' x r q => by
    obtain ⟨v', ev, q9⟩ := q.of
    clear q
    cases r with
    | nil => cases ev
    | cons r1 r =>
      obtain ⟨env1, p1, ev⟩ := Option.bind_eq_some_iff.mp ev
      cases r with
      | nil => cases ev
      | cons r2 r =>
        obtain ⟨env2, p2, ev⟩ := Option.bind_eq_some_iff.mp ev
        cases r with
        | nil => cases ev
        | cons r3 r =>
          obtain ⟨env3, p3, ev⟩ := Option.bind_eq_some_iff.mp ev
          cases r with
          | nil =>
            cases ev
            exact ⟨_, _, _, rfl, q9 _ H' ms' Ext.refl (((en'.put r1 p1).put r2 p2).put r3 p3) sr'⟩
          | cons _ _ => cases ev
/-! ### x op= e -/
theorem so_aug (o : O2) : PIp X (opOf o) (rBin C (aug2 o)) := by
  have base : ∀ {o}, aug2 o = (fun _ _ => none) → PIp X (opOf o) (rBin C (aug2 o)) := fun hz pins s σ H x y v u Q I rx ry ⟨ms, st, p, q, d, sr, n1, n2, e, k⟩ => by
    rw [hz] at e
    cases e
  have none_of : ∀ o, (o = .mul ∨ o = .fdiv ∨ o = .mod ∨ o = .pow) → aug2 o = fun _ _ => none := fun o ho => by
    funext x y
    rcases ho with rfl | rfl | rfl | rfl <;> rfl
  cases o with
  | mul => exact base (none_of _ (.inl rfl))
  | fdiv => exact base (none_of _ (.inr (.inl rfl)))
  | mod => exact base (none_of _ (.inr (.inr (.inl rfl))))
  | pow => exact base (none_of _ (.inr (.inr (.inr rfl))))
  | sub =>
    refine opW (f := inplaceOp .Sub) iop_sub fun x y H Q h => ?_
    obtain ⟨ms, st, p, q, d, sr, n1, n2, e, k⟩ := h
    simp only [aug2] at e
    split at e <;> (try contradiction)
    cases e
    rw [n1.int, n2.int]
    exact ⟨_, _, rfl, rfl, k H Ext.refl sr _ rfl⟩
  | add =>
    refine opW (f := inplaceOp .Add) (OpR.or iop_add iop_add_str) fun x y H Q h => ?_
    obtain ⟨ms, st, p, q, d, sr, n1, n2, e, k⟩ := h
    simp only [aug2] at e
    split at e <;> (try contradiction)
    · cases e
      rw [n1.int, n2.int]
      exact .inl ⟨_, _, rfl, rfl, k H Ext.refl sr _ rfl⟩
    · split at e
      · cases e
        rw [n1.str, n2.str]
        exact .inr ⟨_, _, rfl, rfl, LIM_le (by assumption), k H Ext.refl sr _ rfl⟩
      · cases e
theorem out_bind {β : Type} (r : Rs α) (g : α → Sto → Rs β) (v : En) (f : β → Sto → Out) : (r.bind g).out v f = r.out v fun a s => (g a s).out v f := by cases r <;> rfl
theorem PostS.rs {o : Option α} {f : α → Sto → Out} (en : EnRep C H ms σ env) (sr : StRep C H ms st) (h : PostS C W₀ D H ms ((Rs.of o st).out env f)) : ∃ a, o = some a ∧ PostS C W₀ D H ms (f a st) := by
  cases o with
  | none => exact h.elim
  | some a => exact ⟨a, rfl, h⟩
theorem sx_aug {i : Nat} {x : Str} {pos' : Pos} (hN : X.N.Nodup) (hi : X.N[i]? = some x) (hx : Loc X.env.scope x) (hf : X.fn x = true ∨ X.env.scope.names.lookup x = some .local) (o : O2) (he : PE X e (rdE C F.fe W₀ ca)) :
    PS X (.AugAssign (.Name x pos') (opOf o) e pos) (rdS C F W₀ (.aug i o ca)) :=
  psW (ps_aug hN hi hx he (so_aug (C := C) o) hf) fun D σ H ⟨env, st, ms, en, sr, h⟩ => by
    simp only [evS] at h
    split at h
    · rename_i w ew
      obtain ⟨v, ev, rv⟩ := en.at_ i w ew
      simp only [augR, Rs.bind, out_bind] at h
      have h : PostS C W₀ D H ms ((evE F.fe ca env st).out env fun y s => (Rs.of ((view s w).bind fun x => (view s y).bind fun y => (aug2 o x y).map W.d) s).out env fun w s => .of (putS env i w) s) := by
        rw [← out_bind]
        exact h
      refine ⟨v, ev, rs_bind en sr h fun y w2 st' H' ms' en' sr' x2 r2 q => ?_⟩
      obtain ⟨z, ez, q⟩ := q.rs en' sr'
      obtain ⟨p, ep, ez⟩ := Option.bind_eq_some_iff.mp ez
      obtain ⟨p2, ep2, ez⟩ := Option.bind_eq_some_iff.mp ez
      obtain ⟨d, ed, rfl⟩ := Option.map_eq_some_iff.mp ez
      obtain ⟨env', ee, q⟩ := q.of
      exact ⟨ms', st', p, p2, d, sr', (rv.mono x2).now sr' ep, r2.now sr' ep2, ed, fun H2 x3 s3 v3 r3 => q _ H2 ms' x3 ((en'.mono x3).put (w := .d d) r3 ee) s3⟩
    · exact h.elim
/-! ### o[i] = x, o[i] op= x -/
theorem list_get : PGet X (fun o i H Q => ∃ p xs k v, o = .ref p ∧ i = .int k ∧ SqL X.K H p xs ∧ atI xs k = some v ∧ Q v H) := by
  intro pins s σ H o i ov iv Q I ro ri h
  obtain ⟨p, xs, k, z, rfl, rfl, hq, he, q⟩ := h
  cases ro
  obtain ⟨t, rfl⟩ := ri
  obtain ⟨its, r, pl, hz⟩ := I.list hq
  obtain ⟨j, h1, h2, h3, h4, h5⟩ := atI_get he
  obtain ⟨w, ew, rw'⟩ := r.get h2
  have hl := r.length
  have hn := line63
  have fin : EP X pins σ Q w s := ⟨z, H, I, rw', q⟩
  by_cases h0 : 0 ≤ k
  · have hj : k.toNat = j := by
      rw [seqIndex_of h0 h5] at h1
      exact Option.some.inj h1
    exact wpAny_getItem_list pl.isList h0 (by omega) (by rw [hj]; simpa using ew) fin
  · have hj : (k + (its.toArray.size : Int)).toNat = j := by
      rw [seqIndex_neg (by omega) h4] at h1
      rw [List.size_toArray, ← hl]
      exact Option.some.inj h1
    exact wpAny_getItem_list_neg pl.isList (by omega) (by rw [List.size_toArray] <;> omega) (by omega) (by rw [hj]; simpa using ew) fin
theorem setD_of {n : Nat} {i x : PD} {s s' : Sto} (h : setD n i x s = some s') : ∃ l k j, s[n]? = some (.lst l) ∧ i = .int k ∧ ixN l.length k = some j ∧ s' = s.set n (.lst (l.set j x)) := by
  unfold setD at h
  split at h
  · obtain ⟨j, e, rfl⟩ := Option.map_eq_some_iff.mp h
    exact ⟨_, _, j, by assumption, rfl, e, rfl⟩
  · cases h
theorem set_post {n : Nat} {i x : PD} {o iv xv : V} {s' : Sto} {Q : Hp → Prop} (sr : StRep C H ms st) (ro : WRep C H ms (.ref n) o) (hi : Now C.K H ms i iv) (rx : Rep C.K H ms x xv) (e : setD n i x st = some s')
    (q : ∀ H', Ext C.k H ms H' ms → StRep C H' ms s' → Q H') : rSetL o iv xv H Q := by
  obtain ⟨l, k, j, hl, rfl, hj, rfl⟩ := setD_of e
  obtain ⟨a, ha, rfl⟩ := ro
  obtain ⟨vs, hv, rr⟩ := sr.ob n a _ ha hl
  refine ⟨a, vs, k, j, rfl, hi.int, hv, by rw [rr.length]; exact hj, q _ (Ext.write sr ha) (sr.write ha (rr.set j rx))⟩
theorem sx_seti {o i : Expr} {co ci : E} {tpos : Pos} (ho : PE X o (rdE C F.fe W₀ co)) (hi : PE X i (rdE C F.fe W₀ ci)) (he : PE X e (rdE C F.fe W₀ ca)) (hn : nocomp e = true) (hns : noslice i = true) :
    PS X (.Assign [.Subscript o i tpos] e pos) (rdS C F W₀ (.seti co ci ca)) :=
  psW (ps_asg he (pg_sub ho hi set_list (by intro v; cases i <;> first | rfl | cases hns)) (by cases e <;> first | rfl | cases hn) rfl rfl) fun D σ H ⟨env, st, ms, en, sr, h⟩ =>
    rs_bind en sr h fun x w st1 H1 ms1 en1 sr1 e1 r1 h1 => rs_bind en1 sr1 h1 fun ov wo st2 H2 ms2 en2 sr2 e2 r2 h2 => rs_bind en2 sr2 h2 fun iv wi st3 H3 ms3 en3 sr3 e3 r3 h3 => by
      have r2 := r2.mono e3
      have r1 := (r1.mono e2).mono e3
      cases wo with
      | d _ => exact h3.elim
      | fn _ => exact h3.elim
      | ref n =>
        cases w with
        | ref _ => exact h3.elim
        | fn _ => exact h3.elim
        | d x =>
          have h3 : PostS C W₀ D H3 ms3 (Out.ofS env ((view st3 wi).bind fun i => setD n i x st3)) := h3
          cases q : (view st3 wi).bind fun i => setD n i x st3 with
          | none => rw [q] at h3; exact h3.elim
          | some s' =>
            rw [q] at h3
            obtain ⟨pi, epi, q⟩ := Option.bind_eq_some_iff.mp q
            exact set_post sr3 r2 (r3.now sr3 epi) r1 q fun H' x' s2 => h3 σ H' ms3 x' (en3.mono x') s2
theorem sx_augi {o i : Expr} {co ci : E} {q : O2} {tpos : Pos} (hK : X.K = C.K) (ho : PE X o (rdE C F.fe W₀ co)) (hi : PE X i (rdE C F.fe W₀ ci)) (he : PE X e (rdE C F.fe W₀ ca)) (hns : noslice i = true) :
    PS X (.AugAssign (.Subscript o i tpos) (opOf q) e pos) (rdS C F W₀ (.augi co ci q ca)) :=
  psW (ps_augS ho hi list_get he (so_aug (C := C) q) set_list (by cases i <;> first | (intros; rfl) | cases hns)) fun D σ H ⟨env, st, ms, en, sr, h⟩ =>
    rs_bind en sr h fun ov wo st1 H1 ms1 en1 sr1 e1 r1 h1 => rs_bind en1 sr1 h1 fun iv wi st2 H2 ms2 en2 sr2 e2 r2 h2 => by
      have r1 := r1.mono e2
      obtain ⟨x, ex, h3⟩ := h2.rs en2 sr2
      have : ∃ n k l, wo = .ref n ∧ view st2 wi = some (.int k) ∧ st2[n]? = some (.lst l) ∧ ((L2.ixN l.length k).bind fun j => l[j]?) = some x := by
        revert ex
        unfold getA
        split
        · split
          · exact fun ex => ⟨_, _, _, rfl, by assumption, by assumption, ex⟩
          · nofun
        · nofun
      obtain ⟨n, k, l, rfl, ek, el, ex⟩ := this
      obtain ⟨j, ej, ex⟩ := Option.bind_eq_some_iff.mp ex
      have hi := r2.now sr2 ek
      obtain ⟨a, ha, rfl⟩ := r1
      obtain ⟨vs, hv, rr⟩ := sr2.ob n a _ ha el
      obtain ⟨xv, exv, rx⟩ := rr.get ex
      refine ⟨a, vs, k, xv, rfl, hi.int, by rw [hK]; exact SqL.of hv, ?_, ?_⟩
      · unfold atI
        rw [rr.length, ej]
        exact exv
      · refine rs_bind en2 sr2 h3 fun yv wy st3 H3 ms3 en3 sr3 e3 r3 h4 => ?_
        obtain ⟨z, ez, h5⟩ := h4.rs en3 sr3
        obtain ⟨y, ey, ez⟩ := Option.bind_eq_some_iff.mp ez
        have rx3 := Rep.mono e3 _ _ rx
        refine ⟨ms3, st3, x, y, z, sr3, WRep.now (w := .d x) sr3 rx3 rfl, r3.now sr3 ey, ez, fun H4 e4 sr4 zv rz => ?_⟩
        have h5 : PostS C W₀ D H3 ms3 (Out.ofS env ((view st3 wi).bind fun i => setD n i z st3)) := h5
        cases q : (view st3 wi).bind fun i => setD n i z st3 with
        | none => rw [q] at h5; exact h5.elim
        | some s' =>
          rw [q] at h5
          obtain ⟨pi, epi, q⟩ := Option.bind_eq_some_iff.mp q
          exact set_post sr4 (WRep.mono (w := .ref n) e4 (WRep.mono (w := .ref n) e3 ⟨a, ha, rfl⟩)) (((r2.mono e3).mono e4).now sr4 epi) rz q fun H' x' s2 => h5 σ H' ms3 (e4.trans x') ((en3.mono e4).mono x') s2
/-! ### loops -/
theorem sx_while {b : List Stmt} (hp : PassesOwn (model X.prog X.w) X.A X.env X.xe) (hc : PT X e (rdB C F.fe W₀ cc)) (hb : PSs X b (rdS C F W₀ sb)) : PS X (.While e b [] pos) (rdS C F W₀ (.whl cc sb)) :=
  psW (ps_while hp hc hb) fun D σ H ⟨env, st, ms, en, sr, h⟩ => by
    refine ⟨fun m σ H => ∃ env st ms, EnRep C H ms σ env ∧ StRep C H ms st ∧ PostS C W₀ D H ms (whlL (fun v s => tst (evE F.fe cc v s)) (evS F sb) m env st), ⟨TURNS, env, st, ms, en, sr, h⟩, ?_⟩
    rintro m σ H ⟨env, st, ms, en, sr, h⟩
    cases m with
    | zero => exact h.elim
    | succ m =>
      refine rsB_bind (f := fun b s => if b then match evS F sb env s with
        | .nx v s => whlL (fun v s => tst (evE F.fe cc v s)) (evS F sb) m v s
        | .cnt v s => whlL (fun v s => tst (evE F.fe cc v s)) (evS F sb) m v s
        | .brk v s => .nx v s
        | o => o
        else .nx env s) en sr h fun b st1 H1 ms1 en1 sr1 e1 h1 => ?_
      cases b with
      | false =>
        rw [if_neg Bool.false_ne_true] at h1 ⊢
        exact h1 σ H1 ms1 Ext.refl en1 sr1
      | true =>
        rw [if_pos rfl] at h1 ⊢
        refine ⟨_, fun σ' H' h' => ⟨m, Nat.lt_succ_self m, h'⟩, env, st1, ms1, en1, sr1, ?_⟩
        cases q : evS F sb env st1 with
        | nx v s =>
          rw [q] at h1
          exact fun σ' H' ms' x en' sr' => ⟨v, s, ms', en', sr', PostS.mono x h1⟩
        | cnt v s =>
          rw [q] at h1
          exact fun σ' H' ms' x en' sr' => ⟨v, s, ms', en', sr', PostS.mono x h1⟩
        | brk v s => rw [q] at h1; exact h1
        | ret w s => rw [q] at h1; exact h1
        | exc c xs v s => rw [q] at h1; exact h1
        | stuck => rw [q] at h1; exact h1
theorem sx_for {b : List Stmt} {tg iter : Expr} {t : Tg} (hp : PassesOwn (model X.prog X.w) X.A X.env X.xe) (hc : X.calm = true) (hi : PI X tg iter (rdW C F.fe W₀ ca)) (hg : PG X tg (rdG C t)) (hb : PSs X b (rdS C F W₀ sb))
    (hs : ∀ x, foldedSetIterable iter X.env x = pure x) : PS X (.For tg iter b [] pos) (rdS C F W₀ (.for t ca sb)) :=
  psW (ps_for hp hc hi hg hb hs) fun D σ H ⟨env, st, ms, en, sr, h⟩ => by
    refine ⟨env, st, ms, en, sr, (h.out en).imp fun p st1 H1 ms1 x1 sr1 h1 J wk => ?_⟩
    obtain ⟨ds, g⟩ := p
    have en1 := en.mono x1
    let f : PD → En → Sto → Out := turnS t (evS F sb)
    have h1 : PostS C W₀ D H1 ms1 (forL (kept g) f ds env st1) := h1
    refine ⟨fun i m σ H => i ≤ ds.length ∧ m = ds.length - i ∧ ∃ env st ms, Ext C.k H1 ms1 H ms ∧ EnRep C H ms σ env ∧ StRep C H ms st ∧ PostS C W₀ D H ms (forL (kept g) f (ds.drop i) env st), ⟨ds.length, Nat.zero_le _, (Nat.sub_zero _).symm, env, st1, ms1, Ext.refl, en1, sr1, h1⟩, ?_⟩
    rintro i m σ H ⟨hi, rfl, env, st, ms, x2, en, sr, h⟩
    have seen : kept g st = true → Seen C H1 ms1 g C.k H ms st := fun hg => ⟨x2.sub, fun n a ha => x2.get ha, sr, hg⟩
    rcases Nat.lt_or_ge i ds.length with hlt | hge
    · right
      have ed : ds.drop i = ds[i] :: ds.drop (i + 1) := List.drop_eq_getElem_cons hlt
      rw [ed] at h
      unfold forL at h
      split at h
      · rename_i hg1
        have sn := seen hg1
        have edi : ds[i]? = some ds[i] := List.getElem?_eq_getElem hlt
        refine ⟨wk.go i _ _ _ _ _ sn edi, _, fun σ2 H2 h2 => ⟨ds.length - (i + 1), by omega, h2⟩, fun x H2 y => ?_⟩
        obtain ⟨x3, s3, r3, k3⟩ := wk.yld i _ _ _ _ _ x H2 sn edi y
        have x3 : Ext C.k H ms H2 ms := x3
        cases ev : putT t (.d ds[i]) st env with
        | none =>
          simp only [f, turnS, ev] at h
          exact h.elim
        | some v' =>
          simp only [f, turnS, ev] at h
          refine ⟨env, st, ms, .d ds[i], v', en.mono x3, s3, r3, ev, fun σ' en' _ _ => ⟨v', st, ms, en', s3, ?_⟩⟩
          have h := PostS.mono x3 h
          have turn : ∀ {v s} {H3 : Hp} {ms3 : List Addr} {σ3 : L2.St}, PostS C W₀ D H2 ms (forL (kept g) f (ds.drop (i + 1)) v s) → Ext C.k H2 ms H3 ms3 → EnRep C H3 ms3 σ3 v → StRep C H3 ms3 s →
              i + 1 ≤ ds.length ∧ ds.length - (i + 1) = ds.length - (i + 1) ∧ ∃ env st ms, Ext C.k H1 ms1 H3 ms ∧ EnRep C H3 ms σ3 env ∧ StRep C H3 ms st ∧ PostS C W₀ D H3 ms (forL (kept g) f (ds.drop (i + 1)) env st) := fun {v s H3 ms3 σ3} h x en sr =>
            ⟨hlt, rfl, v, s, ms3, (x2.trans x3).trans x, en, sr, h.mono x⟩
          cases q : evS F sb v' st with
          | nx v s =>
            rw [q] at h
            exact fun σ3 H3 ms3 x en sr => turn h x en sr
          | cnt v s =>
            rw [q] at h
            exact fun σ3 H3 ms3 x en sr => turn h x en sr
          | brk v s => rw [q] at h; exact h
          | ret w s => rw [q] at h; exact h
          | exc c xs v s => rw [q] at h; exact h
          | stuck => rw [q] at h; exact h
      · exact h.elim
    · left
      have e : i = ds.length := Nat.le_antisymm hi hge
      rw [e, List.drop_length] at h
      unfold forL at h
      split at h
      · rename_i hg1
        exact ⟨wk.stop i _ _ _ _ (seen hg1) hge, h σ H ms Ext.refl en sr⟩
      · exact h.elim
end
end Mini

set_option Elab.async false
set_option linter.all false
set_option maxRecDepth 100000
set_option maxHeartbeats 2000000
/-! Mini, part K: the program's text read as the small language, each reading with its proof. -/
namespace Mini
open PySem PySem.Spec PyProof.Rows L2
/-- what is known of the names -/
structure Ct where
  N : List Str
  sc : Scope
  fn : Str → Bool
  defs : List (Str × Nat)
  cons : List (Str × Nat)
  blts : List Str
  marks : List (Nat × Nat)
structure Fits (Γ : Ct) (C : Cn) (P : Pg) (k : Nat) (F : Fe) (W₀ : WX) (X : Cx) : Prop where
  hK : X.K = C.K
  N : X.N = Γ.N
  sc : X.env.scope = Γ.sc
  nd : X.N.Nodup
  calm : X.calm = true
  gd : X.A.guards = some []
  room : Room k X.A
  call : F.call = runF P k
  G : Fns C P k X.prog X.w X.K X.mg X.base
  tk : Takes X W₀
  fn : X.fn = Γ.fn
  defs : ∀ p ∈ Γ.defs, ∃ f, X.mg p.1 = some (.ref f) ∧ C.fa p.2 = some f
  cons : ∀ p ∈ Γ.cons, ∃ u v d, X.mg p.1 = some u ∧ RelV v u ∧ F.glob p.2 = some d ∧ ∀ H ms, Rep C.K H ms d v
  blts : ∀ x ∈ Γ.blts, X.mg x = none
  kind : Γ.sc.kind = .function
abbrev OkE (Γ : Ct) (e : Expr) (c : E) : Prop := ∀ {C P k F W₀ X}, Fits Γ C P k F W₀ X → PE X e (rdE C F W₀ c)
abbrev OkT (Γ : Ct) (e : Expr) (c : E) : Prop := ∀ {C P k F W₀ X}, Fits Γ C P k F W₀ X → PT X e (rdB C F W₀ c)
abbrev OkWt (Γ : Ct) (e : Expr) (c : E) : Prop := ∀ {C P k F W₀ X}, Fits Γ C P k F W₀ X → PW X e (rdB C F W₀ c)
abbrev OkTs (Γ : Ct) (es : List Expr) (c : E) : Prop := ∀ {C P k F W₀ X}, Fits Γ C P k F W₀ X → PTs X es (rdB C F W₀ c)
abbrev OkA (Γ : Ct) (es : List Expr) (c : E) : Prop := es.all nostar = true ∧ ∀ {C P k F W₀ X}, Fits Γ C P k F W₀ X → PA X es (rdL C F W₀ c)
abbrev OkI (Γ : Ct) (tg e : Expr) (c : E) : Prop := ∀ {C P k F W₀ X}, Fits Γ C P k F W₀ X → PI X tg e (rdW C F W₀ c)
abbrev OkG (Γ : Ct) (tg : Expr) (t : Tg) : Prop := ∀ {C P k F W₀ X}, Fits Γ C P k F W₀ X → PG X tg (rdG C t)
abbrev OkO (Γ : Ct) (e : Option Expr) (c : E) : Prop := ∀ {C P k F W₀ X}, Fits Γ C P k F W₀ X → PO X e (rdO C F W₀ c)
/-- the readers of expressions -/
structure Lv where
  E : ∀ Γ e, Option {c // OkE Γ e c}
  T : ∀ Γ e, Option {c // OkT Γ e c}
  I : ∀ Γ tg e, Option {c // OkI Γ tg e c}
/-! ### names -/
def slot (N : List Str) (x : Str) : Option {i : Nat // N[i]? = some x} :=
  match N.findIdx? (· == x) with
  | some i => if h : N[i]? = some x then some ⟨i, h⟩ else none
  | none => none
section
variable {Γ : Ct} {C : Cn} {P : Pg} {k : Nat} {F : Fe} {W₀ : WX} {X : Cx}
theorem Fits.gl (h : Fits Γ C P k F W₀ X) {x : Str} (e : Γ.sc.names.lookup x = some .globalImplicit) : Gl X x := by
  show X.env.scope.names.lookup x = _
  rw [h.sc]
  exact e
theorem Fits.vis (h : Fits Γ C P k F W₀ X) {x : Str} {q : NameKind} (e : Γ.sc.names.lookup x = some q) (hq : q = .local ∨ q = .cell ∨ q = .free) : Vis X.env.scope x := by
  unfold Vis
  rw [h.sc, e]
  rcases hq with rfl | rfl | rfl
  · exact .inl rfl
  · exact .inr (.inl rfl)
  · exact .inr (.inr rfl)
theorem Fits.lo (h : Fits Γ C P k F W₀ X) {x : Str} {q : NameKind} (e : Γ.sc.names.lookup x = some q) (hq : q = .local ∨ q = .cell) : L2.Loc X.env.scope x := by
  unfold L2.Loc
  rw [h.sc, e]
  rcases hq with rfl | rfl
  · exact .inl rfl
  · exact .inr rfl
theorem Fits.at_ (h : Fits Γ C P k F W₀ X) {i : Nat} {x : Str} (e : Γ.N[i]? = some x) : X.N[i]? = some x := by rw [h.N]; exact e
theorem Fits.un (h : Fits Γ C P k F W₀ X) : X.A.units + 65 < cLine := by have := h.room.un; omega
theorem Fits.own (h : Fits Γ C P k F W₀ X) {x : Str} {q : NameKind} (e : Γ.sc.names.lookup x = some q) (hf : Γ.fn x = true ∨ q = .local) : X.fn x = true ∨ X.env.scope.names.lookup x = some .local := by
  rcases hf with z | rfl
  · exact .inl (by rw [h.fn]; exact z)
  · exact .inr (by rw [h.sc]; exact e)
theorem lk_mem {α : Type} {l : List (Str × α)} {x : Str} {i : α} (h : l.lookup x = some i) : (x, i) ∈ l := PySem.mem_of_lookup h
end
def cName (Γ : Ct) (x : Str) (p : Pos) : Option {c // OkE Γ (.Name x p) c} :=
  if hd : (x == ("__debug__" : Str)) = false then
    match hk : Γ.sc.names.lookup x with
    | some .globalImplicit =>
      match hf : Γ.defs.lookup x with
      | some i => some ⟨.fn i, fun h => by
        obtain ⟨f, h1, h2⟩ := h.defs _ (lk_mem hf)
        exact se_fn (h.gl hk) h1 hd h2⟩
      | none =>
        match hc : Γ.cons.lookup x with
        | some i => some ⟨.glob i, fun h => by
          obtain ⟨u, v, d, h1, h2, h3, h4⟩ := h.cons _ (lk_mem hc)
          exact se_glob (h.gl hk) h1 h2 hd h3 h4⟩
        | none => none
    | some q =>
      if hq : q = .local ∨ q = .cell ∨ q = .free then
        if hcd : (x == ("__classdict__" : Str)) = false then
          match slot Γ.N x with
          | some ⟨i, hi⟩ => some ⟨.var i, fun h => se_var (h.at_ hi) (h.vis hk hq) hd hcd⟩
          | none => none
        else none
      else none
    | none => none
  else none
/-! ### operators -/
def o2 (op : Operator) : Option {o : O2 // opOf o = op} :=
  match op with
  | .Add => some ⟨.add, rfl⟩
  | .Sub => some ⟨.sub, rfl⟩
  | .Mult => some ⟨.mul, rfl⟩
  | .FloorDiv => some ⟨.fdiv, rfl⟩
  | .Mod => some ⟨.mod, rfl⟩
  | .Pow => some ⟨.pow, rfl⟩
  | _ => none
def cm (op : CmpOp) : {o : Cm // cmOf o = op} :=
  match op with
  | .Eq => ⟨.eq, rfl⟩
  | .NotEq => ⟨.ne, rfl⟩
  | .Lt => ⟨.lt, rfl⟩
  | .LtE => ⟨.le, rfl⟩
  | .Gt => ⟨.gt, rfl⟩
  | .GtE => ⟨.ge, rfl⟩
  | .Is => ⟨.is, rfl⟩
  | .IsNot => ⟨.isnot, rfl⟩
  | .In => ⟨.mem, rfl⟩
  | .NotIn => ⟨.nmem, rfl⟩
def biAll : List Bi := [.len, .abs, .int, .sum, .all, .any, .tuple, .list, .max, .min, .repr]
def biOf (x : Str) : Option {b : Bi // biName b = x} :=
  match biAll.find? (fun b => decide (biName b = x)) with
  | some b => if h : biName b = x then some ⟨b, h⟩ else none
  | none => none
def tyOf (x : Str) : Option {t : Ty // (tyName t : Str) = x} :=
  match [Ty.int, .bool, .str, .tuple, .list].find? (fun t => decide ((tyName t : Str) = x)) with
  | some b => if h : (tyName b : Str) = x then some ⟨b, h⟩ else none
  | none => none
/-! ### lists of expressions -/
def cA (L : Lv) (Γ : Ct) : (es : List Expr) → Option {c // OkA Γ es c}
  | [] => some ⟨.nil, rfl, fun h => sl_nil⟩
  | e :: es =>
    if hn : nostar e = true then
      match L.E Γ e, cA L Γ es with
      | some ⟨a, ha⟩, some ⟨b, hb⟩ => some ⟨.cons a b, by rw [List.all_cons, hn, hb.1]; rfl, fun h => sl_cons (ha h) (hb.2 h) hn⟩
      | _, _ => none
    else none
def cAnd (L : Lv) (Γ : Ct) (pos : Pos) : (es : List Expr) → Option {c // OkE Γ (.BoolOp .And es pos) c}
  | [] => none
  | [a] => match L.E Γ a with
    | some ⟨a, ha⟩ => some ⟨a, fun h => pe_one (ha h)⟩
    | none => none
  | a :: b :: r => match L.E Γ a, cAnd L Γ pos (b :: r) with
    | some ⟨a, ha⟩, some ⟨b, hb⟩ => some ⟨.and a b, fun h => se_and (ha h) (hb h)⟩
    | _, _ => none
def cOr (L : Lv) (Γ : Ct) (pos : Pos) : (es : List Expr) → Option {c // OkE Γ (.BoolOp .Or es pos) c}
  | [] => none
  | [a] => match L.E Γ a with
    | some ⟨a, ha⟩ => some ⟨a, fun h => pe_one (ha h)⟩
    | none => none
  | a :: b :: r => match L.E Γ a, cOr L Γ pos (b :: r) with
    | some ⟨a, ha⟩, some ⟨b, hb⟩ => some ⟨.or a b, fun h => se_or (ha h) (hb h)⟩
    | _, _ => none
def cAndT (L : Lv) (Γ : Ct) (pos : Pos) : (es : List Expr) → Option {c // OkWt Γ (.BoolOp .And es pos) c}
  | [] => none
  | [a] => match L.T Γ a with
    | some ⟨a, ha⟩ => some ⟨a, fun h => pw_and1 (ha h)⟩
    | none => none
  | a :: b :: r => match L.T Γ a, cAndT L Γ pos (b :: r) with
    | some ⟨a, ha⟩, some ⟨b, hb⟩ => some ⟨.and a b, fun h => sw_and (ha h) (hb h)⟩
    | _, _ => none
def cOrT (L : Lv) (Γ : Ct) (pos : Pos) : (es : List Expr) → Option {c // OkWt Γ (.BoolOp .Or es pos) c}
  | [] => none
  | [a] => match L.T Γ a with
    | some ⟨a, ha⟩ => some ⟨a, fun h => pw_or1 (ha h)⟩
    | none => none
  | a :: b :: r => match L.T Γ a, cOrT L Γ pos (b :: r) with
    | some ⟨a, ha⟩, some ⟨b, hb⟩ => some ⟨.or a b, fun h => sw_or (ha h) (hb h)⟩
    | _, _ => none
/-! ### targets -/
abbrev OkN (Γ : Ct) (es : List Expr) (is : List Nat) : Prop := ∀ {C P k F W₀ X}, Fits Γ C P k F W₀ X → NamesAt X es is
def cNames (Γ : Ct) : (es : List Expr) → Option {is // OkN Γ es is}
  | [] => some ⟨[], fun h => .nil⟩
  | .Name x p :: es =>
    match hk : Γ.sc.names.lookup x with
    | some q =>
      if hq : q = .local ∨ q = .cell then
        if hf : Γ.fn x = true ∨ q = .local then
          match slot Γ.N x, cNames Γ es with
          | some ⟨i, hi⟩, some ⟨is, his⟩ => some ⟨i :: is, fun h => .cons (h.at_ hi) (h.lo hk hq) (h.own hk hf) (his h)⟩
          | _, _ => none
        else none
      else none
    | none => none
  | _ :: _ => none
def cG (Γ : Ct) : (tg : Expr) → Option {t // OkG Γ tg t}
  | .Name x p =>
    match hk : Γ.sc.names.lookup x with
    | some q =>
      if hq : q = .local ∨ q = .cell then
        if hf : Γ.fn x = true ∨ q = .local then
          match slot Γ.N x with
          | some ⟨i, hi⟩ => some ⟨.nm i, fun h => sg_nm h.nd (h.at_ hi) (h.lo hk hq) (h.own hk hf)⟩
          | none => none
        else none
      else none
    | none => none
  | .Tuple es k p =>
    match cNames Γ es with
    | some ⟨is, his⟩ => some ⟨.tp is, fun h => sg_tp h.hK h.calm h.nd (his h)⟩
    | none => none
  | _ => none
/-! ### comprehensions -/
abbrev Ct.inner (Γ : Ct) (scope : Scope) : Ct := { Γ with sc := relS scope Γ.sc, fn := fun x => scope.names.lookup x == some .cell }
theorem Fits.blk {Γ : Ct} {C : Cn} {P : Pg} {k : Nat} {F : Fe} {W₀ : WX} {X : Cx} {scope : Scope} (h : Fits Γ C P k F W₀ X) (hk : scope.kind = .function) (s : Shared) (H : Hp) (A : Addr) (cl : List (Str × Addr)) (fp : List Addr) :
    Fits (Γ.inner scope) C.up P k F Wno (X.blk s H scope (compEnvC scope cl A X.env) fp) where
  hK := h.hK
  N := h.N
  sc := by
    show relS scope X.env.scope = relS scope Γ.sc
    rw [h.sc]
  nd := h.nd
  calm := h.calm
  gd := h.gd
  room := h.room
  call := h.call
  G := h.G
  tk := fun u s' ⟨a, B, sI, pins, σ, H, cls, d, e, I, nb, up, sky, na, os, ag, w⟩ => w.elim
  fn := rfl
  defs := h.defs
  cons := h.cons
  blts := h.blts
  kind := hk
def ownOf (N : List Str) (scope : Scope) : List (Str × Nat) :=
  scope.names.filterMap fun y => match y.2 with
    | .local => (N.findIdx? (· == y.1)).map fun i => (y.1, i)
    | .cell => (N.findIdx? (· == y.1)).map fun i => (y.1, i)
    | _ => none
def cTs (L : Lv) (Γ : Ct) : (es : List Expr) → Option {c // OkTs Γ es c}
  | [] => some ⟨.cst (.bool true), fun h => ⟨fun pins s σ H Q I ⟨env, st, ms, en, sr, h⟩ => pts_nil.run pins s σ H Q I (Post.ok sr h)⟩⟩
  | [a] => match L.T Γ a with
    | some ⟨a, ha⟩ => some ⟨a, fun h => pts_one (ha h)⟩
    | none => none
  | _ => none
/-- a comprehension's parts -/
structure Cp (Γ : Ct) (elt tg iter : Expr) (ifs : List Expr) (scope : Scope) where
  own : List (Str × Nat)
  ok : BlkOk Γ.N Γ.sc scope own
  t : Tg
  cit : E
  cc : E
  celt : E
  hsl : ∀ i ∈ t.slots, i ∈ own.map (·.2)
  hi : OkI Γ tg iter cit
  hg : OkG (Γ.inner scope) tg t
  ht : OkTs (Γ.inner scope) ifs cc
  he : OkE (Γ.inner scope) elt celt
def cCp (L : Lv) (Γ : Ct) (elt tg iter : Expr) (ifs : List Expr) (scope : Scope) : Option (Cp Γ elt tg iter ifs scope) :=
  if hb : blkC Γ.N Γ.sc scope (ownOf Γ.N scope) = true then
    match L.I Γ tg iter, cG (Γ.inner scope) tg, cTs L (Γ.inner scope) ifs, L.E (Γ.inner scope) elt with
    | some ⟨ci, hi⟩, some ⟨t, hg⟩, some ⟨cc, ht⟩, some ⟨ce, he⟩ =>
      if hs : (t.slots.all fun i => decide (i ∈ (ownOf Γ.N scope).map (·.2))) = true then
        some ⟨ownOf Γ.N scope, blkOk_by hb, t, ci, cc, ce, fun i hm => of_decide_eq_true (List.all_eq_true.mp hs i hm), hi, hg, ht, he⟩
      else none
    | _, _, _, _ => none
  else none
theorem fsi {e : Expr} {env : Env} : (∀ x, foldedSetIterable e env x = pure x) ∨ ∃ es k p, e = .Set es k p := by
  cases e <;> first | exact .inr ⟨_, _, _, rfl⟩ | exact .inl fun x => rfl
def noset : Expr → Bool
  | .Set _ _ _ => false
  | _ => true
theorem fsi_of {e : Expr} {env : Env} (h : noset e = true) : ∀ x, foldedSetIterable e env x = pure x := by
  rcases fsi (e := e) (env := env) with h1 | ⟨es, k, p, rfl⟩
  · exact h1
  · cases h
theorem bim_of {e : Expr} {o : CmpOp} (h : noset e = true) : behindInMarks o e = false := by
  cases e <;> first | rfl | cases h
def cComp (L : Lv) (Γ : Ct) (new : Bool) (elt tg iter : Expr) (ifs : List Expr) (scope : Scope) (pos : Pos) : Option {c // OkE Γ (.ListComp elt [⟨tg, iter, ifs, 0⟩] scope pos) c} :=
  if hn : noset iter = true then
    match cCp L Γ elt tg iter ifs scope with
    | some q => some ⟨.comp new q.celt q.t q.cit q.cc (q.own.map (·.2)), fun h => se_comp h.hK h.calm h.nd (q.hi h) (by rw [h.N, h.sc]; exact q.ok) q.hsl (fun s H A cl fp => q.hg (h.blk q.ok.kind s H A cl fp))
        (fun s H A cl fp => q.ht (h.blk q.ok.kind s H A cl fp)) (fun s H A cl fp => q.he (h.blk q.ok.kind s H A cl fp)) (fsi_of hn)⟩
    | none => none
  else none
/-! ### calls -/
def cCall (L : Lv) (Γ : Ct) (x : Str) (p : Pos) (pos : Pos) (es : List Expr) : Option {c // OkE Γ (.Call (.Name x p) es [] pos) c} :=
    if hd : (x == ("__debug__" : Str)) = false then
      match hk : Γ.sc.names.lookup x with
      | some .globalImplicit =>
        match hf : Γ.defs.lookup x with
        | some i =>
          match es with
          | [] => some ⟨.call i .nil, fun h => by
            obtain ⟨f, h1, h2⟩ := h.defs _ (lk_mem hf)
            exact se_call0 h.call h.G h2 h.gd h.room h.tk (h.gl hk) h1 hd⟩
          | e :: es =>
            match cA L Γ (e :: es) with
            | some ⟨a, ha⟩ => some ⟨.call i a, fun h => by
              obtain ⟨f, h1, h2⟩ := h.defs _ (lk_mem hf)
              exact se_call h.call h.G h2 h.gd h.room h.tk (h.gl hk) h1 hd (ha.2 h) ha.1⟩
            | none => none
        | none =>
          if hb : x ∈ Γ.blts then
            if hi : x = "isinstance" then
              match es with
              | [a, .Name y p2] =>
                match tyOf y with
                | some ⟨t, ht⟩ =>
                  if hy : y ∈ Γ.blts ∧ Γ.sc.names.lookup y = some .globalImplicit ∧ nostar a = true then
                    match L.E Γ a with
                    | some ⟨ca, ha⟩ => some ⟨.isi ca t, fun h => by
                      subst hi
                      subst ht
                      exact se_isi h.hK t (h.gl hk) (h.blts _ hb) (h.gl hy.2.1) (h.blts _ hy.1) (ha h) hy.2.2⟩
                    | none => none
                  else none
                | none => none
              | _ => none
            else
              match biOf x, es with
              | some ⟨b, hx⟩, e :: es =>
                match cA L Γ (e :: es) with
                | some ⟨a, ha⟩ => some ⟨.bi b a, fun h => by
                  subst hx
                  exact se_bi h.hK h.calm h.gd h.un b (h.gl hk) (h.blts _ hb) (ha.2 h) ha.1⟩
                | none => none
              | _, _ => none
          else none
      | some q =>
        if hq : q = .local ∨ q = .cell ∨ q = .free then
          if hcd : (x == ("__classdict__" : Str)) = false then
            match slot Γ.N x, es with
            | some ⟨i, hi⟩, e :: es =>
              match cA L Γ (e :: es) with
              | some ⟨a, ha⟩ => some ⟨.callv i a, fun h => se_callv h.call h.G h.gd h.room h.tk (h.at_ hi) (h.vis hk hq) hd hcd (ha.2 h) ha.1⟩
              | none => none
            | _, _ => none
          else none
        else none
      | none => none
    else none
/-! ### slices -/
def isNil : E → Bool
  | .nil => true
  | _ => false
theorem ne_nil {c : E} (h : isNil c = false) : c ≠ .nil := by
  rintro rfl
  cases h
def cO (L : Lv) (Γ : Ct) : (e : Option Expr) → Option {c // OkO Γ e c}
  | none => some ⟨.nil, fun h => so_none⟩
  | some a => match L.E Γ a with
    | some ⟨a, ha⟩ => if hn : isNil a = false then some ⟨a, fun h => so_some (ha h) (ne_nil hn)⟩ else none
    | none => none
/-! ### walks -/
def cRange (L : Lv) (Γ : Ct) (tg : Expr) (x : Str) (p : Pos) (pos : Pos) (es : List Expr) : Option {c // OkI Γ tg (.Call (.Name x p) es [] pos) c} :=
  if hb : x ∈ Γ.blts ∧ Γ.sc.names.lookup x = some .globalImplicit then
    if hx : x = "range" then
      match es with
      | [a] => match L.E Γ a with
        | some ⟨ca, ha⟩ => if hn : nostar a = true then some ⟨.rng (.cons ca .nil), fun h => by
            subst hx
            exact sw_rng1 (h.gl hb.2) (h.blts _ hb.1) (ha h) hn⟩ else none
        | none => none
      | [a, b] => match L.E Γ a, L.E Γ b with
        | some ⟨ca, ha⟩, some ⟨cb, hb'⟩ => if hn : nostar a = true ∧ nostar b = true then some ⟨.rng (.cons ca (.cons cb .nil)), fun h => by
            subst hx
            exact sw_rng2 (h.gl hb.2) (h.blts _ hb.1) (ha h) (hb' h) hn.1 hn.2⟩ else none
        | _, _ => none
      | _ => none
    else
      if hx : x = "zip" then
        match tg, es with
        | .Tuple _ _ _, [a, b] => match L.E Γ a, L.E Γ b with
          | some ⟨ca, ha⟩, some ⟨cb, hb'⟩ => if hn : nostar a = true ∧ nostar b = true then some ⟨.zip ca cb, fun h => by
            subst hx
            exact sw_zip h.hK (h.gl hb.2) (h.blts _ hb.1) (ha h) (hb' h) hn.1 hn.2⟩ else none
          | _, _ => none
        | _, _ => none
      else none
  else none
def cI (L : Lv) (Γ : Ct) (tg e : Expr) : Option {c // OkI Γ tg e c} :=
  match e with
  | .Call (.Name x p) es [] pos =>
    match cRange L Γ tg x p pos es with
    | some c => some c
    | none => match L.E Γ (.Call (.Name x p) es [] pos) with
      | some ⟨c, hc⟩ => some ⟨c, fun h => sw_seq h.hK (hc h)⟩
      | none => none
  | e => match L.E Γ e with
    | some ⟨c, hc⟩ => some ⟨c, fun h => sw_seq h.hK (hc h)⟩
    | none => none
/-! ### expressions, tests -/
def cE (L : Lv) (Γ : Ct) (e : Expr) : Option {c // OkE Γ e c} :=
  match e with
  | .Constant (.int i) j p => some ⟨.cst (.int i), fun _ => se_int⟩
  | .Constant (.bool b) j p => some ⟨.cst (.bool b), fun _ => se_bl⟩
  | .Constant .none j p => some ⟨.cst .none, fun _ => se_non⟩
  | .Constant (.str x) j p => some ⟨.cst (.str x), fun _ => se_str⟩
  | .Name x p => cName Γ x p
  | .BinOp a op b p => match o2 op, L.E Γ a, L.E Γ b with
    | some ⟨o, ho⟩, some ⟨ca, ha⟩, some ⟨cb, hb⟩ => some ⟨.bin o ca cb, fun h => by rw [← ho]; exact se_bin h.hK o (ha h) (hb h)⟩
    | _, _, _ => none
  | .UnaryOp .USub a p => match L.E Γ a with
    | some ⟨ca, ha⟩ => some ⟨.neg ca, fun h => se_neg (ha h)⟩
    | none => none
  | .UnaryOp .Not a p => match L.E Γ a with
    | some ⟨ca, ha⟩ => some ⟨.not ca, fun h => se_not (ha h)⟩
    | none => none
  | .BoolOp .And es p => cAnd L Γ p es
  | .BoolOp .Or es p => cOr L Γ p es
  | .IfExp t a b p => match L.T Γ t, L.E Γ a, L.E Γ b with
    | some ⟨ct, ht⟩, some ⟨ca, ha⟩, some ⟨cb, hb⟩ => some ⟨.ife ct ca cb, fun h => se_ife (ht h) (ha h) (hb h)⟩
    | _, _, _ => none
  | .Compare a [op] [b] p => match L.E Γ a, L.E Γ b with
    | some ⟨ca, ha⟩, some ⟨cb, hb⟩ => if hs : noset b = true then some ⟨.cmp (cm op).1 ca cb, fun h => by
        have := se_cmp (pos := p) h.hK h.un (cm op).1 (ha h) (hb h) (bim_of hs)
        rwa [(cm op).2] at this⟩ else none
    | _, _ => none
  | .Compare a [op, op'] [b, c] p => match L.E Γ a, L.E Γ b, L.E Γ c with
    | some ⟨ca, ha⟩, some ⟨cb, hb⟩, some ⟨cc, hc⟩ => if hs : noset c = true then some ⟨.chain (cm op).1 (cm op').1 ca cb cc, fun h => by
        have := se_chain (pos := p) h.hK h.un (cm op).1 (cm op').1 (ha h) (hb h) (hc h) (show behindInMarks _ c = false from bim_of hs)
        rwa [(cm op).2, (cm op').2] at this⟩ else none
    | _, _, _ => none
  | .Tuple es k p => match cA L Γ es with
    | some ⟨c, hc⟩ => some ⟨.tup c, fun h => se_tup (hc.2 h)⟩
    | none => none
  | .List es p => match cA L Γ es with
    | some ⟨c, hc⟩ => if (p.line, p.col) ∈ Γ.marks then some ⟨.newl c, fun h => se_newl (hc.2 h)⟩ else some ⟨.lst c, fun h => se_lst (hc.2 h)⟩
    | none => none
  | .Call (.Name x p) es [] pos => cCall L Γ x p pos es
  | .Subscript a (.Slice none none (some (.UnaryOp .USub (.Constant (.int 1) k p1) p2)) p3) p => match L.E Γ a with
    | some ⟨ca, ha⟩ => some ⟨.rev ca, fun h => se_rev h.hK (ha h)⟩
    | none => none
  | .Subscript a (.Slice lo hi none p2) p => match L.E Γ a, cO L Γ lo, cO L Γ hi with
    | some ⟨ca, ha⟩, some ⟨cl, hl⟩, some ⟨ch, hh⟩ => some ⟨.sl ca cl ch, fun h => se_sl h.hK (ha h) (hl h) (hh h)⟩
    | _, _, _ => none
  | .Subscript a b p => match L.E Γ a, L.E Γ b with
    | some ⟨ca, ha⟩, some ⟨cb, hb⟩ => if hn : noslice b = true then some ⟨.ix ca cb, fun h => se_ix h.hK (ha h) (hb h) hn⟩ else none
    | _, _ => none
  | .ListComp elt [⟨tg, iter, ifs, ia⟩] scope pos => if hz : ia = 0 then
      match cComp L Γ (decide ((pos.line, pos.col) ∈ Γ.marks)) elt tg iter ifs scope pos with
      | some ⟨c, hc⟩ => some ⟨c, fun h => by subst hz; exact hc h⟩
      | none => none
    else none
  | _ => none
def byVal : Expr → Bool
  | .Name _ _ => true
  | .Call _ _ _ _ => true
  | .Subscript _ _ _ => true
  | .Constant _ _ _ => true
  | _ => false
theorem byVal_of {e : Expr} {env : Env} (h : byVal e = true) : ∀ whole, isTrue e env whole = (do let v ← whole; standAt e.pos; holding [v] (truthy v)) := by
  intro whole
  cases e <;> first | rfl | cases h
def cT (L : Lv) (Γ : Ct) (e : Expr) : Option {c // OkT Γ e c} :=
  match e with
  | .UnaryOp .Not a p => match L.T Γ a with
    | some ⟨ca, ha⟩ => some ⟨.not ca, fun h => st_not (ha h)⟩
    | none => none
  | .BoolOp .And es p => match cAndT L Γ p es with
    | some ⟨c, hc⟩ => some ⟨c, fun h => (hc h).pt⟩
    | none => none
  | .BoolOp .Or es p => match cOrT L Γ p es with
    | some ⟨c, hc⟩ => some ⟨c, fun h => (hc h).pt⟩
    | none => none
  | .IfExp t a b p => match L.T Γ t, L.T Γ a, L.T Γ b with
    | some ⟨ct, ht⟩, some ⟨ca, ha⟩, some ⟨cb, hb⟩ => some ⟨.ife ct ca cb, fun h => st_ife (ht h) (ha h) (hb h)⟩
    | _, _, _ => none
  | .Compare a [op] [b] p => match L.E Γ a, L.E Γ b with
    | some ⟨ca, ha⟩, some ⟨cb, hb⟩ => if hs : noset b = true then some ⟨.cmp (cm op).1 ca cb, fun h => by
        have := st_cmp (pos := p) h.hK h.un (cm op).1 (ha h) (hb h) (bim_of hs)
        rwa [(cm op).2] at this⟩ else none
    | _, _ => none
  | .Compare a [op, op'] [b, c] p => match L.E Γ a, L.E Γ b, L.E Γ c with
    | some ⟨ca, ha⟩, some ⟨cb, hb⟩, some ⟨cc, hc⟩ => if hs : noset c = true then some ⟨.chain (cm op).1 (cm op').1 ca cb cc, fun h => by
        have := st_chain (pos := p) h.hK h.un (cm op).1 (cm op').1 (ha h) (hb h) (hc h) (show behindInMarks _ c = false from bim_of hs)
        rwa [(cm op).2, (cm op').2] at this⟩ else none
    | _, _, _ => none
  | e => if hv : byVal e = true then
      match L.E Γ e with
      | some ⟨c, hc⟩ => some ⟨c, fun h => st_of (hc h) (byVal_of hv)⟩
      | none => none
    else none
def lv : Nat → Lv
  | 0 => ⟨fun _ _ => none, fun _ _ => none, fun _ _ _ => none⟩
  | n + 1 => ⟨cE (lv n), cT (lv n), cI (lv n)⟩
end Mini

set_option Elab.async false
set_option linter.all false
set_option maxRecDepth 100000
set_option maxHeartbeats 2000000
/-! Mini, part L: statements read. -/
namespace Mini
open PySem PySem.Spec PyProof.Rows L2
abbrev Own (X : Cx) : Prop := PassesOwn (model X.prog X.w) X.A X.env X.xe
abbrev OkS (Γ : Ct) (s : Stmt) (c : S) : Prop := ∀ {C P k F W₀ X}, Fits Γ C P k F.fe W₀ X → Own X → PS X s (rdS C F W₀ c)
abbrev OkSs (Γ : Ct) (ss : List Stmt) (c : S) : Prop := ∀ {C P k F W₀ X}, Fits Γ C P k F.fe W₀ X → Own X → PSs X ss (rdS C F W₀ c)
structure Ls where
  S : ∀ Γ s, Option {c // OkS Γ s c}
def cSs (R : Ls) (Γ : Ct) : (ss : List Stmt) → Option {c // OkSs Γ ss c}
  | [] => some ⟨.skip, fun _ _ => ss_nil⟩
  | s :: ss => match R.S Γ s, cSs R Γ ss with
    | some ⟨a, ha⟩, some ⟨b, hb⟩ => some ⟨.seq a b, fun h p => ss_cons (ha h p) (hb h p)⟩
    | _, _ => none
/-! ### orders of stores -/
theorem blockKind_fn {env : Env} (hk : env.scope.kind = .function) : env.blockKind = .function := by
  unfold Env.blockKind
  rw [hk]
  rfl
def isStar : Expr → Bool
  | .Starred _ _ => true
  | _ => false
theorem swaps2 {x y : Str} {px py pt pt2 : Pos} {kt k2 : Nat} {e1 e2 : Expr} {env : Env} (hk : env.scope.kind = .function) (hx : env.scope.names.lookup x = some .local) (hy : env.scope.names.lookup y = some .local) (hl : py.line = px.line) (ne : x ≠ y)
    (hs : nostar e1 = true ∧ nostar e2 = true) (hf : (foldedForSure 8 e1 && foldedForSure 8 e2) = false) (hc : (constantsAlone 8 e1 && constantsAlone 8 e2) = false) :
    swappedStores [.Tuple [.Name x px, .Name y py] kt pt] (.Tuple [e1, e2] k2 pt2) env = pure (some [x, y]) := by
  have kx : env.kindOf x = some .local := hx
  have ky : env.kindOf y = some .local := hy
  have s1 : ∀ {e : Expr}, nostar e = true → (match e with | .Starred .. => true | _ => false) = false := by
    intro e h
    cases e <;> first | rfl | cases h
  have ne2 : (y == x) = false := by
    rw [beq_eq_false_iff_ne]
    exact fun z => ne z.symm
  simp only [swappedStores, blockKind_fn hk, List.any_cons, List.any_nil, s1 hs.1, s1 hs.2, List.filterMap_cons, List.filterMap_nil, kx, ky, List.head?_cons, Option.map_some, Option.getD_some, Expr.pos, hl, List.all_cons, List.all_nil, Bool.and_true, hf, hc]
  simp [List.eraseDups_cons, ne2, List.filter]
  intro h
  exfalso
  rcases h with h | h
  · have q := hs.1
    clear hs hf hc s1
    cases e1 <;> first | (cases q; done) | (cases h; done)
  · have q := hs.2
    clear hs hf hc s1
    cases e2 <;> first | (cases q; done) | (cases h; done)
theorem swaps3 {x y z : Str} {px py pz pt pt2 : Pos} {kt k2 : Nat} {e1 e2 e3 : Expr} {env : Env} (hk : env.scope.kind = .function) (hx : env.scope.names.lookup x = some .local) (hy : env.scope.names.lookup y = some .local) (hz : env.scope.names.lookup z = some .local) (hl : py.line = px.line) (hl2 : pz.line = px.line) (ne : x ≠ y) (ne2 : x ≠ z) (ne3 : y ≠ z)
    (hs : nostar e1 = true ∧ nostar e2 = true ∧ nostar e3 = true) (hf : (foldedForSure 8 e1 && (foldedForSure 8 e2 && foldedForSure 8 e3)) = false) (hc : (constantsAlone 8 e1 && (constantsAlone 8 e2 && constantsAlone 8 e3)) = false) :
    swappedStores [.Tuple [.Name x px, .Name y py, .Name z pz] kt pt] (.Tuple [e1, e2, e3] k2 pt2) env = pure (some [x, y, z]) := by
  have kx : env.kindOf x = some .local := hx
  have ky : env.kindOf y = some .local := hy
  have kz : env.kindOf z = some .local := hz
  have s1 : ∀ {e : Expr}, nostar e = true → (match e with | .Starred .. => true | _ => false) = false := by
    intro e h
    cases e <;> first | rfl | cases h
  have n1 : (y == x) = false := by
    rw [beq_eq_false_iff_ne]
    exact fun z => ne z.symm
  have n2 : (z == x) = false := by
    rw [beq_eq_false_iff_ne]
    exact fun z => ne2 z.symm
  have n3 : (z == y) = false := by
    rw [beq_eq_false_iff_ne]
    exact fun z => ne3 z.symm
  simp only [swappedStores, blockKind_fn hk, List.any_cons, List.any_nil, s1 hs.1, s1 hs.2.1, s1 hs.2.2, List.filterMap_cons, List.filterMap_nil, kx, ky, kz, List.head?_cons, Option.map_some, Option.getD_some, Expr.pos, hl, hl2, List.all_cons, List.all_nil, Bool.and_true, hf, hc]
  simp [List.eraseDups_cons, n1, n2, n3, List.filter]
  intro h
  exfalso
  rcases h with h | h | h
  · have q := hs.1
    clear hs hf hc s1
    cases e1 <;> first | (cases q; done) | (cases h; done)
  · have q := hs.2.1
    clear hs hf hc s1
    cases e2 <;> first | (cases q; done) | (cases h; done)
  · have q := hs.2.2
    clear hs hf hc s1
    cases e3 <;> first | (cases q; done) | (cases h; done)
def isTup : Expr → Bool
  | .Tuple _ _ _ => true
  | _ => false
theorem noswap {ts : List Expr} {k : Nat} {p : Pos} {e : Expr} {env : Env} (h : isTup e = false) : swappedStores [.Tuple ts k p] e env = pure none := by
  cases e <;> first | rfl | cases h
theorem noswap4 {ts vs : List Expr} {k k2 : Nat} {p p2 : Pos} {env : Env} (h : (ts.length == 2 || ts.length == 3) = false) : swappedStores [.Tuple ts k p] (.Tuple vs k2 p2) env = pure none := by
  simp only [swappedStores, h]
  rfl
def locNames (sc : Scope) (line : Nat) (ts : List Expr) : List Str := ts.filterMap fun e => match e with
  | .Name id pos => if sc.names.lookup id == some .local && pos.line == line then some id else none
  | _ => none
theorem noswapN {ts vs : List Expr} {k k2 : Nat} {p p2 : Pos} {env : Env} (h : ((locNames env.scope ((ts.head?.map (·.pos.line)).getD 0) ts).length != ts.length) = true) : swappedStores [.Tuple ts k p] (.Tuple vs k2 p2) env = pure none := by
  have e : ts.filterMap (fun | .Name id pos => if env.kindOf id == some .local && pos.line == (ts.head?.map (·.pos.line)).getD 0 then some id else none | _ => none) = locNames env.scope ((ts.head?.map (·.pos.line)).getD 0) ts := by
    unfold locNames
    congr 1
  simp only [swappedStores]
  split
  · rfl
  · split
    · rfl
    · split
      · rfl
      · rename_i h2
        exfalso
        refine h2 ((Bool.or_eq_true _ _).mpr (.inl ?_))
        have h3 := h
        rw [← e] at h3
        exact h3
/-! ### assignments -/
def cAsgName (L : Lv) (Γ : Ct) (x : Str) (px : Pos) (pos : Pos) (e : Expr) : Option {c // OkS Γ (.Assign [.Name x px] e pos) c} :=
  match hk : Γ.sc.names.lookup x with
  | some q =>
    if hq : q = .local ∨ q = .cell then
      if hf : Γ.fn x = true ∨ q = .local then
        match slot Γ.N x with
        | some ⟨i, hi⟩ =>
          match e with
          | .ListComp elt [⟨tg, iter, ifs, ia⟩] scope lpos =>
            if hz : ia = 0 then
              if hw : q = .local ∧ (px.line == lpos.line) = true ∧ (scope.names.any fun (n, k) => n == x && (k == .local || k == .cell)) = false ∧ noset iter = true then
                match cCp L Γ elt tg iter ifs scope with
                | some w => some ⟨.set (.nm i) (.comp (decide ((lpos.line, lpos.col) ∈ Γ.marks)) w.celt w.t w.cit w.cc (w.own.map (·.2))), fun {C P k F W₀ X} h _ => by
                  subst hz
                  have hx : X.env.scope.names.lookup x = some .local := by rw [h.sc, hk, hw.1]
                  exact sx_setLc h.hK h.calm h.nd (h.at_ hi) hx (sw_true (by rw [h.sc]; exact h.kind) hx hw.2.1 hw.2.2.1) (w.hi h) (by rw [h.N, h.sc]; exact w.ok) w.hsl (fun s H A cl fp => w.hg (h.blk w.ok.kind s H A cl fp))
                    (fun s H A cl fp => w.ht (h.blk w.ok.kind s H A cl fp)) (fun s H A cl fp => w.he (h.blk w.ok.kind s H A cl fp)) (fsi_of hw.2.2.2)⟩
                | none => none
              else none
            else none
          | e =>
            if hn : nocomp e = true then
              match L.E Γ e with
              | some ⟨c, hc⟩ => some ⟨.set (.nm i) c, fun h _ => sx_set h.nd (h.at_ hi) (h.lo hk hq) (h.own hk hf) (hc h) (sw_off hn)⟩
              | none => none
            else none
        | none => none
      else none
    else none
  | none => none
def cPar2 (L : Lv) (Γ : Ct) (x y : Str) (px py pt : Pos) (kt k2 : Nat) (pt2 pos : Pos) (e1 e2 : Expr) : Option {c // OkS Γ (.Assign [.Tuple [.Name x px, .Name y py] kt pt] (.Tuple [e1, e2] k2 pt2) pos) c} :=
  if hh : Γ.sc.names.lookup x = some .local ∧ Γ.sc.names.lookup y = some .local ∧ py.line = px.line ∧ x ≠ y ∧ (nostar e1 = true ∧ nostar e2 = true) ∧ (foldedForSure 8 e1 && foldedForSure 8 e2) = false ∧ (constantsAlone 8 e1 && constantsAlone 8 e2) = false then
    match slot Γ.N x, slot Γ.N y, cA L Γ [e1, e2] with
    | some ⟨i, hi⟩, some ⟨j, hj⟩, some ⟨c, hc⟩ =>
      if hij : i ≠ j then
        some ⟨.par [i, j] c, fun {C P k F W₀ X} h _ => by
          have hx : X.env.scope.names.lookup x = some .local := by rw [h.sc, hh.1]
          have hy : X.env.scope.names.lookup y = some .local := by rw [h.sc, hh.2.1]
          exact sx_par2 h.calm h.nd (h.at_ hi) (h.at_ hj) hij hx hy (hc.2 h) (swaps2 (by rw [h.sc]; exact h.kind) hx hy hh.2.2.1 hh.2.2.2.1 hh.2.2.2.2.1 hh.2.2.2.2.2.1 hh.2.2.2.2.2.2)⟩
      else none
    | _, _, _ => none
  else none
def cPar3 (L : Lv) (Γ : Ct) (x y z : Str) (px py pz pt : Pos) (kt k2 : Nat) (pt2 pos : Pos) (e1 e2 e3 : Expr) : Option {c // OkS Γ (.Assign [.Tuple [.Name x px, .Name y py, .Name z pz] kt pt] (.Tuple [e1, e2, e3] k2 pt2) pos) c} :=
  if hh : (Γ.sc.names.lookup x = some .local ∧ Γ.sc.names.lookup y = some .local ∧ Γ.sc.names.lookup z = some .local) ∧ (py.line = px.line ∧ pz.line = px.line) ∧ (x ≠ y ∧ x ≠ z ∧ y ≠ z) ∧ (nostar e1 = true ∧ nostar e2 = true ∧ nostar e3 = true) ∧ (foldedForSure 8 e1 && (foldedForSure 8 e2 && foldedForSure 8 e3)) = false ∧ (constantsAlone 8 e1 && (constantsAlone 8 e2 && constantsAlone 8 e3)) = false then
    match slot Γ.N x, slot Γ.N y, slot Γ.N z, cA L Γ [e1, e2, e3] with
    | some ⟨i, hi⟩, some ⟨j, hj⟩, some ⟨l, hl⟩, some ⟨c, hc⟩ =>
      if hij : i ≠ j ∧ i ≠ l ∧ j ≠ l then
        some ⟨.par [i, j, l] c, fun {C P k F W₀ X} h _ => by
          have hx : X.env.scope.names.lookup x = some .local := by rw [h.sc, hh.1.1]
          have hy : X.env.scope.names.lookup y = some .local := by rw [h.sc, hh.1.2.1]
          have hz : X.env.scope.names.lookup z = some .local := by rw [h.sc, hh.1.2.2]
          exact sx_par3 h.calm h.nd (h.at_ hi) (h.at_ hj) (h.at_ hl) hij.1 hij.2.1 hij.2.2 hx hy hz (hc.2 h)
            (swaps3 (by rw [h.sc]; exact h.kind) hx hy hz hh.2.1.1 hh.2.1.2 hh.2.2.1.1 hh.2.2.1.2.1 hh.2.2.1.2.2 hh.2.2.2.1 hh.2.2.2.2.1 hh.2.2.2.2.2)⟩
      else none
    | _, _, _, _ => none
  else none
def cAsgTup (L : Lv) (Γ : Ct) (ts : List Expr) (k : Nat) (p pos : Pos) (e : Expr) : Option {c // OkS Γ (.Assign [.Tuple ts k p] e pos) c} :=
  match cNames Γ ts with
  | some ⟨is, his⟩ =>
    match e with
    | .Tuple vs k2 p2 =>
      if hl : (ts.length == 2 || ts.length == 3) = false then
        match L.E Γ (.Tuple vs k2 p2) with
        | some ⟨c, hc⟩ => some ⟨.set (.tp is) c, fun h _ => sx_tup h.hK h.calm h.nd (his h) (hc h) (noswap4 hl)⟩
        | none => none
      else
        if hl : ((locNames Γ.sc ((ts.head?.map (·.pos.line)).getD 0) ts).length != ts.length) = true then
          match L.E Γ (.Tuple vs k2 p2) with
          | some ⟨c, hc⟩ => some ⟨.set (.tp is) c, fun {C P k F W₀ X} h _ => sx_tup h.hK h.calm h.nd (his h) (hc h) (noswapN (by rw [h.sc]; exact hl))⟩
          | none => none
        else none
    | e =>
      if ht : isTup e = false then
        match L.E Γ e with
        | some ⟨c, hc⟩ => some ⟨.set (.tp is) c, fun h _ => sx_tup h.hK h.calm h.nd (his h) (hc h) (noswap ht)⟩
        | none => none
      else none
  | none => none
def cS (L : Lv) (R : Ls) (Γ : Ct) (s : Stmt) : Option {c // OkS Γ s c} :=
  match s with
  | .Assign [.Name x px] e pos => cAsgName L Γ x px pos e
  | .Assign [.Tuple [.Name x px, .Name y py] kt pt] (.Tuple [e1, e2] k2 pt2) pos => match cPar2 L Γ x y px py pt kt k2 pt2 pos e1 e2 with
    | some c => some c
    | none => cAsgTup L Γ [.Name x px, .Name y py] kt pt pos (.Tuple [e1, e2] k2 pt2)
  | .Assign [.Tuple [.Name x px, .Name y py, .Name z pz] kt pt] (.Tuple [e1, e2, e3] k2 pt2) pos => match cPar3 L Γ x y z px py pz pt kt k2 pt2 pos e1 e2 e3 with
    | some c => some c
    | none => cAsgTup L Γ [.Name x px, .Name y py, .Name z pz] kt pt pos (.Tuple [e1, e2, e3] k2 pt2)
  | .Assign [.Tuple ts k p] e pos => cAsgTup L Γ ts k p pos e
  | .Assign [.Subscript o i tpos] e pos => match L.E Γ o, L.E Γ i, L.E Γ e with
    | some ⟨co, ho⟩, some ⟨ci, hi⟩, some ⟨ce, he⟩ => if hn : nocomp e = true ∧ noslice i = true then some ⟨.seti co ci ce, fun h _ => sx_seti (ho h) (hi h) (he h) hn.1 hn.2⟩ else none
    | _, _, _ => none
  | .AugAssign (.Name x px) op e pos =>
    match hk : Γ.sc.names.lookup x with
    | some q =>
      if hq : q = .local ∨ q = .cell then
        if hf : Γ.fn x = true ∨ q = .local then
          match slot Γ.N x, o2 op, L.E Γ e with
          | some ⟨i, hi⟩, some ⟨o, ho⟩, some ⟨c, hc⟩ => some ⟨.aug i o c, fun h _ => by rw [← ho]; exact sx_aug h.nd (h.at_ hi) (h.lo hk hq) (h.own hk hf) o (hc h)⟩
          | _, _, _ => none
        else none
      else none
    | none => none
  | .AugAssign (.Subscript o i tpos) op e pos => match L.E Γ o, L.E Γ i, o2 op, L.E Γ e with
    | some ⟨co, ho⟩, some ⟨ci, hi⟩, some ⟨q, hq⟩, some ⟨ce, he⟩ => if hn : noslice i = true then some ⟨.augi co ci q ce, fun h _ => by rw [← hq]; exact sx_augi h.hK (ho h) (hi h) (he h) hn⟩ else none
    | _, _, _, _ => none
  | .Expr e pos => if hn : nocomp e = true then
      match L.E Γ e with
      | some ⟨c, hc⟩ => some ⟨.ex c, fun h _ => sx_expr (hc h) hn⟩
      | none => none
    else none
  | .Return (some e) pos => match L.E Γ e with
    | some ⟨c, hc⟩ => some ⟨.ret c, fun h _ => sx_ret (hc h)⟩
    | none => none
  | .Return none pos => some ⟨.retn, fun _ _ => sx_retn⟩
  | .Pass pos => some ⟨.skip, fun _ _ => sx_pass⟩
  | .Break pos => some ⟨.brk, fun _ _ => sx_break⟩
  | .Continue pos => some ⟨.cnt, fun _ _ => sx_continue⟩
  | .If e a b pos => match L.T Γ e, cSs R Γ a, cSs R Γ b with
    | some ⟨c, hc⟩, some ⟨a, ha⟩, some ⟨b, hb⟩ => some ⟨.ifs c a b, fun h p => sx_if (hc h) (ha h p) (hb h p)⟩
    | _, _, _ => none
  | .While e b [] pos => match L.T Γ e, cSs R Γ b with
    | some ⟨c, hc⟩, some ⟨b, hb⟩ => some ⟨.whl c b, fun h p => sx_while p (hc h) (hb h p)⟩
    | _, _ => none
  | .For tg iter b [] pos => match cG Γ tg, L.I Γ tg iter, cSs R Γ b with
    | some ⟨t, ht⟩, some ⟨c, hc⟩, some ⟨b, hb⟩ => if hn : noset iter = true then some ⟨.for t c b, fun h p => sx_for p h.calm (hc h) (ht h) (hb h p) (fsi_of hn)⟩ else none
    | _, _, _ => none
  | _ => none
def ls : Nat → Ls
  | 0 => ⟨fun _ _ => none⟩
  | n + 1 => ⟨cS (lv 40) (ls n)⟩
/-- a def's body read -/
def rdBody (Γ : Ct) (ss : List Stmt) : Option {c // OkSs Γ ss c} := cSs (ls 20) Γ ss
end Mini

set_option Elab.async false
set_option linter.all false
set_option maxRecDepth 100000
set_option maxHeartbeats 2000000
/-! Mini, part M: all defs of the module keep their promises; the law's end. -/
namespace Mini
open PySem PySem.Spec PyProof.Rows L2
section
variable {C : Cn} {W₀ : WX} {H H' : Hp} {ms ms' : List Addr} {st s' : Sto} {σ : L2.St}
/-! ### behind a call: what the callee made for itself is forgotten -/
theorem StRep.cut (sr : StRep C H' ms' s') (x : Ext C.k H ms H' ms') (s0 : StRep C H ms st) : StRep C H' ms (s'.take st.length) := by
  obtain ⟨new, rfl, _⟩ := x.more
  have hl := sr.len
  rw [List.length_append] at hl
  have h0 := s0.len
  have hn : (s'.take st.length).length = st.length := by rw [List.length_take]; omega
  refine ⟨by rw [hn]; exact h0, (List.nodup_append.mp sr.nd).1, fun n a u e1 e2 => ?_, fun a ha => sr.there a (List.mem_append_left _ ha)⟩
  have hlt : n < (s'.take st.length).length := (List.getElem?_eq_some_iff.mp e2).1
  rw [List.getElem?_take] at e2
  split at e2
  · have q := sr.ob n a u (by rw [List.getElem?_append_left (List.getElem?_eq_some_iff.mp e1).1]; exact e1) e2
    cases u with
    | lst xs =>
      obtain ⟨vs, h1, h2⟩ := q
      exact ⟨vs, h1, RepL.less (fun a ha => List.mem_append_left _ ha) _ _ h2⟩
    | dct _ => exact q
  · cases e2
theorem Ext.sublist (x : Ext C.k H ms H' ms') : ∀ a, a ∈ ms → a ∈ ms' := by
  obtain ⟨new, rfl, _⟩ := x.more
  exact fun a ha => List.mem_append_left _ ha
theorem ExRep.less {c : Nat} {xs : List PD} {cls : Value} {d : Option Addr} (hs : ∀ a, a ∈ ms → a ∈ ms') (h : ExRep C H ms' c xs cls d) : ExRep C H ms c xs cls d := by
  obtain ⟨Ca, names, h1, h2, h3, h4⟩ := h
  refine ⟨Ca, names, h1, h2, h3, fun q => ?_⟩
  obtain ⟨dd, fs, a, b, c, r⟩ := h4 q
  refine ⟨dd, fs, a, fun z => b (hs dd z), c, fun i name y e1 e2 => ?_⟩
  obtain ⟨v, z1, z2⟩ := r i name y e1 e2
  exact ⟨v, z1, Rep.less hs y v z2⟩
theorem pair_get {α β : Type} {R : α → β → Prop} : ∀ {xs : List α} {ys : List β} {i : Nat} {x : α}, Paired R xs ys → xs[i]? = some x → ∃ y, ys[i]? = some y ∧ R x y
  | _, _, 0, _, .cons r _, e => by cases e; exact ⟨_, rfl, r⟩
  | _, _, i + 1, _, .cons _ t, e => pair_get (i := i) t (by simpa using e)
theorem back_post {w : W} {Q : V → Hp → Prop} (s0 : StRep C H ms st) (h : Post C W₀ σ H ms (back st.length w s') fun w _ H' ms' => ∀ v, WRep C H' ms' w v → Q v H') {v : V} (x : Ext C.k H ms H' ms') (sr : StRep C H' ms' s') (r : WRep C H' ms' w v) : Q v H' := by
  have less := x.sublist
  have cut := sr.cut x s0
  cases w with
  | d y => exact h H' ms x.cut cut v (Rep.less less _ _ r)
  | fn i => exact h H' ms x.cut cut v r
  | ref m =>
    have h : Post C W₀ σ H ms (if m < st.length then Rs.ok (W.ref m) (s'.take st.length) else .ok (W.ref m) s') fun w _ H' ms' => ∀ v, WRep C H' ms' w v → Q v H' := h
    split at h
    · rename_i hm
      obtain ⟨a, ha, rfl⟩ := r
      refine h H' ms x.cut cut _ ⟨a, ?_, rfl⟩
      obtain ⟨new, rfl, _⟩ := x.more
      rwa [List.getElem?_append_left (by rw [s0.len]; omega)] at ha
    · exact h H' ms' x sr v r
end
/-- a def of the module, by its text and its reading -/
structure DefOk (D : List (Str × Nat)) (G : List (Str × Nat)) (B : List Str) (K : PySem.W.Frag) (P : Pg) (i : Nat) (f : Addr) : Prop where
  ex : ∃ (stm : Stmt) (name : Str) (fd : FuncData) (N ps : List Str) (marks : List (Nat × Nat)) (c : S), Fun K name name stm f fd ∧ Binds K fd ps [] ∧ FnScope N ps (defScope stm) ∧ P.fns[i]? = some ⟨ps.length, N.length, c⟩ ∧
    (rdBody ⟨N, defScope stm, fun _ => true, D, G, B, marks⟩ (defBody stm)).map Subtype.val = some c
section
variable {C : Cn} {P : Pg} {prog : Program} {w : World} {K : PySem.W.Frag} {mg : Str → Option Value} {base : Heap} {D : List (Str × Nat)} {G : List (Str × Nat)} {B : List Str}
theorem spF_len {i k : Nat} {vs : List V} {H : Hp} {Q : VK} {E : XK} {fn : Fn} (hf : P.fns[i]? = some fn) (h : spF C P (k + 1) i vs H Q E) : vs.length = fn.np := by
  obtain ⟨kk, ms, st, ws, sr, r, h⟩ := h
  unfold runF at h
  rw [hf] at h
  simp only at h
  split at h
  · rename_i e
    rw [← r.length, e]
  · exact h.elim
theorem fng_succ {k i : Nat} {f : Addr} {stm : Stmt} {name : Str} {fd : FuncData} {N ps : List Str} {marks : List (Nat × Nat)} {c : S} (hK : K = C.K) (hd : ∀ p ∈ D, ∃ f, mg p.1 = some (.ref f) ∧ C.fa p.2 = some f) (hc : ∀ p ∈ G, ∃ u v d, mg p.1 = some u ∧ RelV v u ∧ P.gls[p.2]? = some d ∧ ∀ H ms, Rep C.K H ms d v) (hb : ∀ x ∈ B, mg x = none)
    (IH : Fns C P k prog w K mg base) (F : Fun K name name stm f fd) (sc : FnScope N ps (defScope stm)) (hf : P.fns[i]? = some ⟨ps.length, N.length, c⟩) (hr : (rdBody ⟨N, defScope stm, fun _ => true, D, G, B, marks⟩ (defBody stm)).map Subtype.val = some c) :
    FnG prog w K mg base (k + 1) f fd ps (spF C P (k + 1) i) := by
  obtain ⟨oc, od, kV, doc, pm, an, cdv, ct, osl, rfl, lk, hcd⟩ := F.ex
  obtain ⟨⟨c', ok⟩, e1, e2⟩ := Option.map_eq_some_iff.mp hr
  have e2 : c' = c := e2
  subst e2
  refine fng_of lk hcd sc (fun vs H Q E h => spF_len hf h) fun A outer s H vs Q E hgd hroom h => ?_
  have hl := spF_len hf h
  obtain ⟨kk, ms, st, ws, sr, r, h⟩ := h
  have fits : Fits ⟨N, defScope stm, fun _ => true, D, G, B, marks⟩ (C.at kk) P k ⟨runF P k, fun i => P.gls[i]?, []⟩ (fun cls d _ H => E cls d H) (cxOf (L2.CX prog w) prog w K mg base N name (defScope stm) f cdv A outer s H E) :=
    ⟨hK, rfl, rfl, sc.nd, rfl, hgd, hroom, rfl, IH, takes_of rfl rfl rfl rfl, rfl, hd, hc, hb, sc.kind⟩
  refine ⟨_, ok (F := ⟨⟨runF P k, fun i => P.gls[i]?, []⟩, P.sub⟩) fits (passes_of rfl), ?_⟩
  have hws : ws.length = ps.length := by rw [r.length]; exact hl
  unfold runF at h
  rw [hf] at h
  simp only [hws, if_true] at h
  have hstart : EnRep (C.at kk) H ms (L2.start N vs) (startE ⟨ps.length, N.length, c'⟩ ws) := by
    have hvs : vs.length = ps.length := hl
    refine ⟨by simp [L2.start, startE, hws, hvs], fun j w' e => ?_⟩
    unfold startE at e
    unfold L2.start
    by_cases hj : j < ws.length
    · rw [List.getElem?_append_left (by simpa using hj), List.getElem?_map] at e
      obtain ⟨w2, e3, e4⟩ := Option.map_eq_some_iff.mp e
      cases e4
      obtain ⟨v, ev, rv⟩ := pair_get r e3
      exact ⟨v, by rw [List.getElem?_append_left (by rw [List.length_map, hvs, ← hws]; exact hj), List.getElem?_map, ev]; rfl, rv⟩
    · rw [List.getElem?_append_right (by simpa using Nat.le_of_not_lt hj), List.getElem?_replicate] at e
      split at e <;> cases e
  refine ⟨_, st, ms, hstart, sr, ?_⟩
  cases q : evS ⟨⟨runF P k, fun i => P.gls[i]?, []⟩, P.sub⟩ c' (startE ⟨ps.length, N.length, c'⟩ ws) st with
  | nx v s1 =>
    simp only [q] at h
    exact fun σ' H' ms' x en' sr' => back_post (w := .d .none) sr h x sr' rfl
  | ret w s1 =>
    simp only [q] at h
    exact fun v H' ms' x sr' rv => back_post sr h x sr' rv
  | exc cc xs v s1 =>
    simp only [q] at h
    exact fun cls d σ' H' ms' x en' sr' ex => h cls d H' ms x.cut (sr'.cut x sr) (ExRep.less x.sublist ex)
  | brk v s1 => simp only [q] at h; exact h.elim
  | cnt v s1 => simp only [q] at h; exact h.elim
  | stuck => simp only [q] at h; exact h.elim
theorem fns_all (hK : K = C.K) (hd : ∀ p ∈ D, ∃ f, mg p.1 = some (.ref f) ∧ C.fa p.2 = some f) (hc : ∀ p ∈ G, ∃ u v d, mg p.1 = some u ∧ RelV v u ∧ P.gls[p.2]? = some d ∧ ∀ H ms, Rep C.K H ms d v) (hb : ∀ x ∈ B, mg x = none)
    (tab : ∀ i f, C.fa i = some f → DefOk D G B K P i f) : ∀ k, Fns C P k prog w K mg base
  | 0 => fun i f hi => by
    obtain ⟨stm, name, fd, N, ps, marks, c, F, bd, sc, hf, hr⟩ := (tab i f hi).ex
    have no : ∀ vs H Q E, spF C P 0 i vs H Q E → False := fun vs H Q E ⟨kk, ms, st, ws, sr, r, h⟩ => h
    exact ⟨fd, ps, F.kp, bd, ⟨fun vs H Q E h => (no vs H Q E h).elim, fun A outer s H args us vs Q E _ _ _ _ _ h => (no vs H Q E h).elim⟩⟩
  | k + 1 => fun i f hi => by
    obtain ⟨stm, name, fd, N, ps, marks, c, F, bd, sc, hf, hr⟩ := (tab i f hi).ex
    exact ⟨fd, ps, F.kp, bd, fng_succ hK hd hc hb (fns_all hK hd hc hb tab k) F sc hf hr⟩
end
/-! ### the law -/
theorem law_go {P : Program} {w : World} {K : PySem.W.Frag} {mg mb : Str → Option Value} {k : Nat} {fa a : Addr} {fd : FuncData} {x : Str} {sp : Sp} {s₁ : Shared} {vs : List Value} {ns : List Int}
    (KX : K.In s₁.heap) (hns : s₁.heap.Ns mainGlobals mg) (hb : s₁.heap.Ns builtinsNs mb) (hbb : ∀ x : Str, x ≠ "__name__" → mb x = bootBuiltins x) (hlim : s₁.heap.NoLimit) (hg : s₁.gens = #[])
    (ha : s₁.heap.get? a = some { cls := .type "list", data := .seq vs.toArray }) (hi : IntsAre vs ns) (hl : ns.length ≤ sizeLine) (hr : Room k callerA)
    (F : ∀ base : Heap, K.In base → base.Ns mainGlobals mg → FnG P w K mg base k fa fd [x] sp) (hbind : ∀ (s : Shared) (u : Value), BindsTo s fd ⟨[u], []⟩ [(x, u)])
    (hsp : ∀ H : Hp, SqL K H a (ns.map V.int) → sp [.ref a] H (fun v _ => v = .bl true) fun _ _ _ => False) :
    codeAny (model P w) callerA (.call (.ref fa) ⟨[.ref a], []⟩) (fun r s' => r = .ok (.ret (.bool true)) ∧ OldK s₁.heap s'.heap ∧ s'.os = s₁.os ∧ AllBare s'.gens) s₁ := by
  have rv := vals_ints hi
  have key : ∃ H : Hp, (∀ b u, H b = some u → b = a ∧ K.lookup b = none ∧ u = .frz { cls := .type "list", data := .seq vs.toArray } (.lst (ns.map V.int))) ∧ SqL K H a (ns.map V.int) ∧ HOk P w H s₁.heap := by
    cases hk : K.lookup a with
    | some o =>
      have e := KX a o hk
      rw [ha] at e
      cases e
      exact ⟨fun _ => none, nofun, .inr ⟨_, vs.toArray, _, hk, rfl, rfl, rfl, by rw [List.size_toArray, hi.length]; exact hl, by simpa using rv⟩, nofun⟩
    | none =>
      refine ⟨fun b => if b = a then some (.frz { cls := .type "list", data := .seq vs.toArray } (.lst (ns.map V.int))) else none, fun b u e => ?_, .inl (.inr ⟨_, if_pos rfl⟩), fun b u e => ?_⟩
      · simp only at e
        split at e
        · rename_i hba
          cases e
          exact ⟨hba, by rw [hba]; exact hk, rfl⟩
        · cases e
      · simp only at e
        split at e
        · rename_i hba
          cases e
          subst hba
          exact ⟨ha, by rw [List.length_map]; exact hl, vs, _, rv, ha⟩
        · cases e
  obtain ⟨H, one, sq, hok⟩ := key
  -- what the script is not stands in the ground
  have isA : ∀ {b : Addr} {o : Obj}, s₁.heap.get? b = some o → (b = a → False) → H b = none := fun {b o} _ hb => by
    cases q : H b with
    | none => rfl
    | some u => exact (hb (one b u q).1).elim
  have ground : ∀ {b : Addr} {m : Str → Option Value}, s₁.heap.Ns b m → (hidT s₁.heap H).Ns b m := fun {b m} ⟨o, es, ep, e, d, r⟩ => by
    refine ⟨o, es, ep, hidT_get e (isA e fun hb => ?_), d, r⟩
    rw [hb, ha] at e
    cases e
    exact absurd (show Data.seq vs.toArray _ = Data.dict es ep from d) nofun
  have kin : K.In (hidT s₁.heap H) := fun b o e => hidT_get (KX b o e) (by
    cases q : H b with
    | none => rfl
    | some u =>
      have := (one b u q).2.1
      rw [e] at this
      cases this)
  have e0 : Env0 P w K mg (hidT s₁.heap H) callerA [] s₁ H := by
    obtain ⟨mc, l1, l2⟩ := hlim
    exact ⟨rfl, ⟨kin, ground hns, ⟨mb, ground hb, hbb⟩, ⟨mc, ground l1, l2⟩⟩, fun b o e => of_hidT e, Nat.le_of_eq (hidT_size _ _), trivial, nofun, hok, .of_eq hg⟩
  have run := (F _ kin (ground hns)).run callerA [] s₁ H ⟨[.ref a], []⟩ [.ref a] [.ref a] _ _ rfl hr e0 (hbind s₁ (.ref a)) (.cons rfl .nil) (hsp H sq)
  refine codeAny_mono run fun r s' h => ?_
  match r, h with
  | .error e, h =>
    obtain ⟨_, _, _, _, _, _, _, _, _, _, _, _, z⟩ := h
    exact z.elim
  | .ok .next, h => exact h.elim
  | .ok .brk, h => exact h.elim
  | .ok .cont, h => exact h.elim
  | .ok (.ret u), h =>
    obtain ⟨v, H', os, bare, un, hok', r', q⟩ := h
    cases show v = .bl true from q
    cases show u = Value.bool true from r'
    refine ⟨rfl, OldK.of_keep fun b o e => ?_, os, bare⟩
    cases q : H b with
    | none => exact un.keep b o e q nofun nofun
    | some u =>
      obtain ⟨_, _, rfl⟩ := one b u q
      have h1 := (hok b _ q).1
      have h2 := (hok' b _ (un.frzs b _ _ q)).1
      rw [e] at h1
      cases h1
      exact h2
theorem walk_all {l : PySem.W.OpenLaw} {n k : Nat} {q : Program} {loose : List Str} {XP : (Str → Option Value) → Heap → Prop} {YP : World → Heap → Prop} {d : DefRec} {K : Params → PySem.W.Frag} {x : Str}
    (hn : l.most = some n) (hn2 : n ≤ sizeLine) (hdf : d.params.defaults = []) (hr : Room k callerA)
    (hY : ∀ (w : World) (h : Heap), YP w h → (K w.params).In h)
    (F : ∀ (w : World) (mg : Str → Option Value) (fa : Addr) (h : Heap), (K w.params).In h → h.Ns mainGlobals mg → mg d.name = some (.ref fa) →
      ∃ (fd : FuncData) (sp : Sp), (∀ (s : Shared) (u : Value), BindsTo s fd ⟨[u], []⟩ [(x, u)]) ∧ (∀ base : Heap, (K w.params).In base → base.Ns mainGlobals mg → FnG l.prog w (K w.params) mg base k fa fd [x] sp) ∧
        ∀ (H : Hp) (a : Addr) (ns : List Int), ns.length ≤ n → SqL (K w.params) H a (ns.map V.int) → sp [.ref a] H (fun v _ => v = .bl true) fun _ _ _ => False) :
    PySem.W.WalkO q loose XP YP l.row.toRowW d [] (fun f vs => PySem.call f vs) :=
  Att.attach_call hn hdf fun w s₀ s₁ mg mb fa o pm cd doc a vs ns G Y ho hd hcd hmg hobj hints hlen hg => by
    have KX := hY w _ Y
    obtain ⟨fd, sp, h1, h2, h3⟩ := F w mg fa _ KX G.T.g hmg
    exact law_go KX G.T.g G.T.b G.T.builtins G.T.nolimit hg hobj hints (Nat.le_trans hlen hn2) hr h2 h1 fun H sq => h3 H a ns hlen sq
/-- the law's promise, from the evaluator's answer -/
theorem sp_law {C : Cn} {P : Pg} {k i : Nat} {H : Hp} {a : Addr} {ns : List Int} (hS : SqL C.K H a (ns.map V.int)) (h : ∃ s, runF P k i [.d (.list (ns.map .int))] [] = .ok (.d (.bool true)) s) : spF C P k i [.ref a] H (fun v _ => v = .bl true) fun _ _ _ => False := by
  obtain ⟨s, h⟩ := h
  have rep : ∀ ns : List Int, RepL C.K H [] (ns.map PyData.int) (ns.map V.int) := fun ns => by
    induction ns with
    | nil => rfl
    | cons n ns ih => exact ⟨_, _, rfl, rfl, ih⟩
  refine ⟨0, [], [], [.d (.list (ns.map .int))], ⟨rfl, .nil, nofun, nofun⟩, .cons ⟨a, _, rfl, ?_, rep ns⟩ .nil, ?_⟩
  · exact hS.imp (fun q => ⟨List.not_mem_nil, q⟩) fun q => q
  · rw [h]
    exact fun H' ms' x sr v r => r
theorem an {α : Type} {p : α → Prop} : ∀ x ∈ ([] : List α), p x := nofun
theorem ac {α : Type} {p : α → Prop} {a : α} {l : List α} (h : p a) (r : ∀ x ∈ l, p x) : ∀ x ∈ a :: l, p x := fun x hx => (List.mem_cons.mp hx).elim (fun e => e ▸ h) (r x)
end Mini

set_option Elab.async false
set_option linter.all false
set_option maxRecDepth 100000
set_option maxHeartbeats 2000000
/-! Mini, part Q: plain reckoning with the evaluator. -/
namespace Mini
open PySem
section
variable {α β : Type}
@[simp] theorem Rs.bind_ok (a : α) (s : Sto) (f : α → Sto → Rs β) : (Rs.ok a s).bind f = f a s := rfl
@[simp] theorem Rs.out_ok (a : α) (s : Sto) (v : En) (f : α → Sto → Out) : (Rs.ok a s).out v f = f a s := rfl
@[simp] theorem Rs.of_some (a : α) (s : Sto) : Rs.of (some a) s = .ok a s := rfl
@[simp] theorem Out.of_some (v : En) (s : Sto) : Out.of (some v) s = .nx v s := rfl
@[simp] theorem Out.ofS_some (v : En) (s : Sto) : Out.ofS v (some s) = .nx v s := rfl
@[simp] theorem Out.nx_then (v : En) (s : Sto) (f : En → Sto → Out) : (Out.nx v s).andThen f = f v s := rfl
@[simp] theorem Out.ret_then (w : W) (s : Sto) (f : En → Sto → Out) : (Out.ret w s).andThen f = .ret w s := rfl
@[simp] theorem Out.brk_then (v : En) (s : Sto) (f : En → Sto → Out) : (Out.brk v s).andThen f = .brk v s := rfl
@[simp] theorem Out.cnt_then (v : En) (s : Sto) (f : En → Sto → Out) : (Out.cnt v s).andThen f = .cnt v s := rfl
@[simp] theorem view_d (s : Sto) (x : PD) : view s (.d x) = some x := rfl
@[simp] theorem tst_ok (b : Bool) (s : Sto) : tst (.ok (.d (.bool b)) s) = .ok b s := rfl
end
/-! ### a while by a measure -/
theorem whl_run {c : En → Sto → Rs Bool} {f : En → Sto → Out} {s : Sto} {α : Type} (env : α → En) (m : α → Nat) (go : α → Bool) (step : α → α) (I : α → Prop) (hc : ∀ a, I a → c (env a) s = .ok (go a) s) (hf : ∀ a, I a → go a = true → f (env a) s = .nx (env (step a)) s ∧ m (step a) < m a ∧ I (step a)) :
    ∀ (n : Nat) (a : α), m a < n → I a → ∃ z, whlL c f n (env a) s = .nx (env z) s ∧ go z = false ∧ I z
  | 0, a, h, _ => absurd h (Nat.not_lt_zero _)
  | n + 1, a, h, hi => by
    unfold whlL
    rw [hc a hi]
    cases hg : go a with
    | false =>
      refine ⟨a, ?_, hg, hi⟩
      simp
    | true =>
      obtain ⟨e1, h1, i1⟩ := hf a hi hg
      obtain ⟨z, e, hz, iz⟩ := whl_run env m go step I hc hf n (step a) (by omega) i1
      refine ⟨z, ?_, hz, iz⟩
      simp only [Rs.out_ok, if_true, e1]
      exact e
/-! ### lists -/
theorem compL_map {g : Sto → Bool} {f : PD → Sto → Rs (Option PD)} {s : Sto} (h : PD → PD) (hg : g s = true) : ∀ (l : List PD), (∀ x ∈ l, f x s = .ok (some (h x)) s) → l.length ≤ LIM → compL g f l s = .ok (l.map h) s
  | [], _, _ => by unfold compL; rw [if_pos hg]; rfl
  | x :: r, hf, hl => by
    have hl' : r.length + 1 ≤ LIM := hl
    unfold compL
    rw [if_pos hg, hf x List.mem_cons_self]
    simp only [compL_map h hg r (fun y hy => hf y (List.mem_cons_of_mem _ hy)) (by omega), Rs.bind_ok]
    rw [if_pos (by rw [List.length_map]; omega)]
    rfl
theorem for_run {g : Sto → Bool} {f : PD → En → Sto → Out} {s : Sto} {α : Type} (env : α → En) (step : α → PD → α) (I : α → Prop) (hg : g s = true) : ∀ (l : List PD) (a : α), I a → (∀ a x, I a → x ∈ l → f x (env a) s = .nx (env (step a x)) s ∧ I (step a x)) → forL g f l (env a) s = .nx (env (l.foldl step a)) s ∧ I (l.foldl step a)
  | [], a, hi, _ => by unfold forL; rw [if_pos hg]; exact ⟨rfl, hi⟩
  | x :: r, a, hi, hf => by
    obtain ⟨e, i1⟩ := hf a x hi List.mem_cons_self
    unfold forL
    rw [if_pos hg, e]
    exact for_run env step I hg r (step a x) i1 fun a y hi hy => hf a y hi (List.mem_cons_of_mem _ hy)
theorem turnS_of {t : Tg} {b : En → Sto → Out} {x : PD} {v v' : En} {s : Sto} (h : putT t (.d x) s v = some v') : turnS t b x v s = b v' s := by
  unfold turnS
  rw [h]
@[simp] theorem kept_nil (s : Sto) : kept [] s = true := rfl
@[simp] theorem intsD_map : ∀ ns : List Int, intsD (ns.map .int) = some ns
  | [] => rfl
  | n :: ns => by simp [intsD, intsD_map ns]
/-! ### calls -/
def cx (P : Pg) (k : Nat) : Fs := ⟨⟨runF P k, fun i => P.gls[i]?, []⟩, P.sub⟩
def fin (n : Nat) : Out → Rs W
  | .ret w s => back n w s
  | .nx _ s => back n (.d .none) s
  | .exc c xs _ s => .exc c xs (s.take n)
  | _ => .stuck
theorem run_eq {P : Pg} {k i : Nat} {fn : Fn} {ws : List W} {s : Sto} (hf : P.fns[i]? = some fn) (hl : ws.length = fn.np) : runF P (k + 1) i ws s = fin s.length (evS (cx P k) fn.body (startE fn ws) s) := by
  simp only [runF, hf, hl, if_true]
  rfl
theorem call_cx (P : Pg) (k i : Nat) (ws : List W) (s : Sto) : (cx P k).fe.call i ws s = runF P k i ws s := rfl
theorem fin_ret (n : Nat) (w : W) (s : Sto) : fin n (.ret w s) = back n w s := rfl
theorem back_d (s : Sto) (x : PD) (l : Sto) : back s.length (.d x) (s ++ l) = .ok (.d x) s := by
  show Rs.ok _ _ = _
  rw [List.take_left]
theorem back_same (s : Sto) (x : PD) : back s.length (.d x) s = .ok (.d x) s := by
  show Rs.ok _ _ = _
  rw [List.take_length]
theorem back_len {n : Nat} (s : Sto) (x : PD) (h : s.length = n) : back n (.d x) s = .ok (.d x) s := by
  subst h
  exact back_same s x
/-! ### numbers of moderate size -/
def Sm (i : Int) : Prop := i.natAbs < 2 ^ 4000
theorem log2_lt {n k : Nat} (h : n < 2 ^ k) (hk : 0 < k) : n.log2 < k := by
  by_cases h0 : n = 0
  · subst h0
    exact hk
  · exact (Nat.log2_lt h0).mpr h
theorem Sm.log {i : Int} (h : Sm i) : i.natAbs.log2 < 4000 := log2_lt h (by decide)
theorem mul_ok {i j : Int} (hi : Sm i) (hj : Sm j) : bin2 .mul (.int i) (.int j) = some (.int (i * j)) := by
  show (if _ then _ else _) = _
  rw [if_pos]
  have := hi.log
  have := hj.log
  omega
theorem mod_ok {i j : Int} (h : j ≠ 0) : bin2 .mod (.int i) (.int j) = some (.int (i.fmod j)) := by
  show (if _ then _ else _) = _
  rw [if_neg h]
theorem mod_pos {i j : Int} (h : 0 < j) : bin2 .mod (.int i) (.int j) = some (.int (i % j)) := by
  rw [mod_ok (by omega), Int.fmod_eq_emod_of_nonneg _ (by omega)]
theorem fdiv_ok {i j : Int} (h : 0 < j) (hj : Sm j) : bin2 .fdiv (.int i) (.int j) = some (.int (i / j)) := by
  show (if _ then _ else _) = _
  rw [if_pos ⟨h, by have := hj.log; omega⟩]
theorem add_ok {i j : Int} : bin2 .add (.int i) (.int j) = some (.int (i + j)) := rfl
theorem sub_ok {i j : Int} : bin2 .sub (.int i) (.int j) = some (.int (i - j)) := rfl
theorem Sm.of {i : Int} (h : i.natAbs < 10 ^ 1000) : Sm i := Nat.lt_trans h (by decide +kernel)
/-! ### steps -/
section
variable {F : Fe} {a b c es : E} {v : En} {s s1 s2 s3 : Sto} {x y z : PD} {w w2 : W} {ws : List W}
theorem ev_nil : evL F .nil v s = .ok [] s := rfl
theorem ev_cons (ha : evE F a v s = .ok w s1) (hb : evL F es v s1 = .ok ws s2) : evL F (.cons a es) v s = .ok (w :: ws) s2 := by
  rw [evL, ha, Rs.bind_ok, hb]
  rfl
theorem ev_tup {xs : List PD} (h : evL F es v s = .ok ws s1) (hp : pures ws = some xs) (hl : xs.length ≤ LIM) : evE F (.tup es) v s = .ok (.d (.tuple xs)) s1 := by
  rw [evE, h, mkR, Rs.bind_ok, hp]
  show Rs.of (if _ then _ else _) _ = _
  rw [if_pos hl]
  rfl
theorem ev_lst {xs : List PD} (h : evL F es v s = .ok ws s1) (hp : pures ws = some xs) (hl : xs.length ≤ LIM) : evE F (.lst es) v s = .ok (.d (.list xs)) s1 := by
  rw [evE, h, mkR, Rs.bind_ok, hp]
  show Rs.of (if _ then _ else _) _ = _
  rw [if_pos hl]
  rfl
theorem ev_newl {xs : List PD} (h : evL F es v s = .ok ws s1) (hp : pures ws = some xs) (hl : xs.length ≤ LIM) : evE F (.newl es) v s = .ok (.ref s1.length) (s1 ++ [.lst xs]) := by
  rw [evE, h, newR, Rs.bind_ok, hp]
  show (if _ then _ else _) = _
  rw [if_pos hl]
theorem ev_bin {o : O2} (ha : evE F a v s = .ok (.d x) s1) (hb : evE F b v s1 = .ok (.d y) s2) (h : bin2 o x y = some z) : evE F (.bin o a b) v s = .ok (.d z) s2 := by
  rw [evE, ha, bin2R, Rs.bind_ok, hb, Rs.bind_ok]
  show Rs.of ((bin2 o x y).map W.d) s2 = _
  rw [h]
  rfl
theorem ev_binv {o : O2} (ha : evE F a v s = .ok w s1) (hb : evE F b v s1 = .ok w2 s2) (hx : view s2 w = some x) (hy : view s2 w2 = some y) (h : bin2 o x y = some z) : evE F (.bin o a b) v s = .ok (.d z) s2 := by
  rw [evE, ha, bin2R, Rs.bind_ok, hb, Rs.bind_ok, hx, hy]
  show Rs.of ((bin2 o x y).map W.d) s2 = _
  rw [h]
  rfl
theorem ev_cmp {o : Cm} {k : Bool} (ha : evE F a v s = .ok (.d x) s1) (hb : evE F b v s1 = .ok (.d y) s2) (h : cmp2 o x y = some k) : evE F (.cmp o a b) v s = .ok (.d (.bool k)) s2 := by
  rw [evE, ha, cmpR, Rs.bind_ok, hb, Rs.bind_ok]
  show Rs.of ((cmp2 o x y).map _) s2 = _
  rw [h]
  rfl
theorem ev_ix (ha : evE F a v s = .ok w s1) (hb : evE F b v s1 = .ok w2 s2) (hx : view s2 w = some x) (hy : view s2 w2 = some y) (h : ixD x y = some z) : evE F (.ix a b) v s = .ok (.d z) s2 := by
  rw [evE, ha, ixR, Rs.bind_ok, hb, Rs.bind_ok, hx, hy]
  show Rs.of ((ixD x y).map W.d) s2 = _
  rw [h]
  rfl
theorem ev_call {f : Nat} (h : evL F es v s = .ok ws s1) (hc : F.call f ws s1 = .ok w s2) : evE F (.call f es) v s = .ok w s2 := by
  rw [evE, h, Rs.bind_ok, hc]
theorem ev_bi {f : Bi} {xs : List PD} (h : evL F es v s = .ok ws s1) (hd : datas s1 ws = some xs) (hb : bi f xs = some z) : evE F (.bi f es) v s = .ok (.d z) s1 := by
  rw [evE, h, biR, Rs.bind_ok, hd]
  show Rs.of ((bi f xs).map W.d) s1 = _
  rw [hb]
  rfl
theorem ev_iteT (hc : evE F c v s = .ok (.d (.bool true)) s1) (ha : evE F a v s1 = .ok w s2) : evE F (.ife c a b) v s = .ok w s2 := by
  rw [evE, hc, tst_ok, Rs.bind_ok, if_pos rfl, ha]
theorem ev_iteF (hc : evE F c v s = .ok (.d (.bool false)) s1) (hb : evE F b v s1 = .ok w s2) : evE F (.ife c a b) v s = .ok w s2 := by
  rw [evE, hc, tst_ok, Rs.bind_ok, if_neg Bool.false_ne_true, hb]
theorem ev_andT (ha : evE F a v s = .ok (.d (.bool true)) s1) (hb : evE F b v s1 = .ok w s2) : evE F (.and a b) v s = .ok w s2 := by
  rw [evE, ha, tst_ok, Rs.bind_ok, if_pos rfl, hb]
theorem ev_andF (ha : evE F a v s = .ok (.d (.bool false)) s1) : evE F (.and a b) v s = .ok (.d (.bool false)) s1 := by
  rw [evE, ha, tst_ok, Rs.bind_ok, if_neg Bool.false_ne_true]
theorem ev_orT (ha : evE F a v s = .ok (.d (.bool true)) s1) : evE F (.or a b) v s = .ok (.d (.bool true)) s1 := by
  rw [evE, ha, tst_ok, Rs.bind_ok, if_pos rfl]
theorem ev_orF (ha : evE F a v s = .ok (.d (.bool false)) s1) (hb : evE F b v s1 = .ok w s2) : evE F (.or a b) v s = .ok w s2 := by
  rw [evE, ha, tst_ok, Rs.bind_ok, if_neg Bool.false_ne_true, hb]
theorem ev_not {k : Bool} (ha : evE F a v s = .ok (.d (.bool k)) s1) : evE F (.not a) v s = .ok (.d (.bool (!k))) s1 := by
  rw [evE, ha, tst_ok, Rs.bind_ok]
/-- a comprehension without a test, whose turns leave the store -/
theorem ev_map {t : Tg} {own : List Nat} {l : List PD} {g : List (Nat × List PD)} {h : PD → PD} (hw : walk (evE F b v s) = .ok (l, g) s1) (hk : kept g s1 = true) (hl : l.length ≤ LIM)
    (hf : ∀ x ∈ l, ∃ v', putT t (.d x) s1 (wipeE v own) = some v' ∧ evE F a v' s1 = .ok (.d (h x)) s1) : evE F (.comp false a t b (.cst (.bool true)) own) v s = .ok (.d (.list (l.map h))) s1 := by
  rw [evE, hw, compR, Rs.bind_ok, compL_map h hk l (fun x hx => ?_) hl]
  · rfl
  · obtain ⟨v', e1, e2⟩ := hf x hx
    unfold turnC
    rw [e1]
    show Rs.bind (Rs.ok true s1) _ = _
    rw [Rs.bind_ok, if_pos rfl, e2]
    rfl
theorem compL_mapG {α : Type} {g : Sto → Bool} {f : PD → Sto → Rs (Option PD)} {s : Sto} (toD : α → PD) (h : α → PD) (hg : g s = true) : ∀ (l : List α), (∀ x ∈ l, f (toD x) s = .ok (some (h x)) s) → l.length ≤ LIM → compL g f (l.map toD) s = .ok (l.map h) s
  | [], _, _ => by
    show compL g f [] s = _
    unfold compL
    rw [if_pos hg]
    rfl
  | x :: r, hf, hl => by
    have hl' : r.length + 1 ≤ LIM := hl
    show compL g f (toD x :: r.map toD) s = _
    unfold compL
    rw [if_pos hg, hf x List.mem_cons_self]
    simp only [compL_mapG toD h hg r (fun y hy => hf y (List.mem_cons_of_mem _ hy)) (by omega), Rs.bind_ok]
    rw [if_pos (by rw [List.length_map]; omega)]
    rfl
/-- .. over things of any kind -/
theorem ev_mapG {α : Type} {t : Tg} {own : List Nat} {g : List (Nat × List PD)} (l : List α) (toD : α → PD) (h : α → PD) (hw : walk (evE F b v s) = .ok (l.map toD, g) s1) (hk : kept g s1 = true) (hl : l.length ≤ LIM)
    (hf : ∀ x ∈ l, ∃ v', putT t (.d (toD x)) s1 (wipeE v own) = some v' ∧ evE F a v' s1 = .ok (.d (h x)) s1) : evE F (.comp false a t b (.cst (.bool true)) own) v s = .ok (.d (.list (l.map h))) s1 := by
  rw [evE, hw, compR, Rs.bind_ok, compL_mapG toD h hk l (fun x hx => ?_) hl]
  · rfl
  · obtain ⟨v', e1, e2⟩ := hf x hx
    unfold turnC
    rw [e1]
    show Rs.bind (Rs.ok true s1) _ = _
    rw [Rs.bind_ok, if_pos rfl, e2]
    rfl
end
section
variable {F : Fs} {a b c es : E} {A B : S} {v v1 : En} {s s1 s2 s3 : Sto} {x y z : PD} {w w2 : W} {ws : List W} {o : Out}
theorem st_seq (h1 : evS F A v s = .nx v1 s1) (h2 : evS F B v1 s1 = o) : evS F (.seq A B) v s = o := by
  rw [evS, h1, Out.nx_then, h2]
theorem st_end {B : S} (h1 : evS F A v s = .ret w s1) : evS F (.seq A B) v s = .ret w s1 := by
  rw [evS, h1, Out.ret_then]
theorem st_set {t : Tg} (h : evE F.fe a v s = .ok w s1) (hp : putT t w s1 v = some v1) : evS F (.set t a) v s = .nx v1 s1 := by
  rw [evS, h, Rs.out_ok, hp]
  rfl
theorem st_par {is : List Nat} (h : evL F.fe es v s = .ok ws s1) (hp : putAllW is ws v = some v1) : evS F (.par is es) v s = .nx v1 s1 := by
  rw [evS, h, Rs.out_ok, hp]
  rfl
theorem st_ret (h : evE F.fe a v s = .ok w s1) : evS F (.ret a) v s = .ret w s1 := by
  rw [evS, h, Rs.out_ok]
theorem st_ex (h : evE F.fe a v s = .ok w s1) : evS F (.ex a) v s = .nx v s1 := by
  rw [evS, h, Rs.out_ok]
theorem st_ifT (hc : evE F.fe c v s = .ok (.d (.bool true)) s1) (h : evS F A v s1 = o) : evS F (.ifs c A B) v s = o := by
  rw [evS, hc, tst_ok, Rs.out_ok, if_pos rfl, h]
theorem st_ifF (hc : evE F.fe c v s = .ok (.d (.bool false)) s1) (h : evS F B v s1 = o) : evS F (.ifs c A B) v s = o := by
  rw [evS, hc, tst_ok, Rs.out_ok, if_neg Bool.false_ne_true, h]
theorem st_skip : evS F .skip v s = .nx v s := rfl
theorem st_for {t : Tg} {l : List PD} {g : List (Nat × List PD)} (hw : walk (evE F.fe b v s) = .ok (l, g) s1) (h : forL (kept g) (turnS t (evS F A)) l v s1 = o) : evS F (.for t b A) v s = o := by
  rw [evS, hw, Rs.out_ok, h]
theorem st_aug {i : Nat} {q : O2} (hv : v[i]? = some (some w)) (h : evE F.fe a v s = .ok w2 s1) (hx : view s1 w = some x) (hy : view s1 w2 = some y) (ha : aug2 q x y = some z) (hp : putS v i (.d z) = some v1) : evS F (.aug i q a) v s = .nx v1 s1 := by
  rw [evS, hv]
  show Rs.out (Rs.bind (evE F.fe a v s) _) _ _ = _
  rw [h, Rs.bind_ok, hx, hy]
  show Rs.out (Rs.of ((aug2 q x y).map W.d) s1) _ _ = _
  rw [ha]
  show Out.of (putS v i (.d z)) s1 = _
  rw [hp]
  rfl
/-- a def that ends with a value and has made nothing new -/
theorem run_ret {P : Pg} {k i : Nat} {fn : Fn} {ws : List W} (hf : P.fns[i]? = some fn) (hl : ws.length = fn.np) (hn : s1.length = s.length) (h : evS (cx P k) fn.body (startE fn ws) s = .ret (.d x) s1) : runF P (k + 1) i ws s = .ok (.d x) s1 := by
  rw [run_eq hf hl, h, fin_ret, ← hn, back_same]
end
theorem limb {n : Nat} (h : Nat.ble n 1000 = true) : n ≤ LIM := Nat.le_trans (Nat.le_of_ble_eq_true h) (by decide)
theorem lim10 {n : Nat} (h : n ≤ 1000) : n ≤ LIM := Nat.le_trans h (by decide)
/-! ### turns of which only something is known -/
theorem compL_ex {α : Type} {g : Sto → Bool} {f : PD → Sto → Rs (Option PD)} {I : Nat → Sto → Prop} {toD : α → PD} (hg : ∀ t s, I t s → g s = true) : ∀ (l : List PD) (t : Nat) (s : Sto), I t s → (∀ j s x, t ≤ j → j < t + l.length → I j s → x ∈ l → ∃ y s', f x s = .ok (some (toD y)) s' ∧ I (j + 1) s') → l.length ≤ LIM →
    ∃ (ys : List α) (s' : Sto), compL g f l s = .ok (ys.map toD) s' ∧ ys.length = l.length ∧ I (t + l.length) s'
  | [], t, s, hi, _, _ => ⟨[], s, by unfold compL; rw [if_pos (hg t s hi)]; rfl, rfl, hi⟩
  | x :: r, t, s, hi, hf, hl => by
    have hl' : r.length + 1 ≤ LIM := hl
    have hll : (x :: r).length = r.length + 1 := rfl
    obtain ⟨y, s1, e, i1⟩ := hf t s x (Nat.le_refl _) (by omega) hi List.mem_cons_self
    obtain ⟨ys, s2, e2, l2, i2⟩ := compL_ex hg r (t + 1) s1 i1 (fun j s x h1 h2 hi hx => hf j s x (by omega) (by omega) hi (List.mem_cons_of_mem _ hx)) (by omega)
    refine ⟨y :: ys, s2, ?_, by rw [List.length_cons, List.length_cons, l2], ?_⟩
    · unfold compL
      rw [if_pos (hg t s hi), e]
      simp only [e2, Rs.bind_ok]
      rw [if_pos (by rw [List.length_map]; omega)]
      rfl
    · rw [hll, show t + (r.length + 1) = t + 1 + r.length by omega]
      exact i2
theorem ev_comp_ex {α : Type} {F : Fe} {a b : E} {v : En} {s s1 : Sto} {t : Tg} {own : List Nat} {l : List PD} {g : List (Nat × List PD)} {I : Nat → Sto → Prop} (toD : α → PD) (hw : walk (evE F b v s) = .ok (l, g) s1) (hk : ∀ t s, I t s → kept g s = true) (hl : l.length ≤ LIM) (hi : I 0 s1)
    (hf : ∀ j s x, j < l.length → I j s → x ∈ l → ∃ v' y s', putT t (.d x) s (wipeE v own) = some v' ∧ evE F a v' s = .ok (.d (toD y)) s' ∧ I (j + 1) s') : ∃ (ys : List α) (s' : Sto), evE F (.comp false a t b (.cst (.bool true)) own) v s = .ok (.d (.list (ys.map toD))) s' ∧ ys.length = l.length ∧ I l.length s' := by
  obtain ⟨ys, s', e, e2, e3⟩ := compL_ex (f := turnC t (wipeE v own) (evE F (.cst (.bool true))) (evE F a)) (toD := toD) hk l 0 s1 hi (fun j s x _ h1 h hx => by
    obtain ⟨v', y, s', e1, e2, e3⟩ := hf j s x (by omega) h hx
    refine ⟨y, s', ?_, e3⟩
    unfold turnC
    rw [e1]
    show Rs.bind (Rs.ok true s) _ = _
    rw [Rs.bind_ok, if_pos rfl, e2]
    rfl) hl
  rw [Nat.zero_add] at e3
  refine ⟨ys, s', ?_, e2, e3⟩
  rw [evE, hw, compR, Rs.bind_ok, e]
  rfl
theorem for_ex {g : Sto → Bool} {f : PD → En → Sto → Out} {I : Nat → En → Sto → Prop} (hg : ∀ t v s, I t v s → g s = true) : ∀ (l : List PD) (t : Nat) (v : En) (s : Sto), I t v s → (∀ j v s x, t ≤ j → j < t + l.length → I j v s → x ∈ l → ∃ v' s', f x v s = .nx v' s' ∧ I (j + 1) v' s') → ∃ v' s', forL g f l v s = .nx v' s' ∧ I (t + l.length) v' s'
  | [], t, v, s, hi, _ => ⟨v, s, by unfold forL; rw [if_pos (hg t v s hi)], hi⟩
  | x :: r, t, v, s, hi, hf => by
    have hll : (x :: r).length = r.length + 1 := rfl
    obtain ⟨v1, s1, e, i1⟩ := hf t v s x (Nat.le_refl _) (by omega) hi List.mem_cons_self
    obtain ⟨v2, s2, e2, i2⟩ := for_ex hg r (t + 1) v1 s1 i1 fun j v s x h1 h2 hi hx => hf j v s x (by omega) (by omega) hi (List.mem_cons_of_mem _ hx)
    refine ⟨v2, s2, ?_, ?_⟩
    · unfold forL
      rw [if_pos (hg t v s hi), e]
      exact e2
    · rw [hll, show t + (r.length + 1) = t + 1 + r.length by omega]
      exact i2
theorem st_for_ex {F : Fs} {b : E} {A : S} {v : En} {s s1 : Sto} {t : Tg} {l : List PD} {g : List (Nat × List PD)} {I : Nat → En → Sto → Prop} (hw : walk (evE F.fe b v s) = .ok (l, g) s1) (hg : ∀ t v s, I t v s → kept g s = true) (hi : I 0 v s1)
    (hf : ∀ j v s x, j < l.length → I j v s → x ∈ l → ∃ v1 v' s', putT t (.d x) s v = some v1 ∧ evS F A v1 s = .nx v' s' ∧ I (j + 1) v' s') : ∃ v' s', evS F (.for t b A) v s = .nx v' s' ∧ I l.length v' s' := by
  obtain ⟨v', s', e, h⟩ := for_ex (f := turnS t (evS F A)) hg l 0 v s1 hi fun j v s x _ h1 hi hx => by
    obtain ⟨v1, v', s', e1, e2, e3⟩ := hf j v s x (by omega) hi hx
    exact ⟨v', s', by rw [turnS_of e1, e2], e3⟩
  rw [Nat.zero_add] at h
  exact ⟨v', s', st_for hw e, h⟩
/-- for i in range(n) -/
theorem rng_walk {F : Fe} {a : E} {v : En} {s : Sto} {n : Nat} (h : evE F a v s = .ok (.d (.int n)) s) (hn : n ≤ 1000000) : walk (evE F (.rng (.cons a .nil)) v s) = .ok ((List.range n).map fun (i : Nat) => .int (0 + (i : Int)), []) s := by
  have h2 : evL F (.cons a .nil) v s = .ok [.d (.int n)] s := ev_cons h ev_nil
  have e : rangeD 0 n = some ((List.range n).map fun (i : Nat) => .int (0 + (i : Int))) := by
    have c : -(2 ^ 62) ≤ (0 : Int) ∧ (0 : Int) < 2 ^ 62 ∧ -(2 ^ 62) ≤ (n : Int) ∧ (n : Int) < 2 ^ 62 := by omega
    unfold rangeD
    rw [if_pos c, Int.sub_zero, Int.toNat_natCast]
  rw [evE, h2, rngR, Rs.bind_ok]
  have e3 : datas s [.d (.int n)] = some [.int n] := rfl
  rw [e3, Option.bind_some]
  simp only [e, Option.map_some]
  rfl
end Mini

set_option Elab.async false
set_option linter.all false
set_option maxRecDepth 100000
set_option maxHeartbeats 2000000
/-! Mini, part R: the bag that the laws draw from. -/
namespace Mini
open PySem
def takeB : S :=
 (.seq (.ifs (.cmp .eq (.ix (.var 0) (.cst (.int 0))) (.cst (.int 0)))
  (.seq (.set (.nm 2) (.ix (.bin .add (.sl (.ix (.var 0) (.cst (.int 3))) (.ix (.var 0) (.cst (.int 2))) .nil) (.lst (.cons (.cst (.int 0)) .nil))) (.cst (.int 0))))
  (.seq (.augi (.var 0) (.cst (.int 2)) .add (.cst (.int 1)))
  (.seq (.ifs (.cmp .ge (.var 2) (.bin .pow (.cst (.int 10)) (.cst (.int 18))))
   (.seq (.seti (.var 0) (.cst (.int 0)) (.var 2))
   .skip)
   .skip)
  (.seq (.set (.nm 3) (.bin .add (.bin .add (.bin .mul (.ix (.var 0) (.cst (.int 1))) (.cst (.int 48271))) (.bin .mod (.bi .int (.cons (.var 2) .nil)) (.cst (.int 2147483647)))) (.bin .mul (.cst (.int 7919)) (.ix (.var 0) (.cst (.int 2))))))
  (.seq (.seti (.var 0) (.cst (.int 1)) (.bin .mod (.bi .int (.cons (.var 3) .nil)) (.cst (.int 2147483647))))
  .skip)))))
  .skip)
 (.seq (.ifs (.cmp .gt (.ix (.var 0) (.cst (.int 0))) (.cst (.int 0)))
  (.seq (.set (.nm 4) (.bin .mod (.bi .int (.cons (.ix (.var 0) (.cst (.int 0))) .nil)) (.var 1)))
  (.seq (.seti (.var 0) (.cst (.int 0)) (.bin .fdiv (.bi .int (.cons (.ix (.var 0) (.cst (.int 0))) .nil)) (.var 1)))
  (.seq (.ret (.var 4))
  .skip)))
  .skip)
 (.seq (.set (.nm 5) (.bin .mod (.bi .int (.cons (.bin .mul (.bin .add (.ix (.var 0) (.cst (.int 1))) (.cst (.int 1))) (.cst (.int 39373))) .nil)) (.cst (.int 1000000007))))
 (.seq (.set (.nm 6) (.bin .mod (.bi .int (.cons (.bin .mul (.bin .mod (.bi .int (.cons (.bin .mul (.var 5) (.var 5)) .nil)) (.cst (.int 998244353))) (.cst (.int 30011))) .nil)) (.cst (.int 998244353))))
 (.seq (.ret (.bin .mod (.bi .int (.cons (.bin .fdiv (.var 6) (.cst (.int 7))) .nil)) (.var 1)))
 .skip)))))
def bagL (m seed pos : Int) (cells : List Int) : List PD := [.int m, .int seed, .int pos, .list (cells.map .int)]
/-- a bag from which at most t numbers were drawn -/
def Bag (t : Nat) (l : List PD) : Prop :=
  ∃ m seed pos cells, l = bagL m seed pos cells ∧ 0 ≤ m ∧ 0 ≤ seed ∧ seed < 2147483647 ∧ 0 ≤ pos ∧ pos ≤ t ∧ cells.length ≤ 63 ∧ ∀ c ∈ cells, 0 ≤ c
theorem Bag.mono {t u : Nat} {l : List PD} (h : Bag t l) (hu : t ≤ u) : Bag u l := by
  obtain ⟨m, seed, pos, cells, h1, h2, h3, h4, h5, h6, h7⟩ := h
  exact ⟨m, seed, pos, cells, h1, h2, h3, h4, h5, by omega, h7⟩
theorem atI_zero {α : Type} (x : α) (l : List α) : L2.atI (x :: l) 0 = some x := by
  unfold L2.atI L2.ixN
  simp
theorem cell_ok (cells : List Int) (lo : Option Int) (h : ∀ c ∈ cells, 0 ≤ c) : ∃ c : Int, 0 ≤ c ∧ L2.atI (cutL (cells.map PyData.int) lo none ++ [.int 0]) 0 = some (.int c) := by
  have sub : ∀ x ∈ cutL (cells.map PyData.int) lo none, ∃ c : Int, 0 ≤ c ∧ x = .int c := fun x hx => by
    have := List.mem_of_mem_drop (List.mem_of_mem_take hx)
    obtain ⟨c, hc, rfl⟩ := List.mem_map.mp this
    exact ⟨c, h c hc, rfl⟩
  cases e : cutL (cells.map PyData.int) lo none with
  | nil => exact ⟨0, Int.le_refl _, atI_zero _ _⟩
  | cons x r =>
    obtain ⟨c, hc, rfl⟩ := sub x (by rw [e]; exact List.mem_cons_self)
    exact ⟨c, hc, atI_zero _ _⟩
theorem cut_len {α : Type} (l : List α) (lo hi : Option Int) : (cutL l lo hi).length ≤ l.length := by
  unfold cutL
  rw [List.length_take, List.length_drop]
  omega
theorem Sm.lt {i : Int} {n : Nat} (h : i.natAbs ≤ n) (hn : n < 10 ^ 1000) : Sm i := Sm.of (Nat.lt_of_le_of_lt h hn)
def eT (many : Int) (o2 o3 : Option Int) : En := [some (.ref 0), some (.d (.int many)), o2.map fun g => .d (.int g), o3.map fun g => .d (.int g), none, none, none]
section
variable {F : Fs} {many m seed pos : Int} {cells : List Int} {rest : Sto}
theorem take1_ok {t : Nat} {l : List PD} (hb : Bag t l) (ht : t < 1000000000) : ∃ o2 o3 l', Bag (t + 1) l' ∧ evS F (.ifs (.cmp .eq (.ix (.var 0) (.cst (.int 0))) (.cst (.int 0)))
  (.seq (.set (.nm 2) (.ix (.bin .add (.sl (.ix (.var 0) (.cst (.int 3))) (.ix (.var 0) (.cst (.int 2))) .nil) (.lst (.cons (.cst (.int 0)) .nil))) (.cst (.int 0))))
  (.seq (.augi (.var 0) (.cst (.int 2)) .add (.cst (.int 1)))
  (.seq (.ifs (.cmp .ge (.var 2) (.bin .pow (.cst (.int 10)) (.cst (.int 18))))
   (.seq (.seti (.var 0) (.cst (.int 0)) (.var 2))
   .skip)
   .skip)
  (.seq (.set (.nm 3) (.bin .add (.bin .add (.bin .mul (.ix (.var 0) (.cst (.int 1))) (.cst (.int 48271))) (.bin .mod (.bi .int (.cons (.var 2) .nil)) (.cst (.int 2147483647)))) (.bin .mul (.cst (.int 7919)) (.ix (.var 0) (.cst (.int 2))))))
  (.seq (.seti (.var 0) (.cst (.int 1)) (.bin .mod (.bi .int (.cons (.var 3) .nil)) (.cst (.int 2147483647))))
  .skip)))))
  .skip) (eT many none none) (.lst l :: rest) = .nx (eT many o2 o3) (.lst l' :: rest) := by
  obtain ⟨m, seed, pos, cells, rfl, h1, h2, h3, h4, h5, h6, h7⟩ := hb
  by_cases hm : m = 0
  · subst hm
    obtain ⟨c, hc, ec⟩ := cell_ok cells (some pos) h7
    have hlen : (cutL (cells.map PyData.int) (some pos) none).length + 1 ≤ LIM := by
      have := cut_len (cells.map PyData.int) (some pos) none
      rw [List.length_map] at this
      exact lim10 (by omega)
    have add : bin2 .add (.list (cutL (cells.map PyData.int) (some pos) none)) (.list [.int 0]) = some (.list (cutL (cells.map PyData.int) (some pos) none ++ [.int 0])) := by
      show (if _ then _ else _) = _
      rw [if_pos (by simpa using hlen)]
    have big : ∀ (m' : Int), evS F (.seq (.set (.nm 3) (.bin .add (.bin .add (.bin .mul (.ix (.var 0) (.cst (.int 1))) (.cst (.int 48271))) (.bin .mod (.bi .int (.cons (.var 2) .nil)) (.cst (.int 2147483647)))) (.bin .mul (.cst (.int 7919)) (.ix (.var 0) (.cst (.int 2))))))
        (.seq (.seti (.var 0) (.cst (.int 1)) (.bin .mod (.bi .int (.cons (.var 3) .nil)) (.cst (.int 2147483647)))) .skip)) (eT many (some c) none) (.lst (bagL m' seed (pos + 1) cells) :: rest) =
        .nx (eT many (some c) (some (seed * 48271 + c % 2147483647 + 7919 * (pos + 1)))) (.lst (bagL m' ((seed * 48271 + c % 2147483647 + 7919 * (pos + 1)) % 2147483647) (pos + 1) cells) :: rest) := fun m' => by
      refine st_seq (v1 := eT many (some c) (some (seed * 48271 + c % 2147483647 + 7919 * (pos + 1)))) (s1 := .lst (bagL m' seed (pos + 1) cells) :: rest) (st_set (ev_bin (ev_bin (ev_bin (x := .int seed) rfl rfl (mul_ok (Sm.lt (n := 2147483647) (by omega) (by decide +kernel)) (Sm.lt (n := 48271) (by decide) (by decide +kernel)))) (ev_bin rfl rfl (mod_pos (by decide))) add_ok) (ev_bin (y := .int (pos + 1)) rfl rfl (mul_ok (Sm.lt (n := 7919) (by decide) (by decide +kernel)) (Sm.lt (n := 1000000001) (by omega) (by decide +kernel)))) add_ok) rfl) ?_
      have e : evE F.fe (.bin .mod (.bi .int (.cons (.var 3) .nil)) (.cst (.int 2147483647))) (eT many (some c) (some (seed * 48271 + c % 2147483647 + 7919 * (pos + 1)))) (.lst (bagL m' seed (pos + 1) cells) :: rest) = .ok (.d (.int ((seed * 48271 + c % 2147483647 + 7919 * (pos + 1)) % 2147483647))) (.lst (bagL m' seed (pos + 1) cells) :: rest) := ev_bin rfl rfl (mod_pos (by decide))
      refine st_seq ?_ rfl
      rw [evS, e]
      rfl
    refine ⟨some c, some (seed * 48271 + c % 2147483647 + 7919 * (pos + 1)), bagL (if (10 : Int) ^ 18 ≤ c then c else 0) ((seed * 48271 + c % 2147483647 + 7919 * (pos + 1)) % 2147483647) (pos + 1) cells,
      ⟨_, _, _, _, rfl, by split <;> omega, Int.emod_nonneg _ (by decide), Int.emod_lt_of_pos _ (by decide), by omega, by omega, h6, h7⟩, ?_⟩
    refine st_ifT (s1 := .lst (bagL 0 seed pos cells) :: rest) rfl ?_
    refine st_seq (v1 := eT many (some c) none) (s1 := .lst (bagL 0 seed pos cells) :: rest) (st_set (ev_ix (x := .list (cutL (cells.map PyData.int) (some pos) none ++ [.int 0])) (z := .int c) (w2 := .d (.int 0)) (ev_bin (x := .list (cutL (cells.map PyData.int) (some pos) none)) (y := .list [.int 0]) rfl (ev_lst (xs := [.int 0]) (ws := [.d (.int 0)]) rfl rfl (limb rfl)) add) rfl rfl rfl (by show L2.atI _ 0 = _; exact ec)) rfl) ?_
    refine st_seq (v1 := eT many (some c) none) (s1 := .lst (bagL 0 seed (pos + 1) cells) :: rest) rfl ?_
    by_cases hg : (10 : Int) ^ 18 ≤ c
    · rw [if_pos hg]
      refine st_seq (v1 := eT many (some c) none) (s1 := .lst (bagL c seed (pos + 1) cells) :: rest) (st_ifT (s1 := .lst (bagL 0 seed (pos + 1) cells) :: rest) (ev_cmp (k := true) (x := .int c) (y := .int ((10 : Int) ^ 18)) rfl rfl (by show some (decide _) = _; rw [decide_eq_true hg])) rfl) (big c)
    · rw [if_neg hg]
      refine st_seq (v1 := eT many (some c) none) (s1 := .lst (bagL 0 seed (pos + 1) cells) :: rest) (st_ifF (s1 := .lst (bagL 0 seed (pos + 1) cells) :: rest) (ev_cmp (k := false) (x := .int c) (y := .int ((10 : Int) ^ 18)) rfl rfl (by show some (decide _) = _; rw [decide_eq_false hg])) rfl) (big 0)
  · refine ⟨none, none, bagL m seed pos cells, ⟨m, seed, pos, cells, rfl, h1, h2, h3, h4, by omega, h6, h7⟩, ?_⟩
    exact st_ifF (s1 := .lst (bagL m seed pos cells) :: rest) (ev_cmp (k := false) (x := .int m) (y := .int 0) rfl rfl (by show some (decide _) = _; rw [decide_eq_false hm])) rfl
end
/-- a number is drawn: any of 0 .. many - 1 -/
theorem take_ok {P : Pg} {i k t : Nat} {many : Int} {l : List PD} {rest : Sto} (hP : P.fns[i]? = some ⟨2, 7, takeB⟩) (hb : Bag t l) (ht : t < 1000000000) (h0 : 0 < many) (hm : Sm many) :
    ∃ (r : Int) (l' : List PD), 0 ≤ r ∧ r < many ∧ Bag (t + 1) l' ∧ runF P (k + 1) i [.ref 0, .d (.int many)] (.lst l :: rest) = .ok (.d (.int r)) (.lst l' :: rest) := by
  obtain ⟨o2, o3, l1, hb1, e1⟩ := take1_ok (F := cx P k) (many := many) (rest := rest) hb ht
  obtain ⟨m, seed, pos, cells, rfl, h1, h2, h3, h4, h5, h6, h7⟩ := hb1
  have hmn : many ≠ 0 := by omega
  by_cases hg : 0 < m
  · refine ⟨m % many, bagL (m / many) seed pos cells, Int.emod_nonneg _ hmn, Int.emod_lt_of_pos _ h0, ⟨_, _, _, _, rfl, Int.ediv_nonneg h1 (by omega), h2, h3, h4, h5, h6, h7⟩, ?_⟩
    refine run_ret (s1 := .lst (bagL (m / many) seed pos cells) :: rest) hP rfl rfl ?_
    refine st_seq e1 (st_end (st_ifT (s1 := .lst (bagL m seed pos cells) :: rest) (ev_cmp (k := true) (x := .int m) (y := .int 0) rfl rfl (by show some (decide _) = _; rw [decide_eq_true hg])) ?_))
    refine st_seq (v1 := (eT many o2 o3).set 4 (some (.d (.int (m % many))))) (s1 := .lst (bagL m seed pos cells) :: rest) (st_set (ev_bin (x := .int m) (y := .int many) rfl rfl (mod_pos h0)) rfl) ?_
    have e : evE (cx P k).fe (.bin .fdiv (.bi .int (.cons (.ix (.var 0) (.cst (.int 0))) .nil)) (.var 1)) ((eT many o2 o3).set 4 (some (.d (.int (m % many))))) (.lst (bagL m seed pos cells) :: rest) = .ok (.d (.int (m / many))) (.lst (bagL m seed pos cells) :: rest) := ev_bin (x := .int m) (y := .int many) rfl rfl (fdiv_ok h0 hm)
    refine st_seq (v1 := (eT many o2 o3).set 4 (some (.d (.int (m % many))))) (s1 := .lst (bagL (m / many) seed pos cells) :: rest) ?_ rfl
    rw [evS, e]
    rfl
  · have hx : ∀ a b : Int, 0 < b → (a % b).natAbs ≤ b.natAbs := fun a b hb => by
      have := Int.emod_nonneg a (by omega : b ≠ 0)
      have := Int.emod_lt_of_pos a hb
      omega
    obtain ⟨q, hq⟩ : ∃ q, q = (seed + 1) * 39373 % 1000000007 := ⟨_, rfl⟩
    refine ⟨(q * q % 998244353 * 30011 % 998244353 / 7) % many, bagL m seed pos cells, Int.emod_nonneg _ hmn, Int.emod_lt_of_pos _ h0, ⟨_, _, _, _, rfl, h1, h2, h3, h4, h5, h6, h7⟩, ?_⟩
    refine run_ret (s1 := .lst (bagL m seed pos cells) :: rest) hP rfl rfl ?_
    refine st_seq e1 (st_seq (v1 := eT many o2 o3) (s1 := .lst (bagL m seed pos cells) :: rest) (st_ifF (s1 := .lst (bagL m seed pos cells) :: rest) (ev_cmp (k := false) (x := .int m) (y := .int 0) rfl rfl (by show some (decide _) = _; rw [decide_eq_false hg])) rfl) ?_)
    refine st_seq (v1 := (eT many o2 o3).set 5 (some (.d (.int q)))) (s1 := .lst (bagL m seed pos cells) :: rest) (st_set (ev_bin (ev_bi (ev_cons (ev_bin (x := .int (seed + 1)) (y := .int 39373) rfl rfl (mul_ok (Sm.lt (n := 2147483648) (by omega) (by decide +kernel)) (Sm.lt (n := 39373) (by decide) (by decide +kernel)))) ev_nil) rfl rfl) rfl (mod_pos (by decide))) (by rw [hq]; rfl)) ?_
    have hq1 : q.natAbs ≤ 1000000007 := by rw [hq]; exact hx _ _ (by decide)
    have hq2 : (q * q % 998244353).natAbs ≤ 998244353 := hx _ _ (by decide)
    refine st_seq (v1 := ((eT many o2 o3).set 5 (some (.d (.int q)))).set 6 (some (.d (.int (q * q % 998244353 * 30011 % 998244353))))) (s1 := .lst (bagL m seed pos cells) :: rest) (st_set (ev_bin (ev_bi (ev_cons (ev_bin (ev_bin (ev_bi (ev_cons (ev_bin (x := .int q) (y := .int q) rfl rfl (mul_ok (Sm.lt hq1 (by decide +kernel)) (Sm.lt hq1 (by decide +kernel)))) ev_nil) rfl rfl) rfl (mod_pos (by decide))) rfl (mul_ok (Sm.lt hq2 (by decide +kernel)) (Sm.lt (n := 30011) (by decide) (by decide +kernel)))) ev_nil) rfl rfl) rfl (mod_pos (by decide))) rfl) ?_
    exact st_end (st_ret (ev_bin (x := .int (q * q % 998244353 * 30011 % 998244353 / 7)) (y := .int many) (ev_bi (ev_cons (ev_bin rfl rfl (fdiv_ok (by decide) (Sm.lt (n := 7) (by decide) (by decide +kernel)))) ev_nil) rfl rfl) rfl (mod_pos h0)))
/-! ### data that repr and == take -/
def Gd (d b : Nat) (x : PD) : Prop := x.showable = true ∧ x.canLay0 = true ∧ x.depth ≤ d ∧ x.bulk ≤ b
theorem Gd.mono {d b e c : Nat} {x : PD} (h : Gd d b x) (h1 : d ≤ e) (h2 : b ≤ c) : Gd e c x := ⟨h.1, h.2.1, Nat.le_trans h.2.2.1 h1, Nat.le_trans h.2.2.2 h2⟩
theorem Gd.int {i : Int} (h : i.natAbs < 2 ^ 1920) : Gd 0 0 (.int i) :=
  ⟨by rw [PyData.showable]; exact decide_eq_true (log2_lt h (by decide)), by rw [PyData.canLay0], by rw [PyData.depth]; exact Nat.le_refl _, by rw [PyData.bulk]; exact Nat.le_refl _⟩
theorem Gd.none : Gd 0 0 .none := ⟨by rw [PyData.showable], by rw [PyData.canLay0], by rw [PyData.depth]; exact Nat.le_refl _, by rw [PyData.bulk]; exact Nat.le_refl _⟩
theorem Gd.bool {k : Bool} : Gd 0 0 (.bool k) := ⟨by rw [PyData.showable], by rw [PyData.canLay0], by rw [PyData.depth]; exact Nat.le_refl _, by rw [PyData.bulk]; exact Nat.le_refl _⟩
theorem Gd.all {d b : Nat} : ∀ {xs : List PD}, (∀ x ∈ xs, Gd d b x) → PyData.showableAll xs = true ∧ PyData.canLayAll0 xs = true ∧ PyData.depthAll xs ≤ d ∧ PyData.bulkAll xs ≤ xs.length * (b + 1)
  | [], _ => ⟨by rw [PyData.showableAll], by rw [PyData.canLayAll0], by rw [PyData.depthAll]; exact Nat.zero_le _, by rw [PyData.bulkAll]; exact Nat.zero_le _⟩
  | x :: xs, h => by
    obtain ⟨a1, a2, a3, a4⟩ := h x List.mem_cons_self
    obtain ⟨b1, b2, b3, b4⟩ := Gd.all fun y hy => h y (List.mem_cons_of_mem _ hy)
    refine ⟨by rw [PyData.showableAll, a1, b1]; rfl, by rw [PyData.canLayAll0, a2, b2]; rfl, by rw [PyData.depthAll]; exact Nat.max_le.mpr ⟨a3, b3⟩, ?_⟩
    rw [PyData.bulkAll, List.length_cons, Nat.add_mul]
    omega
theorem Gd.list {d b : Nat} {xs : List PD} (h : ∀ x ∈ xs, Gd d b x) : Gd (d + 1) (xs.length * (b + 1)) (.list xs) := by
  obtain ⟨b1, b2, b3, b4⟩ := Gd.all h
  exact ⟨by rw [PyData.showable]; exact b1, by rw [PyData.canLay0]; exact b2, by rw [PyData.depth]; omega, by rw [PyData.bulk]; exact b4⟩
theorem Gd.tuple {d b : Nat} {xs : List PD} (h : ∀ x ∈ xs, Gd d b x) : Gd (d + 1) (xs.length * (b + 1)) (.tuple xs) := by
  obtain ⟨b1, b2, b3, b4⟩ := Gd.all h
  exact ⟨by rw [PyData.showable]; exact b1, by rw [PyData.canLay0]; exact b2, by rw [PyData.depth]; omega, by rw [PyData.bulk]; exact b4⟩
mutual
theorem short_of : ∀ x : PD, x.showable = true → x.intsShort 1921 = true
  | .none, _ => by rw [PyData.intsShort]
  | .bool _, _ => by rw [PyData.intsShort]
  | .str _, _ => by rw [PyData.intsShort]
  | .dict _, _ => by rw [PyData.intsShort]
  | .int i, h => by
    rw [PyData.showable] at h
    rw [PyData.intsShort]
    exact decide_eq_true (PyProof.Rows.int_text_len_1921 (of_decide_eq_true h))
  | .list xs, h => by
    rw [PyData.showable] at h
    rw [PyData.intsShort]
    exact shorts_of xs h
  | .tuple xs, h => by
    rw [PyData.showable] at h
    rw [PyData.intsShort]
    exact shorts_of xs h
theorem shorts_of : ∀ xs : List PD, PyData.showableAll xs = true → PyData.intsShortAll 1921 xs = true
  | [], _ => by rw [PyData.intsShortAll]
  | x :: xs, h => by
    rw [PyData.showableAll, Bool.and_eq_true] at h
    rw [PyData.intsShortAll, short_of x h.1, shorts_of xs h.2]
    rfl
end
theorem Gd.len {d b : Nat} {x : PD} (h : Gd d b x) (hb : b ≤ 8000) : x.shown.length ≤ LIM := by
  have := PyData.shown_le_bulk 1921 (by decide) x (PyData.leavesShort_of_canLay0 1921 x h.2.1 (short_of x h.1))
  have := h.2.2.2
  have hL : LIM = 16777216 := rfl
  rw [hL]
  omega
theorem Gd.shaped {d b : Nat} {x : PD} (h : Gd d b x) (hd : d ≤ 64) : SeqAt.shaped x = true := by
  unfold SeqAt.shaped
  rw [h.2.1, decide_eq_true (Nat.le_trans h.2.2.1 hd)]
  rfl
theorem eqD_self {x : PD} (h : SeqAt.shaped x = true) : eqD x x = some true := by
  cases x with
  | int i => simp [eqD]
  | _ => simp [eqD, h, SeqAt.eqv_refl _ (SeqAt.canLay_of_shaped h)]
/-! ### the laws' own small defs -/
def alikeB : S :=
 (.seq (.ret (.and (.cmp .eq (.bi .repr (.cons (.var 0) .nil)) (.bi .repr (.cons (.var 1) .nil))) (.cmp .eq (.var 0) (.var 1))))
 .skip)
theorem alike_ok {P : Pg} {i k d b : Nat} {x : PD} {s : Sto} (hP : P.fns[i]? = some ⟨2, 2, alikeB⟩) (h : Gd d b x) (hd : d ≤ 64) (hb : b ≤ 8000) : runF P (k + 1) i [.d x, .d x] s = .ok (.d (.bool true)) s := by
  have hs := h.shaped hd
  have hr : bi .repr [x] = some (.str x.shown) := by
    show (if _ then _ else _) = _
    rw [if_pos]
    rw [h.1, hs, decide_eq_true (h.len hb)]
    rfl
  refine run_ret (s1 := s) hP rfl rfl (st_end (st_ret (ev_andT (ev_cmp (k := true) (ev_bi (ev_cons rfl ev_nil) rfl hr) (ev_bi (ev_cons rfl ev_nil) rfl hr) ?_) (ev_cmp (k := true) rfl rfl (eqD_self hs)))))
  show some (decide _) = _
  rw [decide_eq_true rfl]
def bagB : S :=
 (.seq (.ret (.newl (.cons (.cst (.int 0)) (.cons (.cst (.int 1234567891)) (.cons (.cst (.int 0)) (.cons (.comp false (.bi .abs (.cons (.var 1) .nil)) (.nm 1) (.sl (.var 0) .nil (.cst (.int 63))) (.cst (.bool true)) [1]) .nil))))))
 .skip)
theorem cut_all {α : Type} (l : List α) (h : l.length ≤ 63) : cutL l none (some 63) = l := by
  have e1 : _root_.HT.sIx l.length 0 none = 0 := rfl
  have e2 : _root_.HT.sIx l.length l.length (some 63) = l.length := by
    show (if (63 : Int) < 0 then ((63 : Int) + (l.length : Int)).toNat else min (63 : Int).toNat l.length) = _
    rw [if_neg (by decide)]
    show min 63 l.length = l.length
    omega
  unfold cutL
  rw [e1, e2, List.drop_zero, Nat.sub_zero, List.take_length]
theorem bag_ok {P : Pg} {i k : Nat} {ns : List Int} (hP : P.fns[i]? = some ⟨1, 2, bagB⟩) (hl : ns.length ≤ 63) : ∃ l, Bag 0 l ∧ runF P (k + 1) i [.d (.list (ns.map .int))] [] = .ok (.ref 0) [.lst l] := by
  refine ⟨bagL 0 1234567891 0 (ns.map fun n => if n < 0 then -n else n), ⟨_, _, _, _, rfl, by decide, by decide, by decide, by decide, by decide, by rw [List.length_map]; exact hl, fun c hc => ?_⟩, ?_⟩
  · obtain ⟨n, _, rfl⟩ := List.mem_map.mp hc
    split <;> omega
  · rw [run_eq hP rfl]
    have e : evS (cx P k) bagB (startE ⟨1, 2, bagB⟩ [.d (.list (ns.map .int))]) [] = .ret (.ref 0) [.lst (bagL 0 1234567891 0 (ns.map fun n => if n < 0 then -n else n))] := by
      refine st_end (st_ret (ev_newl (s1 := []) (xs := bagL 0 1234567891 0 (ns.map fun n => if n < 0 then -n else n)) (ev_cons rfl (ev_cons rfl (ev_cons rfl (ev_cons (ev_mapG ns .int (fun n => .int (if n < 0 then -n else n)) (s1 := []) (g := []) ?_ rfl (lim10 (by omega)) fun x hx => ⟨_, rfl, rfl⟩) ev_nil)))) ?_ (limb rfl)))
      · show Rs.ok (cutL (ns.map PyData.int) none (some 63), []) [] = _
        rw [cut_all _ (by rw [List.length_map]; exact hl)]
      · show some [_, _, _, PyData.list _] = _
        rw [bagL, List.map_map]
        rfl
    rw [e]
    rfl
def someB (ti : Nat) : S :=
 (.seq (.ret (.ix (.var 1) (.call ti (.cons (.var 0) (.cons (.bi .len (.cons (.var 1) .nil)) .nil)))))
 .skip)
theorem atI_nat {α : Type} (l : List α) (r : Int) (h0 : 0 ≤ r) (h : r < l.length) : L2.atI l r = l[r.toNat]? := by
  unfold L2.atI L2.ixN
  rw [if_pos h0, if_pos h]
  rfl
theorem some_ok {P : Pg} {i ti k t : Nat} {l : List PD} {rest : Sto} {xs : List PD} (hP : P.fns[i]? = some ⟨2, 2, someB ti⟩) (hT : P.fns[ti]? = some ⟨2, 7, takeB⟩) (hb : Bag t l) (ht : t < 1000000000) (h0 : xs ≠ []) (hm : xs.length < 1000000) :
    ∃ (x : PD) (l' : List PD), x ∈ xs ∧ Bag (t + 1) l' ∧ runF P (k + 2) i [.ref 0, .d (.list xs)] (.lst l :: rest) = .ok (.d x) (.lst l' :: rest) := by
  have hl : 0 < xs.length := List.length_pos_iff.mpr h0
  obtain ⟨r, l', h1, h2, h3, h4⟩ := take_ok (k := k) (rest := rest) (many := (xs.length : Int)) hT hb ht (by omega) (Sm.lt (n := 1000000) (by omega) (by decide +kernel))
  have hr : r.toNat < xs.length := by omega
  refine ⟨xs[r.toNat], l', List.getElem_mem hr, h3, ?_⟩
  refine run_ret (s1 := .lst l' :: rest) hP rfl rfl (st_end (st_ret (ev_ix (w := .d (.list xs)) (w2 := .d (.int r)) rfl (ev_call (ev_cons (w := .ref 0) rfl (ev_cons (w := .d (.int xs.length)) rfl ev_nil)) h4) rfl rfl ?_)))
  show L2.atI xs r = _
  rw [atI_nat xs r h1 h2]
  exact List.getElem?_eq_getElem hr
end Mini

set_option Elab.async false
set_option linter.all false
set_option maxRecDepth 100000
set_option maxHeartbeats 2000000
namespace K10
open PySem PySem.Spec PyProof.Rows L2 Mini
/-- the i-th statement of the top -/
def top (i : Nat) : Stmt := PySem.Challenge.pw_limbwright_k10_forms_reckoned.main.body.getD i (.Pass ⟨0, 0, 0, 0⟩)
def D : List (Str × Nat) := [("common", 0), ("common_of", 1), ("made_form", 2), ("whole_form", 3), ("base_form", 4), ("digit_form", 5), ("plus_form", 6), ("times_form", 7), ("less_form", 8), ("over_form", 9), ("top_at", 10), ("form_value", 11), ("_law_bag", 12), ("_law_take", 13), ("_law_some", 14), ("_law_alike", 15), ("_law_row_value", 16), ("_law_gcd", 17), ("_law_gcd_of", 18), ("_law_drawn_top", 19), ("_law_lowest", 20), ("_law_joined", 21), ("law", 22)]
def G : List (Str × Nat) := []
def B : List Str := ["abs", "int", "len", "list", "min", "range", "repr", "sum", "tuple", "zip"]
/-- common -/
def N0 : List Str := ["one", "other"]
abbrev g0 : Ct := ⟨N0, defScope (top 1), fun _ => true, D, G, B, []⟩
def b0 : S :=
 (.seq (.whl (.cmp .ne (.var 1) (.cst (.int 0)))
  (.seq (.par [0, 1] (.cons (.var 1) (.cons (.bin .mod (.var 0) (.var 1)) .nil)))
  .skip))
 (.seq (.ret (.bi .abs (.cons (.var 0) .nil)))
 .skip))
theorem rd0 : (rdBody g0 (defBody (top 1))).map Subtype.val = some b0 := by kernel_rfl
theorem sc0 : FnScope N0 ["one", "other"] (defScope (top 1)) := ⟨rfl, rfl, rfl, by decide +kernel, rfl, by decide +kernel, by decide +kernel⟩
/-- common_of -/
def N1 : List Str := ["numbers", "found", "number"]
abbrev g1 : Ct := ⟨N1, defScope (top 2), fun _ => true, D, G, B, []⟩
def b1 : S :=
 (.seq (.set (.nm 1) (.cst (.int 0)))
 (.seq (.for (.nm 2) (.var 0)
  (.seq (.set (.nm 1) (.call 0 (.cons (.var 1) (.cons (.var 2) .nil))))
  .skip))
 (.seq (.ret (.var 1))
 .skip)))
theorem rd1 : (rdBody g1 (defBody (top 2))).map Subtype.val = some b1 := by kernel_rfl
theorem sc1 : FnScope N1 ["numbers"] (defScope (top 2)) := ⟨rfl, rfl, rfl, by decide +kernel, rfl, by decide +kernel, by decide +kernel⟩
/-- made_form -/
def N2 : List Str := ["under", "whole", "base", "parts", "part", "number"]
abbrev g2 : Ct := ⟨N2, defScope (top 3), fun _ => true, D, G, B, []⟩
def b2 : S :=
 (.seq (.set (.nm 4) (.call 1 (.cons (.bin .add (.tup (.cons (.var 0) (.cons (.var 1) (.cons (.var 2) .nil)))) (.bi .tuple (.cons (.var 3) .nil))) .nil)))
 (.seq (.ret (.tup (.cons (.bin .fdiv (.var 0) (.var 4)) (.cons (.bin .fdiv (.var 1) (.var 4)) (.cons (.bin .fdiv (.var 2) (.var 4)) (.cons (.bi .tuple (.cons (.comp false (.bin .fdiv (.var 5) (.var 4)) (.nm 5) (.var 3) (.cst (.bool true)) [5]) .nil)) .nil))))))
 .skip))
theorem rd2 : (rdBody g2 (defBody (top 3))).map Subtype.val = some b2 := by kernel_rfl
theorem sc2 : FnScope N2 ["under", "whole", "base", "parts"] (defScope (top 3)) := ⟨rfl, rfl, rfl, by decide +kernel, rfl, by decide +kernel, by decide +kernel⟩
/-- whole_form -/
def N3 : List Str := ["many", "whole"]
abbrev g3 : Ct := ⟨N3, defScope (top 4), fun _ => true, D, G, B, []⟩
def b3 : S :=
 (.seq (.ret (.tup (.cons (.cst (.int 1)) (.cons (.var 1) (.cons (.cst (.int 0)) (.cons (.bin .mul (.tup (.cons (.cst (.int 0)) .nil)) (.var 0)) .nil))))))
 .skip)
theorem rd3 : (rdBody g3 (defBody (top 4))).map Subtype.val = some b3 := by kernel_rfl
theorem sc3 : FnScope N3 ["many", "whole"] (defScope (top 4)) := ⟨rfl, rfl, rfl, by decide +kernel, rfl, by decide +kernel, by decide +kernel⟩
/-- base_form -/
def N4 : List Str := ["many", "often"]
abbrev g4 : Ct := ⟨N4, defScope (top 5), fun _ => true, D, G, B, []⟩
def b4 : S :=
 (.seq (.ret (.tup (.cons (.cst (.int 1)) (.cons (.cst (.int 0)) (.cons (.var 1) (.cons (.bin .mul (.tup (.cons (.cst (.int 0)) .nil)) (.var 0)) .nil))))))
 .skip)
theorem rd4 : (rdBody g4 (defBody (top 5))).map Subtype.val = some b4 := by kernel_rfl
theorem sc4 : FnScope N4 ["many", "often"] (defScope (top 5)) := ⟨rfl, rfl, rfl, by decide +kernel, rfl, by decide +kernel, by decide +kernel⟩
/-- digit_form -/
def N5 : List Str := ["many", "at", "k"]
abbrev g5 : Ct := ⟨N5, defScope (top 6), fun _ => true, D, G, B, []⟩
def b5 : S :=
 (.seq (.ret (.tup (.cons (.cst (.int 1)) (.cons (.cst (.int 0)) (.cons (.cst (.int 0)) (.cons (.bi .tuple (.cons (.comp false (.bi .int (.cons (.cmp .eq (.var 2) (.var 1)) .nil)) (.nm 2) (.rng (.cons (.var 0) .nil)) (.cst (.bool true)) [2]) .nil)) .nil))))))
 .skip)
theorem rd5 : (rdBody g5 (defBody (top 6))).map Subtype.val = some b5 := by kernel_rfl
theorem sc5 : FnScope N5 ["many", "at"] (defScope (top 6)) := ⟨rfl, rfl, rfl, by decide +kernel, rfl, by decide +kernel, by decide +kernel⟩
/-- plus_form -/
def N6 : List Str := ["one", "other", "under", "its", "parts", "mine", "theirs"]
abbrev g6 : Ct := ⟨N6, defScope (top 7), fun _ => true, D, G, B, []⟩
def b6 : S :=
 (.seq (.set (.tp [2, 3]) (.tup (.cons (.ix (.var 0) (.cst (.int 0))) (.cons (.ix (.var 1) (.cst (.int 0))) .nil))))
 (.seq (.set (.nm 4) (.comp false (.bin .add (.bin .mul (.var 3) (.var 5)) (.bin .mul (.var 2) (.var 6))) (.tp [5, 6]) (.zip (.ix (.var 0) (.cst (.int 3))) (.ix (.var 1) (.cst (.int 3)))) (.cst (.bool true)) [5, 6]))
 (.seq (.ret (.call 2 (.cons (.bin .mul (.var 2) (.var 3)) (.cons (.bin .add (.bin .mul (.var 3) (.ix (.var 0) (.cst (.int 1)))) (.bin .mul (.var 2) (.ix (.var 1) (.cst (.int 1))))) (.cons (.bin .add (.bin .mul (.var 3) (.ix (.var 0) (.cst (.int 2)))) (.bin .mul (.var 2) (.ix (.var 1) (.cst (.int 2))))) (.cons (.var 4) .nil))))))
 .skip)))
theorem rd6 : (rdBody g6 (defBody (top 7))).map Subtype.val = some b6 := by kernel_rfl
theorem sc6 : FnScope N6 ["one", "other"] (defScope (top 7)) := ⟨rfl, rfl, rfl, by decide +kernel, rfl, by decide +kernel, by decide +kernel⟩
/-- times_form -/
def N7 : List Str := ["number", "one", "part"]
abbrev g7 : Ct := ⟨N7, defScope (top 8), fun _ => true, D, G, B, []⟩
def b7 : S :=
 (.seq (.ret (.call 2 (.cons (.ix (.var 1) (.cst (.int 0))) (.cons (.bin .mul (.var 0) (.ix (.var 1) (.cst (.int 1)))) (.cons (.bin .mul (.var 0) (.ix (.var 1) (.cst (.int 2)))) (.cons (.comp false (.bin .mul (.var 0) (.var 2)) (.nm 2) (.ix (.var 1) (.cst (.int 3))) (.cst (.bool true)) [2]) .nil))))))
 .skip)
theorem rd7 : (rdBody g7 (defBody (top 8))).map Subtype.val = some b7 := by kernel_rfl
theorem sc7 : FnScope N7 ["number", "one"] (defScope (top 8)) := ⟨rfl, rfl, rfl, by decide +kernel, rfl, by decide +kernel, by decide +kernel⟩
/-- less_form -/
def N8 : List Str := ["one", "other"]
abbrev g8 : Ct := ⟨N8, defScope (top 9), fun _ => true, D, G, B, []⟩
def b8 : S :=
 (.seq (.ret (.call 6 (.cons (.var 0) (.cons (.call 7 (.cons (.bin .sub (.cst (.int 0)) (.cst (.int 1))) (.cons (.var 1) .nil))) .nil))))
 .skip)
theorem rd8 : (rdBody g8 (defBody (top 9))).map Subtype.val = some b8 := by kernel_rfl
theorem sc8 : FnScope N8 ["one", "other"] (defScope (top 9)) := ⟨rfl, rfl, rfl, by decide +kernel, rfl, by decide +kernel, by decide +kernel⟩
/-- over_form -/
def N9 : List Str := ["one", "number"]
abbrev g9 : Ct := ⟨N9, defScope (top 10), fun _ => true, D, G, B, []⟩
def b9 : S :=
 (.seq (.ret (.call 2 (.cons (.bin .mul (.ix (.var 0) (.cst (.int 0))) (.var 1)) (.cons (.ix (.var 0) (.cst (.int 1))) (.cons (.ix (.var 0) (.cst (.int 2))) (.cons (.ix (.var 0) (.cst (.int 3))) .nil))))))
 .skip)
theorem rd9 : (rdBody g9 (defBody (top 10))).map Subtype.val = some b9 := by kernel_rfl
theorem sc9 : FnScope N9 ["one", "number"] (defScope (top 10)) := ⟨rfl, rfl, rfl, by decide +kernel, rfl, by decide +kernel, by decide +kernel⟩
/-- top_at -/
def N10 : List Str := ["row", "base", "digits", "part", "digit"]
abbrev g10 : Ct := ⟨N10, defScope (top 11), fun _ => true, D, G, B, []⟩
def b10 : S :=
 (.seq (.ret (.bin .add (.bin .add (.ix (.var 0) (.cst (.int 0))) (.bin .mul (.ix (.var 0) (.cst (.int 1))) (.var 1))) (.bi .sum (.cons (.comp false (.bin .mul (.var 3) (.var 4)) (.tp [3, 4]) (.zip (.ix (.var 0) (.cst (.int 2))) (.var 2)) (.cst (.bool true)) [3, 4]) .nil))))
 .skip)
theorem rd10 : (rdBody g10 (defBody (top 11))).map Subtype.val = some b10 := by kernel_rfl
theorem sc10 : FnScope N10 ["row", "base", "digits"] (defScope (top 11)) := ⟨rfl, rfl, rfl, by decide +kernel, rfl, by decide +kernel, by decide +kernel⟩
/-- form_value -/
def N11 : List Str := ["one", "base", "digits", "top"]
abbrev g11 : Ct := ⟨N11, defScope (top 12), fun _ => true, D, G, B, []⟩
def b11 : S :=
 (.seq (.set (.nm 3) (.call 10 (.cons (.sl (.var 0) (.cst (.int 1)) .nil) (.cons (.var 1) (.cons (.var 2) .nil)))))
 (.seq (.ret (.ife (.cmp .eq (.bin .mod (.var 3) (.ix (.var 0) (.cst (.int 0)))) (.cst (.int 0))) (.bin .fdiv (.var 3) (.ix (.var 0) (.cst (.int 0)))) (.cst .none)))
 .skip))
theorem rd11 : (rdBody g11 (defBody (top 12))).map Subtype.val = some b11 := by kernel_rfl
theorem sc11 : FnScope N11 ["one", "base", "digits"] (defScope (top 12)) := ⟨rfl, rfl, rfl, by decide +kernel, rfl, by decide +kernel, by decide +kernel⟩
/-- _law_bag -/
def N12 : List Str := ["script", "cell"]
abbrev g12 : Ct := ⟨N12, defScope (top 14), fun _ => true, D, G, B, [(37, 11)]⟩
def b12 : S :=
 (.seq (.ret (.newl (.cons (.cst (.int 0)) (.cons (.cst (.int 1234567891)) (.cons (.cst (.int 0)) (.cons (.comp false (.bi .abs (.cons (.var 1) .nil)) (.nm 1) (.sl (.var 0) .nil (.cst (.int 63))) (.cst (.bool true)) [1]) .nil))))))
 .skip)
theorem rd12 : (rdBody g12 (defBody (top 14))).map Subtype.val = some b12 := by kernel_rfl
theorem sc12 : FnScope N12 ["script"] (defScope (top 14)) := ⟨rfl, rfl, rfl, by decide +kernel, rfl, by decide +kernel, by decide +kernel⟩
/-- _law_take -/
def N13 : List Str := ["bag", "many", "cell", "stirred", "drawn", "begin", "second"]
abbrev g13 : Ct := ⟨N13, defScope (top 15), fun _ => true, D, G, B, []⟩
def b13 : S :=
 (.seq (.ifs (.cmp .eq (.ix (.var 0) (.cst (.int 0))) (.cst (.int 0)))
  (.seq (.set (.nm 2) (.ix (.bin .add (.sl (.ix (.var 0) (.cst (.int 3))) (.ix (.var 0) (.cst (.int 2))) .nil) (.lst (.cons (.cst (.int 0)) .nil))) (.cst (.int 0))))
  (.seq (.augi (.var 0) (.cst (.int 2)) .add (.cst (.int 1)))
  (.seq (.ifs (.cmp .ge (.var 2) (.bin .pow (.cst (.int 10)) (.cst (.int 18))))
   (.seq (.seti (.var 0) (.cst (.int 0)) (.var 2))
   .skip)
   .skip)
  (.seq (.set (.nm 3) (.bin .add (.bin .add (.bin .mul (.ix (.var 0) (.cst (.int 1))) (.cst (.int 48271))) (.bin .mod (.bi .int (.cons (.var 2) .nil)) (.cst (.int 2147483647)))) (.bin .mul (.cst (.int 7919)) (.ix (.var 0) (.cst (.int 2))))))
  (.seq (.seti (.var 0) (.cst (.int 1)) (.bin .mod (.bi .int (.cons (.var 3) .nil)) (.cst (.int 2147483647))))
  .skip)))))
  .skip)
 (.seq (.ifs (.cmp .gt (.ix (.var 0) (.cst (.int 0))) (.cst (.int 0)))
  (.seq (.set (.nm 4) (.bin .mod (.bi .int (.cons (.ix (.var 0) (.cst (.int 0))) .nil)) (.var 1)))
  (.seq (.seti (.var 0) (.cst (.int 0)) (.bin .fdiv (.bi .int (.cons (.ix (.var 0) (.cst (.int 0))) .nil)) (.var 1)))
  (.seq (.ret (.var 4))
  .skip)))
  .skip)
 (.seq (.set (.nm 5) (.bin .mod (.bi .int (.cons (.bin .mul (.bin .add (.ix (.var 0) (.cst (.int 1))) (.cst (.int 1))) (.cst (.int 39373))) .nil)) (.cst (.int 1000000007))))
 (.seq (.set (.nm 6) (.bin .mod (.bi .int (.cons (.bin .mul (.bin .mod (.bi .int (.cons (.bin .mul (.var 5) (.var 5)) .nil)) (.cst (.int 998244353))) (.cst (.int 30011))) .nil)) (.cst (.int 998244353))))
 (.seq (.ret (.bin .mod (.bi .int (.cons (.bin .fdiv (.var 6) (.cst (.int 7))) .nil)) (.var 1)))
 .skip)))))
theorem rd13 : (rdBody g13 (defBody (top 15))).map Subtype.val = some b13 := by kernel_rfl
theorem sc13 : FnScope N13 ["bag", "many"] (defScope (top 15)) := ⟨rfl, rfl, rfl, by decide +kernel, rfl, by decide +kernel, by decide +kernel⟩
/-- _law_some -/
def N14 : List Str := ["bag", "things"]
abbrev g14 : Ct := ⟨N14, defScope (top 16), fun _ => true, D, G, B, []⟩
def b14 : S :=
 (.seq (.ret (.ix (.var 1) (.call 13 (.cons (.var 0) (.cons (.bi .len (.cons (.var 1) .nil)) .nil)))))
 .skip)
theorem rd14 : (rdBody g14 (defBody (top 16))).map Subtype.val = some b14 := by kernel_rfl
theorem sc14 : FnScope N14 ["bag", "things"] (defScope (top 16)) := ⟨rfl, rfl, rfl, by decide +kernel, rfl, by decide +kernel, by decide +kernel⟩
/-- _law_alike -/
def N15 : List Str := ["found", "due"]
abbrev g15 : Ct := ⟨N15, defScope (top 17), fun _ => true, D, G, B, []⟩
def b15 : S :=
 (.seq (.ret (.and (.cmp .eq (.bi .repr (.cons (.var 0) .nil)) (.bi .repr (.cons (.var 1) .nil))) (.cmp .eq (.var 0) (.var 1))))
 .skip)
theorem rd15 : (rdBody g15 (defBody (top 17))).map Subtype.val = some b15 := by kernel_rfl
theorem sc15 : FnScope N15 ["found", "due"] (defScope (top 17)) := ⟨rfl, rfl, rfl, by decide +kernel, rfl, by decide +kernel, by decide +kernel⟩
/-- _law_row_value -/
def N16 : List Str := ["row", "base", "digits", "part", "digit"]
abbrev g16 : Ct := ⟨N16, defScope (top 18), fun _ => true, D, G, B, []⟩
def b16 : S :=
 (.seq (.ret (.bin .add (.bin .add (.ix (.var 0) (.cst (.int 0))) (.bin .mul (.ix (.var 0) (.cst (.int 1))) (.var 1))) (.bi .sum (.cons (.comp false (.bin .mul (.var 3) (.var 4)) (.tp [3, 4]) (.zip (.ix (.var 0) (.cst (.int 2))) (.var 2)) (.cst (.bool true)) [3, 4]) .nil))))
 .skip)
theorem rd16 : (rdBody g16 (defBody (top 18))).map Subtype.val = some b16 := by kernel_rfl
theorem sc16 : FnScope N16 ["row", "base", "digits"] (defScope (top 18)) := ⟨rfl, rfl, rfl, by decide +kernel, rfl, by decide +kernel, by decide +kernel⟩
/-- _law_gcd -/
def N17 : List Str := ["a", "b"]
abbrev g17 : Ct := ⟨N17, defScope (top 19), fun _ => true, D, G, B, []⟩
def b17 : S :=
 (.seq (.par [0, 1] (.cons (.bi .abs (.cons (.var 0) .nil)) (.cons (.bi .abs (.cons (.var 1) .nil)) .nil)))
 (.seq (.whl (.cmp .ne (.var 1) (.cst (.int 0)))
  (.seq (.par [0, 1] (.cons (.var 1) (.cons (.bin .mod (.var 0) (.var 1)) .nil)))
  .skip))
 (.seq (.ret (.var 0))
 .skip)))
theorem rd17 : (rdBody g17 (defBody (top 19))).map Subtype.val = some b17 := by kernel_rfl
theorem sc17 : FnScope N17 ["a", "b"] (defScope (top 19)) := ⟨rfl, rfl, rfl, by decide +kernel, rfl, by decide +kernel, by decide +kernel⟩
/-- _law_gcd_of -/
def N18 : List Str := ["numbers", "found", "number"]
abbrev g18 : Ct := ⟨N18, defScope (top 20), fun _ => true, D, G, B, []⟩
def b18 : S :=
 (.seq (.set (.nm 1) (.cst (.int 0)))
 (.seq (.for (.nm 2) (.var 0)
  (.seq (.set (.nm 1) (.call 17 (.cons (.var 1) (.cons (.var 2) .nil))))
  .skip))
 (.seq (.ret (.var 1))
 .skip)))
theorem rd18 : (rdBody g18 (defBody (top 20))).map Subtype.val = some b18 := by kernel_rfl
theorem sc18 : FnScope N18 ["numbers"] (defScope (top 20)) := ⟨rfl, rfl, rfl, by decide +kernel, rfl, by decide +kernel, by decide +kernel⟩
/-- _law_drawn_top -/
def N19 : List Str := ["bag", "many", "k"]
abbrev g19 : Ct := ⟨N19, defScope (top 21), fun _ => true, D, G, B, []⟩
def b19 : S :=
 (.seq (.ret (.tup (.cons (.bin .add (.cst (.int 1)) (.call 13 (.cons (.var 0) (.cons (.cst (.int 6)) .nil)))) (.cons (.bin .sub (.call 13 (.cons (.var 0) (.cons (.cst (.int 25)) .nil))) (.cst (.int 12))) (.cons (.bin .sub (.call 13 (.cons (.var 0) (.cons (.cst (.int 9)) .nil))) (.cst (.int 4))) (.cons (.bi .tuple (.cons (.comp false (.bin .sub (.call 13 (.cons (.var 0) (.cons (.cst (.int 9)) .nil))) (.cst (.int 4))) (.nm 2) (.rng (.cons (.var 1) .nil)) (.cst (.bool true)) [2]) .nil)) .nil))))))
 .skip)
theorem rd19 : (rdBody g19 (defBody (top 21))).map Subtype.val = some b19 := by kernel_rfl
theorem sc19 : FnScope N19 ["bag", "many"] (defScope (top 21)) := ⟨rfl, rfl, rfl, by decide +kernel, rfl, by decide +kernel, by decide +kernel⟩
/-- _law_lowest -/
def N20 : List Str := ["one", "under", "whole", "base", "parts", "g", "part"]
abbrev g20 : Ct := ⟨N20, defScope (top 22), fun _ => true, D, G, B, []⟩
def b20 : S :=
 (.seq (.set (.tp [1, 2, 3, 4]) (.var 0))
 (.seq (.set (.nm 5) (.call 18 (.cons (.bin .add (.lst (.cons (.var 1) (.cons (.var 2) (.cons (.var 3) .nil)))) (.bi .list (.cons (.var 4) .nil))) .nil)))
 (.seq (.ret (.tup (.cons (.bin .fdiv (.var 1) (.var 5)) (.cons (.bin .fdiv (.var 2) (.var 5)) (.cons (.bin .fdiv (.var 3) (.var 5)) (.cons (.bi .tuple (.cons (.comp false (.bin .fdiv (.var 6) (.var 5)) (.nm 6) (.var 4) (.cst (.bool true)) [6]) .nil)) .nil))))))
 .skip)))
theorem rd20 : (rdBody g20 (defBody (top 22))).map Subtype.val = some b20 := by kernel_rfl
theorem sc20 : FnScope N20 ["one"] (defScope (top 22)) := ⟨rfl, rfl, rfl, by decide +kernel, rfl, by decide +kernel, by decide +kernel⟩
/-- _law_joined -/
def N21 : List Str := ["often", "one", "times", "other", "under", "its", "parts", "x", "y"]
abbrev g21 : Ct := ⟨N21, defScope (top 23), fun _ => true, D, G, B, []⟩
def b21 : S :=
 (.seq (.set (.tp [4, 5]) (.tup (.cons (.ix (.var 1) (.cst (.int 0))) (.cons (.ix (.var 3) (.cst (.int 0))) .nil))))
 (.seq (.set (.nm 6) (.bi .tuple (.cons (.comp false (.bin .add (.bin .mul (.bin .mul (.var 0) (.var 5)) (.var 7)) (.bin .mul (.bin .mul (.var 2) (.var 4)) (.var 8))) (.tp [7, 8]) (.zip (.ix (.var 1) (.cst (.int 3))) (.ix (.var 3) (.cst (.int 3)))) (.cst (.bool true)) [7, 8]) .nil)))
 (.seq (.ret (.call 20 (.cons (.tup (.cons (.bin .mul (.var 4) (.var 5)) (.cons (.bin .add (.bin .mul (.bin .mul (.var 0) (.var 5)) (.ix (.var 1) (.cst (.int 1)))) (.bin .mul (.bin .mul (.var 2) (.var 4)) (.ix (.var 3) (.cst (.int 1))))) (.cons (.bin .add (.bin .mul (.bin .mul (.var 0) (.var 5)) (.ix (.var 1) (.cst (.int 2)))) (.bin .mul (.bin .mul (.var 2) (.var 4)) (.ix (.var 3) (.cst (.int 2))))) (.cons (.var 6) .nil))))) .nil)))
 .skip)))
theorem rd21 : (rdBody g21 (defBody (top 23))).map Subtype.val = some b21 := by kernel_rfl
theorem sc21 : FnScope N21 ["often", "one", "times", "other"] (defScope (top 23)) := ⟨rfl, rfl, rfl, by decide +kernel, rfl, by decide +kernel, by decide +kernel⟩
/-- law -/
def N22 : List Str := ["script", "bag", "lap", "many", "one", "other", "k", "raw", "n", "made", "due", "zeros", "at", "turn", "base", "digits", "its", "top"]
abbrev g22 : Ct := ⟨N22, defScope (top 24), fun _ => true, D, G, B, []⟩
def b22 : S :=
 (.seq (.set (.nm 1) (.call 12 (.cons (.var 0) .nil)))
 (.seq (.for (.nm 2) (.rng (.cons (.cst (.int 8)) .nil))
  (.seq (.set (.nm 3) (.call 13 (.cons (.var 1) (.cons (.cst (.int 4)) .nil))))
  (.seq (.set (.tp [4, 5]) (.comp false (.call 20 (.cons (.call 19 (.cons (.var 1) (.cons (.var 3) .nil))) .nil)) (.nm 6) (.rng (.cons (.cst (.int 2)) .nil)) (.cst (.bool true)) [6]))
  (.seq (.par [7, 8] (.cons (.call 19 (.cons (.var 1) (.cons (.var 3) .nil))) (.cons (.bin .sub (.call 13 (.cons (.var 1) (.cons (.cst (.int 9)) .nil))) (.cst (.int 4))) .nil)))
  (.seq (.set (.nm 9) (.lst (.cons (.call 2 (.cons (.ix (.var 7) (.cst (.int 0))) (.cons (.ix (.var 7) (.cst (.int 1))) (.cons (.ix (.var 7) (.cst (.int 2))) (.cons (.ix (.var 7) (.cst (.int 3))) .nil))))) (.cons (.call 6 (.cons (.var 4) (.cons (.var 5) .nil))) (.cons (.call 8 (.cons (.var 4) (.cons (.var 5) .nil))) (.cons (.call 7 (.cons (.var 8) (.cons (.var 4) .nil))) (.cons (.call 9 (.cons (.var 4) (.cons (.bin .add (.bi .abs (.cons (.var 8) .nil)) (.cst (.int 1))) .nil))) .nil)))))))
  (.seq (.set (.nm 10) (.lst (.cons (.call 20 (.cons (.var 7) .nil)) (.cons (.call 21 (.cons (.cst (.int 1)) (.cons (.var 4) (.cons (.cst (.int 1)) (.cons (.var 5) .nil))))) (.cons (.call 21 (.cons (.cst (.int 1)) (.cons (.var 4) (.cons (.neg (.cst (.int 1))) (.cons (.var 5) .nil))))) (.cons (.call 21 (.cons (.var 8) (.cons (.var 4) (.cons (.cst (.int 0)) (.cons (.var 4) .nil))))) (.cons (.call 20 (.cons (.bin .add (.tup (.cons (.bin .mul (.ix (.var 4) (.cst (.int 0))) (.bin .add (.bi .abs (.cons (.var 8) .nil)) (.cst (.int 1)))) .nil)) (.sl (.var 4) (.cst (.int 1)) .nil)) .nil)) .nil)))))))
  (.seq (.ifs (.not (.call 15 (.cons (.var 9) (.cons (.var 10) .nil))))
   (.seq (.ret (.cst (.bool false)))
   .skip)
   .skip)
  (.seq (.set (.nm 11) (.bin .mul (.tup (.cons (.cst (.int 0)) .nil)) (.var 3)))
  (.seq (.ifs (.not (.call 15 (.cons (.lst (.cons (.call 3 (.cons (.var 3) (.cons (.var 8) .nil))) (.cons (.call 4 (.cons (.var 3) (.cons (.var 8) .nil))) .nil))) (.cons (.lst (.cons (.tup (.cons (.cst (.int 1)) (.cons (.var 8) (.cons (.cst (.int 0)) (.cons (.var 11) .nil))))) (.cons (.tup (.cons (.cst (.int 1)) (.cons (.cst (.int 0)) (.cons (.var 8) (.cons (.var 11) .nil))))) .nil))) .nil))))
   (.seq (.ret (.cst (.bool false)))
   .skip)
   .skip)
  (.seq (.ifs (.cmp .gt (.var 3) (.cst (.int 0)))
   (.seq (.set (.nm 12) (.call 13 (.cons (.var 1) (.cons (.var 3) .nil))))
   (.seq (.ifs (.not (.call 15 (.cons (.call 5 (.cons (.var 3) (.cons (.var 12) .nil))) (.cons (.tup (.cons (.cst (.int 1)) (.cons (.cst (.int 0)) (.cons (.cst (.int 0)) (.cons (.bin .add (.bin .add (.sl (.var 11) .nil (.var 12)) (.tup (.cons (.cst (.int 1)) .nil))) (.sl (.var 11) (.bin .add (.var 12) (.cst (.int 1))) .nil)) .nil))))) .nil))))
    (.seq (.ret (.cst (.bool false)))
    .skip)
    .skip)
   .skip))
   .skip)
  (.seq (.for (.nm 13) (.rng (.cons (.cst (.int 6)) .nil))
   (.seq (.set (.nm 14) (.call 14 (.cons (.var 1) (.cons (.lst (.cons (.cst (.int 2)) (.cons (.cst (.int 3)) (.cons (.cst (.int 7)) (.cons (.cst (.int 10)) (.cons (.bin .pow (.cst (.int 10)) (.cst (.int 20))) .nil)))))) .nil))))
   (.seq (.set (.nm 15) (.bi .tuple (.cons (.comp false (.call 13 (.cons (.var 1) (.cons (.bi .min (.cons (.var 14) (.cons (.cst (.int 1000)) .nil))) .nil))) (.nm 6) (.rng (.cons (.var 3) .nil)) (.cst (.bool true)) [6]) .nil)))
   (.seq (.for (.nm 16) (.var 9)
    (.seq (.set (.nm 17) (.call 16 (.cons (.sl (.var 16) (.cst (.int 1)) .nil) (.cons (.var 14) (.cons (.var 15) .nil)))))
    (.seq (.ifs (.not (.call 15 (.cons (.call 11 (.cons (.var 16) (.cons (.var 14) (.cons (.var 15) .nil)))) (.cons (.ife (.cmp .eq (.bin .mod (.var 17) (.ix (.var 16) (.cst (.int 0)))) (.cst (.int 0))) (.bin .fdiv (.var 17) (.ix (.var 16) (.cst (.int 0)))) (.cst .none)) .nil))))
     (.seq (.ret (.cst (.bool false)))
     .skip)
     .skip)
    .skip)))
   .skip))))
  .skip)))))))))))
 (.seq (.ret (.cst (.bool true)))
 .skip)))
theorem rd22 : (rdBody g22 (defBody (top 24))).map Subtype.val = some b22 := by kernel_rfl
theorem sc22 : FnScope N22 ["script"] (defScope (top 24)) := ⟨rfl, rfl, rfl, by decide +kernel, rfl, by decide +kernel, by decide +kernel⟩
def P : Pg := ⟨[⟨2, 2, b0⟩, ⟨1, 3, b1⟩, ⟨4, 6, b2⟩, ⟨2, 2, b3⟩, ⟨2, 2, b4⟩, ⟨2, 3, b5⟩, ⟨2, 7, b6⟩, ⟨2, 3, b7⟩, ⟨2, 2, b8⟩, ⟨2, 2, b9⟩, ⟨3, 5, b10⟩, ⟨3, 4, b11⟩, ⟨1, 2, b12⟩, ⟨2, 7, b13⟩, ⟨2, 2, b14⟩, ⟨2, 2, b15⟩, ⟨3, 5, b16⟩, ⟨2, 2, b17⟩, ⟨1, 3, b18⟩, ⟨2, 3, b19⟩, ⟨1, 7, b20⟩, ⟨4, 9, b21⟩, ⟨1, 18, b22⟩], [], fun _ _ => false⟩
end K10

set_option Elab.async false
set_option linter.all false
set_option maxRecDepth 100000
set_option maxHeartbeats 2000000
/-! k10: the plain law -/
namespace K10
open PySem Mini
def i2 (p : Int × Int) : En := [some (.d (.int p.1)), some (.d (.int p.2))]
theorem gcd_mod (a b : Int) : Int.gcd b (a.fmod b) = Int.gcd a b := by
  have h := Int.fmod_def a b
  refine Nat.dvd_antisymm (Int.dvd_gcd ?_ (Int.gcd_dvd_left ..)) (Int.dvd_gcd (Int.gcd_dvd_right ..) ?_)
  · have e : a = a.fmod b + b * a.fdiv b := by omega
    have := Int.dvd_add (Int.gcd_dvd_right b (a.fmod b)) (Int.dvd_mul_of_dvd_left (c := a.fdiv b) (Int.gcd_dvd_left b (a.fmod b)))
    rwa [← e] at this
  · rw [h]
    exact Int.dvd_sub (Int.gcd_dvd_left ..) (Int.dvd_mul_of_dvd_left (Int.gcd_dvd_right ..))
theorem fmod_lt (a b : Int) (h : b ≠ 0) : (a.fmod b).natAbs < b.natAbs := by
  have pos : ∀ a b : Int, 0 < b → (a.fmod b).natAbs < b.natAbs := fun a b h => by
    have h2 := Int.fmod_nonneg_of_pos a h
    have h3 := Int.fmod_lt_of_pos a h
    omega
  rcases Int.lt_trichotomy b 0 with h1 | h1 | h1
  · have e := Int.neg_fmod_neg (-a) (-b)
    rw [Int.neg_neg, Int.neg_neg] at e
    have := pos (-a) (-b) (by omega)
    rw [e]
    omega
  · exact absurd h1 h
  · exact pos a b h1
theorem while_ok {F : Fs} {a b : Int} {s : Sto} (hb : b.natAbs < 1000000000) : ∃ z, evS F (.whl (.cmp .ne (.var 1) (.cst (.int 0))) (.seq (.par [0, 1] (.cons (.var 1) (.cons (.bin .mod (.var 0) (.var 1)) .nil))) .skip)) (i2 (a, b)) s = .nx (i2 (z, 0)) s ∧ z.natAbs = Int.gcd a b ∧ (0 ≤ a → 0 ≤ b → 0 ≤ z) := by
  obtain ⟨z, e, h1, h2⟩ := whl_run (c := fun v s => tst (evE F.fe (.cmp .ne (.var 1) (.cst (.int 0))) v s)) (f := evS F (.seq (.par [0, 1] (.cons (.var 1) (.cons (.bin .mod (.var 0) (.var 1)) .nil))) .skip)) (s := s) i2 (fun p => p.2.natAbs) (fun p => !decide (p.2 = 0)) (fun p => (p.2, p.1.fmod p.2))
    (fun p => Int.gcd p.1 p.2 = Int.gcd a b ∧ (0 ≤ a → 0 ≤ b → 0 ≤ p.1 ∧ 0 ≤ p.2))
    (fun p _ => rfl) (fun p ⟨hp, hq⟩ hg => by
      have h0 : p.2 ≠ 0 := by simpa using hg
      refine ⟨?_, fmod_lt _ _ h0, by rw [gcd_mod]; exact hp, fun h1 h2 => ⟨(hq h1 h2).2, ?_⟩⟩
      · simp only [evS, evL, evE, bin2R, un1R, biR, mkR, ixR, cmpR, chainR, slR, methR, zipR, rngR, compR, Rs.bind_ok, Rs.out_ok, Rs.of_some, Out.of_some, Out.ofS_some, Out.nx_then, Out.ret_then, Out.brk_then, Out.cnt_then, view_d, tst_ok, putT, datas, pures, Option.bind_some, Option.map_some, call_cx, i2, List.getElem?_cons_zero, List.getElem?_cons_succ, mod_ok h0]
        rfl
      · exact Int.fmod_nonneg_of_pos _ (by have := (hq h1 h2).2; omega)) TURNS (a, b) (Nat.lt_trans hb (by decide)) ⟨rfl, fun h1 h2 => ⟨h1, h2⟩⟩
  obtain ⟨z1, z2⟩ := z
  have hz : z2 = 0 := by simpa using h1
  subst hz
  exact ⟨z1, e, by rw [← h2.1, Int.gcd_zero_right], fun h3 h4 => (h2.2 h3 h4).1⟩
theorem abs_eq (z : Int) : (if z < 0 then -z else z) = (z.natAbs : Int) := by split <;> omega
theorem common_ok {k : Nat} {a b : Int} {s : Sto} (hb : b.natAbs < 1000000000) : runF P (k + 1) 0 [.d (.int a), .d (.int b)] s = .ok (.d (.int (Int.gcd a b))) s := by
  rw [run_eq (fn := ⟨2, 2, b0⟩) rfl rfl]
  obtain ⟨z, e, h, _⟩ := while_ok (F := cx P k) (a := a) (b := b) (s := s) hb
  have e2 : evS (cx P k) b0 (startE ⟨2, 2, b0⟩ [.d (.int a), .d (.int b)]) s = .ret (.d (.int (Int.gcd a b))) s := by
    unfold b0
    rw [evS]
    show Out.andThen (evS _ _ (i2 (a, b)) s) _ = _
    rw [e]
    show Out.ret (.d (.int (if z < 0 then -z else z))) s = _
    rw [abs_eq, h]
  simp only [e2, fin_ret, back_same]
theorem gcd_ok {k : Nat} {a b : Int} {s : Sto} (hb : b.natAbs < 1000000000) : runF P (k + 1) 17 [.d (.int a), .d (.int b)] s = .ok (.d (.int (Int.gcd a b))) s := by
  rw [run_eq (fn := ⟨2, 2, b17⟩) rfl rfl]
  obtain ⟨z, e, h, h0⟩ := while_ok (F := cx P k) (a := (a.natAbs : Int)) (b := (b.natAbs : Int)) (s := s) (by simpa using hb)
  have h0 := h0 (by omega) (by omega)
  have e2 : evS (cx P k) b17 (startE ⟨2, 2, b17⟩ [.d (.int a), .d (.int b)]) s = .ret (.d (.int (Int.gcd a b))) s := by
    unfold b17
    rw [evS]
    show Out.andThen (Out.nx [some (.d (.int (if a < 0 then -a else a))), some (.d (.int (if b < 0 then -b else b)))] s) _ = _
    rw [abs_eq, abs_eq]
    rw [Out.nx_then, evS]
    show Out.andThen (evS _ _ (i2 ((a.natAbs : Int), (b.natAbs : Int))) s) _ = _
    rw [e]
    show Out.ret (.d (.int z)) s = _
    have : z = (Int.gcd a b : Int) := by
      have e3 : Int.gcd (a.natAbs : Int) (b.natAbs : Int) = Int.gcd a b := by simp [Int.gcd_eq_natAbs_gcd_natAbs]
      omega
    rw [this]
  simp only [e2, fin_ret, back_same]
/-- the greatest common part of a row -/
def gl (l : List Int) : Nat := l.foldl (fun g x => Int.gcd (g : Int) x) 0
theorem gl_snoc (l : List Int) (x : Int) : gl (l ++ [x]) = Int.gcd (gl l : Int) x := by simp [gl]
def e3 (ns : List Int) (p : Int × Option PD) : En := [some (.d (.tuple (ns.map .int))), some (.d (.int p.1)), p.2.map W.d]
def e4 (ns : List Int) (p : Int × Option PD) : En := [some (.d (.list (ns.map .int))), some (.d (.int p.1)), p.2.map W.d]
theorem fold_ok {f : PD → En → Sto → Out} {s : Sto} {E : Int × Option PD → En} : ∀ (l : List Int) (g : Nat) (o : Option PD), (∀ (g : Nat) o (x : Int), x ∈ l → f (.int x) (E ((g : Int), o)) s = .nx (E ((Int.gcd g x : Int), some (.int x))) s) →
    ∃ o', forL (kept []) f (l.map .int) (E ((g : Int), o)) s = .nx (E (((l.foldl (fun g x => Int.gcd (g : Int) x) g : Nat) : Int), o')) s
  | [], g, o, _ => ⟨o, rfl⟩
  | x :: l, g, o, h => by
    obtain ⟨o', e⟩ := fold_ok l (Int.gcd g x) (some (.int x)) fun g o y hy => h g o y (List.mem_cons_of_mem _ hy)
    refine ⟨o', ?_⟩
    rw [List.map_cons]
    unfold forL
    rw [if_pos (show kept [] s = true from rfl), h g o x List.mem_cons_self]
    exact e
theorem commonOf_ok {k : Nat} {ns : List Int} {s : Sto} (hb : ∀ x ∈ ns, x.natAbs < 1000000000) : runF P (k + 2) 1 [.d (.tuple (ns.map .int))] s = .ok (.d (.int (gl ns))) s := by
  rw [run_eq (fn := ⟨1, 3, b1⟩) rfl rfl]
  obtain ⟨o', e⟩ := fold_ok (f := turnS (.nm 2) (evS (cx P (k + 1)) (.seq (.set (.nm 1) (.call 0 (.cons (.var 1) (.cons (.var 2) .nil)))) .skip))) (s := s) (E := e3 ns) ns 0 none fun g o x hx => by
    rw [turnS_of (v' := e3 ns ((g : Int), some (.int x))) rfl]
    show Out.andThen (Rs.out (runF P (k + 1) 0 [.d (.int g), .d (.int x)] s) _ _) _ = _
    rw [common_ok (hb x hx)]
    rfl
  have e2 : evS (cx P (k + 1)) b1 (startE ⟨1, 3, b1⟩ [.d (.tuple (ns.map .int))]) s = .ret (.d (.int (gl ns))) s := by
    unfold b1
    show Out.andThen (forL (kept []) _ (ns.map PyData.int) (e3 ns (0, none)) s) _ = _
    rw [show ((0 : Int), (none : Option PD)) = (((0 : Nat) : Int), none) from rfl, e]
    rfl
  simp only [e2, fin_ret, back_same]
theorem gcdOf_ok {k : Nat} {ns : List Int} {s : Sto} (hb : ∀ x ∈ ns, x.natAbs < 1000000000) : runF P (k + 2) 18 [.d (.list (ns.map .int))] s = .ok (.d (.int (gl ns))) s := by
  rw [run_eq (fn := ⟨1, 3, b18⟩) rfl rfl]
  obtain ⟨o', e⟩ := fold_ok (f := turnS (.nm 2) (evS (cx P (k + 1)) (.seq (.set (.nm 1) (.call 17 (.cons (.var 1) (.cons (.var 2) .nil)))) .skip))) (s := s) (E := e4 ns) ns 0 none fun g o x hx => by
    rw [turnS_of (v' := e4 ns ((g : Int), some (.int x))) rfl]
    show Out.andThen (Rs.out (runF P (k + 1) 17 [.d (.int g), .d (.int x)] s) _ _) _ = _
    rw [gcd_ok (hb x hx)]
    rfl
  have e2 : evS (cx P (k + 1)) b18 (startE ⟨1, 3, b18⟩ [.d (.list (ns.map .int))]) s = .ret (.d (.int (gl ns))) s := by
    unfold b18
    show Out.andThen (forL (kept []) _ (ns.map PyData.int) (e4 ns (0, none)) s) _ = _
    rw [show ((0 : Int), (none : Option PD)) = (((0 : Nat) : Int), none) from rfl, e]
    rfl
  simp only [e2, fin_ret, back_same]
def F4 (u w b : Int) (ps : List Int) : PD := .tuple [.int u, .int w, .int b, .tuple (ps.map .int)]
/-- in its least form -/
def low (u w b : Int) (ps : List Int) : PD :=
  let g : Int := gl (u :: w :: b :: ps)
  F4 (u / g) (w / g) (b / g) (ps.map (· / g))
theorem gl_pos {u : Int} (l : List Int) (h : 0 < u) : 0 < gl (u :: l) := by
  have step : ∀ (l : List Int) (g : Nat), 0 < g → 0 < l.foldl (fun g x => Int.gcd (g : Int) x) g := fun l => by
    induction l with
    | nil => exact fun g h => h
    | cons x l ih => exact fun g h => ih _ (Int.gcd_pos_of_ne_zero_left _ (by omega))
  exact step l _ (Int.gcd_pos_of_ne_zero_right _ (by omega))
theorem gl_small {u : Int} (l : List Int) (h : 0 < u) (hs : Sm u) : Sm (gl (u :: l)) := by
  have step : ∀ (l : List Int) (g : Nat), 0 < g → l.foldl (fun g x => Int.gcd (g : Int) x) g ≤ g := fun l => by
    induction l with
    | nil => exact fun g h => Nat.le_refl _
    | cons x l ih => exact fun g h => Nat.le_trans (ih _ (Int.gcd_pos_of_ne_zero_left _ (by omega))) (Nat.le_of_dvd h (by simpa using Int.gcd_dvd_natAbs_left (g : Int) x))
  have e : Int.gcd ((0 : Nat) : Int) u = u.natAbs := by simp
  have := step l (Int.gcd ((0 : Nat) : Int) u) (by omega)
  unfold Sm at *
  show (gl (u :: l) : Int).natAbs < _
  have e2 : gl (u :: l) = l.foldl (fun g x => Int.gcd (g : Int) x) (Int.gcd ((0 : Nat) : Int) u) := rfl
  omega
theorem divs_ok {F : Fs} {i j : Nat} {v : En} {s : Sto} {ps : List Int} {g : Int} (hg : 0 < g) (hs : Sm g) (hl : ps.length ≤ LIM) (h : ∀ x : PD, ∃ v', putT (.nm i) (.d x) s (wipeE v [i]) = some v' ∧ v'[i]? = some (some (.d x)) ∧ v'[j]? = some (some (.d (.int g)))) :
    compL (kept []) (turnC (.nm i) (wipeE v [i]) (evE F.fe (.cst (.bool true))) (evE F.fe (.bin .fdiv (.var i) (.var j)))) (ps.map .int) s = .ok (ps.map fun p => .int (p / g)) s := by
  have := compL_map (f := turnC (.nm i) (wipeE v [i]) (evE F.fe (.cst (.bool true))) (evE F.fe (.bin .fdiv (.var i) (.var j)))) (s := s) (fun x => match x with | .int p => .int (p / g) | x => x) (kept_nil s) (ps.map .int) (fun x hx => by
    obtain ⟨p, _, rfl⟩ := List.mem_map.mp hx
    obtain ⟨v', e1, e2, e3⟩ := h (.int p)
    unfold turnC
    rw [e1]
    simp only [evS, evL, evE, bin2R, un1R, biR, mkR, ixR, cmpR, chainR, slR, methR, zipR, rngR, compR, Rs.bind_ok, Rs.out_ok, Rs.of_some, Out.of_some, Out.ofS_some, Out.nx_then, Out.ret_then, Out.brk_then, Out.cnt_then, view_d, tst_ok, putT, datas, pures, Option.bind_some, Option.map_some, call_cx, e2, e3, fdiv_ok hg hs]
    rfl) (by rw [List.length_map]; exact hl)
  rw [this, List.map_map]
  rfl
def e6 (u w b : Int) (pt : PD) (g : Option Int) : En := [some (.d (.int u)), some (.d (.int w)), some (.d (.int b)), some (.d pt), g.map fun g => .d (.int g), none]
theorem made_ok {k : Nat} {u w b : Int} {ps : List Int} {s : Sto} (hu : 0 < u) (hb : ∀ x ∈ u :: w :: b :: ps, x.natAbs < 1000000000) (hl : ps.length ≤ 10) (pt : PD) (hp : pt = .list (ps.map .int) ∨ pt = .tuple (ps.map .int)) :
    runF P (k + 3) 2 [.d (.int u), .d (.int w), .d (.int b), .d pt] s = .ok (.d (low u w b ps)) s := by
  have hg := gl_pos (w :: b :: ps) hu
  have hs : Sm (gl (u :: w :: b :: ps)) := gl_small _ hu (Sm.of (Nat.lt_trans (hb u List.mem_cons_self) (by decide +kernel)))
  have hg' : (0 : Int) < (gl (u :: w :: b :: ps) : Nat) := by omega
  have hL : (ps.map PyData.int).length ≤ LIM := by rw [List.length_map]; exact lim10 (by omega)
  have hL3 : 3 + (ps.map PyData.int).length ≤ LIM := by rw [List.length_map]; exact lim10 (by omega)
  refine run_ret (fn := ⟨4, 6, b2⟩) rfl rfl rfl ?_
  show evS (cx P (k + 2)) b2 (e6 u w b pt none) s = _
  have tup : bi .tuple [pt] = some (.tuple (ps.map .int)) := by rcases hp with rfl | rfl <;> rfl
  have add : bin2 .add (.tuple [.int u, .int w, .int b]) (.tuple (ps.map .int)) = some (.tuple ((u :: w :: b :: ps).map .int)) := by
    show (if _ then _ else _) = _
    rw [if_pos]
    · rfl
    · simpa [Nat.add_comm] using hL3
  have wk : walk (evE (cx P (k + 2)).fe (.var 3) (e6 u w b pt (some (gl (u :: w :: b :: ps)))) s) = .ok (ps.map .int, []) s := by rcases hp with rfl | rfl <;> rfl
  refine st_seq (v1 := e6 u w b pt (some (gl (u :: w :: b :: ps)))) (s1 := s) (st_set (ev_call (ev_cons (ev_bin (ev_tup (ws := [.d (.int u), .d (.int w), .d (.int b)]) rfl rfl (limb rfl)) (ev_bi (ws := [.d pt]) rfl rfl tup) add) ev_nil) (commonOf_ok hb)) rfl) (st_end (st_ret ?_))
  refine ev_tup (ev_cons (ev_bin rfl rfl (fdiv_ok hg' hs)) (ev_cons (ev_bin rfl rfl (fdiv_ok hg' hs)) (ev_cons (ev_bin rfl rfl (fdiv_ok hg' hs)) (ev_cons (ev_bi (ev_cons (ev_mapG ps .int (fun p => .int (p / (gl (u :: w :: b :: ps) : Nat))) wk rfl (lim10 (by omega)) fun x hx => ⟨_, rfl, ev_bin rfl rfl (fdiv_ok hg' hs)⟩) ev_nil) rfl rfl) ev_nil)))) ?_ (limb rfl)
  rw [List.map_map]
  rfl
def e7 (one : PD) (u w b : Int) (ps : List Int) (g : Option Int) : En := [some (.d one), some (.d (.int u)), some (.d (.int w)), some (.d (.int b)), some (.d (.tuple (ps.map .int))), g.map fun g => .d (.int g), none]
theorem lowest_ok {k : Nat} {u w b : Int} {ps : List Int} {s : Sto} (hu : 0 < u) (hb : ∀ x ∈ u :: w :: b :: ps, x.natAbs < 1000000000) (hl : ps.length ≤ 10) :
    runF P (k + 3) 20 [.d (F4 u w b ps)] s = .ok (.d (low u w b ps)) s := by
  have hg := gl_pos (w :: b :: ps) hu
  have hs : Sm (gl (u :: w :: b :: ps)) := gl_small _ hu (Sm.of (Nat.lt_trans (hb u List.mem_cons_self) (by decide +kernel)))
  have hg' : (0 : Int) < (gl (u :: w :: b :: ps) : Nat) := by omega
  have hL3 : 3 + (ps.map PyData.int).length ≤ LIM := by rw [List.length_map]; exact lim10 (by omega)
  refine run_ret (fn := ⟨1, 7, b20⟩) rfl rfl rfl ?_
  have add : bin2 .add (.list [.int u, .int w, .int b]) (.list (ps.map .int)) = some (.list ((u :: w :: b :: ps).map .int)) := by
    show (if _ then _ else _) = _
    rw [if_pos]
    · rfl
    · simpa [Nat.add_comm] using hL3
  have wk : walk (evE (cx P (k + 2)).fe (.var 4) (e7 (F4 u w b ps) u w b ps (some (gl (u :: w :: b :: ps)))) s) = .ok (ps.map .int, []) s := rfl
  refine st_seq (v1 := e7 (F4 u w b ps) u w b ps none) (s1 := s) (st_set (w := .d (F4 u w b ps)) rfl rfl) ?_
  refine st_seq (v1 := e7 (F4 u w b ps) u w b ps (some (gl (u :: w :: b :: ps)))) (s1 := s) (st_set (ev_call (ev_cons (ev_bin (ev_lst (ws := [.d (.int u), .d (.int w), .d (.int b)]) rfl rfl (limb rfl)) (ev_bi (z := .list (ps.map .int)) (ws := [.d (.tuple (ps.map .int))]) rfl rfl rfl) add) ev_nil) (gcdOf_ok hb)) rfl) (st_end (st_ret ?_))
  refine ev_tup (ev_cons (ev_bin rfl rfl (fdiv_ok hg' hs)) (ev_cons (ev_bin rfl rfl (fdiv_ok hg' hs)) (ev_cons (ev_bin rfl rfl (fdiv_ok hg' hs)) (ev_cons (ev_bi (ev_cons (ev_mapG ps .int (fun p => .int (p / (gl (u :: w :: b :: ps) : Nat))) wk rfl (lim10 (by omega)) fun x hx => ⟨_, rfl, ev_bin rfl rfl (fdiv_ok hg' hs)⟩) ev_nil) rfl rfl) ev_nil)))) ?_ (limb rfl)
  rw [List.map_map]
  rfl
/-! ### sizes -/
theorem nm {a b : Int} {x y : Nat} (ha : a.natAbs ≤ x) (hb : b.natAbs ≤ y) : (a * b).natAbs ≤ x * y := by
  rw [Int.natAbs_mul]
  exact Nat.mul_le_mul ha hb
theorem na {a b : Int} {x y : Nat} (ha : a.natAbs ≤ x) (hb : b.natAbs ≤ y) : (a + b).natAbs ≤ x + y := Nat.le_trans (Int.natAbs_add_le a b) (Nat.add_le_add ha hb)
theorem sm9 {a : Int} (h : a.natAbs ≤ 1000000000) : Sm a := Sm.lt h (by decide +kernel)
/-- a form: its under is above 0, nothing in it is greater than B -/
structure Fo (B : Nat) (u w b : Int) (ps : List Int) : Prop where
  pos : 0 < u
  u : u.natAbs ≤ B
  w : w.natAbs ≤ B
  b : b.natAbs ≤ B
  len : ps.length ≤ 3
  ps : ∀ p ∈ ps, p.natAbs ≤ B
theorem Fo.all {B : Nat} {u w b : Int} {ps : List Int} (h : Fo B u w b ps) (hB : B < 1000000000) : ∀ x ∈ u :: w :: b :: ps, x.natAbs < 1000000000 := by
  intro x hx
  have : x.natAbs ≤ B := by
    simp only [List.mem_cons] at hx
    rcases hx with rfl | rfl | rfl | hx
    · exact h.u
    · exact h.w
    · exact h.b
    · exact h.ps x hx
  omega
theorem zip_map (ps qs : List Int) : List.zipWith (fun u v => PyData.tuple [u, v]) (ps.map .int) (qs.map .int) = (ps.zip qs).map fun p => .tuple [.int p.1, .int p.2] := by
  rw [List.zipWith_map, List.zip, List.map_zipWith]
theorem zip_mem {ps qs : List Int} {p : Int × Int} (h : p ∈ ps.zip qs) : p.1 ∈ ps ∧ p.2 ∈ qs := List.of_mem_zip (a := p.1) (b := p.2) h
def plusL (u u' : Int) (ps ps' : List Int) : List Int := (ps.zip ps').map fun p => u' * p.1 + u * p.2
section
variable {k : Nat} {u w b u' w' b' : Int} {ps ps' : List Int} {s : Sto}
theorem times_ok {n : Int} (h : Fo 100000 u w b ps) (hn : n.natAbs ≤ 1000) : runF P (k + 4) 7 [.d (.int n), .d (F4 u w b ps)] s = .ok (.d (low u (n * w) (n * b) (ps.map (n * ·)))) s := by
  have hs : ∀ {x : Int}, x.natAbs ≤ 100000 → Sm x := fun h => sm9 (by omega)
  have fo : Fo 100000000 u (n * w) (n * b) (ps.map (n * ·)) := ⟨h.pos, Nat.le_trans h.u (by decide), nm hn h.w, nm hn h.b, by rw [List.length_map]; exact h.len, fun p hp => by
    obtain ⟨q, hq, rfl⟩ := List.mem_map.mp hp
    exact nm hn (h.ps q hq)⟩
  refine run_ret (s1 := s) (fn := ⟨2, 3, b7⟩) rfl rfl rfl (st_end (st_ret (ev_call (ev_cons (w := .d (.int u)) rfl (ev_cons (ev_bin (y := .int w) rfl rfl (mul_ok (hs (by omega)) (hs h.w))) (ev_cons (ev_bin (y := .int b) rfl rfl (mul_ok (hs (by omega)) (hs h.b))) (ev_cons (ev_mapG ps .int (fun p => .int (n * p)) rfl rfl (lim10 (by have := h.len; omega)) fun x hx => ⟨_, rfl, ev_bin rfl rfl (mul_ok (hs (by omega)) (hs (h.ps x hx)))⟩) ev_nil)))) ?_)))
  exact made_ok fo.pos (fo.all (by decide)) (by have := fo.len; omega) _ (.inl (by rw [List.map_map]; rfl))
theorem over_ok {n : Int} (h : Fo 100000 u w b ps) (hn : n.natAbs ≤ 1000) (h0 : 0 < n) : runF P (k + 4) 9 [.d (F4 u w b ps), .d (.int n)] s = .ok (.d (low (u * n) w b ps)) s := by
  have hs : ∀ {x : Int}, x.natAbs ≤ 100000 → Sm x := fun h => sm9 (by omega)
  have fo : Fo 100000000 (u * n) w b ps := ⟨Int.mul_pos h.pos h0, nm h.u hn, Nat.le_trans h.w (by decide), Nat.le_trans h.b (by decide), h.len, fun p hp => Nat.le_trans (h.ps p hp) (by decide)⟩
  refine run_ret (s1 := s) (fn := ⟨2, 2, b9⟩) rfl rfl rfl (st_end (st_ret (ev_call (ev_cons (ev_bin (x := .int u) rfl rfl (mul_ok (hs h.u) (hs (by omega)))) (ev_cons (w := .d (.int w)) rfl (ev_cons (w := .d (.int b)) rfl (ev_cons (w := .d (.tuple (ps.map .int))) rfl ev_nil)))) ?_)))
  exact made_ok fo.pos (fo.all (by decide)) (by have := fo.len; omega) _ (.inr rfl)
theorem plusFo (h : Fo 1000 u w b ps) (h' : Fo 100000 u' w' b' ps') : Fo 200000000 (u * u') (u' * w + u * w') (u' * b + u * b') (plusL u u' ps ps') :=
  ⟨Int.mul_pos h.pos h'.pos, Nat.le_trans (nm h.u h'.u) (by decide), na (nm h'.u h.w) (nm h.u h'.w), na (nm h'.u h.b) (nm h.u h'.b), by
    unfold plusL
    rw [List.length_map, List.length_zip]
    have := h.len
    omega, fun p hp => by
    obtain ⟨q, hq, rfl⟩ := List.mem_map.mp hp
    exact na (nm h'.u (h.ps _ (zip_mem hq).1)) (nm h.u (h'.ps _ (zip_mem hq).2))⟩
theorem plus_ok (h : Fo 1000 u w b ps) (h' : Fo 100000 u' w' b' ps') : runF P (k + 4) 6 [.d (F4 u w b ps), .d (F4 u' w' b' ps')] s = .ok (.d (low (u * u') (u' * w + u * w') (u' * b + u * b') (plusL u u' ps ps'))) s := by
  have hs : ∀ {x : Int}, x.natAbs ≤ 100000 → Sm x := fun h => sm9 (by omega)
  have hs2 : ∀ {x : Int}, x.natAbs ≤ 1000 → Sm x := fun h => sm9 (by omega)
  have fo := plusFo h h'
  have hlen : (ps.zip ps').length ≤ LIM := lim10 (by rw [List.length_zip]; have := h.len; omega)
  refine run_ret (s1 := s) (fn := ⟨2, 7, b6⟩) rfl rfl rfl ?_
  refine st_seq (v1 := [some (.d (F4 u w b ps)), some (.d (F4 u' w' b' ps')), some (.d (.int u)), some (.d (.int u')), none, none, none]) (s1 := s) rfl ?_
  refine st_seq (v1 := [some (.d (F4 u w b ps)), some (.d (F4 u' w' b' ps')), some (.d (.int u)), some (.d (.int u')), some (.d (.list ((plusL u u' ps ps').map .int))), none, none]) (s1 := s) (st_set (ev_mapG (s1 := s) (g := []) (ps.zip ps') (fun p => .tuple [.int p.1, .int p.2]) (fun p => .int (u' * p.1 + u * p.2)) ?_ rfl hlen fun x hx => ⟨_, rfl, ev_bin (ev_bin rfl rfl (mul_ok (hs h'.u) (hs2 (h.ps _ (zip_mem hx).1)))) (ev_bin rfl rfl (mul_ok (hs2 h.u) (hs (h'.ps _ (zip_mem hx).2)))) add_ok⟩) ?_) ?_
  · rw [← zip_map]
    rfl
  · unfold plusL
    rw [List.map_map]
    rfl
  refine st_end (st_ret (ev_call (ev_cons (ev_bin rfl rfl (mul_ok (hs2 h.u) (hs h'.u))) (ev_cons (ev_bin (ev_bin (y := .int w) rfl rfl (mul_ok (hs h'.u) (hs2 h.w))) (ev_bin (y := .int w') rfl rfl (mul_ok (hs2 h.u) (hs h'.w))) add_ok) (ev_cons (ev_bin (ev_bin (y := .int b) rfl rfl (mul_ok (hs h'.u) (hs2 h.b))) (ev_bin (y := .int b') rfl rfl (mul_ok (hs2 h.u) (hs h'.b))) add_ok) (ev_cons (w := .d (.list ((plusL u u' ps ps').map .int))) rfl ev_nil)))) ?_))
  exact made_ok fo.pos (fo.all (by decide)) (by have := fo.len; omega) _ (.inl rfl)
end
/-! ### the least form -/
theorem fold_dvd : ∀ (l : List Int) (g : Nat), l.foldl (fun g x => Int.gcd (g : Int) x) g ∣ g ∧ ∀ x ∈ l, ((l.foldl (fun g x => Int.gcd (g : Int) x) g : Nat) : Int) ∣ x
  | [], g => ⟨Nat.dvd_refl _, nofun⟩
  | x :: l, g => by
    obtain ⟨h1, h2⟩ := fold_dvd l (Int.gcd (g : Int) x)
    have hg : Int.gcd (g : Int) x ∣ g := by simpa using Int.gcd_dvd_natAbs_left (g : Int) x
    have hx : ((Int.gcd (g : Int) x : Nat) : Int) ∣ x := Int.gcd_dvd_right ..
    refine ⟨Nat.dvd_trans h1 hg, fun y hy => ?_⟩
    rcases List.mem_cons.mp hy with rfl | hy
    · exact Int.dvd_trans (Int.ofNat_dvd.mpr h1) hx
    · exact h2 y hy
theorem gl_dvd {l : List Int} {x : Int} (h : x ∈ l) : (gl l : Int) ∣ x := (fold_dvd l 0).2 x h
theorem fold_mul {c : Int} (hc : 0 < c) : ∀ (l : List Int) (g : Nat), (l.map (c * ·)).foldl (fun g x => Int.gcd (g : Int) x) (c.natAbs * g) = c.natAbs * l.foldl (fun g x => Int.gcd (g : Int) x) g
  | [], g => rfl
  | x :: l, g => by
    have e : Int.gcd ((c.natAbs * g : Nat) : Int) (c * x) = c.natAbs * Int.gcd (g : Int) x := by
      have : ((c.natAbs * g : Nat) : Int) = c * (g : Int) := by
        rw [Int.natCast_mul]
        congr 1
        omega
      rw [this, Int.gcd_mul_left]
    show (l.map (c * ·)).foldl _ (Int.gcd ((c.natAbs * g : Nat) : Int) (c * x)) = _
    rw [e]
    exact fold_mul hc l _
theorem gl_mul {c : Int} (hc : 0 < c) (l : List Int) : gl (l.map (c * ·)) = c.natAbs * gl l := fold_mul hc l 0
theorem low_mul {c : Int} (hc : 0 < c) (u w b : Int) (ps : List Int) : low (c * u) (c * w) (c * b) (ps.map (c * ·)) = low u w b ps := by
  have e : gl (c * u :: c * w :: c * b :: ps.map (c * ·)) = c.natAbs * gl (u :: w :: b :: ps) := gl_mul hc (u :: w :: b :: ps)
  have e2 : ((c.natAbs * gl (u :: w :: b :: ps) : Nat) : Int) = c * (gl (u :: w :: b :: ps) : Int) := by
    rw [Int.natCast_mul]
    congr 1
    omega
  unfold low
  simp only [e, e2, Int.mul_ediv_mul_of_pos _ _ hc, List.map_map]
  congr 2
  funext x
  exact Int.mul_ediv_mul_of_pos _ _ hc
theorem low_fo {B : Nat} {u w b : Int} {ps : List Int} (h : Fo B u w b ps) : ∃ (g u' w' b' : Int) (ps' : List Int), low u w b ps = F4 u' w' b' ps' ∧ Fo B u' w' b' ps' ∧ 0 < g ∧ u = g * u' ∧ w = g * w' ∧ b = g * b' ∧ ps = ps'.map (g * ·) ∧ ps'.length = ps.length := by
  have hg : 0 < (gl (u :: w :: b :: ps) : Int) := by
    have := gl_pos (w :: b :: ps) h.pos
    omega
  generalize hG : (gl (u :: w :: b :: ps) : Int) = g at hg
  have dv : ∀ x ∈ u :: w :: b :: ps, x = g * (x / g) := fun x hx => by
    have := gl_dvd hx
    rw [hG] at this
    exact (Int.mul_ediv_cancel' this).symm
  have sm : ∀ x ∈ u :: w :: b :: ps, (x / g).natAbs ≤ x.natAbs := fun x hx => by
    have e := dv x hx
    have e2 : x.natAbs = g.natAbs * (x / g).natAbs := by
      conv => lhs; rw [e, Int.natAbs_mul]
    rw [e2]
    exact Nat.le_mul_of_pos_left _ (by omega)
  have eu := dv u List.mem_cons_self
  have ew := dv w (by simp)
  have eb := dv b (by simp)
  refine ⟨g, u / g, w / g, b / g, ps.map (· / g), by unfold low; simp only [hG], ⟨?_, Nat.le_trans (sm u (by simp)) h.u, Nat.le_trans (sm w (by simp)) h.w, Nat.le_trans (sm b (by simp)) h.b, by rw [List.length_map]; exact h.len, fun p hp => ?_⟩, hg, eu, ew, eb, ?_, List.length_map ..⟩
  · have := h.pos
    rw [eu] at this
    exact Int.pos_of_mul_pos_right this hg
  · obtain ⟨q, hq, rfl⟩ := List.mem_map.mp hp
    exact Nat.le_trans (sm q (by simp [hq])) (h.ps q hq)
  · rw [List.map_map]
    conv => lhs; rw [← List.map_id ps]
    exact List.map_congr_left fun x hx => dv x (by simp [hx])
def joinL (o t u u' : Int) (ps ps' : List Int) : List Int := (ps.zip ps').map fun p => o * u' * p.1 + t * u * p.2
theorem plus_join (u u' : Int) (ps ps' : List Int) : joinL 1 1 u u' ps ps' = plusL u u' ps ps' := by
  unfold joinL plusL
  simp
section
variable {k : Nat} {u w b u' w' b' : Int} {ps ps' : List Int} {s : Sto}
theorem joined_ok {o t : Int} (h : Fo 1000 u w b ps) (h' : Fo 1000 u' w' b' ps') (ho : o.natAbs ≤ 100) (ht : t.natAbs ≤ 100) :
    runF P (k + 4) 21 [.d (.int o), .d (F4 u w b ps), .d (.int t), .d (F4 u' w' b' ps')] s = .ok (.d (low (u * u') (o * u' * w + t * u * w') (o * u' * b + t * u * b') (joinL o t u u' ps ps'))) s := by
  have hs : ∀ {x : Int}, x.natAbs ≤ 1000 → Sm x := fun h => sm9 (by omega)
  have hs1 : Sm (o * u') := sm9 (Nat.le_trans (nm ho h'.u) (by decide))
  have hs2 : Sm (t * u) := sm9 (Nat.le_trans (nm ht h.u) (by decide))
  have bd : ∀ {x y : Int}, x.natAbs ≤ 1000 → y.natAbs ≤ 1000 → (o * u' * x + t * u * y).natAbs ≤ 200000000 := fun hx hy => na (nm (nm ho h'.u) hx) (nm (nm ht h.u) hy)
  have fo : Fo 200000000 (u * u') (o * u' * w + t * u * w') (o * u' * b + t * u * b') (joinL o t u u' ps ps') :=
    ⟨Int.mul_pos h.pos h'.pos, Nat.le_trans (nm h.u h'.u) (by decide), bd h.w h'.w, bd h.b h'.b, by
      unfold joinL
      rw [List.length_map, List.length_zip]
      have := h.len
      omega, fun p hp => by
      obtain ⟨q, hq, rfl⟩ := List.mem_map.mp hp
      exact bd (h.ps _ (zip_mem hq).1) (h'.ps _ (zip_mem hq).2)⟩
  have hlen : (ps.zip ps').length ≤ LIM := lim10 (by rw [List.length_zip]; have := h.len; omega)
  refine run_ret (s1 := s) (fn := ⟨4, 9, b21⟩) rfl rfl rfl ?_
  refine st_seq (v1 := [some (.d (.int o)), some (.d (F4 u w b ps)), some (.d (.int t)), some (.d (F4 u' w' b' ps')), some (.d (.int u)), some (.d (.int u')), none, none, none]) (s1 := s) rfl ?_
  refine st_seq (v1 := [some (.d (.int o)), some (.d (F4 u w b ps)), some (.d (.int t)), some (.d (F4 u' w' b' ps')), some (.d (.int u)), some (.d (.int u')), some (.d (.tuple ((joinL o t u u' ps ps').map .int))), none, none]) (s1 := s) (st_set (ev_bi (ev_cons (ev_mapG (s1 := s) (g := []) (ps.zip ps') (fun p => .tuple [.int p.1, .int p.2]) (fun p => .int (o * u' * p.1 + t * u * p.2)) ?_ rfl hlen fun x hx =>
      ⟨_, rfl, ev_bin (ev_bin (ev_bin rfl rfl (mul_ok (hs (by omega)) (hs h'.u))) rfl (mul_ok hs1 (hs (h.ps _ (zip_mem hx).1)))) (ev_bin (ev_bin rfl rfl (mul_ok (hs (by omega)) (hs h.u))) rfl (mul_ok hs2 (hs (h'.ps _ (zip_mem hx).2)))) add_ok⟩) ev_nil) rfl rfl) ?_) ?_
  · rw [← zip_map]
    rfl
  · unfold joinL
    rw [List.map_map]
    rfl
  refine st_end (st_ret (ev_call (ev_cons (ev_tup (ev_cons (ev_bin rfl rfl (mul_ok (hs h.u) (hs h'.u))) (ev_cons (ev_bin (ev_bin (y := .int w) (ev_bin rfl rfl (mul_ok (hs (by omega)) (hs h'.u))) rfl (mul_ok hs1 (hs h.w))) (ev_bin (y := .int w') (ev_bin rfl rfl (mul_ok (hs (by omega)) (hs h.u))) rfl (mul_ok hs2 (hs h'.w))) add_ok) (ev_cons (ev_bin (ev_bin (y := .int b) (ev_bin rfl rfl (mul_ok (hs (by omega)) (hs h'.u))) rfl (mul_ok hs1 (hs h.b))) (ev_bin (y := .int b') (ev_bin rfl rfl (mul_ok (hs (by omega)) (hs h.u))) rfl (mul_ok hs2 (hs h'.b))) add_ok) (ev_cons (w := .d (.tuple ((joinL o t u u' ps ps').map .int))) rfl ev_nil)))) rfl (limb rfl)) ev_nil) ?_))
  exact lowest_ok fo.pos (fo.all (by decide)) (by have := fo.len; omega)
theorem less_ok (h : Fo 1000 u w b ps) (h' : Fo 1000 u' w' b' ps') : runF P (k + 5) 8 [.d (F4 u w b ps), .d (F4 u' w' b' ps')] s = .ok (.d (low (u * u') (1 * u' * w + -1 * u * w') (1 * u' * b + -1 * u * b') (joinL 1 (-1) u u' ps ps'))) s := by
  have h1 : Fo 100000 u' w' b' ps' := ⟨h'.pos, Nat.le_trans h'.u (by decide), Nat.le_trans h'.w (by decide), Nat.le_trans h'.b (by decide), h'.len, fun p hp => Nat.le_trans (h'.ps p hp) (by decide)⟩
  have h2 : Fo 100000 u' (-1 * w') (-1 * b') (ps'.map (-1 * ·)) := ⟨h'.pos, Nat.le_trans h'.u (by decide), by have := h'.w; omega, by have := h'.b; omega, by rw [List.length_map]; exact h'.len, fun p hp => by
    obtain ⟨q, hq, rfl⟩ := List.mem_map.mp hp
    have := h'.ps q hq
    omega⟩
  obtain ⟨g, u2, w2, b2, ps2, e, fo, hg, eu, ew, eb, ep, el⟩ := low_fo h2
  have e1 := times_ok (k := k) (s := s) (n := -1) h1 (by decide)
  rw [e] at e1
  refine run_ret (s1 := s) (fn := ⟨2, 2, b8⟩) rfl rfl rfl (st_end (st_ret (ev_call (ev_cons (w := .d (F4 u w b ps)) rfl (ev_cons (ev_call (ev_cons (w := .d (.int (-1))) rfl (ev_cons (w := .d (F4 u' w' b' ps')) rfl ev_nil)) e1) ev_nil)) ?_)))
  refine (plus_ok h fo).trans ?_
  have key : low (u * u2) (u2 * w + u * w2) (u2 * b + u * b2) (plusL u u2 ps ps2) = low (u * u') (1 * u' * w + -1 * u * w') (1 * u' * b + -1 * u * b') (joinL 1 (-1) u u' ps ps') := by
    rw [← low_mul hg]
    have mid : ∀ x y z : Int, -1 * y = g * z → g * (u2 * x + u * z) = 1 * u' * x + -1 * u * y := fun x y z hz => by
      rw [Int.mul_add, ← Int.mul_assoc, ← eu, Int.one_mul, Int.mul_left_comm g u z, ← hz]
      congr 1
      rw [← Int.mul_assoc, Int.mul_comm u (-1)]
    congr 1
    · rw [Int.mul_left_comm, ← eu]
    · exact mid w w' w2 ew
    · exact mid b b' b2 eb
    · unfold plusL joinL
      rw [List.map_map]
      have : ∀ (ps ps' ps2 : List Int), ps'.map (-1 * ·) = ps2.map (g * ·) → (ps.zip ps2).map ((g * ·) ∘ fun p => u2 * p.1 + u * p.2) = (ps.zip ps').map fun p => 1 * u' * p.1 + -1 * u * p.2 := by
        intro ps
        induction ps with
        | nil => intros; rfl
        | cons p ps ih =>
          intro ps' ps2 he
          cases ps' with
          | nil =>
            cases ps2 with
            | nil => rfl
            | cons _ _ => cases he
          | cons q qs =>
            cases ps2 with
            | nil => cases he
            | cons r rs =>
              obtain ⟨h1, h2⟩ := List.cons.inj he
              show g * (u2 * p + u * r) :: _ = (1 * u' * p + -1 * u * q) :: _
              rw [mid p q r h1]
              congr 1
              exact ih qs rs h2
      exact this ps ps' ps2 ep
  rw [key]
theorem times_join {n : Int} (hu : 0 < u) : low (u * u) (n * u * w + 0 * u * w) (n * u * b + 0 * u * b) (joinL n 0 u u ps ps) = low u (n * w) (n * b) (ps.map (n * ·)) := by
  rw [← low_mul hu u (n * w) (n * b) (ps.map (n * ·))]
  have mid : ∀ x y : Int, n * u * x + 0 * u * y = u * (n * x) := fun x y => by
    rw [Int.zero_mul, Int.zero_mul, Int.add_zero, Int.mul_assoc, Int.mul_left_comm]
  rw [mid, mid]
  congr 1
  unfold joinL
  rw [List.map_map]
  induction ps with
  | nil => rfl
  | cons p ps ih =>
    show (n * u * p + 0 * u * p) :: _ = u * (n * p) :: _
    rw [mid]
    exact congrArg _ ih
end
/-! ### the small forms -/
section
variable {k : Nat} {s : Sto}
theorem zeros_eq {many : Nat} (h : many ≤ 3) : bin2 .mul (.tuple [.int 0]) (.int many) = some (.tuple (List.replicate many (.int 0))) := by
  match many, h with
  | 0, _ => rfl
  | 1, _ => rfl
  | 2, _ => rfl
  | 3, _ => rfl
theorem whole_ok {many : Nat} {n : Int} (h : many ≤ 3) : runF P (k + 1) 3 [.d (.int many), .d (.int n)] s = .ok (.d (.tuple [.int 1, .int n, .int 0, .tuple (List.replicate many (.int 0))])) s :=
  run_ret (s1 := s) (fn := ⟨2, 2, b3⟩) rfl rfl rfl (st_end (st_ret (ev_tup (ev_cons rfl (ev_cons (w := .d (.int n)) rfl (ev_cons rfl (ev_cons (ev_bin (x := .tuple [.int 0]) (y := .int many) rfl rfl (zeros_eq h)) ev_nil)))) rfl (limb rfl))))
theorem base_ok {many : Nat} {n : Int} (h : many ≤ 3) : runF P (k + 1) 4 [.d (.int many), .d (.int n)] s = .ok (.d (.tuple [.int 1, .int 0, .int n, .tuple (List.replicate many (.int 0))])) s :=
  run_ret (s1 := s) (fn := ⟨2, 2, b4⟩) rfl rfl rfl (st_end (st_ret (ev_tup (ev_cons rfl (ev_cons rfl (ev_cons (w := .d (.int n)) rfl (ev_cons (ev_bin (x := .tuple [.int 0]) (y := .int many) rfl rfl (zeros_eq h)) ev_nil)))) rfl (limb rfl))))
def digitD (many at_ : Nat) : PD := .tuple [.int 1, .int 0, .int 0, .tuple ((List.range many).map fun k => .int (if k = at_ then 1 else 0))]
theorem digit_ok {many at_ : Nat} (h : many ≤ 3) : runF P (k + 1) 5 [.d (.int many), .d (.int at_)] s = .ok (.d (digitD many at_)) s := by
  refine run_ret (s1 := s) (fn := ⟨2, 3, b5⟩) rfl rfl rfl (st_end (st_ret (ev_tup (ev_cons rfl (ev_cons rfl (ev_cons rfl (ev_cons (ev_bi (ev_cons (ev_mapG (s1 := s) (g := []) (List.range many) (fun (i : Nat) => .int (0 + (i : Int))) (fun (i : Nat) => .int (if i = at_ then 1 else 0)) ?_ rfl (lim10 (by rw [List.length_range]; omega)) fun x hx => ?_) ev_nil) rfl rfl) ev_nil)))) rfl (limb rfl))))
  · match many, h with
    | 0, _ => rfl
    | 1, _ => rfl
    | 2, _ => rfl
    | 3, _ => rfl
  · refine ⟨_, rfl, ?_⟩
    refine ev_bi (ev_cons (w := .d (.bool (decide ((0 : Int) + (x : Int) = (at_ : Int))))) rfl ev_nil) rfl ?_
    by_cases hx : x = at_
    · subst hx
      simp [bi]
    · have : ¬ ((0 : Int) + (x : Int) = (at_ : Int)) := by omega
      simp [bi, hx]
      omega
/-- row[0] + row[1] * base + sum of products -/
def rowV (w b base : Int) (ps ds : List Int) : Int := w + b * base + ((ps.zip ds).map fun p => p.1 * p.2).sum
theorem rowB {F : Fs} {w b base : Int} {ps ds : List Int} (hb : Sm b) (hB : Sm base) (hp : ∀ p ∈ ps, Sm p) (hd : ∀ d ∈ ds, Sm d) (hl : ps.length ≤ 3) :
    evS F (.seq (.ret (.bin .add (.bin .add (.ix (.var 0) (.cst (.int 0))) (.bin .mul (.ix (.var 0) (.cst (.int 1))) (.var 1))) (.bi .sum (.cons (.comp false (.bin .mul (.var 3) (.var 4)) (.tp [3, 4]) (.zip (.ix (.var 0) (.cst (.int 2))) (.var 2)) (.cst (.bool true)) [3, 4]) .nil)))) .skip)
      [some (.d (.tuple [.int w, .int b, .tuple (ps.map .int)])), some (.d (.int base)), some (.d (.tuple (ds.map .int))), none, none] s = .ret (.d (.int (rowV w b base ps ds))) s := by
  have hlen : (ps.zip ds).length ≤ LIM := lim10 (by rw [List.length_zip]; omega)
  refine st_end (st_ret (ev_bin (ev_bin (x := .int w) rfl (ev_bin (x := .int b) (y := .int base) rfl rfl (mul_ok hb hB)) add_ok) (ev_bi (ev_cons (ev_mapG (s1 := s) (g := []) (ps.zip ds) (fun p => .tuple [.int p.1, .int p.2]) (fun p => .int (p.1 * p.2)) ?_ rfl hlen fun x hx => ⟨_, rfl, ev_bin rfl rfl (mul_ok (hp _ (zip_mem hx).1) (hd _ (zip_mem hx).2))⟩) ev_nil) rfl (z := .int ((ps.zip ds).map fun p => p.1 * p.2).sum) ?_) add_ok))
  · rw [← zip_map]
    rfl
  · have : (ps.zip ds).map (fun p => PyData.int (p.1 * p.2)) = ((ps.zip ds).map fun p => p.1 * p.2).map .int := by
      rw [List.map_map]
      rfl
    rw [this]
    show (intsD _).map _ = _
    rw [intsD_map]
    rfl
variable {u w b base : Int} {ps ds : List Int}
theorem top_ok (hb : Sm b) (hB : Sm base) (hp : ∀ p ∈ ps, Sm p) (hd : ∀ d ∈ ds, Sm d) (hl : ps.length ≤ 3) : runF P (k + 1) 10 [.d (.tuple [.int w, .int b, .tuple (ps.map .int)]), .d (.int base), .d (.tuple (ds.map .int))] s = .ok (.d (.int (rowV w b base ps ds))) s :=
  run_ret (s1 := s) (fn := ⟨3, 5, b10⟩) rfl rfl rfl (rowB hb hB hp hd hl)
theorem rowv_ok (hb : Sm b) (hB : Sm base) (hp : ∀ p ∈ ps, Sm p) (hd : ∀ d ∈ ds, Sm d) (hl : ps.length ≤ 3) : runF P (k + 1) 16 [.d (.tuple [.int w, .int b, .tuple (ps.map .int)]), .d (.int base), .d (.tuple (ds.map .int))] s = .ok (.d (.int (rowV w b base ps ds))) s :=
  run_ret (s1 := s) (fn := ⟨3, 5, b16⟩) rfl rfl rfl (rowB hb hB hp hd hl)
/-- what a form comes to -/
def formV (u top : Int) : PD := if top % u = 0 then .int (top / u) else .none
theorem ife_ok {F : Fe} {v : En} {u top : Int} {a b : E} (hu : 0 < u) (hs : Sm u) (ha : evE F a v s = .ok (.d (.int top)) s) (hb : evE F b v s = .ok (.d (.int u)) s) :
    evE F (.ife (.cmp .eq (.bin .mod a b) (.cst (.int 0))) (.bin .fdiv a b) (.cst .none)) v s = .ok (.d (formV u top)) s := by
  unfold formV
  by_cases h : top % u = 0
  · rw [if_pos h]
    exact ev_iteT (ev_cmp (ev_bin ha hb (mod_pos hu)) rfl (by show some (decide (top % u = 0)) = _; rw [decide_eq_true h])) (ev_bin ha hb (fdiv_ok hu hs))
  · rw [if_neg h]
    exact ev_iteF (ev_cmp (ev_bin ha hb (mod_pos hu)) rfl (by show some (decide (top % u = 0)) = _; rw [decide_eq_false h])) rfl
theorem value_ok (hu : 0 < u) (hs : Sm u) (hb : Sm b) (hB : Sm base) (hp : ∀ p ∈ ps, Sm p) (hd : ∀ d ∈ ds, Sm d) (hl : ps.length ≤ 3) : runF P (k + 2) 11 [.d (F4 u w b ps), .d (.int base), .d (.tuple (ds.map .int))] s = .ok (.d (formV u (rowV w b base ps ds))) s := by
  refine run_ret (s1 := s) (fn := ⟨3, 4, b11⟩) rfl rfl rfl ?_
  refine st_seq (v1 := [some (.d (F4 u w b ps)), some (.d (.int base)), some (.d (.tuple (ds.map .int))), some (.d (.int (rowV w b base ps ds)))]) (s1 := s) (st_set (ev_call (ev_cons (w := .d (.tuple [.int w, .int b, .tuple (ps.map .int)])) rfl (ev_cons (w := .d (.int base)) rfl (ev_cons (w := .d (.tuple (ds.map .int))) rfl ev_nil))) (top_ok hb hB hp hd hl)) rfl) ?_
  exact st_end (st_ret (ife_ok hu hs rfl rfl))
end
/-! ### what is drawn -/
theorem hT : P.fns[13]? = some ⟨2, 7, takeB⟩ := rfl
theorem bagI {t : Nat} {s : Sto} (h : ∃ l rest, s = .lst l :: rest ∧ Bag t l) : kept [] s = true := rfl
theorem drawn_ok {k t many : Nat} {l : List PD} {rest : Sto} (hb : Bag t l) (ht : t < 100000000) (hm : many ≤ 3) : ∃ u w b ps l', Fo 12 u w b ps ∧ ps.length = many ∧ Bag (t + 6) l' ∧ runF P (k + 2) 19 [.ref 0, .d (.int many)] (.lst l :: rest) = .ok (.d (F4 u w b ps)) (.lst l' :: rest) := by
  have sm : ∀ {n : Int}, n.natAbs ≤ 1000 → Sm n := fun h => sm9 (by omega)
  obtain ⟨r1, l1, a1, a2, b1, e1⟩ := take_ok (k := k) (rest := rest) (many := 6) hT hb (by omega) (by decide) (sm (by decide))
  obtain ⟨r2, l2, a3, a4, b2, e2⟩ := take_ok (k := k) (rest := rest) (many := 25) hT b1 (by omega) (by decide) (sm (by decide))
  obtain ⟨r3, l3, a5, a6, b3, e3⟩ := take_ok (k := k) (rest := rest) (many := 9) hT b2 (by omega) (by decide) (sm (by decide))
  obtain ⟨ys, s4, e4, h4, l4, rfl, b4⟩ := ev_comp_ex (α := {i : Int // i.natAbs ≤ 12}) (F := (cx P (k + 1)).fe) (a := .bin .sub (.call 13 (.cons (.var 0) (.cons (.cst (.int 9)) .nil))) (.cst (.int 4))) (b := .rng (.cons (.var 1) .nil)) (t := .nm 2) (own := [2]) (v := [some (.ref 0), some (.d (.int many)), none]) (s := .lst l3 :: rest)
    (I := fun n s => ∃ l, s = .lst l :: rest ∧ Bag (t + 3 + n) l) (fun i => .int i.1) (rng_walk (n := many) rfl (by omega)) (fun _ _ _ => rfl) (by rw [List.length_map, List.length_range]; exact lim10 (by omega)) ⟨l3, rfl, b3⟩ (fun n s x hn ⟨l, e, hl⟩ hx => by
      subst e
      rw [List.length_map, List.length_range] at hn
      obtain ⟨r, l', a7, a8, b5, e5⟩ := take_ok (k := k) (rest := rest) (many := 9) hT hl (by omega) (by decide) (sm (by decide))
      exact ⟨_, ⟨r - 4, by omega⟩, _, rfl, ev_bin (ev_call (ev_cons (w := .ref 0) rfl (ev_cons (w := .d (.int 9)) rfl ev_nil)) e5) rfl sub_ok, l', rfl, b5⟩)
  rw [List.length_map, List.length_range] at h4 b4
  refine ⟨1 + r1, r2 - 12, r3 - 4, ys.map (·.1), l4, ⟨by omega, by omega, by omega, by omega, by rw [List.length_map]; omega, fun p hp => ?_⟩, by rw [List.length_map]; exact h4, b4.mono (by omega), ?_⟩
  · obtain ⟨q, hq, rfl⟩ := List.mem_map.mp hp
    exact q.2
  refine run_ret (s1 := .lst l4 :: rest) (fn := ⟨2, 3, b19⟩) rfl rfl rfl (st_end (st_ret (ev_tup (ev_cons (ev_bin rfl (ev_call (ev_cons (w := .ref 0) rfl (ev_cons (w := .d (.int 6)) rfl ev_nil)) e1) add_ok) (ev_cons (ev_bin (ev_call (ev_cons (w := .ref 0) rfl (ev_cons (w := .d (.int 25)) rfl ev_nil)) e2) rfl sub_ok) (ev_cons (ev_bin (ev_call (ev_cons (w := .ref 0) rfl (ev_cons (w := .d (.int 9)) rfl ev_nil)) e3) rfl sub_ok) (ev_cons (ev_bi (ev_cons e4 ev_nil) rfl rfl) ev_nil)))) ?_ (limb rfl))))
  rw [List.map_map]
  rfl
/-! ### the law -/
theorem hS : P.fns[14]? = some ⟨2, 2, someB 13⟩ := rfl
theorem hA : P.fns[15]? = some ⟨2, 2, alikeB⟩ := rfl
theorem hBag : P.fns[12]? = some ⟨1, 2, bagB⟩ := rfl
theorem Fo.mono {B C : Nat} {u w b : Int} {ps : List Int} (h : Fo B u w b ps) (hB : B ≤ C) : Fo C u w b ps := ⟨h.pos, Nat.le_trans h.u hB, Nat.le_trans h.w hB, Nat.le_trans h.b hB, h.len, fun p hp => Nat.le_trans (h.ps p hp) hB⟩
theorem gdI {i : Int} (h : i.natAbs ≤ 10 ^ 40) : Gd 0 0 (.int i) := Gd.int (Nat.lt_of_le_of_lt h (by decide +kernel))
theorem F4_gd {u w b : Int} {ps : List Int} (h : Fo 1000000000 u w b ps) : Gd 2 20 (F4 u w b ps) := by
  have big : ∀ {i : Int}, i.natAbs ≤ 1000000000 → Gd 0 0 (.int i) := fun h => gdI (Nat.le_trans h (by decide +kernel))
  have t : Gd 1 3 (.tuple (ps.map .int)) := (Gd.tuple (d := 0) (b := 0) fun x hx => by
    obtain ⟨p, hp, rfl⟩ := List.mem_map.mp hx
    exact big (h.ps p hp)).mono (Nat.le_refl _) (by rw [List.length_map]; have := h.len; omega)
  refine (Gd.tuple (d := 1) (b := 3) (xs := [.int u, .int w, .int b, .tuple (ps.map .int)]) fun x hx => ?_).mono (Nat.le_refl _) (Nat.le_of_ble_eq_true rfl)
  simp only [List.mem_cons, List.not_mem_nil, or_false] at hx
  rcases hx with rfl | rfl | rfl | rfl
  · exact (big h.u).mono (by decide) (by decide)
  · exact (big h.w).mono (by decide) (by decide)
  · exact (big h.b).mono (by decide) (by decide)
  · exact t
theorem zeros_gd {many : Nat} (h : many ≤ 3) : Gd 1 3 (.tuple (List.replicate many (.int 0))) :=
  (Gd.tuple (d := 0) (b := 0) fun x hx => by
    rw [List.eq_of_mem_replicate hx]
    exact gdI (by decide)).mono (Nat.le_refl _) (by rw [List.length_replicate]; omega)
theorem sum_le {B : Nat} : ∀ (l : List Int), (∀ x ∈ l, x.natAbs ≤ B) → l.sum.natAbs ≤ l.length * B
  | [], _ => by simp
  | x :: l, h => by
    have h1 := h x List.mem_cons_self
    have h2 := sum_le l fun y hy => h y (List.mem_cons_of_mem _ hy)
    rw [List.sum_cons, List.length_cons, Nat.add_mul, Nat.one_mul]
    have := na h1 h2
    omega
theorem rowV_le {w b base : Int} {ps ds : List Int} (hw : w.natAbs ≤ 1000000000) (hb : b.natAbs ≤ 1000000000) (hB : base.natAbs ≤ 10 ^ 20) (hp : ∀ p ∈ ps, p.natAbs ≤ 1000000000) (hd : ∀ d ∈ ds, d.natAbs ≤ 1000) (hl : ps.length ≤ 3) : (rowV w b base ps ds).natAbs ≤ 10 ^ 40 := by
  have h1 := na hw (nm hb hB)
  have h2 := sum_le (B := 1000000000 * 1000) ((ps.zip ds).map fun p => p.1 * p.2) fun x hx => by
    obtain ⟨q, hq, rfl⟩ := List.mem_map.mp hx
    exact nm (hp _ (zip_mem hq).1) (hd _ (zip_mem hq).2)
  have h3 : ((ps.zip ds).map fun p => p.1 * p.2).length ≤ 3 := by
    rw [List.length_map, List.length_zip]
    omega
  have h4 := na h1 h2
  have h5 : ((ps.zip ds).map fun p => p.1 * p.2).length * (1000000000 * 1000) ≤ 3 * (1000000000 * 1000) := Nat.mul_le_mul_right _ h3
  have h6 : 1000000000 + 1000000000 * 10 ^ 20 + 3 * (1000000000 * 1000) ≤ 10 ^ 40 := by decide +kernel
  exact Nat.le_trans h4 (Nat.le_trans (Nat.add_le_add_left h5 _) h6)
theorem formV_gd {u top : Int} (hu : 0 < u) (ht : top.natAbs ≤ 10 ^ 40) : Gd 0 0 (formV u top) := by
  unfold formV
  split
  · rename_i h
    refine gdI (Nat.le_trans ?_ ht)
    have e : top = u * (top / u) := by
      have := Int.mul_ediv_add_emod top u
      omega
    have e2 : top.natAbs = u.natAbs * (top / u).natAbs := by
      conv => lhs; rw [e, Int.natAbs_mul]
    rw [e2]
    exact Nat.le_mul_of_pos_left _ (by omega)
  · exact Gd.none
theorem alike_step {v : En} {s : Sto} {a b : E} {x : PD} {d c : Nat} (h : Gd d c x) (hd : d ≤ 64) (hc : c ≤ 8000) (ha : evE (cx P 19).fe a v s = .ok (.d x) s) (hb : evE (cx P 19).fe b v s = .ok (.d x) s) {A : S} :
    evS (cx P 19) (.ifs (.not (.call 15 (.cons a (.cons b .nil)))) A .skip) v s = .nx v s :=
  st_ifF (ev_not (ev_call (ev_cons ha (ev_cons hb ev_nil)) (alike_ok (k := 18) hA h hd hc))) rfl
/-- the data of a form -/
def IsF (B : Nat) (x : PD) : Prop := ∃ u w b ps, x = F4 u w b ps ∧ Fo B u w b ps
theorem inner_ok {y0 y1 y2 y3 y4 y5 y6 y7 y8 y10 y11 y12 y13 y16 y17 : Option W} {made : List PD} {base : Int} {ds : List Int} {s : Sto} (hm : ∀ x ∈ made, IsF 1000000000 x) (hB0 : 0 < base) (hB : base.natAbs ≤ 10 ^ 20) (hd : ∀ d ∈ ds, d.natAbs ≤ 1000) :
    ∃ z16 z17, evS (cx P 19) (.for (.nm 16) (.var 9)
    (.seq (.set (.nm 17) (.call 16 (.cons (.sl (.var 16) (.cst (.int 1)) .nil) (.cons (.var 14) (.cons (.var 15) .nil)))))
    (.seq (.ifs (.not (.call 15 (.cons (.call 11 (.cons (.var 16) (.cons (.var 14) (.cons (.var 15) .nil)))) (.cons (.ife (.cmp .eq (.bin .mod (.var 17) (.ix (.var 16) (.cst (.int 0)))) (.cst (.int 0))) (.bin .fdiv (.var 17) (.ix (.var 16) (.cst (.int 0)))) (.cst .none)) .nil))))
     (.seq (.ret (.cst (.bool false)))
     .skip)
     .skip)
    .skip))) [y0, y1, y2, y3, y4, y5, y6, y7, y8, some (.d (.list made)), y10, y11, y12, y13, some (.d (.int base)), some (.d (.tuple (ds.map .int))), y16, y17] s =
     .nx [y0, y1, y2, y3, y4, y5, y6, y7, y8, some (.d (.list made)), y10, y11, y12, y13, some (.d (.int base)), some (.d (.tuple (ds.map .int))), z16, z17] s := by
  obtain ⟨v', s', e, z16, z17, rfl, rfl⟩ := st_for_ex (F := cx P 19) (b := .var 9) (t := .nm 16) (A := (.seq (.set (.nm 17) (.call 16 (.cons (.sl (.var 16) (.cst (.int 1)) .nil) (.cons (.var 14) (.cons (.var 15) .nil)))))
    (.seq (.ifs (.not (.call 15 (.cons (.call 11 (.cons (.var 16) (.cons (.var 14) (.cons (.var 15) .nil)))) (.cons (.ife (.cmp .eq (.bin .mod (.var 17) (.ix (.var 16) (.cst (.int 0)))) (.cst (.int 0))) (.bin .fdiv (.var 17) (.ix (.var 16) (.cst (.int 0)))) (.cst .none)) .nil))))
     (.seq (.ret (.cst (.bool false)))
     .skip)
     .skip)
    .skip))) (v := [y0, y1, y2, y3, y4, y5, y6, y7, y8, some (.d (.list made)), y10, y11, y12, y13, some (.d (.int base)), some (.d (.tuple (ds.map .int))), y16, y17]) (s := s) (s1 := s) (l := made) (g := [])
    (I := fun _ v s' => ∃ z16 z17, v = [y0, y1, y2, y3, y4, y5, y6, y7, y8, some (.d (.list made)), y10, y11, y12, y13, some (.d (.int base)), some (.d (.tuple (ds.map .int))), z16, z17] ∧ s' = s) rfl (fun _ _ _ _ => rfl) ⟨y16, y17, rfl, rfl⟩ (fun j v s2 x _ ⟨z16, z17, e1, e2⟩ hx => by
      subst e1
      subst e2
      obtain ⟨u, w, b, ps, rfl, fo⟩ := hm x hx
      have smB : Sm base := Sm.lt hB (by decide +kernel)
      have smp : ∀ p ∈ ps, Sm p := fun p hp => sm9 (fo.ps p hp)
      have smd : ∀ d ∈ ds, Sm d := fun d hd' => sm9 (by have := hd d hd'; omega)
      have hrow := rowV_le fo.w fo.b hB fo.ps hd fo.len
      have ev1 : (cx P 19).fe.call 11 [.d (F4 u w b ps), .d (.int base), .d (.tuple (ds.map .int))] s2 = .ok (.d (formV u (rowV w b base ps ds))) s2 := value_ok (k := 17) fo.pos (sm9 fo.u) (sm9 fo.b) smB smp smd fo.len
      refine ⟨[y0, y1, y2, y3, y4, y5, y6, y7, y8, some (.d (.list made)), y10, y11, y12, y13, some (.d (.int base)), some (.d (.tuple (ds.map .int))), some (.d (F4 u w b ps)), z17],
        [y0, y1, y2, y3, y4, y5, y6, y7, y8, some (.d (.list made)), y10, y11, y12, y13, some (.d (.int base)), some (.d (.tuple (ds.map .int))), some (.d (F4 u w b ps)), some (.d (.int (rowV w b base ps ds)))], s2, rfl, ?_, _, _, rfl, rfl⟩
      refine st_seq (s1 := s2) (st_set (ev_call (ev_cons (w := .d (.tuple [.int w, .int b, .tuple (ps.map .int)])) rfl (ev_cons (w := .d (.int base)) rfl (ev_cons (w := .d (.tuple (ds.map .int))) rfl ev_nil))) (rowv_ok (k := 18) (sm9 fo.b) smB smp smd fo.len)) rfl) ?_
      refine st_seq (alike_step (formV_gd fo.pos hrow) (by decide) (by decide) (ev_call (ev_cons (w := .d (F4 u w b ps)) rfl (ev_cons (w := .d (.int base)) rfl (ev_cons (w := .d (.tuple (ds.map .int))) rfl ev_nil))) ev1) (ife_ok fo.pos (sm9 fo.u) rfl rfl)) rfl)
  exact ⟨z16, z17, e⟩
theorem turns_ok {y0 y2 y4 y5 y6 y7 y8 y10 y11 y12 y13 y14 y15 y16 y17 : Option W} {made : List PD} {m t : Nat} {l : List PD} (hm : ∀ x ∈ made, IsF 1000000000 x) (h3 : m ≤ 3) (hb : Bag t l) (ht : t < 100000000) :
    ∃ z6 z13 z14 z15 z16 z17 l', Bag (t + 30) l' ∧ evS (cx P 19) (.for (.nm 13) (.rng (.cons (.cst (.int 6)) .nil))
   (.seq (.set (.nm 14) (.call 14 (.cons (.var 1) (.cons (.lst (.cons (.cst (.int 2)) (.cons (.cst (.int 3)) (.cons (.cst (.int 7)) (.cons (.cst (.int 10)) (.cons (.bin .pow (.cst (.int 10)) (.cst (.int 20))) .nil)))))) .nil))))
   (.seq (.set (.nm 15) (.bi .tuple (.cons (.comp false (.call 13 (.cons (.var 1) (.cons (.bi .min (.cons (.var 14) (.cons (.cst (.int 1000)) .nil))) .nil))) (.nm 6) (.rng (.cons (.var 3) .nil)) (.cst (.bool true)) [6]) .nil)))
   (.seq (.for (.nm 16) (.var 9)
    (.seq (.set (.nm 17) (.call 16 (.cons (.sl (.var 16) (.cst (.int 1)) .nil) (.cons (.var 14) (.cons (.var 15) .nil)))))
    (.seq (.ifs (.not (.call 15 (.cons (.call 11 (.cons (.var 16) (.cons (.var 14) (.cons (.var 15) .nil)))) (.cons (.ife (.cmp .eq (.bin .mod (.var 17) (.ix (.var 16) (.cst (.int 0)))) (.cst (.int 0))) (.bin .fdiv (.var 17) (.ix (.var 16) (.cst (.int 0)))) (.cst .none)) .nil))))
     (.seq (.ret (.cst (.bool false)))
     .skip)
     .skip)
    .skip)))
   .skip)))) [y0, some (.ref 0), y2, some (.d (.int m)), y4, y5, y6, y7, y8, some (.d (.list made)), y10, y11, y12, y13, y14, y15, y16, y17] [.lst l] =
     .nx [y0, some (.ref 0), y2, some (.d (.int m)), y4, y5, z6, y7, y8, some (.d (.list made)), y10, y11, y12, z13, z14, z15, z16, z17] [.lst l'] := by
  have rw6 : walk (evE (cx P 19).fe (.rng (.cons (.cst (.int 6)) .nil)) [y0, some (.ref 0), y2, some (.d (.int m)), y4, y5, y6, y7, y8, some (.d (.list made)), y10, y11, y12, y13, y14, y15, y16, y17] [.lst l]) = .ok ((List.range 6).map fun (i : Nat) => .int (0 + (i : Int)), []) [.lst l] := rng_walk rfl (by decide)
  obtain ⟨v', s', e, z13, z14, z15, z16, z17, l', rfl, rfl, hl'⟩ := st_for_ex (I := fun j v s' => ∃ z13 z14 z15 z16 z17 l', v = [y0, some (.ref 0), y2, some (.d (.int m)), y4, y5, y6, y7, y8, some (.d (.list made)), y10, y11, y12, z13, z14, z15, z16, z17] ∧ s' = [.lst l'] ∧ Bag (t + 5 * j) l')
    (A := (.seq (.set (.nm 14) (.call 14 (.cons (.var 1) (.cons (.lst (.cons (.cst (.int 2)) (.cons (.cst (.int 3)) (.cons (.cst (.int 7)) (.cons (.cst (.int 10)) (.cons (.bin .pow (.cst (.int 10)) (.cst (.int 20))) .nil)))))) .nil))))
   (.seq (.set (.nm 15) (.bi .tuple (.cons (.comp false (.call 13 (.cons (.var 1) (.cons (.bi .min (.cons (.var 14) (.cons (.cst (.int 1000)) .nil))) .nil))) (.nm 6) (.rng (.cons (.var 3) .nil)) (.cst (.bool true)) [6]) .nil)))
   (.seq (.for (.nm 16) (.var 9)
    (.seq (.set (.nm 17) (.call 16 (.cons (.sl (.var 16) (.cst (.int 1)) .nil) (.cons (.var 14) (.cons (.var 15) .nil)))))
    (.seq (.ifs (.not (.call 15 (.cons (.call 11 (.cons (.var 16) (.cons (.var 14) (.cons (.var 15) .nil)))) (.cons (.ife (.cmp .eq (.bin .mod (.var 17) (.ix (.var 16) (.cst (.int 0)))) (.cst (.int 0))) (.bin .fdiv (.var 17) (.ix (.var 16) (.cst (.int 0)))) (.cst .none)) .nil))))
     (.seq (.ret (.cst (.bool false)))
     .skip)
     .skip)
    .skip)))
   .skip)))) (t := .nm 13) rw6 (fun _ _ _ _ => rfl) ⟨y13, y14, y15, y16, y17, l, rfl, rfl, hb⟩ (fun j v s2 x hj ⟨z13, z14, z15, z16, z17, l1, e1, e2, hl1⟩ hx => by
      subst e1
      subst e2
      rw [List.length_map, List.length_range] at hj
      obtain ⟨bx, l2, hbx, hb2, e3⟩ := some_ok (k := 17) (rest := []) (xs := [.int 2, .int 3, .int 7, .int 10, .int ((10 : Int) ^ 20)]) hS hT hl1 (by omega) (by simp) (by decide)
      obtain ⟨base, rfl, hB0, hB⟩ : ∃ base : Int, bx = .int base ∧ 0 < base ∧ base.natAbs ≤ 10 ^ 20 := by
        simp only [List.mem_cons, List.not_mem_nil, or_false] at hbx
        rcases hbx with rfl | rfl | rfl | rfl | rfl
        · exact ⟨2, rfl, by decide, by decide +kernel⟩
        · exact ⟨3, rfl, by decide, by decide +kernel⟩
        · exact ⟨7, rfl, by decide, by decide +kernel⟩
        · exact ⟨10, rfl, by decide, by decide +kernel⟩
        · exact ⟨(10 : Int) ^ 20, rfl, by decide +kernel, by decide +kernel⟩
      have hmin : (0 : Int) < (if (1000 : Int) < base then 1000 else base) ∧ (if (1000 : Int) < base then 1000 else base) ≤ 1000 := by split <;> omega
      obtain ⟨ys, s4, e4, h4, l4, rfl, b4⟩ := ev_comp_ex (α := {i : Int // i.natAbs ≤ 1000}) (F := (cx P 19).fe) (a := .call 13 (.cons (.var 1) (.cons (.bi .min (.cons (.var 14) (.cons (.cst (.int 1000)) .nil))) .nil))) (b := .rng (.cons (.var 3) .nil)) (t := .nm 6) (own := [6])
        (v := [y0, some (.ref 0), y2, some (.d (.int m)), y4, y5, y6, y7, y8, some (.d (.list made)), y10, y11, y12, some (.d x), some (.d (.int base)), z15, z16, z17]) (s := [.lst l2])
        (I := fun n s => ∃ l, s = [.lst l] ∧ Bag (t + 5 * j + 1 + n) l) (fun i => .int i.1) (rng_walk (n := m) rfl (by omega)) (fun _ _ _ => rfl) (by rw [List.length_map, List.length_range]; exact lim10 (by omega)) ⟨l2, rfl, hb2⟩ (fun n s x hn ⟨l, e, hl⟩ hx => by
          subst e
          rw [List.length_map, List.length_range] at hn
          obtain ⟨r, l', a7, a8, b5, e5⟩ := take_ok (k := 18) (rest := []) (many := if (1000 : Int) < base then 1000 else base) hT hl (by omega) hmin.1 (sm9 (by omega))
          exact ⟨_, ⟨r, by omega⟩, _, rfl, ev_call (ev_cons (w := .ref 0) rfl (ev_cons (w := .d (.int (if (1000 : Int) < base then 1000 else base))) rfl ev_nil)) e5, l', rfl, b5⟩)
      rw [List.length_map, List.length_range] at b4
      obtain ⟨q16, q17, e6⟩ := inner_ok (y0 := y0) (y1 := some (.ref 0)) (y2 := y2) (y3 := some (.d (.int m))) (y4 := y4) (y5 := y5) (y6 := y6) (y7 := y7) (y8 := y8) (y10 := y10) (y11 := y11) (y12 := y12) (y13 := some (.d x)) (y16 := z16) (y17 := z17) (made := made) (base := base) (ds := ys.map (·.1)) (s := [.lst l4]) hm hB0 hB (fun d hd => by
        obtain ⟨q, hq, rfl⟩ := List.mem_map.mp hd
        exact q.2)
      refine ⟨[y0, some (.ref 0), y2, some (.d (.int m)), y4, y5, y6, y7, y8, some (.d (.list made)), y10, y11, y12, some (.d x), z14, z15, z16, z17], _, [.lst l4], rfl, ?_, some (.d x), some (.d (.int base)), some (.d (.tuple ((ys.map (·.1)).map .int))), q16, q17, l4, rfl, rfl, b4.mono (by omega)⟩
      refine st_seq (v1 := [y0, some (.ref 0), y2, some (.d (.int m)), y4, y5, y6, y7, y8, some (.d (.list made)), y10, y11, y12, some (.d x), some (.d (.int base)), z15, z16, z17]) (s1 := [.lst l2]) (st_set (ev_call (ev_cons (w := .ref 0) rfl (ev_cons (w := .d (.list [.int 2, .int 3, .int 7, .int 10, .int ((10 : Int) ^ 20)])) (ev_lst (ws := [.d (.int 2), .d (.int 3), .d (.int 7), .d (.int 10), .d (.int ((10 : Int) ^ 20))]) rfl rfl (limb rfl)) ev_nil)) e3) rfl) ?_
      refine st_seq (v1 := [y0, some (.ref 0), y2, some (.d (.int m)), y4, y5, y6, y7, y8, some (.d (.list made)), y10, y11, y12, some (.d x), some (.d (.int base)), some (.d (.tuple ((ys.map (·.1)).map .int))), z16, z17]) (s1 := [.lst l4]) (st_set (ev_bi (ev_cons e4 ev_nil) rfl rfl) (by rw [List.map_map]; rfl)) ?_
      exact st_seq e6 rfl)
  exact ⟨y6, z13, z14, z15, z16, z17, l', hl', e⟩
def lapB : S :=
  (.seq (.set (.nm 3) (.call 13 (.cons (.var 1) (.cons (.cst (.int 4)) .nil))))
  (.seq (.set (.tp [4, 5]) (.comp false (.call 20 (.cons (.call 19 (.cons (.var 1) (.cons (.var 3) .nil))) .nil)) (.nm 6) (.rng (.cons (.cst (.int 2)) .nil)) (.cst (.bool true)) [6]))
  (.seq (.par [7, 8] (.cons (.call 19 (.cons (.var 1) (.cons (.var 3) .nil))) (.cons (.bin .sub (.call 13 (.cons (.var 1) (.cons (.cst (.int 9)) .nil))) (.cst (.int 4))) .nil)))
  (.seq (.set (.nm 9) (.lst (.cons (.call 2 (.cons (.ix (.var 7) (.cst (.int 0))) (.cons (.ix (.var 7) (.cst (.int 1))) (.cons (.ix (.var 7) (.cst (.int 2))) (.cons (.ix (.var 7) (.cst (.int 3))) .nil))))) (.cons (.call 6 (.cons (.var 4) (.cons (.var 5) .nil))) (.cons (.call 8 (.cons (.var 4) (.cons (.var 5) .nil))) (.cons (.call 7 (.cons (.var 8) (.cons (.var 4) .nil))) (.cons (.call 9 (.cons (.var 4) (.cons (.bin .add (.bi .abs (.cons (.var 8) .nil)) (.cst (.int 1))) .nil))) .nil)))))))
  (.seq (.set (.nm 10) (.lst (.cons (.call 20 (.cons (.var 7) .nil)) (.cons (.call 21 (.cons (.cst (.int 1)) (.cons (.var 4) (.cons (.cst (.int 1)) (.cons (.var 5) .nil))))) (.cons (.call 21 (.cons (.cst (.int 1)) (.cons (.var 4) (.cons (.neg (.cst (.int 1))) (.cons (.var 5) .nil))))) (.cons (.call 21 (.cons (.var 8) (.cons (.var 4) (.cons (.cst (.int 0)) (.cons (.var 4) .nil))))) (.cons (.call 20 (.cons (.bin .add (.tup (.cons (.bin .mul (.ix (.var 4) (.cst (.int 0))) (.bin .add (.bi .abs (.cons (.var 8) .nil)) (.cst (.int 1)))) .nil)) (.sl (.var 4) (.cst (.int 1)) .nil)) .nil)) .nil)))))))
  (.seq (.ifs (.not (.call 15 (.cons (.var 9) (.cons (.var 10) .nil))))
   (.seq (.ret (.cst (.bool false)))
   .skip)
   .skip)
  (.seq (.set (.nm 11) (.bin .mul (.tup (.cons (.cst (.int 0)) .nil)) (.var 3)))
  (.seq (.ifs (.not (.call 15 (.cons (.lst (.cons (.call 3 (.cons (.var 3) (.cons (.var 8) .nil))) (.cons (.call 4 (.cons (.var 3) (.cons (.var 8) .nil))) .nil))) (.cons (.lst (.cons (.tup (.cons (.cst (.int 1)) (.cons (.var 8) (.cons (.cst (.int 0)) (.cons (.var 11) .nil))))) (.cons (.tup (.cons (.cst (.int 1)) (.cons (.cst (.int 0)) (.cons (.var 8) (.cons (.var 11) .nil))))) .nil))) .nil))))
   (.seq (.ret (.cst (.bool false)))
   .skip)
   .skip)
  (.seq (.ifs (.cmp .gt (.var 3) (.cst (.int 0)))
   (.seq (.set (.nm 12) (.call 13 (.cons (.var 1) (.cons (.var 3) .nil))))
   (.seq (.ifs (.not (.call 15 (.cons (.call 5 (.cons (.var 3) (.cons (.var 12) .nil))) (.cons (.tup (.cons (.cst (.int 1)) (.cons (.cst (.int 0)) (.cons (.cst (.int 0)) (.cons (.bin .add (.bin .add (.sl (.var 11) .nil (.var 12)) (.tup (.cons (.cst (.int 1)) .nil))) (.sl (.var 11) (.bin .add (.var 12) (.cst (.int 1))) .nil)) .nil))))) .nil))))
    (.seq (.ret (.cst (.bool false)))
    .skip)
    .skip)
   .skip))
   .skip)
  (.seq (.for (.nm 13) (.rng (.cons (.cst (.int 6)) .nil))
   (.seq (.set (.nm 14) (.call 14 (.cons (.var 1) (.cons (.lst (.cons (.cst (.int 2)) (.cons (.cst (.int 3)) (.cons (.cst (.int 7)) (.cons (.cst (.int 10)) (.cons (.bin .pow (.cst (.int 10)) (.cst (.int 20))) .nil)))))) .nil))))
   (.seq (.set (.nm 15) (.bi .tuple (.cons (.comp false (.call 13 (.cons (.var 1) (.cons (.bi .min (.cons (.var 14) (.cons (.cst (.int 1000)) .nil))) .nil))) (.nm 6) (.rng (.cons (.var 3) .nil)) (.cst (.bool true)) [6]) .nil)))
   (.seq (.for (.nm 16) (.var 9)
    (.seq (.set (.nm 17) (.call 16 (.cons (.sl (.var 16) (.cst (.int 1)) .nil) (.cons (.var 14) (.cons (.var 15) .nil)))))
    (.seq (.ifs (.not (.call 15 (.cons (.call 11 (.cons (.var 16) (.cons (.var 14) (.cons (.var 15) .nil)))) (.cons (.ife (.cmp .eq (.bin .mod (.var 17) (.ix (.var 16) (.cst (.int 0)))) (.cst (.int 0))) (.bin .fdiv (.var 17) (.ix (.var 16) (.cst (.int 0)))) (.cst .none)) .nil))))
     (.seq (.ret (.cst (.bool false)))
     .skip)
     .skip)
    .skip)))
   .skip))))
  .skip))))))))))
theorem b22_eq : b22 = (.seq (.set (.nm 1) (.call 12 (.cons (.var 0) .nil))) (.seq (.for (.nm 2) (.rng (.cons (.cst (.int 8)) .nil)) lapB) (.seq (.ret (.cst (.bool true))) .skip))) := rfl
def eV (y0 y2 y3 y4 y5 y6 y7 y8 y9 y10 y11 y12 y13 y14 y15 y16 y17 : Option W) : En := [y0, some (.ref 0), y2, y3, y4, y5, y6, y7, y8, y9, y10, y11, y12, y13, y14, y15, y16, y17]
theorem digit_eval {y0 y2 y4 y5 y6 y7 y8 y9 y10 y13 y14 y15 y16 y17 : Option W} {s : Sto} {m a : Nat} (h : m ≤ 3) (ha : a < m) :
    evE (cx P 19).fe (.tup (.cons (.cst (.int 1)) (.cons (.cst (.int 0)) (.cons (.cst (.int 0)) (.cons (.bin .add (.bin .add (.sl (.var 11) .nil (.var 12)) (.tup (.cons (.cst (.int 1)) .nil))) (.sl (.var 11) (.bin .add (.var 12) (.cst (.int 1))) .nil)) .nil)))))
      (eV y0 y2 (some (.d (.int m))) y4 y5 y6 y7 y8 y9 y10 (some (.d (.tuple (List.replicate m (.int 0))))) (some (.d (.int a))) y13 y14 y15 y16 y17) s = .ok (.d (digitD m a)) s := by
  match m, a, h, ha with
  | 1, 0, _, _ => rfl
  | 2, 0, _, _ => rfl
  | 2, 1, _, _ => rfl
  | 3, 0, _, _ => rfl
  | 3, 1, _, _ => rfl
  | 3, 2, _, _ => rfl
theorem digit_gd {m a : Nat} (h : m ≤ 3) : Gd 2 20 (digitD m a) := by
  have t : Gd 1 3 (.tuple ((List.range m).map fun k => .int (if k = a then 1 else 0))) := (Gd.tuple (d := 0) (b := 0) fun x hx => by
    obtain ⟨p, hp, rfl⟩ := List.mem_map.mp hx
    split <;> exact gdI (by decide)).mono (Nat.le_refl _) (by rw [List.length_map, List.length_range]; omega)
  refine (Gd.tuple (d := 1) (b := 3) (xs := [.int 1, .int 0, .int 0, .tuple ((List.range m).map fun k => .int (if k = a then 1 else 0))]) fun x hx => ?_).mono (Nat.le_refl _) (Nat.le_of_ble_eq_true rfl)
  simp only [List.mem_cons, List.not_mem_nil, or_false] at hx
  rcases hx with rfl | rfl | rfl | rfl
  · exact (gdI (by decide)).mono (by decide) (by decide)
  · exact (gdI (by decide)).mono (by decide) (by decide)
  · exact (gdI (by decide)).mono (by decide) (by decide)
  · exact t
theorem four_gd {m : Nat} {x y z : Int} (h : m ≤ 3) (hx : x.natAbs ≤ 1000) (hy : y.natAbs ≤ 1000) (hz : z.natAbs ≤ 1000) : Gd 2 20 (.tuple [.int x, .int y, .int z, .tuple (List.replicate m (.int 0))]) := by
  have big : ∀ {i : Int}, i.natAbs ≤ 1000 → Gd 0 0 (.int i) := fun h => gdI (Nat.le_trans h (by decide +kernel))
  refine (Gd.tuple (d := 1) (b := 3) (xs := [.int x, .int y, .int z, .tuple (List.replicate m (.int 0))]) fun q hq => ?_).mono (Nat.le_refl _) (Nat.le_of_ble_eq_true rfl)
  simp only [List.mem_cons, List.not_mem_nil, or_false] at hq
  rcases hq with rfl | rfl | rfl | rfl
  · exact (big hx).mono (by decide) (by decide)
  · exact (big hy).mono (by decide) (by decide)
  · exact (big hz).mono (by decide) (by decide)
  · exact zeros_gd h
theorem IsF.gd {x : PD} (h : IsF 1000000000 x) : Gd 2 20 x := by
  obtain ⟨u, w, b, ps, rfl, fo⟩ := h
  exact F4_gd fo
theorem low_is {B : Nat} {u w b : Int} {ps : List Int} (h : Fo B u w b ps) (hB : B ≤ 1000000000) : IsF 1000000000 (low u w b ps) := by
  obtain ⟨g, u2, w2, b2, p2, e, fo, _⟩ := low_fo h
  exact ⟨_, _, _, _, e, fo.mono hB⟩
theorem joinedFo {o t u w b u' w' b' : Int} {ps ps' : List Int} (h : Fo 1000 u w b ps) (h' : Fo 1000 u' w' b' ps') (ho : o.natAbs ≤ 100) (ht : t.natAbs ≤ 100) : Fo 200000000 (u * u') (o * u' * w + t * u * w') (o * u' * b + t * u * b') (joinL o t u u' ps ps') := by
  have bd : ∀ {x y : Int}, x.natAbs ≤ 1000 → y.natAbs ≤ 1000 → (o * u' * x + t * u * y).natAbs ≤ 200000000 := fun hx hy => na (nm (nm ho h'.u) hx) (nm (nm ht h.u) hy)
  refine ⟨Int.mul_pos h.pos h'.pos, Nat.le_trans (nm h.u h'.u) (by decide), bd h.w h'.w, bd h.b h'.b, ?_, fun p hp => ?_⟩
  · unfold joinL
    rw [List.length_map, List.length_zip]
    have := h.len
    omega
  · obtain ⟨q, hq, rfl⟩ := List.mem_map.mp hp
    exact bd (h.ps _ (zip_mem hq).1) (h'.ps _ (zip_mem hq).2)
theorem timesFo {n u w b : Int} {ps : List Int} (h : Fo 100000 u w b ps) (hn : n.natAbs ≤ 1000) : Fo 100000000 u (n * w) (n * b) (ps.map (n * ·)) :=
  ⟨h.pos, Nat.le_trans h.u (by decide), nm hn h.w, nm hn h.b, by rw [List.length_map]; exact h.len, fun p hp => by
    obtain ⟨q, hq, rfl⟩ := List.mem_map.mp hp
    exact nm hn (h.ps q hq)⟩
theorem lap_ok {y0 y2 y3 y4 y5 y6 y7 y8 y9 y10 y11 y12 y13 y14 y15 y16 y17 : Option W} {t : Nat} {l : List PD} (hb : Bag t l) (ht : t < 10000000) :
    ∃ z3 z4 z5 z6 z7 z8 z9 z10 z11 z12 z13 z14 z15 z16 z17 l', Bag (t + 100) l' ∧ evS (cx P 19) lapB (eV y0 y2 y3 y4 y5 y6 y7 y8 y9 y10 y11 y12 y13 y14 y15 y16 y17) [.lst l] = .nx (eV y0 y2 z3 z4 z5 z6 z7 z8 z9 z10 z11 z12 z13 z14 z15 z16 z17) [.lst l'] := by
  have sm : ∀ {n : Int}, n.natAbs ≤ 1000 → Sm n := fun h => sm9 (by omega)
  obtain ⟨m0, l1, a1, a2, hb1, e1⟩ := take_ok (k := 18) (rest := []) (many := 4) hT hb (by omega) (by decide) (sm (by decide))
  obtain ⟨m, rfl⟩ := Int.eq_ofNat_of_zero_le a1
  have h3 : m ≤ 3 := by omega
  obtain ⟨ys, s2, e2, h2, l2, rfl, hb2⟩ := ev_comp_ex (α := {x : PD // IsF 12 x}) (F := (cx P 19).fe) (a := .call 20 (.cons (.call 19 (.cons (.var 1) (.cons (.var 3) .nil))) .nil)) (b := .rng (.cons (.cst (.int 2)) .nil)) (t := .nm 6) (own := [6]) (v := eV y0 y2 (some (.d (.int m))) y4 y5 y6 y7 y8 y9 y10 y11 y12 y13 y14 y15 y16 y17) (s := [.lst l1])
    (I := fun n s => ∃ l, s = [.lst l] ∧ Bag (t + 1 + 6 * n) l) (fun i => i.1) (rng_walk (n := 2) rfl (by omega)) (fun _ _ _ => rfl) (by rw [List.length_map, List.length_range]; exact limb rfl) ⟨l1, rfl, hb1⟩ (fun n s x hn ⟨l, e, hl⟩ hx => by
      subst e
      rw [List.length_map, List.length_range] at hn
      obtain ⟨u, w, b, ps, l', fo, hp, hb', e5⟩ := drawn_ok (k := 17) (rest := []) hl (by omega) h3
      obtain ⟨g, u2, w2, b2, p2, e, fo2, _⟩ := low_fo fo
      refine ⟨_, ⟨low u w b ps, ⟨u2, w2, b2, p2, e, fo2⟩⟩, _, rfl, ev_call (ev_cons (ev_call (ev_cons (w := .ref 0) rfl (ev_cons (w := .d (.int m)) rfl ev_nil)) e5) ev_nil) (lowest_ok (k := 16) fo.pos (fo.all (by decide)) (by have := fo.len; omega)), l', rfl, hb'⟩)
  rw [List.length_map, List.length_range] at h2 hb2
  obtain ⟨x1, x2, rfl⟩ : ∃ x1 x2, ys = [x1, x2] := by
    match ys, h2 with
    | [x1, x2], _ => exact ⟨x1, x2, rfl⟩
  obtain ⟨⟨_, u, w, b, ps, rfl, fo⟩, ⟨_, u', w', b', ps', rfl, fo'⟩⟩ := x1, x2
  obtain ⟨ru, rw', rb, rps, l3, rfo, hrp, hb3, e3⟩ := drawn_ok (k := 17) (rest := []) hb2 (by omega) h3
  obtain ⟨n0, l4, c1, c2, hb4, e4⟩ := take_ok (k := 18) (rest := []) (many := 9) hT hb3 (by omega) (by decide) (sm (by decide))
  generalize hn : n0 - 4 = n
  have hn4 : n.natAbs ≤ 4 := by omega
  generalize hq : (if n < 0 then -n else n) + 1 = q
  have hq0 : 0 < q ∧ q.natAbs ≤ 5 := by
    rw [← hq]
    split <;> omega
  have f1 := fo.mono (C := 1000) (by decide)
  have f1' := fo'.mono (C := 1000) (by decide)
  have f2 := fo.mono (C := 100000) (by decide)
  have f2' := fo'.mono (C := 100000) (by decide)
  have g1 : (cx P 19).fe.call 2 [.d (.int ru), .d (.int rw'), .d (.int rb), .d (.tuple (rps.map .int))] [.lst l4] = .ok (.d (low ru rw' rb rps)) [.lst l4] := made_ok (k := 16) rfo.pos (rfo.all (by decide)) (by have := rfo.len; omega) _ (.inr rfl)
  have g2 : (cx P 19).fe.call 6 [.d (F4 u w b ps), .d (F4 u' w' b' ps')] [.lst l4] = .ok (.d (low (u * u') (u' * w + u * w') (u' * b + u * b') (plusL u u' ps ps'))) [.lst l4] := plus_ok (k := 15) f1 f2'
  have g3 : (cx P 19).fe.call 8 [.d (F4 u w b ps), .d (F4 u' w' b' ps')] [.lst l4] = .ok (.d (low (u * u') (1 * u' * w + -1 * u * w') (1 * u' * b + -1 * u * b') (joinL 1 (-1) u u' ps ps'))) [.lst l4] := less_ok (k := 14) f1 f1'
  have g4 : (cx P 19).fe.call 7 [.d (.int n), .d (F4 u w b ps)] [.lst l4] = .ok (.d (low u (n * w) (n * b) (ps.map (n * ·)))) [.lst l4] := times_ok (k := 15) f2 (by omega)
  have g5 : (cx P 19).fe.call 9 [.d (F4 u w b ps), .d (.int q)] [.lst l4] = .ok (.d (low (u * q) w b ps)) [.lst l4] := over_ok (k := 15) f2 (by omega) hq0.1
  have d1 : (cx P 19).fe.call 20 [.d (F4 ru rw' rb rps)] [.lst l4] = .ok (.d (low ru rw' rb rps)) [.lst l4] := lowest_ok (k := 16) rfo.pos (rfo.all (by decide)) (by have := rfo.len; omega)
  have d2 : (cx P 19).fe.call 21 [.d (.int 1), .d (F4 u w b ps), .d (.int 1), .d (F4 u' w' b' ps')] [.lst l4] = .ok (.d (low (u * u') (u' * w + u * w') (u' * b + u * b') (plusL u u' ps ps'))) [.lst l4] := by
    refine (joined_ok (k := 15) (o := 1) (t := 1) f1 f1' (by decide) (by decide)).trans ?_
    rw [plus_join]
    simp only [Int.one_mul]
  have d3 : (cx P 19).fe.call 21 [.d (.int 1), .d (F4 u w b ps), .d (.int (-1)), .d (F4 u' w' b' ps')] [.lst l4] = .ok (.d (low (u * u') (1 * u' * w + -1 * u * w') (1 * u' * b + -1 * u * b') (joinL 1 (-1) u u' ps ps'))) [.lst l4] := joined_ok (k := 15) (o := 1) (t := -1) f1 f1' (by decide) (by decide)
  have d4 : (cx P 19).fe.call 21 [.d (.int n), .d (F4 u w b ps), .d (.int 0), .d (F4 u w b ps)] [.lst l4] = .ok (.d (low u (n * w) (n * b) (ps.map (n * ·)))) [.lst l4] := by
    refine (joined_ok (k := 15) (o := n) (t := 0) f1 f1 (by omega) (by decide)).trans ?_
    rw [times_join fo.pos]
  have fq : Fo 1000 (u * q) w b ps := ⟨Int.mul_pos fo.pos hq0.1, Nat.le_trans (nm fo.u hq0.2) (by decide), f1.w, f1.b, f1.len, f1.ps⟩
  have d5 : (cx P 19).fe.call 20 [.d (F4 (u * q) w b ps)] [.lst l4] = .ok (.d (low (u * q) w b ps)) [.lst l4] := lowest_ok (k := 16) fq.pos (fq.all (by decide)) (by have := fq.len; omega)
  obtain ⟨M, hM⟩ : ∃ M : List PD, M = [low ru rw' rb rps, low (u * u') (u' * w + u * w') (u' * b + u * b') (plusL u u' ps ps'), low (u * u') (1 * u' * w + -1 * u * w') (1 * u' * b + -1 * u * b') (joinL 1 (-1) u u' ps ps'), low u (n * w) (n * b) (ps.map (n * ·)), low (u * q) w b ps] := ⟨_, rfl⟩
  have hIs : ∀ x ∈ M, IsF 1000000000 x := fun x hx => by
    rw [hM] at hx
    simp only [List.mem_cons, List.not_mem_nil, or_false] at hx
    rcases hx with rfl | rfl | rfl | rfl | rfl
    · exact low_is rfo (by decide)
    · exact low_is (plusFo f1 f2') (by decide)
    · exact low_is (joinedFo (o := 1) (t := -1) f1 f1' (by decide) (by decide)) (by decide)
    · exact low_is (timesFo f2 (by omega)) (by decide)
    · exact low_is fq (by decide)
  have hMl : M.length = 5 := by rw [hM]; rfl
  have absq : ∀ {v : En} {s : Sto}, v[8]? = some (some (.d (.int n))) → evE (cx P 19).fe (.bin .add (.bi .abs (.cons (.var 8) .nil)) (.cst (.int 1))) v s = .ok (.d (.int q)) s := fun {v s} hv => by
    have e8 : evE (cx P 19).fe (.var 8) v s = .ok (.d (.int n)) s := by rw [evE, hv]
    rw [← hq]
    exact ev_bin (ev_bi (ev_cons e8 ev_nil) rfl rfl) rfl add_ok
  -- the digit left out, drawn if there is one
  obtain ⟨y12', l5, hb5, e5⟩ : ∃ y12' l5, Bag (t + 30) l5 ∧ evS (cx P 19) (.ifs (.cmp .gt (.var 3) (.cst (.int 0)))
   (.seq (.set (.nm 12) (.call 13 (.cons (.var 1) (.cons (.var 3) .nil))))
   (.seq (.ifs (.not (.call 15 (.cons (.call 5 (.cons (.var 3) (.cons (.var 12) .nil))) (.cons (.tup (.cons (.cst (.int 1)) (.cons (.cst (.int 0)) (.cons (.cst (.int 0)) (.cons (.bin .add (.bin .add (.sl (.var 11) .nil (.var 12)) (.tup (.cons (.cst (.int 1)) .nil))) (.sl (.var 11) (.bin .add (.var 12) (.cst (.int 1))) .nil)) .nil))))) .nil))))
    (.seq (.ret (.cst (.bool false)))
    .skip)
    .skip)
   .skip))
   .skip) (eV y0 y2 (some (.d (.int m))) (some (.d (F4 u w b ps))) (some (.d (F4 u' w' b' ps'))) y6 (some (.d (F4 ru rw' rb rps))) (some (.d (.int n))) (some (.d (.list M))) (some (.d (.list M))) (some (.d (.tuple (List.replicate m (.int 0))))) y12 y13 y14 y15 y16 y17) [.lst l4] =
     .nx (eV y0 y2 (some (.d (.int m))) (some (.d (F4 u w b ps))) (some (.d (F4 u' w' b' ps'))) y6 (some (.d (F4 ru rw' rb rps))) (some (.d (.int n))) (some (.d (.list M))) (some (.d (.list M))) (some (.d (.tuple (List.replicate m (.int 0))))) y12' y13 y14 y15 y16 y17) [.lst l5] := by
    by_cases hm : 0 < m
    · obtain ⟨r, l5, c3, c4, hb5, e5⟩ := take_ok (k := 18) (rest := []) (many := m) hT hb4 (by omega) (by omega) (sm (by omega))
      obtain ⟨at_, rfl⟩ := Int.eq_ofNat_of_zero_le c3
      refine ⟨some (.d (.int at_)), l5, hb5.mono (by omega), ?_⟩
      refine st_ifT (s1 := [.lst l4]) (ev_cmp (k := true) (x := .int m) (y := .int 0) rfl rfl (by show some (decide _) = _; rw [decide_eq_true (by omega)])) ?_
      refine st_seq (v1 := eV y0 y2 (some (.d (.int m))) (some (.d (F4 u w b ps))) (some (.d (F4 u' w' b' ps'))) y6 (some (.d (F4 ru rw' rb rps))) (some (.d (.int n))) (some (.d (.list M))) (some (.d (.list M))) (some (.d (.tuple (List.replicate m (.int 0))))) (some (.d (.int at_))) y13 y14 y15 y16 y17) (s1 := [.lst l5]) (st_set (ev_call (ev_cons (w := .ref 0) rfl (ev_cons (w := .d (.int m)) rfl ev_nil)) e5) rfl) ?_
      have dg : (cx P 19).fe.call 5 [.d (.int m), .d (.int at_)] [.lst l5] = .ok (.d (digitD m at_)) [.lst l5] := (call_cx P 19 5 _ _).trans (digit_ok (k := 18) (many := m) (at_ := at_) (s := [.lst l5]) h3)
      exact st_seq (alike_step (digit_gd h3) (by decide) (by decide) (ev_call (ev_cons (w := .d (.int m)) rfl (ev_cons (w := .d (.int at_)) rfl ev_nil)) dg) (digit_eval h3 (by omega))) rfl
    · refine ⟨y12, l4, hb4.mono (by omega), ?_⟩
      exact st_ifF (s1 := [.lst l4]) (ev_cmp (k := false) (x := .int m) (y := .int 0) rfl rfl (by show some (decide _) = _; rw [decide_eq_false (by omega)])) rfl
  obtain ⟨z6, z13, z14, z15, z16, z17, l6, hb6, e6⟩ := turns_ok (y0 := y0) (y2 := y2) (y4 := some (.d (F4 u w b ps))) (y5 := some (.d (F4 u' w' b' ps'))) (y6 := y6) (y7 := some (.d (F4 ru rw' rb rps))) (y8 := some (.d (.int n))) (y10 := some (.d (.list M))) (y11 := some (.d (.tuple (List.replicate m (.int 0))))) (y12 := y12') (y13 := y13) (y14 := y14) (y15 := y15) (y16 := y16) (y17 := y17) hIs h3 hb5 (by omega)
  refine ⟨some (.d (.int m)), some (.d (F4 u w b ps)), some (.d (F4 u' w' b' ps')), z6, some (.d (F4 ru rw' rb rps)), some (.d (.int n)), some (.d (.list M)), some (.d (.list M)), some (.d (.tuple (List.replicate m (.int 0)))), y12', z13, z14, z15, z16, z17, l6, hb6.mono (by omega), ?_⟩
  unfold lapB
  refine st_seq (v1 := eV y0 y2 (some (.d (.int m))) y4 y5 y6 y7 y8 y9 y10 y11 y12 y13 y14 y15 y16 y17) (s1 := [.lst l1]) (st_set (ev_call (ev_cons (w := .ref 0) rfl (ev_cons (w := .d (.int 4)) rfl ev_nil)) e1) rfl) ?_
  refine st_seq (v1 := eV y0 y2 (some (.d (.int m))) (some (.d (F4 u w b ps))) (some (.d (F4 u' w' b' ps'))) y6 y7 y8 y9 y10 y11 y12 y13 y14 y15 y16 y17) (s1 := [.lst l2]) (st_set e2 rfl) ?_
  refine st_seq (v1 := eV y0 y2 (some (.d (.int m))) (some (.d (F4 u w b ps))) (some (.d (F4 u' w' b' ps'))) y6 (some (.d (F4 ru rw' rb rps))) (some (.d (.int n))) y9 y10 y11 y12 y13 y14 y15 y16 y17) (s1 := [.lst l4]) (st_par (ev_cons (ev_call (ev_cons (w := .ref 0) rfl (ev_cons (w := .d (.int m)) rfl ev_nil)) e3) (ev_cons (ev_bin (ev_call (ev_cons (w := .ref 0) rfl (ev_cons (w := .d (.int 9)) rfl ev_nil)) e4) rfl sub_ok) ev_nil)) (by rw [hn]; rfl)) ?_
  refine st_seq (v1 := eV y0 y2 (some (.d (.int m))) (some (.d (F4 u w b ps))) (some (.d (F4 u' w' b' ps'))) y6 (some (.d (F4 ru rw' rb rps))) (some (.d (.int n))) (some (.d (.list M))) y10 y11 y12 y13 y14 y15 y16 y17) (s1 := [.lst l4]) (st_set (w := .d (.list M)) (ev_lst (ev_cons (ev_call (ev_cons (w := .d (.int ru)) rfl (ev_cons (w := .d (.int rw')) rfl (ev_cons (w := .d (.int rb)) rfl (ev_cons (w := .d (.tuple (rps.map .int))) rfl ev_nil)))) g1)
    (ev_cons (ev_call (ev_cons (w := .d (F4 u w b ps)) rfl (ev_cons (w := .d (F4 u' w' b' ps')) rfl ev_nil)) g2) (ev_cons (ev_call (ev_cons (w := .d (F4 u w b ps)) rfl (ev_cons (w := .d (F4 u' w' b' ps')) rfl ev_nil)) g3)
    (ev_cons (ev_call (ev_cons (w := .d (.int n)) rfl (ev_cons (w := .d (F4 u w b ps)) rfl ev_nil)) g4) (ev_cons (ev_call (ev_cons (w := .d (F4 u w b ps)) rfl (ev_cons (absq rfl) ev_nil)) g5) ev_nil))))) (by rw [hM]; rfl) (by rw [hMl]; exact limb rfl)) rfl) ?_
  refine st_seq (v1 := eV y0 y2 (some (.d (.int m))) (some (.d (F4 u w b ps))) (some (.d (F4 u' w' b' ps'))) y6 (some (.d (F4 ru rw' rb rps))) (some (.d (.int n))) (some (.d (.list M))) (some (.d (.list M))) y11 y12 y13 y14 y15 y16 y17) (s1 := [.lst l4]) (st_set (w := .d (.list M)) (ev_lst (ev_cons (ev_call (ev_cons (w := .d (F4 ru rw' rb rps)) rfl ev_nil) d1)
    (ev_cons (ev_call (ev_cons (w := .d (.int 1)) rfl (ev_cons (w := .d (F4 u w b ps)) rfl (ev_cons (w := .d (.int 1)) rfl (ev_cons (w := .d (F4 u' w' b' ps')) rfl ev_nil)))) d2) (ev_cons (ev_call (ev_cons (w := .d (.int 1)) rfl (ev_cons (w := .d (F4 u w b ps)) rfl (ev_cons (w := .d (.int (-1))) rfl (ev_cons (w := .d (F4 u' w' b' ps')) rfl ev_nil)))) d3)
    (ev_cons (ev_call (ev_cons (w := .d (.int n)) rfl (ev_cons (w := .d (F4 u w b ps)) rfl (ev_cons (w := .d (.int 0)) rfl (ev_cons (w := .d (F4 u w b ps)) rfl ev_nil)))) d4) (ev_cons (ev_call (ev_cons (w := .d (F4 (u * q) w b ps)) (ev_bin (x := .tuple [.int (u * q)]) (y := .tuple [.int w, .int b, .tuple (ps.map .int)]) (ev_tup (ev_cons (ev_bin (x := .int u) rfl (absq rfl) (mul_ok (sm f1.u) (sm (by omega)))) ev_nil) rfl (limb rfl)) rfl rfl) ev_nil) d5) ev_nil))))) (by rw [hM]; rfl) (by rw [hMl]; exact limb rfl)) rfl) ?_
  refine st_seq (alike_step (x := .list M) (Gd.list fun x hx => (hIs x hx).gd) (by decide) (by rw [hMl]; decide) rfl rfl) ?_
  refine st_seq (v1 := eV y0 y2 (some (.d (.int m))) (some (.d (F4 u w b ps))) (some (.d (F4 u' w' b' ps'))) y6 (some (.d (F4 ru rw' rb rps))) (some (.d (.int n))) (some (.d (.list M))) (some (.d (.list M))) (some (.d (.tuple (List.replicate m (.int 0))))) y12 y13 y14 y15 y16 y17) (s1 := [.lst l4]) (st_set (ev_bin (x := .tuple [.int 0]) (y := .int m) rfl rfl (zeros_eq h3)) rfl) ?_
  have w1 : (cx P 19).fe.call 3 [.d (.int m), .d (.int n)] [.lst l4] = .ok (.d (.tuple [.int 1, .int n, .int 0, .tuple (List.replicate m (.int 0))])) [.lst l4] := whole_ok (k := 18) h3
  have w2 : (cx P 19).fe.call 4 [.d (.int m), .d (.int n)] [.lst l4] = .ok (.d (.tuple [.int 1, .int 0, .int n, .tuple (List.replicate m (.int 0))])) [.lst l4] := base_ok (k := 18) h3
  refine st_seq (alike_step (x := .list [.tuple [.int 1, .int n, .int 0, .tuple (List.replicate m (.int 0))], .tuple [.int 1, .int 0, .int n, .tuple (List.replicate m (.int 0))]]) (d := 3) (c := 2 * 21) (Gd.list (d := 2) (b := 20) fun x hx => ?_) (by decide) (by decide)
    (ev_lst (ev_cons (ev_call (ev_cons (w := .d (.int m)) rfl (ev_cons (w := .d (.int n)) rfl ev_nil)) w1) (ev_cons (ev_call (ev_cons (w := .d (.int m)) rfl (ev_cons (w := .d (.int n)) rfl ev_nil)) w2) ev_nil)) rfl (limb rfl))
    (ev_lst (ev_cons (w := .d (.tuple [.int 1, .int n, .int 0, .tuple (List.replicate m (.int 0))])) (ev_tup (ev_cons rfl (ev_cons (w := .d (.int n)) rfl (ev_cons rfl (ev_cons (w := .d (.tuple (List.replicate m (.int 0)))) rfl ev_nil)))) rfl (limb rfl)) (ev_cons (w := .d (.tuple [.int 1, .int 0, .int n, .tuple (List.replicate m (.int 0))])) (ev_tup (ev_cons rfl (ev_cons rfl (ev_cons (w := .d (.int n)) rfl (ev_cons (w := .d (.tuple (List.replicate m (.int 0)))) rfl ev_nil)))) rfl (limb rfl)) ev_nil)) rfl (limb rfl))) ?_
  · simp only [List.mem_cons, List.not_mem_nil, or_false] at hx
    rcases hx with rfl | rfl
    · exact four_gd h3 (by decide) (by omega) (by decide)
    · exact four_gd h3 (by decide) (by decide) (by omega)
  exact st_seq e5 (st_seq e6 rfl)
theorem law_true : ∀ ns : List Int, ns.length ≤ 63 → ∃ s, runF P 20 22 [.d (.list (ns.map .int))] [] = .ok (.d (.bool true)) s := by
  intro ns hl
  obtain ⟨l, hb, e⟩ := bag_ok (P := P) (i := 12) (k := 18) hBag hl
  have rng : walk (evE (cx P 19).fe (.rng (.cons (.cst (.int 8)) .nil)) (eV (some (.d (.list (ns.map .int)))) none none none none none none none none none none none none none none none none) [.lst l]) = .ok ((List.range 8).map fun (i : Nat) => .int (0 + (i : Int)), []) [.lst l] := rng_walk (n := 8) rfl (by decide)
  obtain ⟨v', s', e2, y0, y2, y3, y4, y5, y6, y7, y8, y9, y10, y11, y12, y13, y14, y15, y16, y17, l', rfl, rfl, hb'⟩ := st_for_ex (F := cx P 19) (A := lapB) (t := .nm 2) (I := fun j v s => ∃ y0 y2 y3 y4 y5 y6 y7 y8 y9 y10 y11 y12 y13 y14 y15 y16 y17 l', v = eV y0 y2 y3 y4 y5 y6 y7 y8 y9 y10 y11 y12 y13 y14 y15 y16 y17 ∧ s = [.lst l'] ∧ Bag (100 * j) l') rng (fun _ _ _ _ => rfl) ⟨_, _, _, _, _, _, _, _, _, _, _, _, _, _, _, _, _, l, rfl, rfl, hb⟩ (fun j v s x hj ⟨y0, y2, y3, y4, y5, y6, y7, y8, y9, y10, y11, y12, y13, y14, y15, y16, y17, l', e1, e2, hb'⟩ hx => by
      subst e1
      subst e2
      rw [List.length_map, List.length_range] at hj
      obtain ⟨z3, z4, z5, z6, z7, z8, z9, z10, z11, z12, z13, z14, z15, z16, z17, l2, hb2, e3⟩ := lap_ok (y0 := y0) (y2 := some (.d x)) (y3 := y3) (y4 := y4) (y5 := y5) (y6 := y6) (y7 := y7) (y8 := y8) (y9 := y9) (y10 := y10) (y11 := y11) (y12 := y12) (y13 := y13) (y14 := y14) (y15 := y15) (y16 := y16) (y17 := y17) hb' (by omega)
      exact ⟨eV y0 (some (.d x)) y3 y4 y5 y6 y7 y8 y9 y10 y11 y12 y13 y14 y15 y16 y17, _, _, rfl, e3, y0, some (.d x), z3, z4, z5, z6, z7, z8, z9, z10, z11, z12, z13, z14, z15, z16, z17, l2, rfl, rfl, hb2⟩)
  refine ⟨[], ?_⟩
  have step : evS (cx P 19) b22 (startE ⟨1, 18, b22⟩ [.d (.list (ns.map .int))]) [] = .ret (.d (.bool true)) [.lst l'] := by
    rw [b22_eq]
    refine st_seq (v1 := eV (some (.d (.list (ns.map .int)))) none none none none none none none none none none none none none none none none) (s1 := [.lst l]) (st_set (ev_call (ev_cons (w := .d (.list (ns.map .int))) rfl ev_nil) e) rfl) ?_
    exact st_seq e2 (st_end (st_ret rfl))
  rw [run_eq (fn := ⟨1, 18, b22⟩) (k := 19) rfl rfl, step]
  rfl
end K10

set_option Elab.async false
set_option linter.all false
set_option maxRecDepth 100000
set_option maxHeartbeats 2000000
namespace K10
open PySem PySem.Spec PyProof.Rows L2 Mini
abbrev Hm : Prop := ∀ ns : List Int, ns.length ≤ 63 → ∃ s, runF P 20 22 [.d (.list (ns.map .int))] [] = .ok (.d (.bool true)) s
theorem all_mk {l : PySem.W.OpenLaw} {w : World} {K : PySem.W.Frag} {h : Heap} {mg : Str → Option Value} {fa f0 f1 f2 f3 f4 f5 f6 f7 f8 f9 f10 f11 f12 f13 f14 f15 f16 f17 f18 f19 f20 f21 f22 : Addr} (X : K.In h) (G0 : h.Ns mainGlobals mg) (hfa : mg "law" = some (.ref fa)) (hm : Hm)
    {od0 an0 : Option Addr} {sl0 : Array (Option Value)} {oc0 kV0 dc0 pm0 cd0 ct0 : Value}
    (a0 : PySem.W.nsIn K mainGlobals "common" = some (some (.ref f0))) (l0 : K.lookup f0 = some ⟨oc0, od0, .func (PySem.W.fnOf "common" "common" (defArgs (top 1)) (defBody (top 1)) (defScope (top 1)) .none kV0 dc0 pm0 an0 cd0 ct0), sl0⟩) (c0 : PySem.W.codeIn K cd0 "common" = true) (k0 : PySem.W.keepIn K (.ref f0) = true)
    {od1 an1 : Option Addr} {sl1 : Array (Option Value)} {oc1 kV1 dc1 pm1 cd1 ct1 : Value}
    (a1 : PySem.W.nsIn K mainGlobals "common_of" = some (some (.ref f1))) (l1 : K.lookup f1 = some ⟨oc1, od1, .func (PySem.W.fnOf "common_of" "common_of" (defArgs (top 2)) (defBody (top 2)) (defScope (top 2)) .none kV1 dc1 pm1 an1 cd1 ct1), sl1⟩) (c1 : PySem.W.codeIn K cd1 "common_of" = true) (k1 : PySem.W.keepIn K (.ref f1) = true)
    {od2 an2 : Option Addr} {sl2 : Array (Option Value)} {oc2 kV2 dc2 pm2 cd2 ct2 : Value}
    (a2 : PySem.W.nsIn K mainGlobals "made_form" = some (some (.ref f2))) (l2 : K.lookup f2 = some ⟨oc2, od2, .func (PySem.W.fnOf "made_form" "made_form" (defArgs (top 3)) (defBody (top 3)) (defScope (top 3)) .none kV2 dc2 pm2 an2 cd2 ct2), sl2⟩) (c2 : PySem.W.codeIn K cd2 "made_form" = true) (k2 : PySem.W.keepIn K (.ref f2) = true)
    {od3 an3 : Option Addr} {sl3 : Array (Option Value)} {oc3 kV3 dc3 pm3 cd3 ct3 : Value}
    (a3 : PySem.W.nsIn K mainGlobals "whole_form" = some (some (.ref f3))) (l3 : K.lookup f3 = some ⟨oc3, od3, .func (PySem.W.fnOf "whole_form" "whole_form" (defArgs (top 4)) (defBody (top 4)) (defScope (top 4)) .none kV3 dc3 pm3 an3 cd3 ct3), sl3⟩) (c3 : PySem.W.codeIn K cd3 "whole_form" = true) (k3 : PySem.W.keepIn K (.ref f3) = true)
    {od4 an4 : Option Addr} {sl4 : Array (Option Value)} {oc4 kV4 dc4 pm4 cd4 ct4 : Value}
    (a4 : PySem.W.nsIn K mainGlobals "base_form" = some (some (.ref f4))) (l4 : K.lookup f4 = some ⟨oc4, od4, .func (PySem.W.fnOf "base_form" "base_form" (defArgs (top 5)) (defBody (top 5)) (defScope (top 5)) .none kV4 dc4 pm4 an4 cd4 ct4), sl4⟩) (c4 : PySem.W.codeIn K cd4 "base_form" = true) (k4 : PySem.W.keepIn K (.ref f4) = true)
    {od5 an5 : Option Addr} {sl5 : Array (Option Value)} {oc5 kV5 dc5 pm5 cd5 ct5 : Value}
    (a5 : PySem.W.nsIn K mainGlobals "digit_form" = some (some (.ref f5))) (l5 : K.lookup f5 = some ⟨oc5, od5, .func (PySem.W.fnOf "digit_form" "digit_form" (defArgs (top 6)) (defBody (top 6)) (defScope (top 6)) .none kV5 dc5 pm5 an5 cd5 ct5), sl5⟩) (c5 : PySem.W.codeIn K cd5 "digit_form" = true) (k5 : PySem.W.keepIn K (.ref f5) = true)
    {od6 an6 : Option Addr} {sl6 : Array (Option Value)} {oc6 kV6 dc6 pm6 cd6 ct6 : Value}
    (a6 : PySem.W.nsIn K mainGlobals "plus_form" = some (some (.ref f6))) (l6 : K.lookup f6 = some ⟨oc6, od6, .func (PySem.W.fnOf "plus_form" "plus_form" (defArgs (top 7)) (defBody (top 7)) (defScope (top 7)) .none kV6 dc6 pm6 an6 cd6 ct6), sl6⟩) (c6 : PySem.W.codeIn K cd6 "plus_form" = true) (k6 : PySem.W.keepIn K (.ref f6) = true)
    {od7 an7 : Option Addr} {sl7 : Array (Option Value)} {oc7 kV7 dc7 pm7 cd7 ct7 : Value}
    (a7 : PySem.W.nsIn K mainGlobals "times_form" = some (some (.ref f7))) (l7 : K.lookup f7 = some ⟨oc7, od7, .func (PySem.W.fnOf "times_form" "times_form" (defArgs (top 8)) (defBody (top 8)) (defScope (top 8)) .none kV7 dc7 pm7 an7 cd7 ct7), sl7⟩) (c7 : PySem.W.codeIn K cd7 "times_form" = true) (k7 : PySem.W.keepIn K (.ref f7) = true)
    {od8 an8 : Option Addr} {sl8 : Array (Option Value)} {oc8 kV8 dc8 pm8 cd8 ct8 : Value}
    (a8 : PySem.W.nsIn K mainGlobals "less_form" = some (some (.ref f8))) (l8 : K.lookup f8 = some ⟨oc8, od8, .func (PySem.W.fnOf "less_form" "less_form" (defArgs (top 9)) (defBody (top 9)) (defScope (top 9)) .none kV8 dc8 pm8 an8 cd8 ct8), sl8⟩) (c8 : PySem.W.codeIn K cd8 "less_form" = true) (k8 : PySem.W.keepIn K (.ref f8) = true)
    {od9 an9 : Option Addr} {sl9 : Array (Option Value)} {oc9 kV9 dc9 pm9 cd9 ct9 : Value}
    (a9 : PySem.W.nsIn K mainGlobals "over_form" = some (some (.ref f9))) (l9 : K.lookup f9 = some ⟨oc9, od9, .func (PySem.W.fnOf "over_form" "over_form" (defArgs (top 10)) (defBody (top 10)) (defScope (top 10)) .none kV9 dc9 pm9 an9 cd9 ct9), sl9⟩) (c9 : PySem.W.codeIn K cd9 "over_form" = true) (k9 : PySem.W.keepIn K (.ref f9) = true)
    {od10 an10 : Option Addr} {sl10 : Array (Option Value)} {oc10 kV10 dc10 pm10 cd10 ct10 : Value}
    (a10 : PySem.W.nsIn K mainGlobals "top_at" = some (some (.ref f10))) (l10 : K.lookup f10 = some ⟨oc10, od10, .func (PySem.W.fnOf "top_at" "top_at" (defArgs (top 11)) (defBody (top 11)) (defScope (top 11)) .none kV10 dc10 pm10 an10 cd10 ct10), sl10⟩) (c10 : PySem.W.codeIn K cd10 "top_at" = true) (k10 : PySem.W.keepIn K (.ref f10) = true)
    {od11 an11 : Option Addr} {sl11 : Array (Option Value)} {oc11 kV11 dc11 pm11 cd11 ct11 : Value}
    (a11 : PySem.W.nsIn K mainGlobals "form_value" = some (some (.ref f11))) (l11 : K.lookup f11 = some ⟨oc11, od11, .func (PySem.W.fnOf "form_value" "form_value" (defArgs (top 12)) (defBody (top 12)) (defScope (top 12)) .none kV11 dc11 pm11 an11 cd11 ct11), sl11⟩) (c11 : PySem.W.codeIn K cd11 "form_value" = true) (k11 : PySem.W.keepIn K (.ref f11) = true)
    {od12 an12 : Option Addr} {sl12 : Array (Option Value)} {oc12 kV12 dc12 pm12 cd12 ct12 : Value}
    (a12 : PySem.W.nsIn K mainGlobals "_law_bag" = some (some (.ref f12))) (l12 : K.lookup f12 = some ⟨oc12, od12, .func (PySem.W.fnOf "_law_bag" "_law_bag" (defArgs (top 14)) (defBody (top 14)) (defScope (top 14)) .none kV12 dc12 pm12 an12 cd12 ct12), sl12⟩) (c12 : PySem.W.codeIn K cd12 "_law_bag" = true) (k12 : PySem.W.keepIn K (.ref f12) = true)
    {od13 an13 : Option Addr} {sl13 : Array (Option Value)} {oc13 kV13 dc13 pm13 cd13 ct13 : Value}
    (a13 : PySem.W.nsIn K mainGlobals "_law_take" = some (some (.ref f13))) (l13 : K.lookup f13 = some ⟨oc13, od13, .func (PySem.W.fnOf "_law_take" "_law_take" (defArgs (top 15)) (defBody (top 15)) (defScope (top 15)) .none kV13 dc13 pm13 an13 cd13 ct13), sl13⟩) (c13 : PySem.W.codeIn K cd13 "_law_take" = true) (k13 : PySem.W.keepIn K (.ref f13) = true)
    {od14 an14 : Option Addr} {sl14 : Array (Option Value)} {oc14 kV14 dc14 pm14 cd14 ct14 : Value}
    (a14 : PySem.W.nsIn K mainGlobals "_law_some" = some (some (.ref f14))) (l14 : K.lookup f14 = some ⟨oc14, od14, .func (PySem.W.fnOf "_law_some" "_law_some" (defArgs (top 16)) (defBody (top 16)) (defScope (top 16)) .none kV14 dc14 pm14 an14 cd14 ct14), sl14⟩) (c14 : PySem.W.codeIn K cd14 "_law_some" = true) (k14 : PySem.W.keepIn K (.ref f14) = true)
    {od15 an15 : Option Addr} {sl15 : Array (Option Value)} {oc15 kV15 dc15 pm15 cd15 ct15 : Value}
    (a15 : PySem.W.nsIn K mainGlobals "_law_alike" = some (some (.ref f15))) (l15 : K.lookup f15 = some ⟨oc15, od15, .func (PySem.W.fnOf "_law_alike" "_law_alike" (defArgs (top 17)) (defBody (top 17)) (defScope (top 17)) .none kV15 dc15 pm15 an15 cd15 ct15), sl15⟩) (c15 : PySem.W.codeIn K cd15 "_law_alike" = true) (k15 : PySem.W.keepIn K (.ref f15) = true)
    {od16 an16 : Option Addr} {sl16 : Array (Option Value)} {oc16 kV16 dc16 pm16 cd16 ct16 : Value}
    (a16 : PySem.W.nsIn K mainGlobals "_law_row_value" = some (some (.ref f16))) (l16 : K.lookup f16 = some ⟨oc16, od16, .func (PySem.W.fnOf "_law_row_value" "_law_row_value" (defArgs (top 18)) (defBody (top 18)) (defScope (top 18)) .none kV16 dc16 pm16 an16 cd16 ct16), sl16⟩) (c16 : PySem.W.codeIn K cd16 "_law_row_value" = true) (k16 : PySem.W.keepIn K (.ref f16) = true)
    {od17 an17 : Option Addr} {sl17 : Array (Option Value)} {oc17 kV17 dc17 pm17 cd17 ct17 : Value}
    (a17 : PySem.W.nsIn K mainGlobals "_law_gcd" = some (some (.ref f17))) (l17 : K.lookup f17 = some ⟨oc17, od17, .func (PySem.W.fnOf "_law_gcd" "_law_gcd" (defArgs (top 19)) (defBody (top 19)) (defScope (top 19)) .none kV17 dc17 pm17 an17 cd17 ct17), sl17⟩) (c17 : PySem.W.codeIn K cd17 "_law_gcd" = true) (k17 : PySem.W.keepIn K (.ref f17) = true)
    {od18 an18 : Option Addr} {sl18 : Array (Option Value)} {oc18 kV18 dc18 pm18 cd18 ct18 : Value}
    (a18 : PySem.W.nsIn K mainGlobals "_law_gcd_of" = some (some (.ref f18))) (l18 : K.lookup f18 = some ⟨oc18, od18, .func (PySem.W.fnOf "_law_gcd_of" "_law_gcd_of" (defArgs (top 20)) (defBody (top 20)) (defScope (top 20)) .none kV18 dc18 pm18 an18 cd18 ct18), sl18⟩) (c18 : PySem.W.codeIn K cd18 "_law_gcd_of" = true) (k18 : PySem.W.keepIn K (.ref f18) = true)
    {od19 an19 : Option Addr} {sl19 : Array (Option Value)} {oc19 kV19 dc19 pm19 cd19 ct19 : Value}
    (a19 : PySem.W.nsIn K mainGlobals "_law_drawn_top" = some (some (.ref f19))) (l19 : K.lookup f19 = some ⟨oc19, od19, .func (PySem.W.fnOf "_law_drawn_top" "_law_drawn_top" (defArgs (top 21)) (defBody (top 21)) (defScope (top 21)) .none kV19 dc19 pm19 an19 cd19 ct19), sl19⟩) (c19 : PySem.W.codeIn K cd19 "_law_drawn_top" = true) (k19 : PySem.W.keepIn K (.ref f19) = true)
    {od20 an20 : Option Addr} {sl20 : Array (Option Value)} {oc20 kV20 dc20 pm20 cd20 ct20 : Value}
    (a20 : PySem.W.nsIn K mainGlobals "_law_lowest" = some (some (.ref f20))) (l20 : K.lookup f20 = some ⟨oc20, od20, .func (PySem.W.fnOf "_law_lowest" "_law_lowest" (defArgs (top 22)) (defBody (top 22)) (defScope (top 22)) .none kV20 dc20 pm20 an20 cd20 ct20), sl20⟩) (c20 : PySem.W.codeIn K cd20 "_law_lowest" = true) (k20 : PySem.W.keepIn K (.ref f20) = true)
    {od21 an21 : Option Addr} {sl21 : Array (Option Value)} {oc21 kV21 dc21 pm21 cd21 ct21 : Value}
    (a21 : PySem.W.nsIn K mainGlobals "_law_joined" = some (some (.ref f21))) (l21 : K.lookup f21 = some ⟨oc21, od21, .func (PySem.W.fnOf "_law_joined" "_law_joined" (defArgs (top 23)) (defBody (top 23)) (defScope (top 23)) .none kV21 dc21 pm21 an21 cd21 ct21), sl21⟩) (c21 : PySem.W.codeIn K cd21 "_law_joined" = true) (k21 : PySem.W.keepIn K (.ref f21) = true)
    {od22 an22 : Option Addr} {sl22 : Array (Option Value)} {oc22 kV22 dc22 pm22 cd22 ct22 : Value}
    (a22 : PySem.W.nsIn K mainGlobals "law" = some (some (.ref f22))) (l22 : K.lookup f22 = some ⟨oc22, od22, .func (PySem.W.fnOf "law" "law" (defArgs (top 24)) (defBody (top 24)) (defScope (top 24)) .none kV22 dc22 pm22 an22 cd22 ct22), sl22⟩) (c22 : PySem.W.codeIn K cd22 "law" = true) (k22 : PySem.W.keepIn K (.ref f22) = true)
    (z0 : PySem.W.nsIn K mainGlobals "abs" = some none)
    (z1 : PySem.W.nsIn K mainGlobals "int" = some none)
    (z2 : PySem.W.nsIn K mainGlobals "len" = some none)
    (z3 : PySem.W.nsIn K mainGlobals "list" = some none)
    (z4 : PySem.W.nsIn K mainGlobals "min" = some none)
    (z5 : PySem.W.nsIn K mainGlobals "range" = some none)
    (z6 : PySem.W.nsIn K mainGlobals "repr" = some none)
    (z7 : PySem.W.nsIn K mainGlobals "sum" = some none)
    (z8 : PySem.W.nsIn K mainGlobals "tuple" = some none)
    (z9 : PySem.W.nsIn K mainGlobals "zip" = some none)
    : ∃ (fd : FuncData) (sp : Sp), (∀ (s : Shared) (u : Value), BindsTo s fd ⟨[u], []⟩ [("script", u)]) ∧ (∀ base : Heap, K.In base → base.Ns mainGlobals mg → FnG l.prog w K mg base 20 fa fd ["script"] sp) ∧
      ∀ (H : Hp) (a : Addr) (ns : List Int), ns.length ≤ 63 → SqL K H a (ns.map V.int) → sp [.ref a] H (fun v _ => v = .bl true) fun _ _ _ => False := by
  have e := hfa.symm.trans (PySem.W.mg_of X G0 a22)
  have e2 : f22 = fa := by cases e; rfl
  subst e2
  let C : Cn := ⟨0, K, fun i => [f0, f1, f2, f3, f4, f5, f6, f7, f8, f9, f10, f11, f12, f13, f14, f15, f16, f17, f18, f19, f20, f21, f22][i]?, fun _ => none⟩
  have hd : ∀ p ∈ D, ∃ f, mg p.1 = some (.ref f) ∧ C.fa p.2 = some f := ac ⟨f0, PySem.W.mg_of X G0 a0, rfl⟩ (ac ⟨f1, PySem.W.mg_of X G0 a1, rfl⟩ (ac ⟨f2, PySem.W.mg_of X G0 a2, rfl⟩ (ac ⟨f3, PySem.W.mg_of X G0 a3, rfl⟩ (ac ⟨f4, PySem.W.mg_of X G0 a4, rfl⟩ (ac ⟨f5, PySem.W.mg_of X G0 a5, rfl⟩ (ac ⟨f6, PySem.W.mg_of X G0 a6, rfl⟩ (ac ⟨f7, PySem.W.mg_of X G0 a7, rfl⟩ (ac ⟨f8, PySem.W.mg_of X G0 a8, rfl⟩ (ac ⟨f9, PySem.W.mg_of X G0 a9, rfl⟩ (ac ⟨f10, PySem.W.mg_of X G0 a10, rfl⟩ (ac ⟨f11, PySem.W.mg_of X G0 a11, rfl⟩ (ac ⟨f12, PySem.W.mg_of X G0 a12, rfl⟩ (ac ⟨f13, PySem.W.mg_of X G0 a13, rfl⟩ (ac ⟨f14, PySem.W.mg_of X G0 a14, rfl⟩ (ac ⟨f15, PySem.W.mg_of X G0 a15, rfl⟩ (ac ⟨f16, PySem.W.mg_of X G0 a16, rfl⟩ (ac ⟨f17, PySem.W.mg_of X G0 a17, rfl⟩ (ac ⟨f18, PySem.W.mg_of X G0 a18, rfl⟩ (ac ⟨f19, PySem.W.mg_of X G0 a19, rfl⟩ (ac ⟨f20, PySem.W.mg_of X G0 a20, rfl⟩ (ac ⟨f21, PySem.W.mg_of X G0 a21, rfl⟩ (ac ⟨f22, PySem.W.mg_of X G0 a22, rfl⟩ (an)))))))))))))))))))))))
  have hc : ∀ p ∈ G, ∃ u v d, mg p.1 = some u ∧ RelV v u ∧ P.gls[p.2]? = some d ∧ ∀ H ms, Rep C.K H ms d v := an
  have hb : ∀ x ∈ B, mg x = none := ac (PySem.W.mg_none_of X G0 z0) (ac (PySem.W.mg_none_of X G0 z1) (ac (PySem.W.mg_none_of X G0 z2) (ac (PySem.W.mg_none_of X G0 z3) (ac (PySem.W.mg_none_of X G0 z4) (ac (PySem.W.mg_none_of X G0 z5) (ac (PySem.W.mg_none_of X G0 z6) (ac (PySem.W.mg_none_of X G0 z7) (ac (PySem.W.mg_none_of X G0 z8) (ac (PySem.W.mg_none_of X G0 z9) (an))))))))))
  have tab : ∀ i f, C.fa i = some f → DefOk D G B K P i f := fun i f h => match i, h with
  | 0, h => by
    cases h
    have F := fun_mk (st := top 1) l0 c0 k0
    exact ⟨⟨top 1, "common", _, N0, ["one", "other"], [], b0, F, F.binds fun _ _ _ _ _ _ us hl => (match us, hl with | [_, _], _ => rfl), sc0, rfl, rd0⟩⟩
  | 1, h => by
    cases h
    have F := fun_mk (st := top 2) l1 c1 k1
    exact ⟨⟨top 2, "common_of", _, N1, ["numbers"], [], b1, F, F.binds fun _ _ _ _ _ _ us hl => (match us, hl with | [_], _ => rfl), sc1, rfl, rd1⟩⟩
  | 2, h => by
    cases h
    have F := fun_mk (st := top 3) l2 c2 k2
    exact ⟨⟨top 3, "made_form", _, N2, ["under", "whole", "base", "parts"], [], b2, F, F.binds fun _ _ _ _ _ _ us hl => (match us, hl with | [_, _, _, _], _ => rfl), sc2, rfl, rd2⟩⟩
  | 3, h => by
    cases h
    have F := fun_mk (st := top 4) l3 c3 k3
    exact ⟨⟨top 4, "whole_form", _, N3, ["many", "whole"], [], b3, F, F.binds fun _ _ _ _ _ _ us hl => (match us, hl with | [_, _], _ => rfl), sc3, rfl, rd3⟩⟩
  | 4, h => by
    cases h
    have F := fun_mk (st := top 5) l4 c4 k4
    exact ⟨⟨top 5, "base_form", _, N4, ["many", "often"], [], b4, F, F.binds fun _ _ _ _ _ _ us hl => (match us, hl with | [_, _], _ => rfl), sc4, rfl, rd4⟩⟩
  | 5, h => by
    cases h
    have F := fun_mk (st := top 6) l5 c5 k5
    exact ⟨⟨top 6, "digit_form", _, N5, ["many", "at"], [], b5, F, F.binds fun _ _ _ _ _ _ us hl => (match us, hl with | [_, _], _ => rfl), sc5, rfl, rd5⟩⟩
  | 6, h => by
    cases h
    have F := fun_mk (st := top 7) l6 c6 k6
    exact ⟨⟨top 7, "plus_form", _, N6, ["one", "other"], [], b6, F, F.binds fun _ _ _ _ _ _ us hl => (match us, hl with | [_, _], _ => rfl), sc6, rfl, rd6⟩⟩
  | 7, h => by
    cases h
    have F := fun_mk (st := top 8) l7 c7 k7
    exact ⟨⟨top 8, "times_form", _, N7, ["number", "one"], [], b7, F, F.binds fun _ _ _ _ _ _ us hl => (match us, hl with | [_, _], _ => rfl), sc7, rfl, rd7⟩⟩
  | 8, h => by
    cases h
    have F := fun_mk (st := top 9) l8 c8 k8
    exact ⟨⟨top 9, "less_form", _, N8, ["one", "other"], [], b8, F, F.binds fun _ _ _ _ _ _ us hl => (match us, hl with | [_, _], _ => rfl), sc8, rfl, rd8⟩⟩
  | 9, h => by
    cases h
    have F := fun_mk (st := top 10) l9 c9 k9
    exact ⟨⟨top 10, "over_form", _, N9, ["one", "number"], [], b9, F, F.binds fun _ _ _ _ _ _ us hl => (match us, hl with | [_, _], _ => rfl), sc9, rfl, rd9⟩⟩
  | 10, h => by
    cases h
    have F := fun_mk (st := top 11) l10 c10 k10
    exact ⟨⟨top 11, "top_at", _, N10, ["row", "base", "digits"], [], b10, F, F.binds fun _ _ _ _ _ _ us hl => (match us, hl with | [_, _, _], _ => rfl), sc10, rfl, rd10⟩⟩
  | 11, h => by
    cases h
    have F := fun_mk (st := top 12) l11 c11 k11
    exact ⟨⟨top 12, "form_value", _, N11, ["one", "base", "digits"], [], b11, F, F.binds fun _ _ _ _ _ _ us hl => (match us, hl with | [_, _, _], _ => rfl), sc11, rfl, rd11⟩⟩
  | 12, h => by
    cases h
    have F := fun_mk (st := top 14) l12 c12 k12
    exact ⟨⟨top 14, "_law_bag", _, N12, ["script"], [(37, 11)], b12, F, F.binds fun _ _ _ _ _ _ us hl => (match us, hl with | [_], _ => rfl), sc12, rfl, rd12⟩⟩
  | 13, h => by
    cases h
    have F := fun_mk (st := top 15) l13 c13 k13
    exact ⟨⟨top 15, "_law_take", _, N13, ["bag", "many"], [], b13, F, F.binds fun _ _ _ _ _ _ us hl => (match us, hl with | [_, _], _ => rfl), sc13, rfl, rd13⟩⟩
  | 14, h => by
    cases h
    have F := fun_mk (st := top 16) l14 c14 k14
    exact ⟨⟨top 16, "_law_some", _, N14, ["bag", "things"], [], b14, F, F.binds fun _ _ _ _ _ _ us hl => (match us, hl with | [_, _], _ => rfl), sc14, rfl, rd14⟩⟩
  | 15, h => by
    cases h
    have F := fun_mk (st := top 17) l15 c15 k15
    exact ⟨⟨top 17, "_law_alike", _, N15, ["found", "due"], [], b15, F, F.binds fun _ _ _ _ _ _ us hl => (match us, hl with | [_, _], _ => rfl), sc15, rfl, rd15⟩⟩
  | 16, h => by
    cases h
    have F := fun_mk (st := top 18) l16 c16 k16
    exact ⟨⟨top 18, "_law_row_value", _, N16, ["row", "base", "digits"], [], b16, F, F.binds fun _ _ _ _ _ _ us hl => (match us, hl with | [_, _, _], _ => rfl), sc16, rfl, rd16⟩⟩
  | 17, h => by
    cases h
    have F := fun_mk (st := top 19) l17 c17 k17
    exact ⟨⟨top 19, "_law_gcd", _, N17, ["a", "b"], [], b17, F, F.binds fun _ _ _ _ _ _ us hl => (match us, hl with | [_, _], _ => rfl), sc17, rfl, rd17⟩⟩
  | 18, h => by
    cases h
    have F := fun_mk (st := top 20) l18 c18 k18
    exact ⟨⟨top 20, "_law_gcd_of", _, N18, ["numbers"], [], b18, F, F.binds fun _ _ _ _ _ _ us hl => (match us, hl with | [_], _ => rfl), sc18, rfl, rd18⟩⟩
  | 19, h => by
    cases h
    have F := fun_mk (st := top 21) l19 c19 k19
    exact ⟨⟨top 21, "_law_drawn_top", _, N19, ["bag", "many"], [], b19, F, F.binds fun _ _ _ _ _ _ us hl => (match us, hl with | [_, _], _ => rfl), sc19, rfl, rd19⟩⟩
  | 20, h => by
    cases h
    have F := fun_mk (st := top 22) l20 c20 k20
    exact ⟨⟨top 22, "_law_lowest", _, N20, ["one"], [], b20, F, F.binds fun _ _ _ _ _ _ us hl => (match us, hl with | [_], _ => rfl), sc20, rfl, rd20⟩⟩
  | 21, h => by
    cases h
    have F := fun_mk (st := top 23) l21 c21 k21
    exact ⟨⟨top 23, "_law_joined", _, N21, ["often", "one", "times", "other"], [], b21, F, F.binds fun _ _ _ _ _ _ us hl => (match us, hl with | [_, _, _, _], _ => rfl), sc21, rfl, rd21⟩⟩
  | 22, h => by
    cases h
    have F := fun_mk (st := top 24) l22 c22 k22
    exact ⟨⟨top 24, "law", _, N22, ["script"], [], b22, F, F.binds fun _ _ _ _ _ _ us hl => (match us, hl with | [_], _ => rfl), sc22, rfl, rd22⟩⟩
  | i + 23, h => by cases h
  have F := fun_mk (st := top 24) l22 c22 k22
  refine ⟨PySem.W.fnOf "law" "law" (defArgs (top 24)) (defBody (top 24)) (defScope (top 24)) .none kV22 dc22 pm22 an22 cd22 ct22, spF C P 20 22, fun s v => .of_eq rfl, fun base _ _ => ?_, fun H a ns hl hs => sp_law hs (hm ns hl)⟩
  exact fng_succ (k := 19) rfl hd hc hb (fns_all rfl hd hc hb tab 19) F sc22 rfl rd22
end K10

open PySem PySem.W PyProof.Rows in
set_option maxRecDepth 100000 in
set_option maxHeartbeats 0 in
theorem PySem.Challenge.cw_limbwright_k10_forms_reckoned_holds : PySem.Challenge.rw_limbwright_k10_forms_reckoned.Holds := by
  w_on; o_law; k_head; (case hw => w_witness2)
  k_fill
  refine Mini.walk_all (l := PySem.Challenge.rw_limbwright_k10_forms_reckoned) (n := 63) (k := 20) (x := "script") rfl (by decide) rfl ⟨rfl, by decide, by decide⟩ (fun w h Y => PySem.W.kIn_of Y) ?F
  case F =>
    intro w mg fa h KX G hmg
    refine' K10.all_mk KX G hmg K10.law_true ?a0 ?l0 ?c0 ?k0 ?a1 ?l1 ?c1 ?k1 ?a2 ?l2 ?c2 ?k2 ?a3 ?l3 ?c3 ?k3 ?a4 ?l4 ?c4 ?k4 ?a5 ?l5 ?c5 ?k5 ?a6 ?l6 ?c6 ?k6 ?a7 ?l7 ?c7 ?k7 ?a8 ?l8 ?c8 ?k8 ?a9 ?l9 ?c9 ?k9 ?a10 ?l10 ?c10 ?k10 ?a11 ?l11 ?c11 ?k11 ?a12 ?l12 ?c12 ?k12 ?a13 ?l13 ?c13 ?k13 ?a14 ?l14 ?c14 ?k14 ?a15 ?l15 ?c15 ?k15 ?a16 ?l16 ?c16 ?k16 ?a17 ?l17 ?c17 ?k17 ?a18 ?l18 ?c18 ?k18 ?a19 ?l19 ?c19 ?k19 ?a20 ?l20 ?c20 ?k20 ?a21 ?l21 ?c21 ?k21 ?a22 ?l22 ?c22 ?k22 ?z0 ?z1 ?z2 ?z3 ?z4 ?z5 ?z6 ?z7 ?z8 ?z9
    (case a0 => k_is)
    (case l0 => k_is)
    (case c0 => k_is)
    (case k0 => k_is)
    (case a1 => k_is)
    (case l1 => k_is)
    (case c1 => k_is)
    (case k1 => k_is)
    (case a2 => k_is)
    (case l2 => k_is)
    (case c2 => k_is)
    (case k2 => k_is)
    (case a3 => k_is)
    (case l3 => k_is)
    (case c3 => k_is)
    (case k3 => k_is)
    (case a4 => k_is)
    (case l4 => k_is)
    (case c4 => k_is)
    (case k4 => k_is)
    (case a5 => k_is)
    (case l5 => k_is)
    (case c5 => k_is)
    (case k5 => k_is)
    (case a6 => k_is)
    (case l6 => k_is)
    (case c6 => k_is)
    (case k6 => k_is)
    (case a7 => k_is)
    (case l7 => k_is)
    (case c7 => k_is)
    (case k7 => k_is)
    (case a8 => k_is)
    (case l8 => k_is)
    (case c8 => k_is)
    (case k8 => k_is)
    (case a9 => k_is)
    (case l9 => k_is)
    (case c9 => k_is)
    (case k9 => k_is)
    (case a10 => k_is)
    (case l10 => k_is)
    (case c10 => k_is)
    (case k10 => k_is)
    (case a11 => k_is)
    (case l11 => k_is)
    (case c11 => k_is)
    (case k11 => k_is)
    (case a12 => k_is)
    (case l12 => k_is)
    (case c12 => k_is)
    (case k12 => k_is)
    (case a13 => k_is)
    (case l13 => k_is)
    (case c13 => k_is)
    (case k13 => k_is)
    (case a14 => k_is)
    (case l14 => k_is)
    (case c14 => k_is)
    (case k14 => k_is)
    (case a15 => k_is)
    (case l15 => k_is)
    (case c15 => k_is)
    (case k15 => k_is)
    (case a16 => k_is)
    (case l16 => k_is)
    (case c16 => k_is)
    (case k16 => k_is)
    (case a17 => k_is)
    (case l17 => k_is)
    (case c17 => k_is)
    (case k17 => k_is)
    (case a18 => k_is)
    (case l18 => k_is)
    (case c18 => k_is)
    (case k18 => k_is)
    (case a19 => k_is)
    (case l19 => k_is)
    (case c19 => k_is)
    (case k19 => k_is)
    (case a20 => k_is)
    (case l20 => k_is)
    (case c20 => k_is)
    (case k20 => k_is)
    (case a21 => k_is)
    (case l21 => k_is)
    (case c21 => k_is)
    (case k21 => k_is)
    (case a22 => k_is)
    (case l22 => k_is)
    (case c22 => k_is)
    (case k22 => k_is)
    (case z0 => k_is)
    (case z1 => k_is)
    (case z2 => k_is)
    (case z3 => k_is)
    (case z4 => k_is)
    (case z5 => k_is)
    (case z6 => k_is)
    (case z7 => k_is)
    (case z8 => k_is)
    (case z9 => k_is)

