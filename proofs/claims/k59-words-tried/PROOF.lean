import PyProof.Rows.All
import Wide.All
import OpenK.AllK
import Wide.FinOn
import HandS.ForMost
import HandS.ForExc
import HandS.TupAny
import HandS.TupMul
import HandS.Wide
import HandS.SortInts
import HandS.IsInst
import HandS.Property
import HandS.Deep
import HandS.More
import HandS.Star
import KE.GoesMore
import KE.GoesZip
import KE.GoesEnum
import HandS.Walk
import HandS.DictComp
import HandS.FStr
import HandS.SortRule
import HandS.Conv
import HandS.TryMany
import HandS.Defaults
import HandS.HeadNt
import HandS.Head0
import HandS.Head1
import HandS.Head2
import HandS.HeadEnd
import HandS.HeadHook2
import HandS.EndBits
import PyProof.P3Eq
import PySem.Challenge.RW_flipchoice_k59_words_that_are_tried
set_option Elab.async false
set_option linter.all false
set_option maxRecDepth 100000
/-! PIa: a small position-free language and its pure interpreter. -/
namespace PI
open PySem PySem.Spec

/-! ### values and heaps -/
inductive D where
  | non | bl (b : Bool) | int (i : Int) | str (s : Str) | tup (xs : List D) | scr (xs : List Int) | ref (a : Nat)
deriving Inhabited
inductive O where
  | lst (xs : List D) | dct (kvs : List (Int × D)) | fdc (kvs : List (Int × D)) | ins (c : Nat) (fs : List (Nat × D))
deriving Inhabited
abbrev Hh := List O
abbrev Sto := List (Option D)
inductive R (α : Type) where
  | ok (a : α) (h : Hh) | exc (c : Nat) (h : Hh) | bad
def R.bnd {α β : Type} (r : R α) (f : α → Hh → R β) : R β := match r with
  | .ok a h => f a h
  | .exc c h => .exc c h
  | .bad => .bad
@[simp] theorem R.bnd_ok {α β : Type} (a : α) (h : Hh) (f : α → Hh → R β) : (R.ok a h).bnd f = f a h := rfl
@[simp] theorem R.bnd_exc {α β : Type} (c : Nat) (h : Hh) (f : α → Hh → R β) : (R.exc c h : R α).bnd f = .exc c h := rfl
@[simp] theorem R.bnd_bad {α β : Type} (f : α → Hh → R β) : (R.bad : R α).bnd f = .bad := rfl
theorem R.bnd_assoc {α β γ : Type} (r : R α) (f : α → Hh → R β) (g : β → Hh → R γ) : (r.bnd f).bnd g = r.bnd fun a h => (f a h).bnd g := by
  cases r <;> rfl
/-- where no exception may leave -/
def R.nox {α : Type} (r : R α) : R α := match r with
  | .exc _ _ => .bad
  | r => r
@[simp] theorem R.nox_ok {α : Type} (a : α) (h : Hh) : (R.ok a h).nox = .ok a h := rfl
@[simp] theorem R.nox_bad {α : Type} : (R.bad : R α).nox = .bad := rfl
def opt {α : Type} (o : Option α) (h : Hh) : R α := match o with
  | some a => .ok a h
  | none => .bad
@[simp] theorem opt_some {α : Type} (a : α) (h : Hh) : opt (some a) h = .ok a h := rfl
@[simp] theorem opt_none {α : Type} (h : Hh) : (opt none h : R α) = .bad := rfl

def LIM : Nat := 1000000

/-! ### syntax -/
inductive BOp | add | sub | mul | fdiv | mod | pow
inductive COp | eq | ne | lt | le | gt | ge | in_ | nin
inductive Ty | tuple | int | bool | str | list | dict | cls (c : Nat)
mutual
inductive Tg where
  | nm (i : Nat) | tup (ts : Tgs)
inductive Tgs where
  | nil | cons (t : Tg) (ts : Tgs)
end
mutual
inductive E where
  | var (i : Nat) | non | bl (b : Bool) | int (i : Int) | str (s : Str) | glo (g : Nat)
  | tup (es : Es) | lst (l : L) | dict
  | bin (o : BOp) (a b : E) | neg (a : E) | not (a : E) | and (a b : E) | or (a b : E)
  | cmp (o : COp) (a b : E) | cmp2 (o o' : COp) (a b c : E) | isN (a : E) | notN (a : E)
  | ifx (c a b : E) | idx (a i : E) | sl (a : E) (lo hi : OE) | isi (a : E) (t : Ty)
  | call (f : Nat) (es : Es) | mk (c : Nat) (es : Es) | fld (a : E) (f : Nat) | mth (a : E) (m : Nat) (es : Es)
  | len (l : L) | abs (a : E) | int1 (a : E) | str1 (a : E) | tupl (l : L) | sum (l : L) | all (l : L) | any (l : L) | max2 (a b : E) | min2 (a b : E) | dictOf (a : E)
  | app (a b : E) | ext (a : E) (l : L) | pop (a k : E) | get (a k d : E) | index (a b : E) | join (a : E) (l : L) | split (a b : E) | fs (es : Es)
  | lrng (a b : E)
  | dc (k v : E) (t : Tg) (it : It) (own : List Nat) | dcI (k v : E) (t : Tg) (e : E) (own : List Nat)
inductive OE where
  | none | some (e : E)
inductive Es where
  | nil | cons (e : E) (es : Es)
inductive L where
  | of (e : E) | lit (es : Es) | comp (elt : E) (t : Tg) (it : It) (c : OE) (own : List Nat) | cat (a b : L) | sorted (l : L)
inductive It where
  | rng1 (a : E) | rng2 (a b : E) | rng3 (a b c : E) | enum (l : L) | zip (a b : L) | seq (l : L)
end
mutual
inductive S where
  | expr (e : E) | set (t : Tg) (e : E) | sub (o i e : E) | sub2 (o i p j e : E) | fld (o : E) (f : Nat) (e : E) | par (i j : Nat) (a b : E)
  | aug (i : Nat) (e : E) | augS (o i : E) (e : E) | ret (e : E) | if_ (c : E) (a b : Ss) | while_ (c : E) (b : Ss)
  | for_ (t : Tg) (it : It) (b : Ss) | forI (t : Tg) (e : E) (b : Ss) | raise (c : Nat) | pass | try_ (b : Ss) (ks : List Nat) (hs : List (Nat × E))
inductive Ss where
  | nil | cons (s : S) (ss : Ss)
end
structure Fn where
  np : Nat
  ns : Nat
  star : Bool
  body : Ss
/-- what an attribute of a class is: a field of its instances, a property with its getter, neither -/
inductive AK | fld | prop (g : Nat) | no
/-- what the interpreter knows of the program -/
structure Pg where
  fns : Nat → Option Fn
  glo : Nat → Option D
  isc : Nat → Bool
  meth : Nat → Nat → Option Nat
  attr : Nat → Nat → AK
  init : Nat → Option Nat
  sub : Nat → Nat → Bool

/-! ### operations -/
mutual
def toP (h : Hh) : Nat → D → Option PyData
  | 0, _ => none
  | n + 1, d => match d with
    | .non => some .none
    | .bl b => some (.bool b)
    | .int i => some (.int i)
    | .str s => some (.str s)
    | .tup xs => (toPs h n xs).map .tuple
    | .scr xs => some (.list (xs.map .int))
    | .ref a => match h[a]? with
      | some (.lst xs) => (toPs h n xs).map .list
      | _ => none
def toPs (h : Hh) : Nat → List D → Option (List PyData)
  | 0, _ => none
  | _ + 1, [] => some []
  | n + 1, d :: ds => match toP h n d with
    | none => none
    | some p => match toPs h (n + 1) ds with
      | none => none
      | some ps => some (p :: ps)
end
/-- data for == and in -/
def data (h : Hh) (d : D) : Option PyData := match toP h 40 d with
  | none => none
  | some p => if SeqAt.shaped p then some p else none
def okMul (i j : Int) : Bool := decide (i.natAbs < 18446744073709551616) || decide (j.natAbs < 18446744073709551616) || decide (i.natAbs.log2 + j.natAbs.log2 < 1000000)
def cutD (xs : List D) (lo hi : Option Int) : List D := (xs.drop (HT.sIx xs.length 0 lo)).take (HT.sIx xs.length xs.length hi - HT.sIx xs.length 0 lo)
def items? (h : Hh) : D → Option (List D)
  | .tup xs => some xs
  | .scr xs => some (xs.map .int)
  | .ref a => match h[a]? with
    | some (.lst xs) => some xs
    | _ => none
  | _ => none
def alloc (h : Hh) (o : O) : R D := .ok (.ref h.length) (h ++ [o])
def lstOf (h : Hh) (a : Nat) : Option (List D) := match h[a]? with
  | some (.lst xs) => some xs
  | _ => none
def binop (o : BOp) (x y : D) (h : Hh) : R D := match o with
  | .add => match x, y with
    | .int i, .int j => .ok (.int (i + j)) h
    | .tup xs, .tup ys => if xs.length + ys.length ≤ LIM then .ok (.tup (xs ++ ys)) h else .bad
    | .str a, .str b => if a.length + b.length ≤ LIM then .ok (.str (a ++ b)) h else .bad
    | .ref a, .ref b => match lstOf h a, lstOf h b with
      | some xs, some ys => if xs.length + ys.length ≤ LIM then alloc h (.lst (xs ++ ys)) else .bad
      | _, _ => .bad
    | _, _ => .bad
  | .sub => match x, y with
    | .int i, .int j => .ok (.int (i - j)) h
    | _, _ => .bad
  | .mul => match x, y with
    | .int i, .int j => if okMul i j then .ok (.int (i * j)) h else .bad
    | .ref a, .int k => match lstOf h a with
      | some xs => if k ≤ 1000000 ∧ -1000000 ≤ k ∧ xs.length * k.toNat ≤ LIM then alloc h (.lst (List.replicate k.toNat xs).flatten) else .bad
      | none => .bad
    | .tup xs, .int k => if 1 ≤ xs.length ∧ 2 ≤ k ∧ k ≤ 1000 ∧ xs.length ≤ 1000 then .ok (.tup (List.replicate k.toNat xs).flatten) h else .bad
    | _, _ => .bad
  | .fdiv => match x, y with
    | .int i, .int j => if 0 < j ∧ j.natAbs.log2 < 9000 then .ok (.int (i / j)) h else .bad
    | _, _ => .bad
  | .mod => match x, y with
    | .int i, .int j => if 0 < j then .ok (.int (i % j)) h else .bad
    | _, _ => .bad
  | .pow => match x, y with
    | .int i, .int j => if 0 ≤ j ∧ j ≤ 1000000 ∧ i.natAbs < 18446744073709551616 then .ok (.int (i ^ j.toNat)) h else .bad
    | _, _ => .bad
def dlook (kvs : List (Int × D)) (k : Int) : Option D := (kvs.find? fun kv => decide (kv.1 = k)).map (·.2)
def dput (kvs : List (Int × D)) (k : Int) (v : D) : List (Int × D) :=
  if (kvs.any fun kv => decide (kv.1 = k)) = true then kvs.map (fun kv => if kv.1 = k then (kv.1, v) else kv) else kvs ++ [(k, v)]
def ddrop (kvs : List (Int × D)) (k : Int) : List (Int × D) := kvs.filter fun kv => decide (kv.1 ≠ k)
def dctOf (h : Hh) (a : Nat) : Option (List (Int × D)) := match h[a]? with
  | some (.dct kvs) => some kvs
  | some (.fdc kvs) => some kvs
  | _ => none
def inop (x y : D) (h : Hh) : Option Bool := match y with
  | .ref a => match dctOf h a with
    | some kvs => match x with
      | .int k => some (dlook kvs k).isSome
      | _ => none
    | none => match data h x, data h y with
      | some d, some (.list ds) => some (ds.any fun z => PyData.eqv z d)
      | _, _ => none
  | .str t => match x with
    | .str s => if s.length = 1 then some (decide (s.cps.getD 0 0 ∈ t.cps.toList)) else none
    | _ => none
  | _ => match data h x, data h y with
    | some d, some (.tuple ds) => some (ds.any fun z => PyData.eqv z d)
    | some d, some (.list ds) => some (ds.any fun z => PyData.eqv z d)
    | _, _ => none
def cmpop (o : COp) (x y : D) (h : Hh) : Option Bool := match o with
  | .eq => match data h x, data h y with
    | some d, some e => some (PyData.eqv d e)
    | _, _ => none
  | .ne => match data h x, data h y with
    | some d, some e => some (!PyData.eqv d e)
    | _, _ => none
  | .lt => match x, y with
    | .int i, .int j => some (decide (i < j))
    | _, _ => none
  | .le => match x, y with
    | .int i, .int j => some (decide (i ≤ j))
    | _, _ => none
  | .gt => match x, y with
    | .int i, .int j => some (decide (j < i))
    | _, _ => none
  | .ge => match x, y with
    | .int i, .int j => some (decide (j ≤ i))
    | _, _ => none
  | .in_ => inop x y h
  | .nin => (inop x y h).map (!·)
def idxop (x i : D) (h : Hh) : Option D := match x, i with
  | .tup xs, .int k => L2.atI xs k
  | .scr xs, .int k => L2.atI (xs.map D.int) k
  | .str z, .int k => if z.length ≤ LIM then (L2.atI z.cps.toList k).map fun c => .str ⟨#[c]⟩ else none
  | .ref a, .int k => match h[a]? with
    | some (.lst xs) => L2.atI xs k
    | some (.dct kvs) => dlook kvs k
    | some (.fdc kvs) => dlook kvs k
    | _ => none
  | _, _ => none
def augGet (x i : D) (h : Hh) : Option D := match x, i with
  | .ref a, .int k => match lstOf h a with
    | some xs => L2.atI xs k
    | none => none
  | _, _ => none
def slop (x : D) (lo hi : Option Int) (h : Hh) : R D := match x with
  | .tup xs => .ok (.tup (cutD xs lo hi)) h
  | .scr xs => alloc h (.lst (cutD (xs.map .int) lo hi))
  | .str z => if z.length ≤ LIM then .ok (.str (L2.cutS z lo hi)) h else .bad
  | .ref a => match lstOf h a with
    | some xs => alloc h (.lst (cutD xs lo hi))
    | none => .bad
  | _ => .bad
inductive Kd | non | bl | int | str | tup | lst | dct | ins (c : Nat)
def kdOf (h : Hh) : D → Option Kd
  | .non => some .non
  | .bl _ => some .bl
  | .int _ => some .int
  | .str _ => some .str
  | .tup _ => some .tup
  | .scr _ => some .lst
  | .ref a => match h[a]? with
    | some (.lst _) => some .lst
    | some (.dct _) => some .dct
    | some (.ins c _) => some (.ins c)
    | _ => none
def kdIs : Kd → Ty → Bool
  | .bl, .bool => true
  | .bl, .int => true
  | .int, .int => true
  | .str, .str => true
  | .tup, .tuple => true
  | .lst, .list => true
  | .dct, .dict => true
  | _, _ => false
def isTy (P : Pg) (h : Hh) (x : D) (t : Ty) : Option Bool := match kdOf h x with
  | none => none
  | some (.ins c) => if P.isc c = true then (match t with
      | .cls d => if P.isc d = true then some (P.sub c d) else none
      | _ => some false)
    else none
  | some k => match t with
    | .cls d => if P.isc d = true then some false else none
    | t => some (kdIs k t)
def truth : D → Option Bool
  | .bl b => some b
  | _ => none
def fput (f : Nat) (v : D) : List (Nat × D) → List (Nat × D)
  | [] => [(f, v)]
  | (g, w) :: r => if f = g then (g, v) :: r else (g, w) :: fput f v r
def setop (o i v : D) (h : Hh) : Option Hh := match o, i with
  | .ref a, .int k => match h[a]? with
    | some (.lst xs) => match L2.ixN xs.length k with
      | some j => some (h.set a (.lst (xs.set j v)))
      | none => none
    | some (.dct kvs) => if kvs.length < LIM then some (h.set a (.dct (dput kvs k v))) else none
    | _ => none
  | _, _ => none
def ints? : List D → Option (List Int)
  | [] => some []
  | .int i :: r => (ints? r).map (i :: ·)
  | _ :: _ => none
def bools? : List D → Option (List Bool)
  | [] => some []
  | .bl i :: r => (bools? r).map (i :: ·)
  | _ :: _ => none
def strs? : List D → Option (List Str)
  | [] => some []
  | .str i :: r => (strs? r).map (i :: ·)
  | _ :: _ => none
def txtOf : D → D
  | .int i => if i.natAbs.log2 < 1920 then .str (toString i) else .non
  | v => v
def insI (x : Int) : List Int → List Int
  | [] => [x]
  | y :: r => if x ≤ y then x :: y :: r else y :: insI x r
def isortI : List Int → List Int
  | [] => []
  | x :: r => insI x (isortI r)
mutual
def asT : Tg → D → Sto → Option Sto
  | .nm i, v, σ => some (σ.set i (some v))
  | .tup ts, v, σ => match v with
    | .tup xs => asTs ts xs σ
    | _ => none
def asTs : Tgs → List D → Sto → Option Sto
  | .nil, xs, σ => match xs with
    | [] => some σ
    | _ :: _ => none
  | .cons t ts, xs, σ => match xs with
    | [] => none
    | x :: xs => match asT t x σ with
      | none => none
      | some σ1 => asTs ts xs σ1
end
def wipe (σ : Sto) : List Nat → Sto
  | [] => σ
  | v :: vs => (wipe σ vs).set v none

/-! ### what is walked -/
/-- a list value: a new list that nobody else holds, or a value -/
inductive LV where
  | new (xs : List D) | val (d : D)
def LV.items (h : Hh) : LV → Option (List D)
  | .new xs => some xs
  | .val d => items? h d
/-- is it a tuple -/
def LV.isT : LV → Bool
  | .val (.tup _) => true
  | _ => false
structure Iv where
  n : Nat
  get : Hh → Nat → Option D
  fin : Hh → Bool
/-- item i of a list value whose length is n -/
def LV.at_ (l : LV) (n : Nat) (h : Hh) (i : Nat) : Option D := match l.items h with
  | some xs => if xs.length = n then xs[i]? else none
  | none => none
def LV.fin (l : LV) (n : Nat) (h : Hh) : Bool := match l.items h with
  | some xs => xs.length == n
  | none => false
def strAt (z : Str) (i : Nat) : Option D := (z.cps[i]?).map fun c => .str ⟨#[c]⟩
/-- the dict at a, as it stands, may not be written -/
def lock (a : Nat) (h : Hh) : Option (List (Int × D) × Hh) := match h[a]? with
  | some (.dct kvs) => some (kvs, h.set a (.fdc kvs))
  | _ => none
def thaw (a : Nat) (h : Hh) : Option Hh := match h[a]? with
  | some (.fdc kvs) => some (h.set a (.dct kvs))
  | _ => none
def isL (h : Hh) : D → Bool
  | .scr _ => true
  | .ref a => (lstOf h a).isSome
  | _ => false
def isRef (a : Nat) : D → Bool
  | .ref b => decide (b = a)
  | _ => false
def kvAt (kvs : List (Int × D)) (i : Nat) : Option D := kvs[i]?.map fun kv => .tup [.int kv.1, kv.2]
def lcGo (fin : Hh → Bool) (get : Hh → Nat → Option D) (bind : D → Option Sto) (test : Sto → Hh → R Bool) (elt : Sto → Hh → R D) : Nat → Nat → Hh → R (List D)
  | 0, _, h => if fin h = true then .ok [] h else .bad
  | n + 1, i, h => match get h i with
    | none => .bad
    | some x => match bind x with
      | none => .bad
      | some σ => (test σ h).bnd fun b h1 => match b with
        | true => (elt σ h1).bnd fun v h2 => (lcGo fin get bind test elt n (i + 1) h2).bnd fun vs h3 => .ok (v :: vs) h3
        | false => lcGo fin get bind test elt n (i + 1) h1
/-- a dict comprehension: keys are ints -/
def dcGo (fin : Hh → Bool) (get : Hh → Nat → Option D) (bind : D → Option Sto) (key val : Sto → Hh → R D) : Nat → Nat → List (Int × D) → Hh → R (List (Int × D))
  | 0, _, acc, h => if fin h = true then .ok acc h else .bad
  | n + 1, i, acc, h => match get h i with
    | none => .bad
    | some x => match bind x with
      | none => .bad
      | some σ => (key σ h).bnd fun k h1 => (val σ h1).bnd fun v h2 => match k with
        | .int k => dcGo fin get bind key val n (i + 1) (dput acc k v) h2
        | _ => .bad
inductive Fl where
  | nx (σ : Sto) | rt (v : D) | bk (σ : Sto) | ct (σ : Sto)
def forGo (fin : Hh → Bool) (get : Hh → Nat → Option D) (t : Tg) (body : Sto → Hh → R Fl) : Nat → Nat → Sto → Hh → R Fl
  | 0, _, σ, h => if fin h = true then .ok (.nx σ) h else .bad
  | n + 1, i, σ, h => match get h i with
    | none => .bad
    | some x => match asT t x σ with
      | none => .bad
      | some σ1 => (body σ1 h).bnd fun f h1 => match f with
        | .nx σ2 => forGo fin get t body n (i + 1) σ2 h1
        | .ct σ2 => forGo fin get t body n (i + 1) σ2 h1
        | .bk σ2 => .ok (.nx σ2) h1
        | .rt v => .ok (.rt v) h1
def whileGo (test : Sto → Hh → R Bool) (body : Sto → Hh → R Fl) : Nat → Sto → Hh → R Fl
  | 0, _, _ => .bad
  | n + 1, σ, h => (test σ h).bnd fun b h1 => match b with
    | false => .ok (.nx σ) h1
    | true => (body σ h1).bnd fun f h2 => match f with
      | .nx σ2 => whileGo test body n σ2 h2
      | .ct σ2 => whileGo test body n σ2 h2
      | .bk σ2 => .ok (.nx σ2) h2
      | .rt v => .ok (.rt v) h2
def big : Nat := 1099511627776
/-- what an except suite returns -/
def cst : E → Option D
  | .non => some .non
  | .bl b => some (.bl b)
  | .int i => some (.int i)
  | .str s => some (.str s)
  | _ => none
/-- the except clauses, one after the other -/
def hdl (c : Nat) (h : Hh) : List (Nat × E) → R Fl
  | [] => .exc c h
  | (k, e) :: r => if c = k then (match cst e with
      | some v => .ok (.rt v) h
      | none => .bad)
    else hdl c h r

/-! ### the interpreter -/
section
variable (P : Pg) (call : Nat → List D → Hh → R D)
/-- the call of a class -/
def mkCall (c : Nat) (vs : List D) (h : Hh) : R D := match P.init c with
  | none => .bad
  | some f => if P.isc c = false then .bad else (call f (.ref h.length :: vs) (h ++ [.ins c []])).bnd fun v h1 => match v with
    | .non => .ok (.ref h.length) h1
    | _ => .bad
def fldGet (x : D) (f : Nat) (h : Hh) : R D := match x with
  | .ref a => match h[a]? with
    | some (.ins c fs) => if P.isc c = true then (match P.attr c f with
        | .prop g => (call g [.ref a] h).nox
        | .fld => opt (fs.lookup f) h
        | .no => .bad)
      else .bad
    | _ => .bad
  | _ => .bad
/-- the method that x has -/
def methOf (x : D) (m : Nat) (h : Hh) : Option Nat := match x with
  | .ref a => match h[a]? with
    | some (.ins c fs) => if P.isc c = true then (match fs.lookup m with
        | none => P.meth c m
        | some _ => none)
      else none
    | _ => none
  | _ => none
def toInt : D → Option Int
  | .int i => some i
  | _ => none
mutual
def ev : E → Sto → Hh → R D
  | .var i, σ, h => match σ[i]? with
    | some (some v) => .ok v h
    | _ => .bad
  | .non, _, h => .ok .non h
  | .bl b, _, h => .ok (.bl b) h
  | .int i, _, h => .ok (.int i) h
  | .str s, _, h => .ok (.str s) h
  | .glo g, _, h => opt (P.glo g) h
  | .tup es, σ, h => (evs es σ h).bnd fun vs h1 => if vs.length ≤ LIM then .ok (.tup vs) h1 else .bad
  | .lst l, σ, h => (evL l σ h).bnd fun v h1 => match v with
    | .new xs => alloc h1 (.lst xs)
    | .val d => match items? h1 d with
      | some xs => alloc h1 (.lst xs)
      | none => .bad
  | .dict, _, h => alloc h (.dct [])
  | .bin o a b, σ, h => (ev a σ h).bnd fun x h1 => (ev b σ h1).bnd fun y h2 => binop o x y h2
  | .neg a, σ, h => (ev a σ h).bnd fun x h1 => match x with
    | .int i => .ok (.int (-i)) h1
    | _ => .bad
  | .not a, σ, h => (ev a σ h).bnd fun x h1 => match x with
    | .bl b => .ok (.bl (!b)) h1
    | _ => .bad
  | .and a b, σ, h => (ev a σ h).bnd fun x h1 => match x with
    | .bl true => ev b σ h1
    | .bl false => .ok (.bl false) h1
    | _ => .bad
  | .or a b, σ, h => (ev a σ h).bnd fun x h1 => match x with
    | .bl true => .ok (.bl true) h1
    | .bl false => ev b σ h1
    | _ => .bad
  | .cmp o a b, σ, h => (ev a σ h).bnd fun x h1 => (ev b σ h1).bnd fun y h2 => opt ((cmpop o x y h2).map .bl) h2
  | .cmp2 o o' a b c, σ, h => (ev a σ h).bnd fun x h1 => (ev b σ h1).bnd fun y h2 => match cmpop o x y h2 with
    | some true => (ev c σ h2).bnd fun z h3 => opt ((cmpop o' y z h3).map .bl) h3
    | some false => .ok (.bl false) h2
    | none => .bad
  | .isN a, σ, h => (ev a σ h).bnd fun x h1 => .ok (.bl (match x with | .non => true | _ => false)) h1
  | .notN a, σ, h => (ev a σ h).bnd fun x h1 => .ok (.bl (match x with | .non => false | _ => true)) h1
  | .ifx c a b, σ, h => (ev c σ h).bnd fun x h1 => match x with
    | .bl true => ev a σ h1
    | .bl false => ev b σ h1
    | _ => .bad
  | .idx a i, σ, h => (ev a σ h).bnd fun x h1 => (ev i σ h1).bnd fun y h2 => opt (idxop x y h2) h2
  | .sl a lo hi, σ, h => (ev a σ h).bnd fun x h1 => (evO lo σ h1).bnd fun l h2 => (evO hi σ h2).bnd fun u h3 => slop x l u h3
  | .isi a t, σ, h => (ev a σ h).bnd fun x h1 => opt ((isTy P h1 x t).map .bl) h1
  | .call f es, σ, h => (evs es σ h).bnd fun vs h1 => call f vs h1
  | .mk c es, σ, h => (evs es σ h).bnd fun vs h1 => mkCall P call c vs h1
  | .fld a f, σ, h => (ev a σ h).bnd fun x h1 => fldGet P call x f h1
  | .mth a m es, σ, h => (ev a σ h).bnd fun x h1 => match methOf P x m h1 with
    | some f => (evs es σ h1).bnd fun vs h2 => call f (x :: vs) h2
    | none => .bad
  | .len l, σ, h => (evL l σ h).bnd fun v h1 => match v with
    | .val (.str s) => if s.length ≤ LIM then .ok (.int s.length) h1 else .bad
    | v => match v.items h1 with
      | some xs => .ok (.int xs.length) h1
      | none => .bad
  | .abs a, σ, h => (ev a σ h).bnd fun x h1 => match x with
    | .int i => .ok (.int (if i < 0 then -i else i)) h1
    | _ => .bad
  | .int1 a, σ, h => (ev a σ h).bnd fun x h1 => match x with
    | .int i => .ok (.int i) h1
    | .bl k => .ok (.int (if k then 1 else 0)) h1
    | .str s => if s.length ≤ 640 then opt ((PySem.intText? s).map .int) h1 else .bad
    | _ => .bad
  | .str1 a, σ, h => (ev a σ h).bnd fun x h1 => match x with
    | .int i => if i.natAbs.log2 < 1920 then .ok (.str (toString i)) h1 else .bad
    | .non => .ok (.str "None") h1
    | _ => .bad
  | .tupl l, σ, h => (evL l σ h).bnd fun v h1 => match v.items h1 with
    | some xs => .ok (.tup xs) h1
    | none => .bad
  | .sum l, σ, h => (evL l σ h).bnd fun v h1 => if v.isT = true then .bad else match v.items h1 with
    | some xs => match ints? xs with
      | some ns => .ok (.int ns.sum) h1
      | none => .bad
    | none => .bad
  | .all l, σ, h => (evL l σ h).bnd fun v h1 => if v.isT = true then .bad else match v.items h1 with
    | some xs => match bools? xs with
      | some bs => .ok (.bl (bs.all id)) h1
      | none => .bad
    | none => .bad
  | .any l, σ, h => (evL l σ h).bnd fun v h1 => if v.isT = true then .bad else match v.items h1 with
    | some xs => match bools? xs with
      | some bs => .ok (.bl (bs.any id)) h1
      | none => .bad
    | none => .bad
  | .max2 a b, σ, h => (ev a σ h).bnd fun x h1 => (ev b σ h1).bnd fun y h2 => match x, y with
    | .int i, .int j => .ok (.int (if j > i then j else i)) h2
    | _, _ => .bad
  | .min2 a b, σ, h => (ev a σ h).bnd fun x h1 => (ev b σ h1).bnd fun y h2 => match x, y with
    | .int i, .int j => .ok (.int (if j < i then j else i)) h2
    | _, _ => .bad
  | .dictOf a, σ, h => (ev a σ h).bnd fun x h1 => match x with
    | .ref a => match dctOf h1 a with
      | some kvs => alloc h1 (.dct kvs)
      | none => .bad
    | _ => .bad
  | .app a b, σ, h => (ev a σ h).bnd fun x h1 => match x with
    | .ref a => match lstOf h1 a with
      | some _ => (ev b σ h1).bnd fun y h2 => match lstOf h2 a with
        | some xs => if xs.length < LIM then .ok .non (h2.set a (.lst (xs ++ [y]))) else .bad
        | none => .bad
      | none => .bad
    | _ => .bad
  | .ext a l, σ, h => (ev a σ h).bnd fun x h1 => match x with
    | .ref a => match lstOf h1 a with
      | some _ => (evL l σ h1).bnd fun v h2 => match v with
        | .new ys => match lstOf h2 a with
          | some xs => if xs.length + ys.length ≤ LIM then .ok .non (h2.set a (.lst (xs ++ ys))) else .bad
          | none => .bad
        | .val (.ref b) => match lstOf h2 a, lstOf h2 b with
          | some xs, some ys => if xs.length + ys.length ≤ LIM then .ok .non (h2.set a (.lst (xs ++ ys))) else .bad
          | _, _ => .bad
        | _ => .bad
      | none => .bad
    | _ => .bad
  | .pop a k, σ, h => (ev a σ h).bnd fun x h1 => match x with
    | .ref a => match dctOf h1 a with
      | some _ => (ev k σ h1).bnd fun y h2 => match y with
        | .int k => match h2[a]? with
          | some (.dct kvs) => match dlook kvs k with
            | some v => .ok v (h2.set a (.dct (ddrop kvs k)))
            | none => .bad
          | _ => .bad
        | _ => .bad
      | none => .bad
    | _ => .bad
  | .get a k d, σ, h => (ev a σ h).bnd fun x h1 => match x with
    | .ref a => match dctOf h1 a with
      | some _ => (ev k σ h1).bnd fun y h2 => (ev d σ h2).bnd fun z h3 => match y with
        | .int k => match dctOf h3 a with
          | some kvs => .ok ((dlook kvs k).getD z) h3
          | none => .bad
        | _ => .bad
      | none => .bad
    | _ => .bad
  | .index a b, σ, h => (ev a σ h).bnd fun x h1 => if isL h1 x = true then (ev b σ h1).bnd fun y h2 => match data h2 x, data h2 y with
    | some (.list ds), some d => match ds.findIdx? (fun z => PyData.eqv z d) with
      | some j => .ok (.int j) h2
      | none => .bad
    | _, _ => .bad
    else .bad
  | .join a l, σ, h => (ev a σ h).bnd fun x h1 => match x with
    | .str s => (evL l σ h1).bnd fun v h2 => match v.items h2 with
      | some xs => match strs? xs with
        | some ys => if (ys.map (·.length)).sum + ys.length * s.length ≤ LIM then .ok (.str (Txt.join s ys)) h2 else .bad
        | none => .bad
      | none => .bad
    | _ => .bad
  | .split a b, σ, h => (ev a σ h).bnd fun x h1 => match x with
    | .str s => (ev b σ h1).bnd fun y h2 => match y with
      | .str t => if t.length ≠ 0 ∧ s.length + 2 ≤ LIM then alloc h2 (.lst ((Txt.split s t).map .str)) else .bad
      | _ => .bad
    | _ => .bad
  | .fs es, σ, h => (evs es σ h).nox.bnd fun vs h1 => match strs? (vs.map txtOf) with
    | some ys => if (ys.map (·.length)).sum ≤ LIM then .ok (.str (ys.foldl (· ++ ·) Str.empty)) h1 else .bad
    | none => .bad
  | .lrng a b, σ, h => (ev a σ h).bnd fun x h1 => (ev b σ h1).bnd fun y h2 => match x, y with
    | .int i, .int j => if 0 ≤ i ∧ 0 ≤ j ∧ i ≤ 1000000 ∧ j ≤ 1000000 then alloc h2 (.lst ((List.range (j - i).toNat).map fun k => .int (i + (k : Nat)))) else .bad
    | _, _ => .bad
  | .dc k v t it own, σ, h => (evIt it σ h).bnd fun J h1 => if J.n ≤ LIM then
      (dcGo J.fin J.get (fun x => asT t x (wipe σ own)) (fun σ1 h => (ev k σ1 h).nox) (fun σ1 h => (ev v σ1 h).nox) J.n 0 [] h1).bnd fun kvs h2 => alloc h2 (.dct kvs)
    else .bad
  | .dcI k v t e own, σ, h => match ev e σ h with
    | .ok (.ref a) _ => match lock a h with
      | some (kvs, h0) => (ev e σ h0).bnd fun x h1 => if isRef a x = true ∧ kvs.length ≤ LIM then
          (dcGo (fun _ => true) (fun _ => kvAt kvs) (fun x => asT t x (wipe σ own)) (fun σ1 h => (ev k σ1 h).nox) (fun σ1 h => (ev v σ1 h).nox) kvs.length 0 [] h1).bnd fun out h2 => match thaw a h2 with
            | some h3 => alloc h3 (.dct out)
            | none => .bad
        else .bad
      | none => .bad
    | _ => .bad
def evO : OE → Sto → Hh → R (Option Int)
  | .none, _, h => .ok none h
  | .some e, σ, h => (ev e σ h).bnd fun x h1 => match x with
    | .int i => .ok (some i) h1
    | _ => .bad
def evC : OE → Sto → Hh → R Bool
  | .none, _, h => .ok true h
  | .some e, σ, h => (ev e σ h).bnd fun x h1 => match x with
    | .bl b => .ok b h1
    | _ => .bad
def evs : Es → Sto → Hh → R (List D)
  | .nil, _, h => .ok [] h
  | .cons e es, σ, h => (ev e σ h).bnd fun v h1 => (evs es σ h1).bnd fun vs h2 => .ok (v :: vs) h2
def evL : L → Sto → Hh → R LV
  | .of e, σ, h => (ev e σ h).bnd fun v h1 => .ok (.val v) h1
  | .lit es, σ, h => (evs es σ h).bnd fun vs h1 => if vs.length ≤ LIM then .ok (.new vs) h1 else .bad
  | .comp elt t it c own, σ, h => (evIt it σ h).bnd fun J h1 => if J.n ≤ LIM then
      (lcGo J.fin J.get (fun x => asT t x (wipe σ own)) (fun σ1 h => (evC c σ1 h).nox) (fun σ1 h => (ev elt σ1 h).nox) J.n 0 h1).bnd fun vs h2 => .ok (.new vs) h2
    else .bad
  | .cat a b, σ, h => (evL a σ h).bnd fun v h1 => (evL b σ h1).bnd fun u h2 => match v, u with
    | .new xs, .new ys => if xs.length + ys.length ≤ LIM then .ok (.new (xs ++ ys)) h2 else .bad
    | .new xs, .val (.ref b) => match lstOf h2 b with
      | some ys => if xs.length + ys.length ≤ LIM then .ok (.new (xs ++ ys)) h2 else .bad
      | none => .bad
    | .val (.ref a), .new ys => match lstOf h2 a with
      | some xs => if xs.length + ys.length ≤ LIM then .ok (.new (xs ++ ys)) h2 else .bad
      | none => .bad
    | _, _ => .bad
  | .sorted l, σ, h => (evL l σ h).bnd fun v h1 => if v.isT = true then .bad else match v.items h1 with
    | some xs => match ints? xs with
      | some ns => .ok (.new ((isortI ns).map .int)) h1
      | none => .bad
    | none => .bad
def evIt : It → Sto → Hh → R Iv
  | .rng1 a, σ, h => (ev a σ h).bnd fun x h1 => match x with
    | .int j => if -4611686018427387904 ≤ j ∧ j < 4611686018427387904 then .ok ⟨j.toNat, fun _ i => some (.int (i : Nat)), fun _ => true⟩ h1 else .bad
    | _ => .bad
  | .rng2 a b, σ, h => (ev a σ h).bnd fun x h1 => (ev b σ h1).bnd fun y h2 => match x, y with
    | .int i, .int j => if -4611686018427387904 ≤ i ∧ i < 4611686018427387904 ∧ -4611686018427387904 ≤ j ∧ j < 4611686018427387904 then .ok ⟨(j - i).toNat, fun _ k => some (.int (i + (k : Nat))), fun _ => true⟩ h2 else .bad
    | _, _ => .bad
  | .rng3 a b c, σ, h => (ev a σ h).bnd fun x h1 => (ev b σ h1).bnd fun y h2 => (ev c σ h2).bnd fun z h3 => match x, y, z with
    | .int i, .int j, .int c => if c = -1 ∧ -4611686018427387904 ≤ i ∧ i < 4611686018427387904 ∧ -4611686018427387904 ≤ j ∧ j < 4611686018427387904 then .ok ⟨(i - j).toNat, fun _ k => some (.int (i + (k : Nat) * -1)), fun _ => true⟩ h3 else .bad
    | _, _, _ => .bad
  | .enum l, σ, h => (evL l σ h).bnd fun v h1 => match v.items h1 with
    | some xs => .ok ⟨xs.length, fun h i => (v.at_ xs.length h i).map fun x => .tup [.int (i : Nat), x], v.fin xs.length⟩ h1
    | none => .bad
  | .zip a b, σ, h => (evL a σ h).bnd fun v h1 => (evL b σ h1).bnd fun u h2 => match v.items h2, u.items h2 with
    | some xs, some ys => .ok ⟨min xs.length ys.length, fun h i => match v.at_ xs.length h i, u.at_ ys.length h i with
      | some x, some y => some (.tup [x, y])
      | _, _ => none, fun h => v.fin xs.length h && u.fin ys.length h⟩ h2
    | _, _ => .bad
  | .seq l, σ, h => (evL l σ h).bnd fun v h1 => match v with
    | .val (.str z) => .ok ⟨z.cps.size, fun _ i => strAt z i, fun _ => true⟩ h1
    | v => match v.items h1 with
      | some xs => .ok ⟨xs.length, fun h i => v.at_ xs.length h i, v.fin xs.length⟩ h1
      | none => .bad
end
mutual
def exec : S → Sto → Hh → R Fl
  | .expr e, σ, h => (ev P call e σ h).bnd fun _ h1 => .ok (.nx σ) h1
  | .set t e, σ, h => (ev P call e σ h).bnd fun v h1 => opt ((asT t v σ).map .nx) h1
  | .sub o i e, σ, h => (ev P call e σ h).bnd fun v h1 => (ev P call o σ h1).bnd fun x h2 => (ev P call i σ h2).bnd fun y h3 => match setop x y v h3 with
    | some h4 => .ok (.nx σ) h4
    | none => .bad
  | .sub2 o i p j e, σ, h => (ev P call e σ h).bnd fun v h1 => match v with
    | .tup [v1, v2] => (ev P call o σ h1).bnd fun x h2 => (ev P call i σ h2).bnd fun y h3 => match setop x y v1 h3 with
      | some h4 => (ev P call p σ h4).bnd fun x h5 => (ev P call j σ h5).bnd fun y h6 => match setop x y v2 h6 with
        | some h7 => .ok (.nx σ) h7
        | none => .bad
      | none => .bad
    | _ => .bad
  | .fld o f e, σ, h => (ev P call e σ h).bnd fun v h1 => (ev P call o σ h1).bnd fun x h2 => match x with
    | .ref a => match h2[a]? with
      | some (.ins c fs) => if P.isc c = true then (match P.attr c f with
          | .fld => if fs.length < 100 then .ok (.nx σ) (h2.set a (.ins c (fput f v fs))) else .bad
          | _ => .bad)
        else .bad
      | _ => .bad
    | _ => .bad
  | .par i j a b, σ, h => (ev P call a σ h).bnd fun v h1 => (ev P call b σ h1).bnd fun w h2 => .ok (.nx ((σ.set i (some v)).set j (some w))) h2
  | .aug i e, σ, h => match σ[i]? with
    | some (some (.int m)) => (ev P call e σ h).bnd fun y h1 => match y with
      | .int n => .ok (.nx (σ.set i (some (.int (m + n))))) h1
      | _ => .bad
    | _ => .bad
  | .augS o i e, σ, h => (ev P call o σ h).bnd fun x h1 => (ev P call i σ h1).bnd fun k h2 => match augGet x k h2 with
    | some (.int m) => (ev P call e σ h2).bnd fun y h3 => match y with
      | .int n => match setop x k (.int (m + n)) h3 with
        | some h4 => .ok (.nx σ) h4
        | none => .bad
      | _ => .bad
    | _ => .bad
  | .ret e, σ, h => (ev P call e σ h).bnd fun v h1 => .ok (.rt v) h1
  | .if_ c a b, σ, h => (ev P call c σ h).bnd fun x h1 => match x with
    | .bl true => execs a σ h1
    | .bl false => execs b σ h1
    | _ => .bad
  | .while_ c b, σ, h => whileGo (fun σ h => (ev P call c σ h).bnd fun x h1 => match x with
    | .bl b => .ok b h1
    | _ => .bad) (fun σ h => execs b σ h) big σ h
  | .for_ t it b, σ, h => (evIt P call it σ h).bnd fun J h1 => forGo J.fin J.get t (fun σ h => execs b σ h) J.n 0 σ h1
  | .forI t e b, σ, h => match ev P call e σ h with
    | .ok (.ref a) _ => match lock a h with
      | some (kvs, h0) => (ev P call e σ h0).bnd fun x h1 => if isRef a x = true then
          (forGo (fun _ => true) (fun _ => kvAt kvs) t (fun σ h => execs b σ h) kvs.length 0 σ h1).bnd fun f h2 => match thaw a h2 with
            | some h3 => .ok f h3
            | none => .bad
        else .bad
      | none => .bad
    | _ => .bad
  | .raise c, _, h => .exc c h
  | .pass, σ, h => .ok (.nx σ) h
  | .try_ b ks hs, σ, h => match execs b σ h with
    | .exc c h1 => if ks.contains c = true then hdl c h1 hs else .bad
    | r => r
def execs : Ss → Sto → Hh → R Fl
  | .nil, σ, h => .ok (.nx σ) h
  | .cons s ss, σ, h => (exec s σ h).bnd fun f h1 => match f with
    | .nx σ1 => execs ss σ1 h1
    | f => .ok f h1
end
end
/-- the arguments in their slots -/
def envOf (F : Fn) (vs : List D) : Option Sto := if F.star = true then
    (if F.np ≤ vs.length + 1 ∧ 1 ≤ F.np ∧ F.np ≤ F.ns ∧ vs.length ≤ LIM then some ((vs.take (F.np - 1)).map some ++ [some (.tup (vs.drop (F.np - 1)))] ++ List.replicate (F.ns - F.np) none) else none)
  else if vs.length = F.np ∧ F.np ≤ F.ns then some (vs.map some ++ List.replicate (F.ns - F.np) none) else none
def outOf (f : Fl) (h : Hh) : R D := match f with
  | .nx _ => .ok .non h
  | .rt v => .ok v h
  | _ => .bad
def callN (P : Pg) : Nat → Nat → List D → Hh → R D
  | 0, _, _, _ => .bad
  | d + 1, f, vs, h => match P.fns f with
    | none => .bad
    | some F => match envOf F vs with
      | none => .bad
      | some σ => (execs P (callN P d) F.body σ h).bnd outOf
end PI

set_option maxRecDepth 100000
set_option maxHeartbeats 2000000
/-! PIc: how the pure interpreter's values and heaps lie in the abstract heap of the hand layer. -/
namespace PI
open PySem PySem.Spec PyProof.Rows L2

/-- the program's addresses -/
structure Fx where
  P : Pg
  fa : Nat → Addr
  ca : Nat → Addr
  att : Nat → Str
  natt : Nat
  /-- an exception class of the program -/
  ise : Nat → Bool

/-- a list that is only read -/
def FzL (K : PySem.W.Frag) (H : Hp) (a : Addr) (xs : List V) : Prop :=
  (∃ o, H a = some (.frz o (.lst xs))) ∨
    ∃ (o : Obj) (its : Array Value) (n : Nat), K.lookup a = some o ∧ o.cls = .type "list" ∧ o.dict = none ∧ o.data = .seq its n ∧ its.size ≤ sizeLine ∧ Vals xs its.toList
theorem FzL.sq {K : PySem.W.Frag} {H : Hp} {a : Addr} {xs : List V} (h : FzL K H a xs) : SqL K H a xs := by
  rcases h with ⟨o, h⟩ | h
  · exact .inl (.inr ⟨o, h⟩)
  · exact .inr h
mutual
inductive RD (K : PySem.W.Frag) (φ : List Addr) (H : Hp) : D → V → Prop where
  | non : RD K φ H .non .non
  | bl (b : Bool) : RD K φ H (.bl b) (.bl b)
  | int (i : Int) : RD K φ H (.int i) (.int i)
  | str (s : Str) : RD K φ H (.str s) (.str s)
  | tup {p : Addr} {xs : List D} {vs : List V} : SqT K H p vs → RDs K φ H xs vs → RD K φ H (.tup xs) (.ref p)
  | scr {p : Addr} {ns : List Int} : FzL K H p (ns.map V.int) → RD K φ H (.scr ns) (.ref p)
  | ref {a : Nat} {p : Addr} : φ[a]? = some p → RD K φ H (.ref a) (.ref p)
inductive RDs (K : PySem.W.Frag) (φ : List Addr) (H : Hp) : List D → List V → Prop where
  | nil : RDs K φ H [] []
  | cons {x : D} {xs : List D} {v : V} {vs : List V} : RD K φ H x v → RDs K φ H xs vs → RDs K φ H (x :: xs) (v :: vs)
end
inductive RKs (K : PySem.W.Frag) (φ : List Addr) (H : Hp) : List (Int × D) → List (Key × V) → Prop where
  | nil : RKs K φ H [] []
  | cons {k : Int} {x : D} {xs : List (Int × D)} {v : V} {vs : List (Key × V)} : RD K φ H x v → RKs K φ H xs vs → RKs K φ H ((k, x) :: xs) ((Sum.inl k, v) :: vs)
inductive RFs (F : Fx) (K : PySem.W.Frag) (φ : List Addr) (H : Hp) : List (Nat × D) → List (Str × V) → Prop where
  | nil : RFs F K φ H [] []
  | cons {k : Nat} {x : D} {xs : List (Nat × D)} {v : V} {vs : List (Str × V)} : k < F.natt → RD K φ H x v → RFs F K φ H xs vs → RFs F K φ H ((k, x) :: xs) ((F.att k, v) :: vs)
def RO (F : Fx) (K : PySem.W.Frag) (φ : List Addr) (H : Hp) (p : Addr) : O → Prop
  | .lst xs => ∃ vs, H p = some (.lst vs) ∧ RDs K φ H xs vs
  | .dct kvs => ∃ kv, H p = some (.dK kv) ∧ RKs K φ H kvs kv
  | .fdc kvs => ∃ o kv, H p = some (.frz o (.dK kv)) ∧ RKs K φ H kvs kv
  | .ins c fs => ∃ dx fv, H p = some (.ins (F.ca c) dx fv) ∧ RFs F K φ H fs fv
/-- what may lie at an address of φ -/
def Own : HO → Prop
  | .lst _ => True
  | .dK _ => True
  | .ins _ _ _ => True
  | .frz _ (.dK _) => True
  | _ => False
structure Sim (F : Fx) (K : PySem.W.Frag) (φ : List Addr) (h : Hh) (H : Hp) : Prop where
  len : φ.length = h.length
  inj : ∀ (a b : Nat) p, φ[a]? = some p → φ[b]? = some p → a = b
  obj : ∀ (a : Nat) o, h[a]? = some o → ∃ p, φ[a]? = some p ∧ RO F K φ H p o
structure Ext (φ : List Addr) (H : Hp) (φ' : List Addr) (H' : Hp) : Prop where
  pre : ∃ ψ, φ' = φ ++ ψ
  new : ∀ p ∈ φ', p ∈ φ ∨ H p = none
  keep : ∀ p o, H p = some o → p ∉ φ → H' p = some o
  frz : ∀ p o u, H p = some (.frz o u) → H' p = some (.frz o u)
section
variable {F : Fx} {K : PySem.W.Frag} {φ φ' φ'' : List Addr} {h h' : Hh} {H H' H'' : Hp}
theorem Ext.refl : Ext φ H φ H := ⟨⟨[], by simp⟩, fun _ m => .inl m, fun _ _ e _ => e, fun _ _ _ e => e⟩
theorem Ext.trans (a : Ext φ H φ' H') (b : Ext φ' H' φ'' H'') : Ext φ H φ'' H'' := by
  refine ⟨?_, fun p m => ?_, fun p o e n => ?_, fun p o u e => b.frz p o u (a.frz p o u e)⟩
  · obtain ⟨ψ, e1⟩ := a.pre
    obtain ⟨ψ', e2⟩ := b.pre
    exact ⟨ψ ++ ψ', by rw [e2, e1, List.append_assoc]⟩
  · rcases b.new p m with m | n
    · exact a.new p m
    · by_cases hm : p ∈ φ
      · exact .inl hm
      · right
        cases q : H p with
        | none => rfl
        | some o =>
          rw [a.keep p o q hm] at n
          cases n
  · refine b.keep p o (a.keep p o e n) fun m => ?_
    rcases a.new p m with m | z
    · exact n m
    · rw [e] at z; cases z
theorem Ext.at_ (a : Ext φ H φ' H') {i : Nat} {p : Addr} (e : φ[i]? = some p) : φ'[i]? = some p := by
  obtain ⟨ψ, rfl⟩ := a.pre
  have hi : i < φ.length := (List.getElem?_eq_some_iff.mp e).1
  rw [List.getElem?_append_left hi]
  exact e
theorem RO.own {p : Addr} {o : O} (r : RO F K φ H p o) : ∃ u, H p = some u ∧ Own u := by
  cases o with
  | lst xs => obtain ⟨vs, e, _⟩ := r; exact ⟨_, e, trivial⟩
  | dct kvs => obtain ⟨vs, e, _⟩ := r; exact ⟨_, e, trivial⟩
  | fdc kvs => obtain ⟨o, vs, e, _⟩ := r; exact ⟨_, e, trivial⟩
  | ins c fs => obtain ⟨dx, vs, e, _⟩ := r; exact ⟨_, e, trivial⟩
theorem Sim.own (S : Sim F K φ h H) {p : Addr} (m : p ∈ φ) : ∃ u, H p = some u ∧ Own u := by
  obtain ⟨a, ha, e⟩ := List.getElem_of_mem m
  have hl : a < h.length := by rw [← S.len]; exact ha
  obtain ⟨q, e1, r⟩ := S.obj a h[a] (List.getElem?_eq_getElem hl)
  have e2 : φ[a]? = some p := by rw [List.getElem?_eq_getElem ha, e]
  rw [e2] at e1; cases e1
  exact r.own
theorem Sim.notIn (S : Sim F K φ h H) {p : Addr} {u : HO} (e : H p = some u) (n : ¬ Own u) : p ∉ φ := fun m => by
  obtain ⟨v, e', o⟩ := S.own m
  rw [e] at e'; cases e'
  exact n o
theorem Sim.free (S : Sim F K φ h H) {p : Addr} (e : H p = none) : p ∉ φ := fun m => by
  obtain ⟨v, e', _⟩ := S.own m
  rw [e] at e'; cases e'
theorem Sim.tupK (S : Sim F K φ h H) (x : Ext φ H φ' H') {p : Addr} {vs : List V} (t : SqT K H p vs) : SqT K H' p vs := by
  rcases t with (t | ⟨o, t⟩) | t
  · exact .inl (.inl (x.keep _ _ t (S.notIn t (fun z => z))))
  · exact .inl (.inr ⟨o, x.keep _ _ t (S.notIn t (fun z => z))⟩)
  · exact .inr t
theorem Sim.fzK (S : Sim F K φ h H) (x : Ext φ H φ' H') {p : Addr} {vs : List V} (t : FzL K H p vs) : FzL K H' p vs := by
  rcases t with ⟨o, t⟩ | t
  · exact .inl ⟨o, x.keep _ _ t (S.notIn t (fun z => z))⟩
  · exact .inr t
/-- what a value leans on is kept -/
structure Up (K : PySem.W.Frag) (φ : List Addr) (H : Hp) (φ' : List Addr) (H' : Hp) : Prop where
  at_ : ∀ {i : Nat} {p : Addr}, φ[i]? = some p → φ'[i]? = some p
  tup : ∀ {p : Addr} {vs : List V}, SqT K H p vs → SqT K H' p vs
  fz : ∀ {p : Addr} {vs : List V}, FzL K H p vs → FzL K H' p vs
theorem Sim.up (S : Sim F K φ h H) (x : Ext φ H φ' H') : Up K φ H φ' H' := ⟨x.at_, S.tupK x, S.fzK x⟩
theorem Up.grow {p : Addr} : Up K φ H (φ ++ [p]) H := ⟨fun {i q} e => by
  rw [List.getElem?_append_left (List.getElem?_eq_some_iff.mp e).1]
  exact e, fun t => t, fun t => t⟩
mutual
theorem RD.mono (x : Up K φ H φ' H') : ∀ {d : D} {v : V}, RD K φ H d v → RD K φ' H' d v
  | _, _, .non => .non
  | _, _, .bl b => .bl b
  | _, _, .int i => .int i
  | _, _, .str s => .str s
  | _, _, .tup t r => .tup (x.tup t) (RDs.mono x r)
  | _, _, .scr t => .scr (x.fz t)
  | _, _, .ref e => .ref (x.at_ e)
theorem RDs.mono (x : Up K φ H φ' H') : ∀ {ds : List D} {vs : List V}, RDs K φ H ds vs → RDs K φ' H' ds vs
  | _, _, .nil => .nil
  | _, _, .cons r t => .cons (RD.mono x r) (RDs.mono x t)
end
theorem RKs.mono (x : Up K φ H φ' H') {ds : List (Int × D)} {vs : List (Key × V)} (r : RKs K φ H ds vs) : RKs K φ' H' ds vs := by
  induction r with
  | nil => exact .nil
  | cons r _ ih => exact .cons (r.mono x) ih
theorem RFs.mono (x : Up K φ H φ' H') {ds : List (Nat × D)} {vs : List (Str × V)} (r : RFs F K φ H ds vs) : RFs F K φ' H' ds vs := by
  induction r with
  | nil => exact .nil
  | cons hk r _ ih => exact .cons hk (r.mono x) ih

/-! ### lists of values -/
theorem RDs.length {xs : List D} {vs : List V} : RDs K φ H xs vs → xs.length = vs.length
  | .nil => rfl
  | .cons _ t => congrArg Nat.succ (RDs.length t)
theorem RDs.get : ∀ {xs : List D} {vs : List V} {i : Nat} {x : D}, RDs K φ H xs vs → xs[i]? = some x → ∃ v, vs[i]? = some v ∧ RD K φ H x v
  | _, _, _, _, .nil, e => by simp at e
  | _, _, 0, _, .cons r _, e => by simp at e; subst e; exact ⟨_, rfl, r⟩
  | _, _, i + 1, x, .cons _ t, e => by
    obtain ⟨u, h1, h2⟩ := RDs.get (i := i) (x := x) t (by simpa using e)
    exact ⟨u, by simpa using h1, h2⟩
theorem RDs.append : ∀ {xs ys : List D} {us ws : List V}, RDs K φ H xs us → RDs K φ H ys ws → RDs K φ H (xs ++ ys) (us ++ ws)
  | _, _, _, _, .nil, s => s
  | _, _, _, _, .cons r t, s => .cons r (RDs.append t s)
theorem RDs.take : ∀ {xs : List D} {us : List V} (n : Nat), RDs K φ H xs us → RDs K φ H (xs.take n) (us.take n)
  | _, _, 0, _ => .nil
  | _, _, _ + 1, .nil => .nil
  | _, _, n + 1, .cons r t => .cons r (RDs.take n t)
theorem RDs.drop : ∀ {xs : List D} {us : List V} (n : Nat), RDs K φ H xs us → RDs K φ H (xs.drop n) (us.drop n)
  | _, _, 0, r => r
  | _, _, _ + 1, .nil => .nil
  | _, _, n + 1, .cons r t => RDs.drop n t
theorem RDs.set {x : D} {u : V} (r : RD K φ H x u) : ∀ {xs : List D} {us : List V} (i : Nat), RDs K φ H xs us → RDs K φ H (xs.set i x) (us.set i u)
  | _, _, _, .nil => .nil
  | _, _, 0, .cons _ t => .cons r t
  | _, _, i + 1, .cons q t => .cons q (RDs.set r i t)
theorem RDs.cut {xs : List D} {us : List V} (lo hi : Option Int) (r : RDs K φ H xs us) : RDs K φ H (cutD xs lo hi) (cutV us lo hi) := by
  unfold cutD cutV
  rw [r.length]
  exact (r.drop _).take _
theorem RDs.rep {xs : List D} {us : List V} (r : RDs K φ H xs us) : ∀ n : Nat, RDs K φ H (List.replicate n xs).flatten (List.replicate n us).flatten
  | 0 => .nil
  | n + 1 => by
    rw [List.replicate_succ, List.replicate_succ, List.flatten_cons, List.flatten_cons]
    exact r.append (r.rep n)
theorem RDs.ints : ∀ ns : List Int, RDs K φ H (ns.map D.int) (ns.map V.int)
  | [] => .nil
  | n :: ns => .cons (.int n) (RDs.ints ns)
theorem RDs.ints? : ∀ {xs : List D} {vs : List V} {ns : List Int}, RDs K φ H xs vs → PI.ints? xs = some ns → vs = ns.map V.int
  | _, _, ns, .nil, e => by
    have : ns = [] := (Option.some.inj e).symm
    subst this; rfl
  | .int i :: r, _, ns, .cons (.int _) t, e => by
    cases q : PI.ints? r with
    | none =>
      have e' : (PI.ints? r).map (i :: ·) = some ns := e
      rw [q] at e'; cases e'
    | some ms =>
      have e' : (PI.ints? r).map (i :: ·) = some ns := e
      rw [q] at e'
      have : ns = i :: ms := (Option.some.inj e').symm
      subst this
      rw [t.ints? q]; rfl
  | .non :: _, _, _, .cons _ _, e => by cases e
  | .bl _ :: _, _, _, .cons _ _, e => by cases e
  | .str _ :: _, _, _, .cons _ _, e => by cases e
  | .tup _ :: _, _, _, .cons _ _, e => by cases e
  | .scr _ :: _, _, _, .cons _ _, e => by cases e
  | .ref _ :: _, _, _, .cons _ _, e => by cases e
theorem RDs.bools? : ∀ {xs : List D} {vs : List V} {ns : List Bool}, RDs K φ H xs vs → PI.bools? xs = some ns → vs = ns.map V.bl
  | _, _, ns, .nil, e => by
    have : ns = [] := (Option.some.inj e).symm
    subst this; rfl
  | .bl i :: r, _, ns, .cons (.bl _) t, e => by
    cases q : PI.bools? r with
    | none =>
      have e' : (PI.bools? r).map (i :: ·) = some ns := e
      rw [q] at e'; cases e'
    | some ms =>
      have e' : (PI.bools? r).map (i :: ·) = some ns := e
      rw [q] at e'
      have : ns = i :: ms := (Option.some.inj e').symm
      subst this
      rw [t.bools? q]; rfl
  | .non :: _, _, _, .cons _ _, e => by cases e
  | .int _ :: _, _, _, .cons _ _, e => by cases e
  | .str _ :: _, _, _, .cons _ _, e => by cases e
  | .tup _ :: _, _, _, .cons _ _, e => by cases e
  | .scr _ :: _, _, _, .cons _ _, e => by cases e
  | .ref _ :: _, _, _, .cons _ _, e => by cases e
theorem RDs.strs? : ∀ {xs : List D} {vs : List V} {ns : List Str}, RDs K φ H xs vs → PI.strs? xs = some ns → vs = ns.map V.str
  | _, _, ns, .nil, e => by
    have : ns = [] := (Option.some.inj e).symm
    subst this; rfl
  | .str i :: r, _, ns, .cons (.str _) t, e => by
    cases q : PI.strs? r with
    | none =>
      have e' : (PI.strs? r).map (i :: ·) = some ns := e
      rw [q] at e'; cases e'
    | some ms =>
      have e' : (PI.strs? r).map (i :: ·) = some ns := e
      rw [q] at e'
      have : ns = i :: ms := (Option.some.inj e').symm
      subst this
      rw [t.strs? q]; rfl
  | .non :: _, _, _, .cons _ _, e => by cases e
  | .int _ :: _, _, _, .cons _ _, e => by cases e
  | .bl _ :: _, _, _, .cons _ _, e => by cases e
  | .tup _ :: _, _, _, .cons _ _, e => by cases e
  | .scr _ :: _, _, _, .cons _ _, e => by cases e
  | .ref _ :: _, _, _, .cons _ _, e => by cases e

/-! ### the heap grows, an object is changed -/
theorem RO.mono (x : Up K φ H φ' H') {p : Addr} {o : O} (e : H' p = H p) (r : RO F K φ H p o) : RO F K φ' H' p o := by
  cases o with
  | lst xs => obtain ⟨vs, q, t⟩ := r; exact ⟨vs, e.trans q, t.mono x⟩
  | dct kvs => obtain ⟨vs, q, t⟩ := r; exact ⟨vs, e.trans q, t.mono x⟩
  | fdc kvs => obtain ⟨o, vs, q, t⟩ := r; exact ⟨o, vs, e.trans q, t.mono x⟩
  | ins c fs => obtain ⟨dx, vs, q, t⟩ := r; exact ⟨dx, vs, e.trans q, t.mono x⟩
/-- a new object, tracked, is told to the interpreter's heap -/
theorem Ext.add {p : Addr} {u : HO} (n : H p = none) : Ext φ H (φ ++ [p]) (upd H p u) := by
  refine ⟨⟨[p], rfl⟩, fun q m => ?_, fun q o e _ => ?_, fun q o w e => (upd_ne (ne_of_none e n)).trans e⟩
  · rcases List.mem_append.mp m with m | m
    · exact .inl m
    · right
      rw [List.mem_singleton.mp m]; exact n
  · rw [upd_ne (ne_of_none e n)]; exact e
/-- something else is tracked anew -/
theorem Ext.more {p : Addr} {u : HO} (n : H p = none) : Ext φ H φ (upd H p u) := by
  refine ⟨⟨[], by simp⟩, fun q m => .inl m, fun q o e _ => ?_, fun q o w e => (upd_ne (ne_of_none e n)).trans e⟩
  rw [upd_ne (ne_of_none e n)]; exact e
/-- an object at an address of φ is changed -/
theorem Ext.chg {p : Addr} {u : HO} (m : p ∈ φ) (nf : ∀ o w, H p ≠ some (.frz o w)) : Ext φ H φ (upd H p u) := by
  refine ⟨⟨[], by simp⟩, fun q m => .inl m, fun q o e n => ?_, fun q o w e => (upd_ne fun z => by subst z; exact nf _ _ e).trans e⟩
  rw [upd_ne (fun z => n (by rw [z]; exact m))]; exact e
theorem Sim.upChg (S : Sim F K φ h H) {p : Addr} {u : HO} (m : p ∈ φ) : Up K φ H φ (upd H p u) := by
  obtain ⟨w, e, ow⟩ := S.own m
  refine ⟨fun e => e, fun {q us} t => ?_, fun {q us} t => ?_⟩
  · rcases t with (t | ⟨o, t⟩) | t
    · exact .inl (.inl ((upd_ne fun z => by subst z; rw [e] at t; cases t; exact ow).trans t))
    · exact .inl (.inr ⟨o, (upd_ne fun z => by subst z; rw [e] at t; cases t; exact ow).trans t⟩)
    · exact .inr t
  · rcases t with ⟨o, t⟩ | t
    · exact .inl ⟨o, (upd_ne fun z => by subst z; rw [e] at t; cases t; exact ow).trans t⟩
    · exact .inr t
theorem Sim.more (S : Sim F K φ h H) {p : Addr} {u : HO} (n : H p = none) : Sim F K φ h (upd H p u) := by
  refine ⟨S.len, S.inj, fun a o e => ?_⟩
  obtain ⟨q, e1, r⟩ := S.obj a o e
  refine ⟨q, e1, r.mono (S.up (Ext.more n)) (upd_ne fun z => ?_)⟩
  subst z
  exact S.free n (List.mem_of_getElem? e1)
theorem Sim.add (S : Sim F K φ h H) {p : Addr} (n : p ∉ φ) {o : O} (r : RO F K (φ ++ [p]) H p o) : Sim F K (φ ++ [p]) (h ++ [o]) H := by
  refine ⟨by simp [S.len], fun a b q e1 e2 => ?_, fun a o' e => ?_⟩
  · by_cases ha : a < φ.length
    · rw [List.getElem?_append_left ha] at e1
      by_cases hb : b < φ.length
      · rw [List.getElem?_append_left hb] at e2
        exact S.inj a b q e1 e2
      · rw [List.getElem?_append_right (by omega)] at e2
        rcases List.getElem?_eq_some_iff.mp e2 with ⟨h1, h2⟩
        have : b - φ.length = 0 := by simp at h1; omega
        simp [this] at h2
        subst h2
        exact absurd (List.mem_of_getElem? e1) n
    · rw [List.getElem?_append_right (by omega)] at e1
      rcases List.getElem?_eq_some_iff.mp e1 with ⟨h1, h2⟩
      have z1 : a - φ.length = 0 := by simp at h1; omega
      simp [z1] at h2
      subst h2
      by_cases hb : b < φ.length
      · rw [List.getElem?_append_left hb] at e2
        exact absurd (List.mem_of_getElem? e2) n
      · rw [List.getElem?_append_right (by omega)] at e2
        rcases List.getElem?_eq_some_iff.mp e2 with ⟨h3, _⟩
        simp at h3
        omega
  · by_cases ha : a < h.length
    · rw [List.getElem?_append_left ha] at e
      obtain ⟨q, e1, r'⟩ := S.obj a o' e
      exact ⟨q, by rw [List.getElem?_append_left (by rw [S.len]; exact ha)]; exact e1, r'.mono Up.grow rfl⟩
    · rw [List.getElem?_append_right (by omega)] at e
      rcases List.getElem?_eq_some_iff.mp e with ⟨h1, h2⟩
      have z1 : a - h.length = 0 := by simp at h1; omega
      simp [z1] at h2
      subst h2
      refine ⟨p, ?_, r⟩
      rw [List.getElem?_append_right (by rw [S.len]; omega), S.len, z1]; rfl
/-- a new object, laid and told -/
theorem Sim.lay (S : Sim F K φ h H) {p : Addr} {u : HO} {o : O} (n : H p = none) (r : RO F K (φ ++ [p]) (upd H p u) p o) : Sim F K (φ ++ [p]) (h ++ [o]) (upd H p u) :=
  (S.more n).add (S.free n) r
/-- an object is changed -/
theorem Sim.chg (S : Sim F K φ h H) {a : Nat} {p : Addr} {u : HO} {o : O} (e : φ[a]? = some p) (r : RO F K φ (upd H p u) p o) : Sim F K φ (h.set a o) (upd H p u) := by
  refine ⟨by simp [S.len], S.inj, fun b o' e' => ?_⟩
  have m : p ∈ φ := List.mem_of_getElem? e
  by_cases hb : b = a
  · subst hb
    rcases List.getElem?_eq_some_iff.mp e' with ⟨h1, h2⟩
    have h3 : b < h.length := by simpa using h1
    simp at h2
    subst h2
    exact ⟨p, e, r⟩
  · rw [List.getElem?_set_ne (Ne.symm hb)] at e'
    obtain ⟨q, e1, r'⟩ := S.obj b o' e'
    refine ⟨q, e1, r'.mono (S.upChg m) (upd_ne fun z => ?_)⟩
    subst z
    exact hb (S.inj b a q e1 e)
theorem Sim.lst (S : Sim F K φ h H) {a : Nat} {p : Addr} {xs : List D} (e : φ[a]? = some p) (e' : h[a]? = some (.lst xs)) : ∃ vs, H p = some (.lst vs) ∧ RDs K φ H xs vs := by
  obtain ⟨q, e1, r⟩ := S.obj a _ e'
  rw [e] at e1; cases e1
  exact r
theorem Sim.at_ (S : Sim F K φ h H) {a : Nat} {p : Addr} {o : O} (e : φ[a]? = some p) (e' : h[a]? = some o) : RO F K φ H p o := by
  obtain ⟨q, e1, r⟩ := S.obj a _ e'
  rw [e] at e1; cases e1
  exact r
end
/-- the slots -/
structure RE (K : PySem.W.Frag) (φ : List Addr) (H : Hp) (σ : Sto) (σ' : L2.St) : Prop where
  len : σ.length = σ'.length
  at_ : ∀ (i : Nat) d, σ[i]? = some (some d) → ∃ v, σ'[i]? = some (some v) ∧ RD K φ H d v
section
variable {F : Fx} {K : PySem.W.Frag} {φ φ' φ'' : List Addr} {h h' : Hh} {H H' H'' : Hp} {σ : Sto} {σ' : L2.St}
theorem RE.mono (x : Up K φ H φ' H') (r : RE K φ H σ σ') : RE K φ' H' σ σ' := ⟨r.len, fun i d e => by
  obtain ⟨v, e1, q⟩ := r.at_ i d e
  exact ⟨v, e1, q.mono x⟩⟩
theorem RE.set (r : RE K φ H σ σ') {i : Nat} {d : D} {v : V} (q : RD K φ H d v) : RE K φ H (σ.set i (some d)) (σ'.set i (some v)) := by
  refine ⟨by simp [r.len], fun j e he => ?_⟩
  by_cases hj : j = i
  · subst hj
    rcases List.getElem?_eq_some_iff.mp he with ⟨h1, h2⟩
    have h3 : j < σ.length := by simpa using h1
    simp at h2
    subst h2
    exact ⟨v, by rw [List.getElem?_set_self (by rw [← r.len]; exact h3)], q⟩
  · rw [List.getElem?_set_ne (Ne.symm hj)] at he
    obtain ⟨w, e1, q1⟩ := r.at_ j e he
    exact ⟨w, by rw [List.getElem?_set_ne (Ne.symm hj)]; exact e1, q1⟩
theorem RE.unset (r : RE K φ H σ σ') {i : Nat} : RE K φ H (σ.set i none) (σ'.set i none) := by
  refine ⟨by simp [r.len], fun j e he => ?_⟩
  by_cases hj : j = i
  · subst hj
    rcases List.getElem?_eq_some_iff.mp he with ⟨h1, h2⟩
    simp at h2
  · rw [List.getElem?_set_ne (Ne.symm hj)] at he
    obtain ⟨w, e1, q1⟩ := r.at_ j e he
    exact ⟨w, by rw [List.getElem?_set_ne (Ne.symm hj)]; exact e1, q1⟩
theorem RE.wipe (r : RE K φ H σ σ') : ∀ vs : List Nat, RE K φ H (PI.wipe σ vs) (L2.wipe σ' vs)
  | [] => r
  | v :: vs => (r.wipe vs).unset

/-! ### what is wanted behind a step -/
/-- the wish about exceptions: no frame in it -/
abbrev WE0 : XK := fun _ _ _ => False
def Kt {α β : Type} (F : Fx) (K : PySem.W.Frag) (W : XK) (φ : List Addr) (H : Hp) (r : R α) (Rel : List Addr → Hp → α → β → Prop) (Q : β → Hp → Prop) : Prop := match r with
  | .ok a h1 => ∀ φ1 H1 b, Ext φ H φ1 H1 → Sim F K φ1 h1 H1 → Rel φ1 H1 a b → Q b H1
  | .exc c h1 => ∀ φ1 H1, Ext φ H φ1 H1 → Sim F K φ1 h1 H1 → W (.ref (F.ca c)) none H1
  | .bad => False
theorem Kt.mono {α β : Type} {W : XK} {r : R α} {Rel : List Addr → Hp → α → β → Prop} {Q : β → Hp → Prop} (x : Ext φ H φ' H') (k : Kt F K W φ H r Rel Q) : Kt F K W φ' H' r Rel Q := by
  cases r with
  | ok a h1 => exact fun φ1 H1 b x1 => k φ1 H1 b (x.trans x1)
  | exc c h1 => exact fun φ1 H1 x1 => k φ1 H1 (x.trans x1)
  | bad => exact k
theorem Kt.bnd {α β α' β' : Type} {W : XK} {r : R α} {f : α → Hh → R α'} {Rel : List Addr → Hp → α' → β' → Prop} {Q : β' → Hp → Prop} {Rel1 : List Addr → Hp → α → β → Prop} {Q1 : β → Hp → Prop}
    (k : Kt F K W φ H (r.bnd f) Rel Q) (hq : ∀ a h1 φ1 H1 b, r = .ok a h1 → Ext φ H φ1 H1 → Sim F K φ1 h1 H1 → Rel1 φ1 H1 a b → Kt F K W φ1 H1 (f a h1) Rel Q → Q1 b H1) : Kt F K W φ H r Rel1 Q1 := by
  cases r with
  | ok a h1 => exact fun φ1 H1 b x1 S1 r1 => hq a h1 φ1 H1 b rfl x1 S1 r1 (Kt.mono x1 k)
  | exc c h1 => exact k
  | bad => exact k
/-- where no exception is let out -/
theorem Kt.nox {α β : Type} {W W' : XK} {r : R α} {Rel : List Addr → Hp → α → β → Prop} {Q : β → Hp → Prop} (k : Kt F K W φ H r.nox Rel Q) : Kt F K W' φ H r Rel Q := by
  cases r with
  | ok a h1 => exact k
  | exc c h1 => exact False.elim k
  | bad => exact k
theorem Kt.ok {α β : Type} {W : XK} {a : α} {h1 : Hh} {Rel : List Addr → Hp → α → β → Prop} {Q : β → Hp → Prop} (k : Kt F K W φ H (.ok a h1) Rel Q) {b : β} (S : Sim F K φ h1 H) (r : Rel φ H a b) : Q b H := k φ H b Ext.refl S r
end
end PI

set_option maxRecDepth 100000
set_option maxHeartbeats 2000000
/-! PId: the operations. -/
namespace PI
open PySem PySem.Spec PyProof.Rows L2
theorem limLine : LIM ≤ sizeLine := by rw [sizeLine_eq]; decide
section
variable {F : Fx} {K : PySem.W.Frag} {W : XK} {φ : List Addr} {h : Hh} {H : Hp} {Q : VK}
theorem Kt.alloc (S : Sim F K φ h H) {p : Addr} (n : H p = none) {u : HO} {o : O} (k : Kt F K W φ H (alloc h o) (RD K) Q) (r : RO F K (φ ++ [p]) (upd H p u) p o) : Q (.ref p) (upd H p u) :=
  (show Kt F K W φ H (.ok (.ref h.length) (h ++ [o])) (RD K) Q from k) (φ ++ [p]) (upd H p u) (.ref p) (Ext.add n) (S.lay n r) (.ref (by simp [← S.len]))
theorem up_lay (S : Sim F K φ h H) {p : Addr} (n : H p = none) {u : HO} : Up K φ H (φ ++ [p]) (upd H p u) := S.up (Ext.add n)
theorem up_more (S : Sim F K φ h H) {p : Addr} (n : H p = none) {u : HO} : Up K φ H φ (upd H p u) := S.up (Ext.more n)
theorem Kt.allocL (S : Sim F K φ h H) {p : Addr} (n : H p = none) {xs : List D} {vs : List V} (k : Kt F K W φ H (PI.alloc h (.lst xs)) (RD K) Q) (r : RDs K φ H xs vs) : Q (.ref p) (upd H p (.lst vs)) :=
  Kt.alloc S n k ⟨vs, upd_same, r.mono (up_lay S n)⟩
theorem Kt.allocD (S : Sim F K φ h H) {p : Addr} (n : H p = none) {xs : List (Int × D)} {vs : List (Key × V)} (k : Kt F K W φ H (PI.alloc h (.dct xs)) (RD K) Q) (r : RKs K φ H xs vs) : Q (.ref p) (upd H p (.dK vs)) :=
  Kt.alloc S n k ⟨vs, upd_same, r.mono (up_lay S n)⟩
theorem Kt.tupNew (S : Sim F K φ h H) {p : Addr} (n : H p = none) {xs : List D} {vs : List V} (k : Kt F K W φ H (.ok (.tup xs) h) (RD K) Q) (r : RDs K φ H xs vs) : Q (.ref p) (upd H p (.tup vs)) :=
  k φ (upd H p (.tup vs)) (.ref p) (Ext.more n) (S.more n) (.tup (SqT.of upd_same) (r.mono (up_more S n)))
theorem lstOf_some {a : Nat} {xs : List D} (e : lstOf h a = some xs) : h[a]? = some (.lst xs) := by
  unfold lstOf at e
  split at e
  · cases e; assumption
  · cases e
theorem lst_at (S : Sim F K φ h H) {a : Nat} {p : Addr} {xs : List D} (e : φ[a]? = some p) (e' : lstOf h a = some xs) : ∃ vs, H p = some (.lst vs) ∧ RDs K φ H xs vs := S.lst e (lstOf_some e')
end
def opOf : BOp → Operator
  | .add => .Add
  | .sub => .Sub
  | .mul => .Mult
  | .fdiv => .FloorDiv
  | .mod => .Mod
  | .pow => .Pow
def cOf : COp → CmpOp
  | .eq => .Eq
  | .ne => .NotEq
  | .lt => .Lt
  | .le => .LtE
  | .gt => .Gt
  | .ge => .GtE
  | .in_ => .In
  | .nin => .NotIn
/-- an operation of the interpreter as a rule's reading -/
def rB (F : Fx) (K : PySem.W.Frag) (W : XK) (f : D → D → Hh → R D) : R2 := fun u v H Q => ∃ φ h x y, Sim F K φ h H ∧ RD K φ H x u ∧ RD K φ H y v ∧ Kt F K W φ H (f x y h) (RD K) Q
theorem okMul_ok {i j : Int} (h : okMul i j = true) : IntMulOk i j := by
  unfold okMul at h
  simp only [Bool.or_eq_true, decide_eq_true_eq] at h
  rcases h with (h | h) | h
  · exact .of_left (intBits_le_64 (by omega) (by omega))
  · exact .of_right (intBits_le_64 (by omega) (by omega))
  · exact CMulW.ok h
section
variable {F : Fx} {X : Cx} {W : XK}
theorem op_mulA : OpR X (binaryOp .Mult) (rI (fun i j => okMul i j = true) fun i j => .int (i * j)) := opI fun _ _ _ _ _ _ _ hc q => mul_int q (okMul_ok hc)
theorem op_bin (o : BOp) : OpR X (binaryOp (opOf o)) (rB F X.K W (binop o)) := by
  intro pins s σ H u v uu vv Q I ru rv ⟨φ, h, x, y, S, rx, ry, k⟩
  have kok : ∀ {d : D} {w : V}, Kt F X.K W φ H (.ok d h) (RD X.K) Q → RD X.K φ H d w → Q w H := fun k r => k.ok S r
  cases o with
  | add =>
    unfold binop at k
    cases x with
    | int i =>
      cases y with
      | int j => cases rx; cases ry; exact op_add pins s σ H _ _ _ _ Q I ru rv ⟨i, j, rfl, rfl, kok k (.int _)⟩
      | _ => exact k.elim
    | str a =>
      cases y with
      | str b =>
        cases rx; cases ry
        dsimp only at k
        split at k
        · rename_i hl
          exact op_add_str pins s σ H _ _ _ _ Q I ru rv ⟨a, b, rfl, rfl, Nat.le_trans hl limLine, kok k (.str _)⟩
        · exact k.elim
      | _ => exact k.elim
    | tup xs =>
      cases y with
      | tup ys =>
        cases rx with
        | tup t1 r1 =>
          cases ry with
          | tup t2 r2 =>
            dsimp only at k
            split at k
            · rename_i hl
              refine op_catA pins s σ H _ _ _ _ Q I ru rv ⟨_, _, _, _, rfl, rfl, t1, t2, by rw [← r1.length, ← r2.length]; exact Nat.le_trans hl limLine, fun e => ?_, fun _ e => ?_, fun _ _ p hp => ?_⟩
              · subst e
                cases r1
                exact kok k (.tup t2 r2)
              · subst e
                cases r2
                rw [List.append_nil] at k
                exact kok k (.tup t1 r1)
              · exact Kt.tupNew S hp k (r1.append r2)
            · exact k.elim
      | _ => exact k.elim
    | ref a =>
      cases y with
      | ref b =>
        cases rx with
        | ref ea =>
          cases ry with
          | ref eb =>
            dsimp only at k
            split at k
            · rename_i xs ys h1 h2
              split at k
              · rename_i hl
                obtain ⟨us, e1, r1⟩ := lst_at S ea h1
                obtain ⟨ws, e2, r2⟩ := lst_at S eb h2
                exact op_cat pins s σ H _ _ _ _ Q I ru rv ⟨_, _, us, ws, rfl, rfl, e1, e2, by rw [← r1.length, ← r2.length]; exact Nat.le_trans hl limLine, fun p hp => Kt.allocL S hp k (r1.append r2)⟩
              · exact k.elim
            · exact k.elim
      | _ => exact k.elim
    | _ => exact k.elim
  | sub =>
    unfold binop at k
    cases x with
    | int i =>
      cases y with
      | int j => cases rx; cases ry; exact op_sub pins s σ H _ _ _ _ Q I ru rv ⟨i, j, rfl, rfl, kok k (.int _)⟩
      | _ => exact k.elim
    | _ => exact k.elim
  | mul =>
    unfold binop at k
    cases x with
    | int i =>
      cases y with
      | int j =>
        cases rx; cases ry
        dsimp only at k
        split at k
        · rename_i hl
          exact op_mulA pins s σ H _ _ _ _ Q I ru rv ⟨i, j, rfl, rfl, hl, kok k (.int _)⟩
        · exact k.elim
      | _ => exact k.elim
    | ref a =>
      cases y with
      | int j =>
        cases ry
        cases rx with
        | ref ea =>
          dsimp only at k
          split at k
          · rename_i xs h1
            split at k
            · rename_i hl
              obtain ⟨us, e1, r1⟩ := lst_at S ea h1
              exact op_rep pins s σ H _ _ _ _ Q I ru rv ⟨_, j, us, rfl, rfl, e1, by omega, by omega, by rw [← r1.length]; exact Nat.le_trans hl.2.2 limLine, fun p hp => Kt.allocL S hp k (r1.rep _)⟩
            · exact k.elim
          · exact k.elim
      | _ => exact k.elim
    | tup xs =>
      cases y with
      | int j =>
        cases ry
        cases rx with
        | tup t1 r1 =>
          dsimp only at k
          split at k
          · rename_i hl
            refine op_repT pins s σ H _ _ _ _ Q I ru rv ⟨_, j, _, rfl, rfl, t1, fun e => ?_, hl.2.1, hl.2.2.1, by rw [← r1.length]; exact hl.2.2.2, fun p hp => Kt.tupNew S hp k (r1.rep _)⟩
            have := r1.length
            rw [e] at this
            simp at this
            rw [this] at hl
            simp at hl
          · exact k.elim
      | _ => exact k.elim
    | _ => exact k.elim
  | fdiv =>
    unfold binop at k
    cases x with
    | int i =>
      cases y with
      | int j =>
        cases rx; cases ry
        dsimp only at k
        split at k
        · rename_i hl
          exact op_fdivW pins s σ H _ _ _ _ Q I ru rv ⟨i, j, rfl, rfl, hl, kok k (.int _)⟩
        · exact k.elim
      | _ => exact k.elim
    | _ => exact k.elim
  | mod =>
    unfold binop at k
    cases x with
    | int i =>
      cases y with
      | int j =>
        cases rx; cases ry
        dsimp only at k
        split at k
        · rename_i hl
          exact op_mod pins s σ H _ _ _ _ Q I ru rv ⟨i, j, rfl, rfl, hl, kok k (.int _)⟩
        · exact k.elim
      | _ => exact k.elim
    | _ => exact k.elim
  | pow =>
    unfold binop at k
    cases x with
    | int i =>
      cases y with
      | int j =>
        cases rx; cases ry
        dsimp only at k
        split at k
        · rename_i hl
          exact op_pow pins s σ H _ _ _ _ Q I ru rv ⟨i, j, rfl, rfl, hl, kok k (.int _)⟩
        · exact k.elim
      | _ => exact k.elim
    | _ => exact k.elim
end

/-! ### data for == and in -/
section
variable {F : Fx} {K : PySem.W.Frag} {φ : List Addr} {h : Hh} {H : Hp}
theorem dp_ints : ∀ ns : List Int, DpAll K H (ns.map V.int) (ns.map PyData.int)
  | [] => .nil
  | n :: ns => .cons (.int n) (dp_ints ns)
mutual
theorem toP_dp (S : Sim F K φ h H) : ∀ (n : Nat) {x : D} {u : V} {d : PyData}, RD K φ H x u → toP h n x = some d → Dp K H u d
  | 0, _, _, _, _, e => by simp [toP] at e
  | n + 1, x, u, d, r, e => by
    cases x with
    | non => cases r; simp [toP] at e; subst e; exact .non
    | bl b => cases r; simp [toP] at e; subst e; exact .bl b
    | int i => cases r; simp [toP] at e; subst e; exact .int i
    | str s => cases r; simp [toP] at e; subst e; exact .str s
    | tup xs =>
      cases r with
      | tup t r =>
        simp only [toP, Option.map_eq_some_iff] at e
        obtain ⟨ds, e1, e2⟩ := e
        subst e2
        exact .tup t (toPs_dp S n r e1)
    | scr ns =>
      cases r with
      | scr t =>
        simp only [toP, Option.some.injEq] at e
        subst e
        exact .lst t.sq (dp_ints ns)
    | ref a =>
      cases r with
      | ref ea =>
        simp only [toP] at e
        split at e
        · rename_i xs hx
          simp only [Option.map_eq_some_iff] at e
          obtain ⟨ds, e1, e2⟩ := e
          subst e2
          obtain ⟨vs, h1, h2⟩ := S.lst ea hx
          exact .lst (SqL.of h1) (toPs_dp S n h2 e1)
        · cases e
theorem toPs_dp (S : Sim F K φ h H) : ∀ (n : Nat) {xs : List D} {us : List V} {ds : List PyData}, RDs K φ H xs us → toPs h n xs = some ds → DpAll K H us ds
  | 0, _, _, _, _, e => by simp [toPs] at e
  | n + 1, [], us, ds, r, e => by
    cases r
    simp only [toPs, Option.some.injEq] at e
    subst e
    exact .nil
  | n + 1, x :: xs, us, ds, r, e => by
    cases r with
    | cons r1 r2 =>
      simp only [toPs] at e
      split at e
      · cases e
      · rename_i p hp
        split at e
        · cases e
        · rename_i ps hps
          simp only [Option.some.injEq] at e
          subst e
          exact .cons (toP_dp S n r1 hp) (toPs_dp S (n + 1) r2 hps)
end
theorem data_dp (S : Sim F K φ h H) {x : D} {u : V} {d : PyData} (r : RD K φ H x u) (e : data h x = some d) : Dp K H u d ∧ SeqAt.shaped d = true := by
  unfold data at e
  split at e
  · cases e
  · rename_i p hp
    split at e
    · rename_i hs
      cases e
      exact ⟨toP_dp S _ r hp, hs⟩
    · cases e

/-! ### dicts -/
theorem RKs.any {kvs : List (Int × D)} {kv : List (Key × V)} (r : RKs K φ H kvs kv) (k : Int) : (kv.any fun z => decide (z.1 = Sum.inl k)) = (kvs.any fun z => decide (z.1 = k)) := by
  induction r with
  | nil => rfl
  | @cons j x xs v vs r _ ih =>
    rw [List.any_cons, List.any_cons, ih]
    congr 1
    exact decide_eq_decide.mpr ⟨fun e => Sum.inl.inj e, fun e => congrArg Sum.inl e⟩
theorem RKs.look {kvs : List (Int × D)} {kv : List (Key × V)} (r : RKs K φ H kvs kv) (k : Int) : (dlook kvs k = none ∧ valV kv (Sum.inl k) = none) ∨ ∃ d v, dlook kvs k = some d ∧ valV kv (Sum.inl k) = some v ∧ RD K φ H d v := by
  induction r with
  | nil => exact .inl ⟨rfl, rfl⟩
  | @cons j x xs v vs r _ ih =>
    by_cases e : j = k
    · subst e
      exact .inr ⟨x, v, by simp [dlook], valV_pos rfl, r⟩
    · rw [valV_neg (fun z => e (Sum.inl.inj z))]
      have : dlook ((j, x) :: xs) k = dlook xs k := by simp [dlook, e]
      rw [this]
      exact ih
theorem RKs.isSome {kvs : List (Int × D)} {kv : List (Key × V)} (r : RKs K φ H kvs kv) (k : Int) : (valV kv (Sum.inl k)).isSome = (dlook kvs k).isSome := by
  rcases r.look k with ⟨e1, e2⟩ | ⟨d, v, e1, e2, _⟩ <;> rw [e1, e2] <;> rfl
theorem RKs.length {kvs : List (Int × D)} {kv : List (Key × V)} (r : RKs K φ H kvs kv) : kvs.length = kv.length := by
  induction r with
  | nil => rfl
  | cons _ _ ih => exact congrArg Nat.succ ih
theorem RKs.append {kvs kvs2 : List (Int × D)} {kv kv2 : List (Key × V)} (r : RKs K φ H kvs kv) (r2 : RKs K φ H kvs2 kv2) : RKs K φ H (kvs ++ kvs2) (kv ++ kv2) := by
  induction r with
  | nil => exact r2
  | cons q _ ih => exact .cons q ih
theorem RKs.put {kvs : List (Int × D)} {kv : List (Key × V)} (r : RKs K φ H kvs kv) (k : Int) {d : D} {v : V} (q : RD K φ H d v) : RKs K φ H (dput kvs k d) (putK kv (Sum.inl k) v) := by
  unfold dput putK
  rw [r.any k]
  split
  · rename_i hh
    clear hh
    induction r with
    | nil => exact .nil
    | @cons j x xs v' vs r _ ih =>
      rw [List.map_cons, List.map_cons]
      by_cases e : j = k
      · subst e
        simp only [if_true]
        exact .cons q ih
      · rw [if_neg (show ¬ (j, x).1 = k from e), if_neg (show ¬ ((Sum.inl j : Key), v').1 = Sum.inl k from fun z => e (Sum.inl.inj z))]
        exact .cons r ih
  · exact r.append (.cons q .nil)
theorem RKs.drop {kvs : List (Int × D)} {kv : List (Key × V)} (r : RKs K φ H kvs kv) (k : Int) : RKs K φ H (ddrop kvs k) (dropK kv (Sum.inl k)) := by
  unfold ddrop dropK
  induction r with
  | nil => exact .nil
  | @cons j x xs v' vs r _ ih =>
    by_cases e : j = k
    · subst e
      simpa using ih
    · rw [List.filter_cons, List.filter_cons, if_pos (by simp [e]), if_pos (by simp [e])]
      exact .cons r ih
theorem dct_at (S : Sim F K φ h H) {a : Nat} {p : Addr} {kvs : List (Int × D)} (e : φ[a]? = some p) (e' : dctOf h a = some kvs) : ∃ kv, Rd H p (.dK kv) ∧ RKs K φ H kvs kv := by
  unfold dctOf at e'
  split at e'
  · rename_i ks hk
    cases e'
    obtain ⟨kv, h1, h2⟩ := S.at_ e hk
    exact ⟨kv, .inl h1, h2⟩
  · rename_i ks hk
    cases e'
    obtain ⟨o, kv, h1, h2⟩ := S.at_ e hk
    exact ⟨kv, .inr ⟨o, h1⟩, h2⟩
  · cases e'
theorem atI_rel {xs : List D} {vs : List V} (r : RDs K φ H xs vs) {k : Int} {d : D} (e : atI xs k = some d) : ∃ v, atI vs k = some v ∧ RD K φ H d v := by
  unfold atI at e ⊢
  rw [← r.length]
  cases q : ixN xs.length k with
  | none => rw [q] at e; cases e
  | some j =>
    rw [q] at e
    exact r.get e
end

/-- .. that hands a value -/
def rO (F : Fx) (K : PySem.W.Frag) (f : D → D → Hh → Option D) : R2 := fun u v H Q => ∃ φ h x y d, Sim F K φ h H ∧ RD K φ H x u ∧ RD K φ H y v ∧ f x y h = some d ∧ ∀ w, RD K φ H d w → Q w H
/-! ### comparisons -/
def rC (F : Fx) (K : PySem.W.Frag) (f : D → D → Hh → Option Bool) : R2 := fun u v H Q => ∃ φ h x y b, Sim F K φ h H ∧ RD K φ H x u ∧ RD K φ H y v ∧ f x y h = some b ∧ Q (.bl b) H
section
variable {F : Fx} {X : Cx} {n : Nat}
def rInT (K : PySem.W.Frag) : R2 := fun x y H Q => ∃ d ds, Dp K H x d ∧ Dp K H y (.tuple ds) ∧ SeqAt.shaped d = true ∧ SeqAt.shaped (.tuple ds) = true ∧ Q (.bl (ds.any fun z => PyData.eqv z d)) H
def rNotInT (K : PySem.W.Frag) : R2 := fun x y H Q => ∃ d ds, Dp K H x d ∧ Dp K H y (.tuple ds) ∧ SeqAt.shaped d = true ∧ SeqAt.shaped (.tuple ds) = true ∧ Q (.bl (!ds.any fun z => PyData.eqv z d)) H
theorem op_inT (hu : X.A.units + 65 < cLine) : OpR X (compareOp .In) (rInT X.K) := by
  intro pins s σ H x y v u Q I rx ry h
  obtain ⟨d, ds, hd, he, sd, se, q⟩ := h
  obtain ⟨as, r1⟩ := Dp.reads I d x v hd rx
  obtain ⟨bs, r2⟩ := Dp.reads I (.tuple ds) y u he ry
  exact SeqAt.in_tuple_reads r2 r1 (SeqAt.canLay_of_shaped se) (SeqAt.canLay_of_shaped sd) (room_in_shaped sd hu) ⟨.bl _, H, I, rfl, q⟩
theorem op_notInT (hu : X.A.units + 65 < cLine) : OpR X (compareOp .NotIn) (rNotInT X.K) := by
  intro pins s σ H x y v u Q I rx ry h
  obtain ⟨d, ds, hd, he, sd, se, q⟩ := h
  obtain ⟨as, r1⟩ := Dp.reads I d x v hd rx
  obtain ⟨bs, r2⟩ := Dp.reads I (.tuple ds) y u he ry
  exact SeqAt.notIn_tuple_reads r2 r1 (SeqAt.canLay_of_shaped se) (SeqAt.canLay_of_shaped sd) (room_in_shaped sd hu) ⟨.bl _, H, I, rfl, q⟩

theorem one_sign {s : Str} (e : s.length = 1) : s = ⟨#[s.cps.getD 0 0]⟩ := by
  obtain ⟨⟨l⟩⟩ := s
  match l, e with
  | [c], _ => rfl
theorem op_in (hu : X.A.units + 65 < cLine) : OpR X (compareOp .In) (rC F X.K inop) := by
  intro pins s σ H u v uu vv Q I ru rv ⟨φ, h, x, y, b, S, rx, ry, e, q⟩
  cases y with
  | ref a =>
    simp only [inop] at e
    split at e
    · rename_i kvs hk
      cases ry with
      | ref ea =>
        split at e
        · rename_i k
          cases rx
          cases e
          obtain ⟨kv, h1, h2⟩ := dct_at S ea hk
          cases rv
          refine d_in (o := valV kv (Sum.inl k)) (by omega) I (.inl ⟨kv, Sum.inl k, h1, rfl, rfl⟩) ru fun s' I' => ⟨.bl _, H, I', rfl, ?_⟩
          rw [h2.isSome]; exact q
        · cases e
    · split at e
      · rename_i d ds h1 h2
        cases e
        obtain ⟨k1, k2⟩ := data_dp S rx h1
        obtain ⟨k3, k4⟩ := data_dp S ry h2
        exact op_inD hu pins s σ H _ _ _ _ Q I ru rv ⟨d, ds, k1, k3, k2, k4, q⟩
      · cases e
  | str t =>
    simp only [inop] at e
    split at e
    · rename_i z
      split at e
      · rename_i hz
        cases e
        cases rx; cases ry
        refine op_in_sign pins s σ H _ _ _ _ Q I ru rv ⟨z.cps.getD 0 0, t, ?_, rfl, q⟩
        rw [← one_sign hz]
      · cases e
    · cases e
  | tup xs =>
    simp only [inop] at e
    split at e
    · rename_i d ds h1 h2
      cases e
      obtain ⟨k1, k2⟩ := data_dp S rx h1
      obtain ⟨k3, k4⟩ := data_dp S ry h2
      exact op_inT hu pins s σ H _ _ _ _ Q I ru rv ⟨d, ds, k1, k3, k2, k4, q⟩
    · rename_i d ds h1 h2
      cases e
      obtain ⟨k1, k2⟩ := data_dp S rx h1
      obtain ⟨k3, k4⟩ := data_dp S ry h2
      exact op_inD hu pins s σ H _ _ _ _ Q I ru rv ⟨d, ds, k1, k3, k2, k4, q⟩
    · cases e
  | scr xs =>
    simp only [inop] at e
    split at e
    · rename_i d ds h1 h2
      cases e
      obtain ⟨k1, k2⟩ := data_dp S rx h1
      obtain ⟨k3, k4⟩ := data_dp S ry h2
      exact op_inT hu pins s σ H _ _ _ _ Q I ru rv ⟨d, ds, k1, k3, k2, k4, q⟩
    · rename_i d ds h1 h2
      cases e
      obtain ⟨k1, k2⟩ := data_dp S rx h1
      obtain ⟨k3, k4⟩ := data_dp S ry h2
      exact op_inD hu pins s σ H _ _ _ _ Q I ru rv ⟨d, ds, k1, k3, k2, k4, q⟩
    · cases e
  | _ =>
    simp only [inop] at e
    split at e
    · rename_i d ds h1 h2
      cases e
      obtain ⟨k1, k2⟩ := data_dp S rx h1
      obtain ⟨k3, k4⟩ := data_dp S ry h2
      exact op_inT hu pins s σ H _ _ _ _ Q I ru rv ⟨d, ds, k1, k3, k2, k4, q⟩
    · rename_i d ds h1 h2
      cases e
      obtain ⟨k1, k2⟩ := data_dp S rx h1
      obtain ⟨k3, k4⟩ := data_dp S ry h2
      exact op_inD hu pins s σ H _ _ _ _ Q I ru rv ⟨d, ds, k1, k3, k2, k4, q⟩
    · cases e
theorem op_nin (hu : X.A.units + 65 < cLine) : OpR X (compareOp .NotIn) (rC F X.K fun x y h => (inop x y h).map (!·)) := by
  intro pins s σ H u v uu vv Q I ru rv ⟨φ, h, x, y, b0, S, rx, ry, e0, q⟩
  obtain ⟨b, e, rfl⟩ := Option.map_eq_some_iff.mp e0
  cases y with
  | ref a =>
    simp only [inop] at e
    split at e
    · rename_i kvs hk
      cases ry with
      | ref ea =>
        split at e
        · rename_i k
          cases rx
          cases e
          obtain ⟨kv, h1, h2⟩ := dct_at S ea hk
          cases rv
          refine d_notIn (o := valV kv (Sum.inl k)) (by omega) I (.inl ⟨kv, Sum.inl k, h1, rfl, rfl⟩) ru fun s' I' => ⟨.bl _, H, I', rfl, ?_⟩
          rw [h2.isSome]; exact q
        · cases e
    · split at e
      · rename_i d ds h1 h2
        cases e
        obtain ⟨k1, k2⟩ := data_dp S rx h1
        obtain ⟨k3, k4⟩ := data_dp S ry h2
        exact op_notInD hu pins s σ H _ _ _ _ Q I ru rv ⟨d, ds, k1, k3, k2, k4, q⟩
      · cases e
  | str t =>
    simp only [inop] at e
    split at e
    · rename_i z
      split at e
      · rename_i hz
        cases e
        cases rx; cases ry
        refine op_notIn_sign pins s σ H _ _ _ _ Q I ru rv ⟨z.cps.getD 0 0, t, ?_, rfl, q⟩
        rw [← one_sign hz]
      · cases e
    · cases e
  | _ =>
    simp only [inop] at e
    split at e
    · rename_i d ds h1 h2
      cases e
      obtain ⟨k1, k2⟩ := data_dp S rx h1
      obtain ⟨k3, k4⟩ := data_dp S ry h2
      exact op_notInT hu pins s σ H _ _ _ _ Q I ru rv ⟨d, ds, k1, k3, k2, k4, q⟩
    · rename_i d ds h1 h2
      cases e
      obtain ⟨k1, k2⟩ := data_dp S rx h1
      obtain ⟨k3, k4⟩ := data_dp S ry h2
      exact op_notInD hu pins s σ H _ _ _ _ Q I ru rv ⟨d, ds, k1, k3, k2, k4, q⟩
    · cases e
theorem op_cmp (hu : X.A.units + 65 < cLine) (o : COp) : OpR X (compareOp (cOf o)) (rC F X.K (cmpop o)) := by
  cases o with
  | in_ => exact op_in hu
  | nin => exact op_nin hu
  | eq =>
    intro pins s σ H u v uu vv Q I ru rv ⟨φ, h, x, y, b, S, rx, ry, e, q⟩
    simp only [cmpop] at e
    split at e
    · rename_i d d' h1 h2
      cases e
      obtain ⟨k1, k2⟩ := data_dp S rx h1
      obtain ⟨k3, k4⟩ := data_dp S ry h2
      exact op_eqD (by omega) pins s σ H _ _ _ _ Q I ru rv ⟨d, d', k1, k3, k2, k4, q⟩
    · cases e
  | ne =>
    intro pins s σ H u v uu vv Q I ru rv ⟨φ, h, x, y, b, S, rx, ry, e, q⟩
    simp only [cmpop] at e
    split at e
    · rename_i d d' h1 h2
      cases e
      obtain ⟨k1, k2⟩ := data_dp S rx h1
      obtain ⟨k3, k4⟩ := data_dp S ry h2
      exact op_neD (by omega) pins s σ H _ _ _ _ Q I ru rv ⟨d, d', k1, k3, k2, k4, q⟩
    · cases e
  | lt =>
    intro pins s σ H u v uu vv Q I ru rv ⟨φ, h, x, y, b, S, rx, ry, e, q⟩
    simp only [cmpop] at e
    split at e
    · cases e; cases rx; cases ry
      exact op_lt pins s σ H _ _ _ _ Q I ru rv ⟨_, _, rfl, rfl, q⟩
    · cases e
  | le =>
    intro pins s σ H u v uu vv Q I ru rv ⟨φ, h, x, y, b, S, rx, ry, e, q⟩
    simp only [cmpop] at e
    split at e
    · cases e; cases rx; cases ry
      exact op_le pins s σ H _ _ _ _ Q I ru rv ⟨_, _, rfl, rfl, q⟩
    · cases e
  | gt =>
    intro pins s σ H u v uu vv Q I ru rv ⟨φ, h, x, y, b, S, rx, ry, e, q⟩
    simp only [cmpop] at e
    split at e
    · cases e; cases rx; cases ry
      exact op_gt pins s σ H _ _ _ _ Q I ru rv ⟨_, _, rfl, rfl, q⟩
    · cases e
  | ge =>
    intro pins s σ H u v uu vv Q I ru rv ⟨φ, h, x, y, b, S, rx, ry, e, q⟩
    simp only [cmpop] at e
    split at e
    · cases e; cases rx; cases ry
      exact op_ge pins s σ H _ _ _ _ Q I ru rv ⟨_, _, rfl, rfl, q⟩
    · cases e

/-! ### subscripts, slices, stores -/
theorem ix_any (hu : X.A.units + 65 < cLine) : IxR X (rO F X.K idxop) := by
  intro value slice pins s σ H u v uu vv Q I ru rv ⟨φ, h, x, y, d, S, rx, ry, e, q⟩ hs
  cases x with
  | tup xs =>
    cases y with
    | int k =>
      cases rx with
      | tup t r =>
        cases ry
        obtain ⟨w, e1, r1⟩ := atI_rel r e
        exact ix_tup value slice pins s σ H _ _ _ _ Q I ru rv ⟨_, _, k, w, rfl, rfl, t, e1, q w r1⟩ hs
    | _ => cases e
  | scr xs =>
    cases y with
    | int k =>
      cases rx with
      | scr t =>
        cases ry
        obtain ⟨w, e1, r1⟩ := atI_rel (RDs.ints xs) e
        exact ix_list value slice pins s σ H _ _ _ _ Q I ru rv ⟨_, _, k, w, rfl, rfl, t.sq, e1, q w r1⟩ hs
    | _ => cases e
  | str z =>
    cases y with
    | int k =>
      cases rx; cases ry
      simp only [idxop] at e
      split at e
      · rename_i hz
        obtain ⟨c, e1, e2⟩ := Option.map_eq_some_iff.mp e
        subst e2
        exact ix_str value slice pins s σ H _ _ _ _ Q I ru rv ⟨z, k, c, rfl, rfl, Nat.le_trans hz limLine, e1, q _ (.str _)⟩ hs
      · cases e
    | _ => cases e
  | ref a =>
    cases y with
    | int k =>
      cases ry
      cases rx with
      | ref ea =>
        have dd : ∀ kvs, dctOf h a = some kvs → dlook kvs k = some d → wpAny (model X.prog X.w) X.A (subscriptTail value slice uu vv) (EP X pins σ Q) X.xe s := fun kvs e1 e2 => by
          obtain ⟨kv, h1, h2⟩ := dct_at S ea e1
          rcases h2.look k with ⟨e3, _⟩ | ⟨d', w, e3, e4, r⟩
          · rw [e2] at e3; cases e3
          · rw [e2] at e3; cases e3
            cases ru
            have g : DGet H _ (.int k) (some w) := .inl ⟨kv, Sum.inl k, h1, rfl, e4.symm⟩
            exact tail_any (dict_typeIs I g) PySem.F.slot_dict_getitem.lookup (d_getItem (by omega) I g rv fun w' s' I' r' => ⟨w, H, I', r', q w r⟩) hs
        simp only [idxop] at e
        split at e
        · rename_i xs hx
          obtain ⟨vs, h1, h2⟩ := S.lst ea hx
          obtain ⟨w, e1, r1⟩ := atI_rel h2 e
          exact ix_list value slice pins s σ H _ _ _ _ Q I ru rv ⟨_, _, k, w, rfl, rfl, SqL.of h1, e1, q w r1⟩ hs
        · rename_i kvs hx
          exact dd kvs (by unfold dctOf; rw [hx]) e
        · rename_i kvs hx
          exact dd kvs (by unfold dctOf; rw [hx]) e
        · cases e
    | _ => cases e
  | _ => cases e

/-- a slice -/
def rS (F : Fx) (K : PySem.W.Frag) (W : XK) : V → Option Int → Option Int → Hp → VK → Prop := fun u lo hi H Q => ∃ φ h x, Sim F K φ h H ∧ RD K φ H x u ∧ Kt F K W φ H (slop x lo hi h) (RD K) Q
theorem sl_any {W : XK} : SlR X (rS F X.K W) := by
  intro pins s σ H u v vl vu lo hi sl Q I rx hs pl pu ⟨φ, h, x, S, ru, k⟩
  cases x with
  | tup xs =>
    cases ru with
    | tup t r =>
      refine sl_tupA pins s σ H _ v vl vu lo hi sl Q I rx hs pl pu ⟨_, _, rfl, t, fun hw => ?_, fun _ p hp => Kt.tupNew S hp k (r.cut lo hi)⟩
      refine k.ok S (.tup t ?_)
      have e : cutD xs lo hi = xs := by
        unfold cutD
        rw [r.length, hw.1, hw.2]
        rw [← r.length]
        simp
      rw [e]
      exact r
  | scr xs =>
    cases ru with
    | scr t => exact sl_list pins s σ H _ v vl vu lo hi sl Q I rx hs pl pu ⟨_, _, rfl, t.sq, fun p hp => Kt.allocL S hp k ((RDs.ints xs).cut lo hi)⟩
  | str z =>
    cases ru
    simp only [slop] at k
    split at k
    · rename_i hz
      exact sl_str pins s σ H _ v vl vu lo hi sl Q I rx hs pl pu ⟨z, rfl, Nat.le_trans hz limLine, k.ok S (.str _)⟩
    · exact k.elim
  | ref a =>
    cases ru with
    | ref ea =>
      simp only [slop] at k
      split at k
      · rename_i xs h1
        obtain ⟨us, e1, r1⟩ := lst_at S ea h1
        exact sl_list pins s σ H _ v vl vu lo hi sl Q I rx hs pl pu ⟨_, _, rfl, SqL.of e1, fun p hp => Kt.allocL S hp k (r1.cut lo hi)⟩
      · exact k.elim
  | _ => exact k.elim
/-- o[i] = v -/
def rSt (F : Fx) (K : PySem.W.Frag) : TSet := fun o i v H Q => ∃ φ h x y z h', Sim F K φ h H ∧ RD K φ H x o ∧ RD K φ H y i ∧ RD K φ H z v ∧ setop x y z h = some h' ∧ ∀ H', Ext φ H φ H' → Sim F K φ h' H' → Q H'
theorem ixN_rel {xs : List D} {vs : List V} {K : PySem.W.Frag} {φ : List Addr} {H : Hp} (r : RDs K φ H xs vs) (k : Int) : ixN vs.length k = ixN xs.length k := by rw [r.length]
theorem set_any (hu : X.A.units + 65 < cLine) : PSet X (rSt F X.K) := by
  intro pins s σ H o i v ov iv u Q I ro ri rv ⟨φ, h, x, y, z, h', S, rx, ry, rz, e, q⟩
  cases x with
  | ref a =>
    cases y with
    | int k =>
      cases ry
      cases rx with
      | ref ea =>
        have m : _ ∈ φ := List.mem_of_getElem? ea
        simp only [setop] at e
        split at e
        · rename_i xs hx
          split at e
          · rename_i j hj
            cases e
            obtain ⟨vs, h1, h2⟩ := S.lst ea hx
            refine set_list pins s σ H _ _ _ ov iv u Q I ro ri rv ⟨_, vs, k, j, rfl, rfl, h1, by rw [ixN_rel h2]; exact hj, q _ (Ext.chg m (by rw [h1]; intro _ _ z; cases z)) (S.chg ea ⟨_, upd_same, ?_⟩)⟩
            exact (h2.mono (S.upChg m)).set (rz.mono (S.upChg m)) j
          · cases e
        · rename_i kvs hx
          split at e
          · rename_i hl
            cases e
            obtain ⟨kv, h1, h2⟩ := S.at_ ea hx
            cases ro
            refine d_setItem (by omega) I (DPut.k (k := Sum.inl k) h1 (by rw [← h2.length]; exact Nat.lt_of_lt_of_le hl limLine)) ri rv fun s' I' => ⟨_, I', q _ (Ext.chg m (by rw [h1]; intro _ _ z; cases z)) (S.chg ea ⟨_, upd_same, ?_⟩)⟩
            exact (h2.mono (S.upChg m)).put k (rz.mono (S.upChg m))
          · cases e
        · cases e
    | _ => cases e
  | _ => cases e
end
end PI

set_option maxRecDepth 100000
set_option maxHeartbeats 2000000
/-! PIe: expressions. -/
namespace PI
open PySem PySem.Spec PyProof.Rows L2
def btys : List String := ["NoneType", "bool", "int", "str", "tuple", "list", "dict"]
def excOkB (K : PySem.W.Frag) (c : Addr) : Prop := (∃ bm new, (∃ B init, ExcBaseFacts B new init bm) ∧ PySem.W.excIn K c bm new = true) ∧ PySem.W.subIn K (.ref c) (.type "BaseException") = some true ∧ PySem.W.typeIn K (.ref c) = some (.type "type") ∧ PySem.W.keepIn K (.ref c) = true
/-- the program's facts in the written part -/
structure Gd (F : Fx) (K : PySem.W.Frag) : Prop where
  inj : ∀ i j, i < F.natt → j < F.natt → F.att i = F.att j → i = j
  cls : ∀ c, F.P.isc c = true → Cls K (F.ca c)
  fld : ∀ c f, F.P.isc c = true → F.P.attr c f = .fld → f < F.natt ∧ NoAttr K (F.ca c) (F.att f)
  prop : ∀ c f g, F.P.isc c = true → F.P.attr c f = .prop g → ∃ p, PropOf K (F.ca c) (F.att f) p (F.fa g)
  meth : ∀ c m f, F.P.isc c = true → F.P.meth c m = some f → m < F.natt ∧ Meth K (F.ca c) (F.att m) (F.fa f)
  init : ∀ c f, F.P.isc c = true → F.P.init c = some f → Mk K (F.ca c) (F.fa f)
  tyc : ∀ c, F.P.isc c = true → PySem.W.findIn K (.ref (F.ca c)) "__class__" = some (some (.builtin "object.__class__")) ∧ PySem.W.mroIn K (F.ca c) (.type "object") = some true
  tyg : PySem.W.specialIn K (.builtin "object.__class__") "__get__" = some (some (.builtin "getset_descriptor.__get__")) ∧ PySem.W.takesIn K (.builtin "object.__class__") = some true
  kb : ∀ c a, F.P.isc c = true → a ∈ btys → PySem.W.kitOne K (.type a) (.ref (F.ca c)) = some false ∧ PySem.W.kitOne K (.ref (F.ca c)) (.type a) = some false
  exc : ∀ c, F.ise c = true → excOkB K (F.ca c)
  exm : ∀ c d, F.ise c = true → F.ise d = true → PySem.W.exmOne K (.ref (F.ca c)) (.ref (F.ca d)) = some (c == d)
  kc : ∀ c d, F.P.isc c = true → F.P.isc d = true → PySem.W.kitOne K (.ref (F.ca c)) (.ref (F.ca d)) = some (F.P.sub c d)
/-- a def's promise: what the interpreter computes -/
def spF (F : Fx) (K : PySem.W.Frag) (C : List D → Hh → R D) : Sp := fun vs H Q E => ∃ φ h ds, Sim F K φ h H ∧ RDs K φ H ds vs ∧ Kt F K E φ H (C ds h) (RD K) Q
/-- the context of a piece of code -/
structure XC (F : Fx) (X : Cx) (W : XK) (C : Nat → List D → Hh → R D) (k : Nat) : Prop where
  calm : X.calm = true
  nd : X.N.Nodup
  room : Room (k + 2) X.A
  tk : Takes X (fun c d _ H => W c d H)
  po : PassesOwn (model X.prog X.w) X.A X.env X.xe
  gd : Gd F X.K
  cal : ∀ f, FnR X.prog X.w X.K X.mg X.base (L2.CX X.prog X.w) k (F.fa f) (spF F X.K (C f))
section
variable {F : Fx} {X : Cx} {W : XK} {C : Nat → List D → Hh → R D} {k : Nat}
theorem XC.hu (c : XC F X W C k) : X.A.units + 65 < cLine := by have := c.room.un; omega
theorem XC.pass (c : XC F X W C k) : Passes (L2.CX X.prog X.w) X W := passes_call c.tk fun _ _ _ _ h => h
/-- readings -/
def mE (F : Fx) (K : PySem.W.Frag) (W : XK) (m : Sto → Hh → R D) : TE := fun σ' H Q => ∃ φ h σ, Sim F K φ h H ∧ RE K φ H σ σ' ∧ Kt F K W φ H (m σ h) (RD K) Q
def mA (F : Fx) (K : PySem.W.Frag) (W : XK) (m : Sto → Hh → R (List D)) : TA := fun σ' H Q => ∃ φ h σ, Sim F K φ h H ∧ RE K φ H σ σ' ∧ Kt F K W φ H (m σ h) (RDs K) Q
def mB (F : Fx) (K : PySem.W.Frag) (W : XK) (m : Sto → Hh → R Bool) : TT := fun σ' H Q => ∃ φ h σ, Sim F K φ h H ∧ RE K φ H σ σ' ∧ Kt F K W φ H (m σ h) (fun _ _ a b => a = b) Q
def mO (F : Fx) (K : PySem.W.Frag) (W : XK) (m : Sto → Hh → R (Option Int)) : TO := fun σ' H Q => ∃ φ h σ, Sim F K φ h H ∧ RE K φ H σ σ' ∧ Kt F K W φ H (m σ h) (fun _ _ a b => a = b) Q
abbrev SE (F : Fx) (X : Cx) (W : XK) (e : Expr) (m : Sto → Hh → R D) : Prop := PE X e (mE F X.K W m)
/-- a test's value from a value -/
def tst (m : Sto → Hh → R D) : Sto → Hh → R Bool := fun σ h => (m σ h).bnd fun x h1 => match x with
  | .bl b => .ok b h1
  | _ => .bad
variable {e a b c : Expr} {es : List Expr} {pos p apos : Pos} {m ma mb mc : Sto → Hh → R D} {ms : Sto → Hh → R (List D)}

/-! ### the machine: one part behind another -/
theorem run1 (ha : SE F X W a ma) {pins : List (Addr × Obj)} {s : Shared} {σ' : L2.St} {H : Hp} {φ : List Addr} {h : Hh} {σ : Sto} (I : Inv X pins σ' H s) (S : Sim F X.K φ h H) (E : RE X.K φ H σ σ')
    {α β : Type} {f : D → Hh → R α} {Rel : List Addr → Hp → α → β → Prop} {Q : β → Hp → Prop} (kt : Kt F X.K W φ H ((ma σ h).bnd f) Rel Q) {G : Value → Shared → Prop}
    (hq : ∀ d h1 φ1 H1 v u s1, Inv X pins σ' H1 s1 → RelV v u → Sim F X.K φ1 h1 H1 → RE X.K φ1 H1 σ σ' → Ext φ H φ1 H1 → RD X.K φ1 H1 d v → Kt F X.K W φ1 H1 (f d h1) Rel Q → G u s1) :
    wpAny (model X.prog X.w) X.A (eval a X.env) G X.xe s := by
  have Rd : mE F X.K W ma σ' H fun v H1 => ∃ d h1 φ1, Sim F X.K φ1 h1 H1 ∧ Ext φ H φ1 H1 ∧ RD X.K φ1 H1 d v ∧ Kt F X.K W φ1 H1 (f d h1) Rel Q :=
    ⟨φ, h, σ, S, E, kt.bnd fun d h1 φ1 H1 v _ x1 S1 r1 k1 => ⟨d, h1, φ1, S1, x1, r1, k1⟩⟩
  exact thn (ha.run pins s σ' H _ I Rd) fun u s1 ⟨v, H1, I1, rv, d, h1, φ1, S1, x1, r1, k1⟩ => hq d h1 φ1 H1 v u s1 I1 rv S1 (E.mono (S.up x1)) x1 r1 k1

/-! ### names and constants -/
theorem se_var {i : Nat} {x : Str} (hN : X.N[i]? = some x) (hv : Vis X.env.scope x) (hd : (x == ("__debug__" : Str)) = false) (hcd : (x == ("__classdict__" : Str)) = false) : SE F X W (.Name x p) (ev F.P C (.var i)) := by
  refine ⟨fun pins s σ' H Q I ⟨φ, h, σ, S, E, kt⟩ => ?_⟩
  simp only [ev] at kt
  split at kt
  · rename_i v e
    obtain ⟨w, e1, r⟩ := E.at_ i v e
    exact (pe_var hN hv hd hcd).run pins s σ' H Q I ⟨w, e1, kt.ok S r⟩
  · exact kt.elim
theorem se_non {j : Nat} : SE F X W (.Constant .none j p) (ev F.P C .non) :=
  ⟨fun pins s σ' H Q I ⟨φ, h, σ, S, E, kt⟩ => pe_non.run pins s σ' H Q I (Kt.ok kt S .non)⟩
theorem se_bl {b : Bool} {j : Nat} : SE F X W (.Constant (.bool b) j p) (ev F.P C (.bl b)) :=
  ⟨fun pins s σ' H Q I ⟨φ, h, σ, S, E, kt⟩ => pe_bl.run pins s σ' H Q I (Kt.ok kt S (.bl b))⟩
theorem se_int {b : Int} {j : Nat} : SE F X W (.Constant (.int b) j p) (ev F.P C (.int b)) :=
  ⟨fun pins s σ' H Q I ⟨φ, h, σ, S, E, kt⟩ => pe_int.run pins s σ' H Q I (Kt.ok kt S (.int b))⟩
theorem se_str {b : Str} {j : Nat} : SE F X W (.Constant (.str b) j p) (ev F.P C (.str b)) :=
  ⟨fun pins s σ' H Q I ⟨φ, h, σ, S, E, kt⟩ => pe_str.run pins s σ' H Q I (Kt.ok kt S (.str b))⟩
/-- a module's constant: its value does not lean on the abstract heap -/
def GloOk (F : Fx) (K : PySem.W.Frag) (mg : Str → Option Value) (x : Str) (g : Nat) : Prop := ∃ u v d, mg x = some u ∧ RelV v u ∧ F.P.glo g = some d ∧ ∀ φ H, RD K φ H d v
theorem se_glo {x : Str} {g : Nat} (hg : Gl X x) (ok : GloOk F X.K X.mg x g) (hd : (x == ("__debug__" : Str)) = false) : SE F X W (.Name x p) (ev F.P C (.glo g)) := by
  obtain ⟨u, v, d, h1, h2, h3, h4⟩ := ok
  refine ⟨fun pins s σ' H Q I ⟨φ, h, σ, S, E, kt⟩ => ?_⟩
  simp only [ev, h3, opt_some] at kt
  exact (pe_glob hg h1 h2 hd).run pins s σ' H Q I (kt.ok S (h4 φ H))

/-! ### argument lists -/
theorem sa_nil : PA X [] (mA F X.K W (evs F.P C .nil)) :=
  ⟨fun pos pins s σ' H Q I ⟨φ, h, σ, S, E, kt⟩ => pa_nil.run pos pins s σ' H Q I (Kt.ok kt S .nil)⟩
theorem sa_cons {x : E} {xs : Es} (ha : SE F X W e (ev F.P C x)) (hr : PA X es (mA F X.K W (evs F.P C xs))) (hs : starEach (e :: es) X.env = (false, eval e X.env) :: starEach es X.env) : PA X (e :: es) (mA F X.K W (evs F.P C (.cons x xs))) := by
  refine ⟨fun pos pins s σ' H Q I ⟨φ, h, σ, S, E, kt⟩ => (pa_cons ha hr hs).run pos pins s σ' H Q I ?_⟩
  simp only [evs] at kt
  refine ⟨φ, h, σ, S, E, kt.bnd fun d h1 φ1 H1 v _ x1 S1 r1 k1 => ?_⟩
  refine ⟨φ1, h1, σ, S1, E.mono (S.up x1), k1.bnd fun ds h2 φ2 H2 vs _ x2 S2 r2 k2 => ?_⟩
  exact k2.ok S2 (.cons (r1.mono (S1.up x2)) r2)
theorem se_tup {xs : Es} {j : Nat} (h : PA X es (mA F X.K W (evs F.P C xs))) : SE F X W (.Tuple es j p) (ev F.P C (.tup xs)) := by
  refine ⟨fun pins s σ' H Q I ⟨φ, h0, σ, S, E, kt⟩ => (pe_tup h).run pins s σ' H Q I ?_⟩
  simp only [ev] at kt
  refine ⟨φ, h0, σ, S, E, kt.bnd fun ds h1 φ1 H1 vs _ x1 S1 r1 k1 => ?_⟩
  split at k1
  · rename_i hl
    exact ⟨by rw [← r1.length]; exact Nat.le_trans hl limLine, fun q hq => Kt.tupNew S1 hq k1 r1⟩
  · exact k1.elim

/-! ### operators -/
theorem se_bin {x y : E} (o : BOp) (ha : SE F X W a (ev F.P C x)) (hb : SE F X W b (ev F.P C y)) : SE F X W (.BinOp a (opOf o) b p) (ev F.P C (.bin o x y)) := by
  refine ⟨fun pins s σ' H Q I ⟨φ, h0, σ, S, E, kt⟩ => (pe_op (op_bin (F := F) (W := W) o) ha hb).run pins s σ' H Q I ?_⟩
  simp only [ev] at kt
  refine ⟨φ, h0, σ, S, E, kt.bnd fun d h1 φ1 H1 v _ x1 S1 r1 k1 => ?_⟩
  refine ⟨φ1, h1, σ, S1, E.mono (S.up x1), k1.bnd fun d2 h2 φ2 H2 v2 _ x2 S2 r2 k2 => ?_⟩
  exact ⟨φ2, h2, d, d2, S2, r1.mono (S1.up x2), r2, k2⟩
theorem se_neg {x : E} (ha : SE F X W a (ev F.P C x)) : SE F X W (.UnaryOp .USub a p) (ev F.P C (.neg x)) := by
  refine ⟨fun pins s σ' H Q I ⟨φ, h0, σ, S, E, kt⟩ => (pe_un un_neg ha).run pins s σ' H Q I ?_⟩
  simp only [ev] at kt
  refine ⟨φ, h0, σ, S, E, kt.bnd fun d h1 φ1 H1 v _ x1 S1 r1 k1 => ?_⟩
  split at k1
  · cases r1
    exact ⟨_, rfl, k1.ok S1 (.int _)⟩
  · exact k1.elim
theorem se_not {x : E} (ha : SE F X W a (ev F.P C x)) : SE F X W (.UnaryOp .Not a p) (ev F.P C (.not x)) := by
  refine ⟨fun pins s σ' H Q I ⟨φ, h0, σ, S, E, kt⟩ => (pe_not ha).run pins s σ' H Q I ?_⟩
  simp only [ev] at kt
  refine ⟨φ, h0, σ, S, E, kt.bnd fun d h1 φ1 H1 v _ x1 S1 r1 k1 => ?_⟩
  split at k1
  · cases r1
    exact ⟨_, rfl, k1.ok S1 (.bl _)⟩
  · exact k1.elim
theorem se_one {op : BoolOp} (ha : SE F X W a m) : SE F X W (.BoolOp op [a] p) m := pe_one ha
theorem se_and {x y : E} {b : Expr} {rest : List Expr} (ha : SE F X W a (ev F.P C x)) (hb : SE F X W (.BoolOp .And (b :: rest) p) (ev F.P C y)) : SE F X W (.BoolOp .And (a :: b :: rest) p) (ev F.P C (.and x y)) := by
  refine ⟨fun pins s σ' H Q I ⟨φ, h0, σ, S, E, kt⟩ => (pe_and ha hb).run pins s σ' H Q I ?_⟩
  simp only [ev] at kt
  refine ⟨φ, h0, σ, S, E, kt.bnd fun d h1 φ1 H1 v _ x1 S1 r1 k1 => ?_⟩
  split at k1
  · cases r1
    exact ⟨_, rfl, φ1, h1, σ, S1, E.mono (S.up x1), k1⟩
  · cases r1
    exact ⟨_, rfl, k1.ok S1 (.bl _)⟩
  · exact k1.elim
theorem se_or {x y : E} {b : Expr} {rest : List Expr} (ha : SE F X W a (ev F.P C x)) (hb : SE F X W (.BoolOp .Or (b :: rest) p) (ev F.P C y)) : SE F X W (.BoolOp .Or (a :: b :: rest) p) (ev F.P C (.or x y)) := by
  refine ⟨fun pins s σ' H Q I ⟨φ, h0, σ, S, E, kt⟩ => (pe_or ha hb).run pins s σ' H Q I ?_⟩
  simp only [ev] at kt
  refine ⟨φ, h0, σ, S, E, kt.bnd fun d h1 φ1 H1 v _ x1 S1 r1 k1 => ?_⟩
  split at k1
  · cases r1
    exact ⟨_, rfl, k1.ok S1 (.bl _)⟩
  · cases r1
    exact ⟨_, rfl, φ1, h1, σ, S1, E.mono (S.up x1), k1⟩
  · exact k1.elim
theorem opt_map_some {α β γ : Type} {o : Option α} {f : α → β} {h : Hh} {φ : List Addr} {H : Hp} {K : PySem.W.Frag} {Rel : List Addr → Hp → β → γ → Prop} {Q : γ → Hp → Prop} (k : Kt F K W φ H (opt (o.map f) h) Rel Q) : ∃ z, o = some z ∧ Kt F K W φ H (.ok (f z) h) Rel Q := by
  cases o with
  | none => exact k.elim
  | some z => exact ⟨z, rfl, k⟩
theorem opt_is_some {β : Type} {o : Option β} {h : Hh} {φ : List Addr} {H : Hp} {K : PySem.W.Frag} {Rel : List Addr → Hp → β → V → Prop} {Q : VK} (k : Kt F K W φ H (opt o h) Rel Q) : ∃ z, o = some z ∧ Kt F K W φ H (.ok z h) Rel Q := by
  cases o with
  | none => exact k.elim
  | some z => exact ⟨z, rfl, k⟩
theorem se_cmp (c : XC F X W C k) {x y : E} (o : COp) (ha : SE F X W a (ev F.P C x)) (hb : SE F X W b (ev F.P C y)) (hm : behindInMarks (cOf o) b = false) : SE F X W (.Compare a [cOf o] [b] p) (ev F.P C (.cmp o x y)) := by
  refine ⟨fun pins s σ' H Q I ⟨φ, h0, σ, S, E, kt⟩ => (pe_cmpR (op_cmp (F := F) c.hu o) ha hb hm).run pins s σ' H Q I ?_⟩
  simp only [ev] at kt
  refine ⟨φ, h0, σ, S, E, kt.bnd fun d h1 φ1 H1 v _ x1 S1 r1 k1 => ?_⟩
  refine ⟨φ1, h1, σ, S1, E.mono (S.up x1), k1.bnd fun d2 h2 φ2 H2 v2 _ x2 S2 r2 k2 => ?_⟩
  obtain ⟨z, e1, k3⟩ := opt_map_some k2
  exact ⟨φ2, h2, d, d2, z, S2, r1.mono (S1.up x2), r2, e1, k3.ok S2 (.bl _)⟩
theorem st_cmp (c : XC F X W C k) {x y : E} (o : COp) (ha : SE F X W a (ev F.P C x)) (hb : SE F X W b (ev F.P C y)) (hm : behindInMarks (cOf o) b = false) : PT X (.Compare a [cOf o] [b] p) (mB F X.K W (tst (ev F.P C (.cmp o x y)))) := by
  refine ⟨fun pins s σ' H Q I ⟨φ, h0, σ, S, E, kt⟩ => (pt_cmpR (op_cmp (F := F) c.hu o) ha hb hm).run pins s σ' H Q I ?_⟩
  simp only [tst, ev, R.bnd_assoc] at kt
  refine ⟨φ, h0, σ, S, E, kt.bnd fun d h1 φ1 H1 v _ x1 S1 r1 k1 => ?_⟩
  refine ⟨φ1, h1, σ, S1, E.mono (S.up x1), k1.bnd fun d2 h2 φ2 H2 v2 _ x2 S2 r2 k2 => ?_⟩
  cases q3 : cmpop o d d2 h2 with
  | none => rw [q3] at k2; exact k2.elim
  | some z =>
    rw [q3] at k2
    exact ⟨φ2, h2, d, d2, z, S2, r1.mono (S1.up x2), r2, q3, z, rfl, (show Kt F X.K W φ2 H2 (.ok z h2) (fun _ _ a b => a = b) Q from k2).ok S2 rfl⟩
/-- a chain a < b < c -/
theorem se_cmp2 (c0 : XC F X W C k) {x y z : E} (o o' : COp) (ha : SE F X W a (ev F.P C x)) (hb : SE F X W b (ev F.P C y)) (hc : SE F X W c (ev F.P C z)) (hm : behindInMarks (cOf o) b = false) (hm' : behindInMarks (cOf o') c = false)
    (hl : lastMarks [cOf o, cOf o'] [b, c] = false) : SE F X W (.Compare a [cOf o, cOf o'] [b, c] p) (ev F.P C (.cmp2 o o' x y z)) := by
  refine ⟨fun pins s σ' H Q I ⟨φ, h0, σ, S, E, kt⟩ => (pe_chain (op_cmp (F := F) c0.hu o) (op_cmp (F := F) c0.hu o') ha hb hc hl).run pins s σ' H Q I ?_⟩
  simp only [ev] at kt
  refine ⟨φ, h0, σ, S, E, kt.bnd fun d h1 φ1 H1 v _ x1 S1 r1 k1 => ?_⟩
  refine ⟨φ1, h1, σ, S1, E.mono (S.up x1), k1.bnd fun d2 h2 φ2 H2 v2 _ x2 S2 r2 k2 => ?_⟩
  cases q3 : cmpop o d d2 h2 with
  | none => rw [q3] at k2; exact k2.elim
  | some w =>
    rw [q3] at k2
    refine ⟨φ2, h2, d, d2, w, S2, r1.mono (S1.up x2), r2, q3, w, rfl, ?_⟩
    cases w with
    | true =>
      rw [if_pos rfl]
      refine ⟨φ2, h2, σ, S2, (E.mono (S.up x1)).mono (S1.up x2), k2.bnd fun d3 h3 φ3 H3 v3 _ x3 S3 r3 k3 => ?_⟩
      obtain ⟨t, e1, k4⟩ := opt_map_some k3
      exact ⟨φ3, h3, d2, d3, t, S3, r2.mono (S2.up x3), r3, e1, k4.ok S3 (.bl _)⟩
    | false =>
      rw [if_neg Bool.false_ne_true]
      exact k2.ok S2 (.bl _)
theorem st_cmp2 (c0 : XC F X W C k) {x y z : E} (o o' : COp) (ha : SE F X W a (ev F.P C x)) (hb : SE F X W b (ev F.P C y)) (hc : SE F X W c (ev F.P C z))
    (hl : lastMarks [cOf o, cOf o'] [b, c] = false) : PT X (.Compare a [cOf o, cOf o'] [b, c] p) (mB F X.K W (tst (ev F.P C (.cmp2 o o' x y z)))) := by
  refine ⟨fun pins s σ' H Q I ⟨φ, h0, σ, S, E, kt⟩ => (pt_chain (op_cmp (F := F) c0.hu o) (op_cmp (F := F) c0.hu o') ha hb hc hl).run pins s σ' H Q I ?_⟩
  simp only [tst, ev, R.bnd_assoc] at kt
  refine ⟨φ, h0, σ, S, E, kt.bnd fun d h1 φ1 H1 v _ x1 S1 r1 k1 => ?_⟩
  refine ⟨φ1, h1, σ, S1, E.mono (S.up x1), k1.bnd fun d2 h2 φ2 H2 v2 _ x2 S2 r2 k2 => ?_⟩
  cases q3 : cmpop o d d2 h2 with
  | none => rw [q3] at k2; exact k2.elim
  | some w =>
    rw [q3] at k2
    refine ⟨φ2, h2, d, d2, w, S2, r1.mono (S1.up x2), r2, q3, w, rfl, ?_⟩
    cases w with
    | true =>
      rw [if_pos rfl]
      have k2' : Kt F X.K W φ2 H2 ((ev F.P C z σ h2).bnd fun z h3 => (opt ((cmpop o' d2 z h3).map D.bl) h3).bnd fun x h1 => match x with
        | .bl b => .ok b h1
        | _ => .bad) (fun _ _ a b => a = b) Q := by
        rw [← R.bnd_assoc]; exact k2
      refine ⟨φ2, h2, σ, S2, (E.mono (S.up x1)).mono (S1.up x2), k2'.bnd fun d3 h3 φ3 H3 v3 _ x3 S3 r3 k3 => ?_⟩
      cases q4 : cmpop o' d2 d3 h3 with
      | none => rw [q4] at k3; exact k3.elim
      | some t =>
        rw [q4] at k3
        exact ⟨φ3, h3, d2, d3, t, S3, r2.mono (S2.up x3), r3, q4, t, rfl, (show Kt F X.K W φ3 H3 (.ok t h3) (fun _ _ a b => a = b) Q from k3).ok S3 rfl⟩
    | false =>
      rw [if_neg Bool.false_ne_true]
      exact ⟨false, rfl, (show Kt F X.K W φ2 H2 (.ok false h2) (fun _ _ a b => a = b) Q from k2).ok S2 rfl⟩
theorem st_val {m : Sto → Hh → R D} (h : SE F X W e m) (he : ∀ whole, isTrue e X.env whole = (do let v ← whole; standAt e.pos; holding [v] (truthy v))) : PT X e (mB F X.K W (tst m)) := by
  refine ⟨fun pins s σ' H Q I ⟨φ, h0, σ, S, E, kt⟩ => (pt_val h he).run pins s σ' H Q I ?_⟩
  refine ⟨φ, h0, σ, S, E, kt.bnd fun d h1 φ1 H1 v _ x1 S1 r1 k1 => ?_⟩
  split at k1
  · cases r1
    exact ⟨_, rfl, k1.ok S1 rfl⟩
  · exact k1.elim
theorem st_not {x : E} (ha : PT X a (mB F X.K W (tst (ev F.P C x)))) : PT X (.UnaryOp .Not a p) (mB F X.K W (tst (ev F.P C (.not x)))) := by
  refine ⟨fun pins s σ' H Q I ⟨φ, h0, σ, S, E, kt⟩ => (pt_not ha).run pins s σ' H Q I ?_⟩
  simp only [tst, ev, R.bnd_assoc] at kt
  refine ⟨φ, h0, σ, S, E, ?_⟩
  unfold tst
  cases q1 : ev F.P C x σ h0 with
  | bad => rw [q1] at kt; exact kt.elim
  | exc z hz => rw [q1] at kt; exact kt
  | ok d h1 =>
    rw [q1] at kt
    cases d with
    | bl v =>
      intro φ1 H1 w x1 S1 r1
      subst r1
      exact (show Kt F X.K W φ H (.ok (!v) h1) (fun _ _ a b => a = b) Q from kt) φ1 H1 (!v) x1 S1 rfl
    | _ => exact kt.elim
theorem sw_one {op : BoolOp} (ha : PT X a (mB F X.K W (tst m))) : PW X (.BoolOp op [a] p) (mB F X.K W (tst m)) := by
  cases op with
  | And => exact pw_and1 ha
  | Or => exact pw_or1 ha
theorem sw_and {x y : E} {b : Expr} {rest : List Expr} (ha : PT X a (mB F X.K W (tst (ev F.P C x)))) (hb : PW X (.BoolOp .And (b :: rest) p) (mB F X.K W (tst (ev F.P C y)))) :
    PW X (.BoolOp .And (a :: b :: rest) p) (mB F X.K W (tst (ev F.P C (.and x y)))) := by
  refine ⟨fun wh pins s σ' H Q I ⟨φ, h0, σ, S, E, kt⟩ => (pw_and ha hb).run wh pins s σ' H Q I ?_⟩
  simp only [tst, ev, R.bnd_assoc] at kt
  refine ⟨φ, h0, σ, S, E, ?_⟩
  unfold tst
  cases q1 : ev F.P C x σ h0 with
  | bad => rw [q1] at kt; exact kt.elim
  | exc z hz => rw [q1] at kt; exact kt
  | ok d h1 =>
    rw [q1] at kt
    cases d with
    | bl v =>
      intro φ1 H1 w x1 S1 r1
      subst r1
      cases v with
      | true =>
        rw [if_pos rfl]
        exact ⟨φ1, h1, σ, S1, E.mono (S.up x1), Kt.mono x1 (show Kt F X.K W φ H (tst (ev F.P C y) σ h1) (fun _ _ a b => a = b) Q from kt)⟩
      | false =>
        rw [if_neg Bool.false_ne_true]
        exact (show Kt F X.K W φ H (.ok false h1) (fun _ _ a b => a = b) Q from kt) φ1 H1 false x1 S1 rfl
    | _ => exact kt.elim
theorem sw_or {x y : E} {b : Expr} {rest : List Expr} (ha : PT X a (mB F X.K W (tst (ev F.P C x)))) (hb : PW X (.BoolOp .Or (b :: rest) p) (mB F X.K W (tst (ev F.P C y)))) :
    PW X (.BoolOp .Or (a :: b :: rest) p) (mB F X.K W (tst (ev F.P C (.or x y)))) := by
  refine ⟨fun wh pins s σ' H Q I ⟨φ, h0, σ, S, E, kt⟩ => (pw_or ha hb).run wh pins s σ' H Q I ?_⟩
  simp only [tst, ev, R.bnd_assoc] at kt
  refine ⟨φ, h0, σ, S, E, ?_⟩
  unfold tst
  cases q1 : ev F.P C x σ h0 with
  | bad => rw [q1] at kt; exact kt.elim
  | exc z hz => rw [q1] at kt; exact kt
  | ok d h1 =>
    rw [q1] at kt
    cases d with
    | bl v =>
      intro φ1 H1 w x1 S1 r1
      subst r1
      cases v with
      | true =>
        rw [if_pos rfl]
        exact (show Kt F X.K W φ H (.ok true h1) (fun _ _ a b => a = b) Q from kt) φ1 H1 true x1 S1 rfl
      | false =>
        rw [if_neg Bool.false_ne_true]
        exact ⟨φ1, h1, σ, S1, E.mono (S.up x1), Kt.mono x1 (show Kt F X.K W φ H (tst (ev F.P C y) σ h1) (fun _ _ a b => a = b) Q from kt)⟩
    | _ => exact kt.elim
/-- what a test hands on -/
theorem tst_bnd {α : Type} {m : Sto → Hh → R D} {f : Bool → Hh → R α} {g : D → Hh → R α} (hg : ∀ d h, g d h = match d with | .bl b => f b h | _ => .bad) {σ : Sto} {h : Hh} : (m σ h).bnd g = (tst m σ h).bnd f := by
  unfold tst
  rw [R.bnd_assoc]
  congr 1
  funext d h1
  rw [hg]
  cases d <;> rfl
theorem se_ifx {x y z : E} (hc : PT X c (mB F X.K W (tst (ev F.P C x)))) (ha : SE F X W a (ev F.P C y)) (hb : SE F X W b (ev F.P C z)) : SE F X W (.IfExp c a b p) (ev F.P C (.ifx x y z)) := by
  refine ⟨fun pins s σ' H Q I ⟨φ, h0, σ, S, E, kt⟩ => (pe_ifExp hc ha hb).run pins s σ' H Q I ?_⟩
  simp only [ev] at kt
  rw [tst_bnd (f := fun b h1 => match b with | true => ev F.P C y σ h1 | false => ev F.P C z σ h1) (fun d h => by cases d with | bl b => cases b <;> rfl | _ => rfl)] at kt
  refine ⟨φ, h0, σ, S, E, kt.bnd fun d h1 φ1 H1 v _ x1 S1 r1 k1 => ?_⟩
  subst r1
  cases d with
  | true => rw [if_pos rfl]; exact ⟨φ1, h1, σ, S1, E.mono (S.up x1), k1⟩
  | false => rw [if_neg Bool.false_ne_true]; exact ⟨φ1, h1, σ, S1, E.mono (S.up x1), k1⟩
theorem se_isN {x : E} {j : Nat} {p' : Pos} (ha : SE F X W a (ev F.P C x)) : SE F X W (.Compare a [.Is] [.Constant .none j p'] p) (ev F.P C (.isN x)) := by
  refine ⟨fun pins s σ' H Q I ⟨φ, h0, σ, S, E, kt⟩ => (pe_cmp (pc_isN ha) rfl).run pins s σ' H Q I ?_⟩
  simp only [ev] at kt
  refine ⟨φ, h0, σ, S, E, kt.bnd fun d h1 φ1 H1 v _ x1 S1 r1 k1 => ?_⟩
  refine (congrArg (fun q => Q (.bl q) H1) ?_).mp (k1.ok S1 (.bl _))
  cases r1 <;> rfl
theorem se_notN {x : E} {j : Nat} {p' : Pos} (ha : SE F X W a (ev F.P C x)) : SE F X W (.Compare a [.IsNot] [.Constant .none j p'] p) (ev F.P C (.notN x)) := by
  refine ⟨fun pins s σ' H Q I ⟨φ, h0, σ, S, E, kt⟩ => (pe_cmp (pc_notN ha) rfl).run pins s σ' H Q I ?_⟩
  simp only [ev] at kt
  refine ⟨φ, h0, σ, S, E, kt.bnd fun d h1 φ1 H1 v _ x1 S1 r1 k1 => ?_⟩
  refine (congrArg (fun q => Q (.bl q) H1) ?_).mp (k1.ok S1 (.bl _))
  cases r1 <;> rfl
theorem st_isN {x : E} {j : Nat} {p' : Pos} (ha : SE F X W a (ev F.P C x)) : PT X (.Compare a [.Is] [.Constant .none j p'] p) (mB F X.K W (tst (ev F.P C (.isN x)))) := by
  refine ⟨fun pins s σ' H Q I ⟨φ, h0, σ, S, E, kt⟩ => (pt_cmp (pc_isN ha) rfl).run pins s σ' H Q I ?_⟩
  simp only [tst, ev, R.bnd_assoc] at kt
  refine ⟨φ, h0, σ, S, E, kt.bnd fun d h1 φ1 H1 v _ x1 S1 r1 k1 => ⟨_, rfl, ?_⟩⟩
  refine (congrArg (fun q => Q q H1) ?_).mp ((show Kt F X.K W φ1 H1 (.ok _ h1) (fun _ _ a b => a = b) Q from k1).ok S1 rfl)
  cases r1 <;> rfl
theorem st_notN {x : E} {j : Nat} {p' : Pos} (ha : SE F X W a (ev F.P C x)) : PT X (.Compare a [.IsNot] [.Constant .none j p'] p) (mB F X.K W (tst (ev F.P C (.notN x)))) := by
  refine ⟨fun pins s σ' H Q I ⟨φ, h0, σ, S, E, kt⟩ => (pt_cmp (pc_notN ha) rfl).run pins s σ' H Q I ?_⟩
  simp only [tst, ev, R.bnd_assoc] at kt
  refine ⟨φ, h0, σ, S, E, kt.bnd fun d h1 φ1 H1 v _ x1 S1 r1 k1 => ⟨_, rfl, ?_⟩⟩
  refine (congrArg (fun q => Q q H1) ?_).mp ((show Kt F X.K W φ1 H1 (.ok _ h1) (fun _ _ a b => a = b) Q from k1).ok S1 rfl)
  cases r1 <;> rfl
/-! ### subscripts -/
theorem se_idx (c : XC F X W C k) {x y : E} (ha : SE F X W a (ev F.P C x)) (hb : SE F X W b (ev F.P C y)) (hs : PlainIx b) : SE F X W (.Subscript a b p) (ev F.P C (.idx x y)) := by
  refine ⟨fun pins s σ' H Q I ⟨φ, h0, σ, S, E, kt⟩ => (pe_ix (ix_any (F := F) c.hu) ha hb hs).run pins s σ' H Q I ?_⟩
  simp only [ev] at kt
  refine ⟨φ, h0, σ, S, E, kt.bnd fun d h1 φ1 H1 v _ x1 S1 r1 k1 => ?_⟩
  refine ⟨φ1, h1, σ, S1, E.mono (S.up x1), k1.bnd fun d2 h2 φ2 H2 v2 _ x2 S2 r2 k2 => ?_⟩
  obtain ⟨z, e1, k3⟩ := opt_is_some k2
  exact ⟨φ2, h2, d, d2, z, S2, r1.mono (S1.up x2), r2, e1, fun w r => k3.ok S2 r⟩
theorem so_none : PO X none (mO F X.K W (evO F.P C .none)) := ⟨fun pins s σ' H Q I ⟨φ, h0, σ, S, E, kt⟩ => po_none.run pins s σ' H Q I (Kt.ok kt S rfl)⟩
theorem so_some {x : E} (ha : SE F X W a (ev F.P C x)) : PO X (some a) (mO F X.K W (evO F.P C (.some x))) := by
  refine ⟨fun pins s σ' H Q I ⟨φ, h0, σ, S, E, kt⟩ => (po_some ha).run pins s σ' H Q I ?_⟩
  simp only [evO] at kt
  refine ⟨φ, h0, σ, S, E, kt.bnd fun d h1 φ1 H1 v _ x1 S1 r1 k1 => ?_⟩
  split at k1
  · cases r1
    exact ⟨_, rfl, k1.ok S1 rfl⟩
  · exact k1.elim
theorem se_sl {x : E} {lo hi : Option Expr} {l u : OE} {p2 : Pos} (ha : SE F X W a (ev F.P C x)) (hl : PO X lo (mO F X.K W (evO F.P C l))) (hu : PO X hi (mO F X.K W (evO F.P C u))) : SE F X W (.Subscript a (.Slice lo hi none p2) p) (ev F.P C (.sl x l u)) := by
  refine ⟨fun pins s σ' H Q I ⟨φ, h0, σ, S, E, kt⟩ => (pe_slice (sl_any (F := F) (W := W)) ha hl hu).run pins s σ' H Q I ?_⟩
  simp only [ev] at kt
  refine ⟨φ, h0, σ, S, E, kt.bnd fun d h1 φ1 H1 v _ x1 S1 r1 k1 => ?_⟩
  refine ⟨φ1, h1, σ, S1, E.mono (S.up x1), k1.bnd fun d2 h2 φ2 H2 v2 _ x2 S2 r2 k2 => ?_⟩
  subst r2
  refine ⟨φ2, h2, σ, S2, (E.mono (S.up x1)).mono (S1.up x2), k2.bnd fun d3 h3 φ3 H3 v3 _ x3 S3 r3 k3 => ?_⟩
  subst r3
  exact ⟨φ3, h3, d, S3, (r1.mono (S1.up x2)).mono (S2.up x3), k3⟩
end
end PI

set_option maxRecDepth 100000
set_option maxHeartbeats 2000000
/-! PIf: calls, fields, methods, isinstance. -/
namespace PI
open PySem PySem.Spec PyProof.Rows L2
section
variable {F : Fx} {X : Cx} {W : XK} {C : Nat → List D → Hh → R D} {k : Nat} {e a b c o : Expr} {es : List Expr} {pos p apos : Pos}

/-! ### defs of the module -/
theorem se_call (c : XC F X W C k) {f : Nat} {x : Str} {xs : Es} (hg : Gl X x) (hm : X.mg x = some (.ref (F.fa f))) (hk : PySem.W.keepIn X.K (.ref (F.fa f)) = true) (ha : PA X (e :: es) (mA F X.K W (evs F.P C xs)))
    (hdb : (x == ("__debug__" : Str)) = false) (he : starEach (e :: es) X.env = (false, eval e X.env) :: starEach es X.env) (hpl : (backTo pos (starEach es X.env)).any (·.1) = false) : SE F X W (.Call (.Name x p) (e :: es) [] pos) (ev F.P C (.call f xs)) := by
  refine ⟨fun pins s σ' H Q I ⟨φ, h0, σ, S, E, kt⟩ => ?_⟩
  refine wpAny_Call_Name_kw (ld_glob I hg hm ?_ hdb)
  simp only [ev] at kt
  have Rd : mA F X.K W (evs F.P C xs) σ' H (fun vs H1 => spF F X.K (C f) vs H1 Q W) := ⟨φ, h0, σ, S, E, kt.bnd fun ds h1 φ1 H1 vs _ x1 S1 r1 k1 => ⟨φ1, h1, ds, S1, r1, k1⟩⟩
  refine PySem.W.callWith_K (h₀ := X.base) I.ok.mod.kin hk (thn (ha.run pos pins s σ' H _ I Rd) fun us s1 ⟨vs, H1, I1, r, q⟩ => ⟨I1.kIn, ?_⟩) he hpl
  exact wpAny_call (run_fnR (c.cal f) (c.room.mono (by omega)) c.pass I1 r q)
theorem se_call0 (c : XC F X W C k) {f : Nat} {x : Str} (hg : Gl X x) (hm : X.mg x = some (.ref (F.fa f))) (hk : PySem.W.keepIn X.K (.ref (F.fa f)) = true) (hdb : (x == ("__debug__" : Str)) = false) : SE F X W (.Call (.Name x p) [] [] pos) (ev F.P C (.call f .nil)) := by
  refine ⟨fun pins s σ' H Q I ⟨φ, h0, σ, S, E, kt⟩ => ?_⟩
  refine wpAny_Call_Name_kw (ld_glob I hg hm ?_ hdb)
  simp only [ev, evs, R.bnd_ok] at kt
  exact PySem.W.callWith_K0 I.kIn hk (wpAny_call (run_fnR (us := []) (c.cal f) (c.room.mono (by omega)) c.pass I .nil ⟨φ, h0, [], S, .nil, kt⟩))

/-! ### a new instance -/
theorem run_mk (c : XC F X W C k) {n f : Nat} (hc : F.P.isc n = true) (hi : F.P.init n = some f) {pins : List (Addr × Obj)} {s : Shared} {σ' : L2.St} {H : Hp} {φ : List Addr} {h : Hh} {ds : List D} {us : List Value} {vs : List V} {Q : VK}
    (I : Inv X pins σ' H s) (S : Sim F X.K φ h H) (r : Vals vs us) (q : RDs X.K φ H ds vs) (kt : Kt F X.K W φ H (mkCall F.P C n ds h) (RD X.K) Q) : wpAny (model X.prog X.w) X.A (PySem.call (.ref (F.ca n)) us) (EP X pins σ' Q) X.xe s := by
  refine StX.run_makeR (c.gd.init n f hc hi) (c.cal f) (c.room.mono (by omega)) c.pass I r fun x dx nx ndx ne => ?_
  unfold mkCall at kt
  rw [hi] at kt
  simp only [hc, Bool.true_eq_false, if_false] at kt
  have nx' : upd H dx (.own x) x = none := by rw [upd_ne (Ne.symm ne)]; exact nx
  have S1 : Sim F X.K φ h (upd H dx (.own x)) := S.more ndx
  have S2 : Sim F X.K (φ ++ [x]) (h ++ [.ins n []]) (upd (upd H dx (.own x)) x (.ins (F.ca n) dx [])) := S1.lay nx' ⟨dx, [], upd_same, .nil⟩
  have X2 : Ext φ H (φ ++ [x]) (upd (upd H dx (.own x)) x (.ins (F.ca n) dx [])) := (Ext.more ndx).trans (Ext.add nx')
  have e0 : (φ ++ [x])[h.length]? = some x := by simp [← S.len]
  refine ⟨φ ++ [x], _, .ref h.length :: ds, S2, .cons (.ref e0) (q.mono (S.up X2)), (Kt.mono X2 kt).bnd fun d h1 φ1 H1 v _ x1 S3 r1 k1 => ?_⟩
  split at k1
  · cases r1
    exact ⟨rfl, k1.ok S3 (.ref (x1.at_ e0))⟩
  · exact k1.elim
theorem mk_init {n : Nat} {ds : List D} {h : Hh} {φ : List Addr} {H : Hp} {K : PySem.W.Frag} {Rel : List Addr → Hp → D → V → Prop} {Q : VK} (kt : Kt F K W φ H (mkCall F.P C n ds h) Rel Q) : F.P.isc n = true ∧ ∃ f, F.P.init n = some f := by
  unfold mkCall at kt
  split at kt
  · exact kt.elim
  · rename_i f hf
    split at kt
    · exact kt.elim
    · rename_i hc
      exact ⟨by simpa using hc, f, hf⟩
theorem se_mk (c : XC F X W C k) {n : Nat} {x : Str} {xs : Es} (hg : Gl X x) (hm : X.mg x = some (.ref (F.ca n))) (hk : PySem.W.keepIn X.K (.ref (F.ca n)) = true) (ha : PA X (e :: es) (mA F X.K W (evs F.P C xs)))
    (hdb : (x == ("__debug__" : Str)) = false) (he : starEach (e :: es) X.env = (false, eval e X.env) :: starEach es X.env) (hpl : (backTo pos (starEach es X.env)).any (·.1) = false) : SE F X W (.Call (.Name x p) (e :: es) [] pos) (ev F.P C (.mk n xs)) := by
  refine ⟨fun pins s σ' H Q I ⟨φ, h0, σ, S, E, kt⟩ => ?_⟩
  refine wpAny_Call_Name_kw (ld_glob I hg hm ?_ hdb)
  simp only [ev] at kt
  have Rd : mA F X.K W (evs F.P C xs) σ' H (fun vs H1 => ∃ φ1 h1 ds, Sim F X.K φ1 h1 H1 ∧ RDs X.K φ1 H1 ds vs ∧ Kt F X.K W φ1 H1 (mkCall F.P C n ds h1) (RD X.K) Q) := ⟨φ, h0, σ, S, E, kt.bnd fun ds h1 φ1 H1 vs _ x1 S1 r1 k1 => ⟨φ1, h1, ds, S1, r1, k1⟩⟩
  refine PySem.W.callWith_K (h₀ := X.base) I.ok.mod.kin hk (thn (ha.run pos pins s σ' H _ I Rd) fun us s1 ⟨vs, H1, I1, r, φ1, h1, ds, S1, q, k1⟩ => ⟨I1.kIn, ?_⟩) he hpl
  obtain ⟨hc, f, hf⟩ := mk_init k1
  exact run_mk c hc hf I1 S1 r q k1

/-! ### fields, properties -/
theorem RFs.look {K : PySem.W.Frag} {φ : List Addr} {H : Hp} (gd : Gd F K) {fs : List (Nat × D)} {fv : List (Str × V)} (r : RFs F K φ H fs fv) (f : Nat) (hf : f < F.natt) :
    (fs.lookup f = none ∧ fv.lookup (F.att f) = none) ∨ ∃ d v, fs.lookup f = some d ∧ fv.lookup (F.att f) = some v ∧ RD K φ H d v := by
  induction r with
  | nil => exact .inl ⟨rfl, rfl⟩
  | @cons j x xs v vs hj r _ ih =>
    rw [List.lookup_cons, List.lookup_cons]
    by_cases e : f = j
    · subst e
      simp only [beq_self_eq_true]
      exact .inr ⟨x, v, rfl, rfl, r⟩
    · have e1 : (f == j) = false := beq_eq_false_iff_ne.mpr e
      have e2 : (F.att f == F.att j) = false := beq_eq_false_iff_ne.mpr fun z => e (gd.inj f j hf hj z)
      rw [e1, e2]
      exact ih
theorem RFs.put {K : PySem.W.Frag} {φ : List Addr} {H : Hp} (gd : Gd F K) {fs : List (Nat × D)} {fv : List (Str × V)} (r : RFs F K φ H fs fv) {f : Nat} (hf : f < F.natt) {d : D} {v : V} (q : RD K φ H d v) : RFs F K φ H (fput f d fs) (putF (F.att f) v fv) := by
  induction r with
  | nil => exact .cons hf q .nil
  | @cons j x xs w vs hj r t ih =>
    show RFs F K φ H (if f = j then (j, d) :: xs else (j, x) :: fput f d xs) (if F.att j = F.att f then (F.att j, v) :: vs else (F.att j, w) :: putF (F.att f) v vs)
    by_cases e : f = j
    · subst e
      rw [if_pos rfl, if_pos rfl]
      exact .cons hj q t
    · rw [if_neg e, if_neg fun z => e (gd.inj f j hf hj z.symm)]
      exact .cons hj r ih
theorem RFs.length {K : PySem.W.Frag} {φ : List Addr} {H : Hp} {fs : List (Nat × D)} {fv : List (Str × V)} (r : RFs F K φ H fs fv) : fs.length = fv.length := by
  induction r with
  | nil => rfl
  | cons _ _ _ ih => exact congrArg Nat.succ ih
/-- e.f, a property whose getter keeps a positional promise -/
theorem getpropR {CX : CXT} {k : Nat} {Cl pp g q dx : Addr} {fs : List (Str × V)} {f : Str} {sp : Sp} {E : XK} {pins : List (Addr × Obj)} {σ : L2.St} {H : Hp} {s : Shared} {Q : VK} {b : Bool} {E' : Value → Shared → Prop} (I : Inv X pins σ H s) (ea : H q = some (.ins Cl dx fs)) (c : Cls X.K Cl) (hp : PropOf X.K Cl f pp g)
    (Fn : FnR X.prog X.w X.K X.mg X.base CX k g sp) (hr : Room (k + 1) X.A) (hx : Passes CX X.nox E) (h : sp [.ref q] H Q E) : wpAny (model X.prog X.w) X.A (getAttr (.ref q) f b) (EP X pins σ Q) E' s := by
  obtain ⟨mA, O, _, _, _, _⟩ := ins_get I.hok ea
  obtain ⟨od, J, _⟩ := O.look
  obtain ⟨rest, hrec⟩ := hp.rec_
  have I1 := I.tok (s.toks + 1)
  have hc : (PySem.W.clsIn X.K Cl).isSome = true := by
    obtain ⟨cd, hc, _⟩ := PySem.W.any_some c.hd
    rw [hc]
    rfl
  refine PySem.W.get_bind I.kIn J (PySem.W.plainGet_of (c.get f)).1 (PySem.W.findObj_data hc hp.at_ hp.get hp.tak) (PySem.W.plainGet_of (c.get f)).2 (wpAny_call (PySem.W.prop_get (s := { s with toks := s.toks + 1 }) I.kIn hrec ?_))
  refine codeAny_mono (Fn X.A.in1 X.stack { s with toks := s.toks + 1 } H [.ref q] [.ref q] Q E hr.in1 I1.env0.in1 (.cons rfl .nil) h) fun r s' hq => ?_
  cases r with
  | error er => exact False.elim (hx pins σ H { s with toks := s.toks + 1 } er s' (I1.wish _) hq)
  | ok fl =>
    cases fl with
    | ret u =>
      obtain ⟨v, H', I3, rv, q3⟩ := I1.after hq
      show wpAny _ _ (handedOut u) _ _ _
      rw [PySem.W.handedOut_of (handed_of rv)]
      exact wpAny_pure ⟨v, H', I3, rv, q3⟩
    | next => exact False.elim hq
    | brk => exact False.elim hq
    | cont => exact False.elim hq
theorem passN : Passes (L2.CX X.prog X.w) X.nox WE0 := fun _ _ _ _ _ _ _ h => by
  obtain ⟨_, _, _, _, _, _, _, _, _, _, _, _, z⟩ := h
  exact z.elim
theorem se_fld (c : XC F X W C k) {x : E} {f : Nat} {n : Str} (hn : n = F.att f) (ha : SE F X W a (ev F.P C x)) (hb : attributeBase a n X.env (eval a X.env) = eval a X.env) : SE F X W (.Attribute a n p) (ev F.P C (.fld x f)) := by
  subst hn
  refine ⟨fun pins s σ' H Q I ⟨φ, h0, σ, S, E, kt⟩ => ?_⟩
  simp only [ev] at kt
  refine attr_of hb (run1 ha I S E kt fun d h1 φ1 H1 v u s1 I1 rv S1 E1 x1 r1 k1 => ?_)
  unfold fldGet at k1
  split at k1
  · rename_i ad
    split at k1
    · rename_i cl fs hx
      split at k1
      · rename_i hc
        cases r1 with
        | ref ea =>
          cases rv
          obtain ⟨dx, fv, h2, h3⟩ := S1.at_ ea hx
          split at k1
          · rename_i g hp
            obtain ⟨pp, hpp⟩ := c.gd.prop cl f g hc hp
            exact getpropR I1 h2 (c.gd.cls cl hc) hpp (c.cal g) (c.room.mono (by omega)) passN ⟨φ1, h1, [.ref ad], S1, .cons (.ref ea) .nil, k1.nox⟩
          · rename_i hf
            obtain ⟨z, e1, k2⟩ := opt_is_some k1
            obtain ⟨hl, hno⟩ := c.gd.fld cl f hc hf
            rcases h3.look c.gd f hl with ⟨e2, _⟩ | ⟨d', v', e2, e3, r2⟩
            · rw [e1] at e2; cases e2
            · rw [e1] at e2; cases e2
              exact getattr_ok I1 h2 (c.gd.cls cl hc) hno e3 fun u' s' I' ru => ⟨v', H1, I', ru, k2.ok S1 r2⟩
          · exact k1.elim
      · exact k1.elim
    · exact k1.elim
  · exact k1.elim

/-! ### methods -/
def plainOf (o : Expr) (env : PySem.Env) : Sem Bool := do return (← importBound o env).getD true
theorem ht_of {o : Expr} {m : Str} {apos pos : Pos} {env : PySem.Env} {args : List Expr} (hb : attributeBase o m env (eval o env) = eval o env) (hf : methodCallForm args.length (backTo pos (starEach args env)) [] = true) (hl : (apos.endLine == pos.line) = true) :
    eval (.Call (.Attribute o m apos) args [] pos) env = (do
      let ov ← eval o env
      standAt apos.atName
      let (f, first) ← holding [ov] (getMethod ov m (plainOf o env))
      callWith pos f first (backTo pos (starEach args env)) (backToKw pos (keywordEach [] env))) := by
  rw [arm_eval_Call, hb]
  have hk : backToKw pos (keywordEach [] env) = [] := rfl
  rw [hk]
  have hf' : methodCallForm (args.length + ([] : List Keyword).length) (backTo pos (starEach args env)) [] = true := hf
  congr 1
  funext ov
  congr 1
  funext _
  unfold methodCall
  have e1 : calleeOf (methodCallForm (args.length + ([] : List Keyword).length) (backTo pos (starEach args env)) []) o env ov m = getMethod ov m (plainOf o env) := by
    rw [hf'] <;> rfl
  have e2 : methodCallPos (methodCallForm (args.length + ([] : List Keyword).length) (backTo pos (starEach args env)) []) o env apos pos = pure pos := by
    unfold methodCallPos
    exact if_pos (by rw [hl, Bool.or_true])
  rw [e1, e2]
  first
    | rfl
    | simp only [pure_bind]
theorem methOf_some {x : D} {m g : Nat} {h : Hh} (e : methOf F.P x m h = some g) : ∃ a c fs, x = .ref a ∧ h[a]? = some (.ins c fs) ∧ F.P.isc c = true ∧ fs.lookup m = none ∧ F.P.meth c m = some g := by
  unfold methOf at e
  split at e
  · rename_i a
    split at e
    · rename_i c fs hx
      split at e
      · rename_i hc
        split at e
        · rename_i hl
          exact ⟨a, c, fs, rfl, hx, hc, hl, e⟩
        · cases e
      · cases e
    · cases e
  · cases e
theorem se_mth (c : XC F X W C k) {x : E} {m : Nat} {n : Str} {xs : Es} (hn : n = F.att m) (ho : SE F X W o (ev F.P C x)) (ha : PA X (e :: es) (mA F X.K W (evs F.P C xs))) (he : starEach (e :: es) X.env = (false, eval e X.env) :: starEach es X.env) (hpl : (backTo pos (starEach es X.env)).any (·.1) = false)
    (hb : attributeBase o n X.env (eval o X.env) = eval o X.env) (hf : methodCallForm (e :: es).length (backTo pos (starEach (e :: es) X.env)) [] = true) (hl : (apos.endLine == pos.line) = true) : SE F X W (.Call (.Attribute o n apos) (e :: es) [] pos) (ev F.P C (.mth x m xs)) := by
  subst hn
  refine ⟨fun pins s σ' H Q I ⟨φ, h0, σ, S, E, kt⟩ => ?_⟩
  simp only [ev] at kt
  refine PySem.W.methodCall_KW (pl := plainOf o X.env) (run1 ho I S E kt fun d h1 φ1 H1 v u s1 I1 rv S1 E1 x1 r1 k1 => ?_) (ht_of hb hf hl)
  split at k1
  · rename_i g hg
    obtain ⟨ad, cl, fs, rfl, hx, hc, hlk, hm⟩ := methOf_some hg
    cases r1 with
    | ref ea =>
      cases rv
      obtain ⟨dx, fv, h2, h3⟩ := S1.at_ ea hx
      obtain ⟨hml, hme⟩ := c.gd.meth cl m g hc hm
      have l0 : fv.lookup (F.att m) = none := by
        rcases h3.look c.gd m hml with ⟨_, e2⟩ | ⟨d', v', e2, _, _⟩
        · exact e2
        · rw [hlk] at e2; cases e2
      refine getmeth_ok I1 h2 (c.gd.cls cl hc) hme l0 ?_
      have Rd : mA F X.K W (evs F.P C xs) σ' H1 (fun vs H2 => spF F X.K (C g) (.ref _ :: vs) H2 Q W) := ⟨φ1, h1, σ, S1, E1, k1.bnd fun ds h2 φ2 H2 vs _ x2 S2 r2 k2 => ⟨φ2, h2, .ref ad :: ds, S2, .cons (.ref (x2.at_ ea)) r2, k2⟩⟩
      refine PySem.W.callWith_K (first := [.ref _]) (h₀ := X.base) I.ok.mod.kin hme.kp (thn (ha.run pos pins s1 σ' H1 _ I1 Rd) fun us s2 ⟨vs, H2, I2, r, q2⟩ => ⟨I2.kIn, ?_⟩) he hpl
      exact wpAny_call (run_fnR (us := .ref _ :: us) (vs := .ref _ :: vs) (c.cal g) (c.room.mono (by omega)) c.pass I2 (.cons rfl r) q2)
  · exact k1.elim
theorem se_mth0 (c : XC F X W C k) {x : E} {m : Nat} {n : Str} (hn : n = F.att m) (ho : SE F X W o (ev F.P C x)) (hb : attributeBase o n X.env (eval o X.env) = eval o X.env) (hl : (apos.endLine == pos.line) = true) : SE F X W (.Call (.Attribute o n apos) [] [] pos) (ev F.P C (.mth x m .nil)) := by
  subst hn
  refine ⟨fun pins s σ' H Q I ⟨φ, h0, σ, S, E, kt⟩ => ?_⟩
  simp only [ev] at kt
  refine PySem.W.methodCall_KW (pl := plainOf o X.env) (run1 ho I S E kt fun d h1 φ1 H1 v u s1 I1 rv S1 E1 x1 r1 k1 => ?_) (ht_of hb rfl hl)
  split at k1
  · rename_i g hg
    obtain ⟨ad, cl, fs, rfl, hx, hc, hlk, hm⟩ := methOf_some hg
    cases r1 with
    | ref ea =>
      cases rv
      obtain ⟨dx, fv, h2, h3⟩ := S1.at_ ea hx
      obtain ⟨hml, hme⟩ := c.gd.meth cl m g hc hm
      have l0 : fv.lookup (F.att m) = none := by
        rcases h3.look c.gd m hml with ⟨_, e2⟩ | ⟨d', v', e2, _, _⟩
        · exact e2
        · rw [hlk] at e2; cases e2
      refine getmeth_ok I1 h2 (c.gd.cls cl hc) hme l0 ?_
      simp only [evs, R.bnd_ok] at k1
      exact PySem.W.callWith_K0 (first := [.ref _]) I1.kIn hme.kp (wpAny_call (run_fnR (us := [.ref _]) (vs := [.ref _]) (c.cal g) (c.room.mono (by omega)) c.pass I1 (.cons rfl .nil) ⟨φ1, h1, [.ref ad], S1, .cons (.ref ea) .nil, k1⟩))
  · exact k1.elim

/-! ### isinstance -/
def tyName : Ty → Option String
  | .tuple => some "tuple"
  | .int => some "int"
  | .bool => some "bool"
  | .str => some "str"
  | .list => some "list"
  | .dict => some "dict"
  | .cls _ => none
def kdName : Kd → String
  | .non => "NoneType"
  | .bl => "bool"
  | .int => "int"
  | .str => "str"
  | .tup => "tuple"
  | .lst => "list"
  | .dct => "dict"
  | .ins _ => "object"
def kdVal (F : Fx) : Kd → Value
  | .ins c => .ref (F.ca c)
  | k => .type (kdName k)
theorem kd_ty (gd : Gd F X.K) {φ : List Addr} {h : Hh} {H : Hp} (S : Sim F X.K φ h H) {x : D} {u : V} (r : RD X.K φ H x u) {k : Kd} (e : kdOf h x = some k) (hi : ∀ c, k = .ins c → F.P.isc c = true) : TyX X.K H u (kdVal F k) := by
  cases r with
  | non => cases e; exact .base .non
  | bl b => cases e; exact .base (.bl b)
  | int i => cases e; exact .base (.int i)
  | str z => cases e; exact .base (.str z)
  | tup t _ =>
    cases e
    rcases t with (t | ⟨o, t⟩) | ⟨o, its, n, h1, h2, _⟩
    · exact .base (.tup t)
    · exact .fTuple t
    · exact .kTuple h1 h2
  | scr t =>
    cases e
    rcases t with ⟨o, t⟩ | ⟨o, its, n, h1, h2, _⟩
    · exact .base (.frz t)
    · exact .kList h1 h2
  | ref ea =>
    simp only [kdOf] at e
    split at e
    · rename_i hx
      cases e
      obtain ⟨vs, h1, _⟩ := S.lst ea hx
      exact .base (.lst h1)
    · rename_i hx
      cases e
      obtain ⟨vs, h1, _⟩ := S.at_ ea hx
      exact .base (.dK h1)
    · rename_i hx
      cases e
      obtain ⟨dx, fv, h1, _⟩ := S.at_ ea hx
      have hc := hi _ rfl
      obtain ⟨t1, t2⟩ := gd.tyc _ hc
      exact .base (.ins h1 (gd.cls _ hc) t1 gd.tyg.1 gd.tyg.2 t2)
    · cases e
theorem kit_bb : ∀ a ∈ btys, ∀ b ∈ btys, kitB a b = some ((a == b) || (a == "bool" && b == "int")) := by decide +kernel
theorem kdName_mem {k : Kd} (h : ∀ c, k ≠ .ins c) : kdName k ∈ btys := by
  cases k <;> first | decide | exact absurd rfl (h _)
theorem tyName_mem {t : Ty} {n : String} (h : tyName t = some n) : n ∈ btys := by
  cases t <;> first | (cases h; decide) | cases h
theorem kdIs_name {k : Kd} {t : Ty} {n : String} (hk : ∀ c, k ≠ .ins c) (h : tyName t = some n) : ((kdName k == n) || (kdName k == "bool" && n == "int")) = kdIs k t := by
  cases t <;> first | cases h | skip
  all_goals (cases k <;> first | rfl | exact absurd rfl (hk _))
/-- isinstance(x, T), T a built-in type -/
theorem ty_blt (gd : Gd F X.K) {h : Hh} {x : D} {t : Ty} {n : String} (hn : tyName t = some n) {b : Bool} (e : isTy F.P h x t = some b) : ∃ k, kdOf h x = some k ∧ (∀ c, k = .ins c → F.P.isc c = true) ∧ PySem.W.kitOne X.K (kdVal F k) (.type n) = some b := by
  unfold isTy at e
  split at e
  · cases e
  · rename_i c hk
    split at e
    · rename_i hc
      refine ⟨_, hk, fun d z => by cases z; exact hc, ?_⟩
      have hb := (gd.kb c n hc (tyName_mem hn)).2
      cases t <;> first | (cases e; exact hb) | cases hn
    · cases e
  · rename_i kk hne hk
    have ni : ∀ c, kk ≠ .ins c := fun c z => hne c z
    refine ⟨kk, hk, fun d z => absurd z (ni d), ?_⟩
    have e1 : b = kdIs kk t := by
      cases t <;> first | (cases e; rfl) | cases hn
    have e2 : kdVal F kk = .type (kdName kk) := by
      cases kk <;> first | rfl | exact absurd rfl (ni _)
    rw [e1, e2, ← kdIs_name ni hn]
    exact kit_ty (kit_bb _ (kdName_mem ni) _ (tyName_mem hn))
theorem ty_cls (gd : Gd F X.K) {h : Hh} {x : D} {d : Nat} {b : Bool} (e : isTy F.P h x (.cls d) = some b) : ∃ k, kdOf h x = some k ∧ (∀ c, k = .ins c → F.P.isc c = true) ∧ PySem.W.kitOne X.K (kdVal F k) (.ref (F.ca d)) = some b := by
  unfold isTy at e
  split at e
  · cases e
  · rename_i c hk
    split at e
    · rename_i hc
      refine ⟨_, hk, fun d z => by cases z; exact hc, ?_⟩
      dsimp only at e
      split at e
      · rename_i hd
        cases e
        exact gd.kc c d hc hd
      · cases e
    · cases e
  · rename_i kk hne hk
    have ni : ∀ c, kk ≠ .ins c := fun c z => hne c z
    refine ⟨kk, hk, fun d z => absurd z (ni d), ?_⟩
    have e2 : kdVal F kk = .type (kdName kk) := by
      cases kk <;> first | rfl | exact absurd rfl (ni _)
    dsimp only at e
    split at e
    · rename_i hd
      cases e
      rw [e2]
      exact (gd.kb d _ hd (kdName_mem ni)).1
    · cases e
theorem se_isi (c : XC F X W C k) {x : E} {n : Str} {p2 p3 : Pos} {t : Ty} (ha : SE F X W a (ev F.P C x)) (hgi : Gl X "isinstance") (hmi : X.mg "isinstance" = none) (hs : starEach [a, .Name n p2] X.env = (false, eval a X.env) :: starEach [.Name n p2] X.env)
    (ht : (∃ T : String, tyName t = some T ∧ Gl X n ∧ X.mg n = none ∧ bootBuiltins n = some (.type T) ∧ n ≠ "__name__" ∧ (n == ("__debug__" : Str)) = false) ∨ (∃ d, t = .cls d ∧ Gl X n ∧ X.mg n = some (.ref (F.ca d)) ∧ (n == ("__debug__" : Str)) = false)) :
    SE F X W (.Call (.Name "isinstance" p3) [a, .Name n p2] [] pos) (ev F.P C (.isi x t)) := by
  refine ⟨fun pins s σ' H Q I ⟨φ, h0, σ, S, E, kt⟩ => ?_⟩
  simp only [ev] at kt
  have main : ∀ (cv : V) (cu : Value), PE X (.Name n p2) (tC cv) → ClsV cv cu → (∀ h1 d b, isTy F.P h1 d t = some b → ∃ kk, kdOf h1 d = some kk ∧ (∀ c, kk = .ins c → F.P.isc c = true) ∧ PySem.W.kitOne X.K (kdVal F kk) cu = some b) →
      wpAny (model X.prog X.w) X.A (eval (.Call (.Name "isinstance" p3) [a, .Name n p2] [] pos) X.env) (EP X pins σ' Q) X.xe s := fun cv cu hp hc hk => by
    refine (pe_callB call_isi hgi hmi (by rfl) (pa_cons ha (pa_cons hp pa_nil) hs) (he := hs)).run pins s σ' H Q I ?_
    refine ⟨φ, h0, σ, S, E, kt.bnd fun d h1 φ1 H1 v _ x1 S1 r1 k1 => ?_⟩
    obtain ⟨z, e1, k2⟩ := opt_map_some k1
    obtain ⟨kk, e2, e3, e4⟩ := hk h1 d z e1
    exact ⟨v, cv, _, cu, z, rfl, hc, kd_ty c.gd S1 r1 e2 e3, e4, k2.ok S1 (.bl _)⟩
  rcases ht with ⟨T, h1, h2, h3, h4, h5, h6⟩ | ⟨d, rfl, h2, h3, h4⟩
  · exact main (.ty T) (.type T) (pe_bltn h2 h3 h4 rfl h5 h6) (.ty T) fun h1' d b e => ty_blt c.gd h1 e
  · exact main (.ref (F.ca d)) (.ref (F.ca d)) (pe_glob h2 h3 rfl h4) (.own _) fun h1' d b e => ty_cls c.gd e
end
end PI

set_option maxRecDepth 100000
set_option maxHeartbeats 2000000
/-! PIg: enumerate and zip over lists and tuples alike. -/
namespace PI
open PySem PySem.Spec PyProof.Rows L2
/-- a list (t = false) or a tuple -/
def SqB (K : PySem.W.Frag) (H : Hp) (t : Bool) (a : Addr) (xs : List V) : Prop := match t with
  | false => SqL K H a xs
  | true => SqT K H a xs
def IsB (h : Heap) (t : Bool) (a : Addr) (vs : Array Value) : Prop := match t with
  | false => h.IsList a vs
  | true => h.IsTuple a vs
def IterB (h : Heap) (t : Bool) (it a : Addr) (i : Nat) : Prop := match t with
  | false => h.IsListIter it a i
  | true => h.IsTupleIter it a i
def itObj (t : Bool) (a : Addr) : Obj := match t with
  | false => { cls := .type "list_iterator", data := .fields #[.ref a, .int 0 0] }
  | true => { cls := .type "tuple_iterator", data := .fields #[.ref a, .int 0 0] }
section
variable {X : Cx} {pins : List (Addr × Obj)} {σ : L2.St} {H : Hp} {s : Shared}
theorem sqB_at (I : Inv X pins σ H s) {t : Bool} {a : Addr} {xs : List V} (h : SqB X.K H t a xs) : ∃ its : List Value, Vals xs its ∧ IsB s.heap t a its.toArray := by
  cases t with
  | false => obtain ⟨its, r, p, _⟩ := I.list h; exact ⟨its, r, p.isList⟩
  | true => obtain ⟨its, r, p, _⟩ := I.tuple h; exact ⟨its, r, p⟩
theorem sqB_inj (I : Inv X pins σ H s) {t : Bool} {a : Addr} {xs ys : List V} (h : SqB X.K H t a xs) (h' : SqB X.K H t a ys) : xs = ys := by
  cases t with
  | false => exact I.list_inj h h'
  | true => exact I.tuple_inj h h'
theorem isB_lt {h : Heap} {t : Bool} {a : Addr} {vs : Array Value} (x : IsB h t a vs) : a < h.objs.size := by
  cases t with
  | false => obtain ⟨o, e, _⟩ := (show h.IsList a vs from x); exact Heap.lt_size e
  | true => obtain ⟨o, e, _⟩ := (show h.IsTuple a vs from x); exact Heap.lt_size e
theorem iterB_at {h h' : Heap} {t : Bool} {it a : Addr} {i : Nat} (x : IterB h t it a i) (k : ∀ o, h.get? it = some o → h'.get? it = some o) : IterB h' t it a i := by
  cases t with
  | false => exact Heap.IsListIter.at (show h.IsListIter it a i from x) k
  | true => exact Heap.IsTupleIter.at (show h.IsTupleIter it a i from x) k
theorem isB_keep {h h' : Heap} {t : Bool} {a : Addr} {vs : Array Value} (x : IsB h t a vs) (k : ∀ o, h.get? a = some o → h'.get? a = some o) : IsB h' t a vs := by
  cases t with
  | false => obtain ⟨o, e, r⟩ := (show h.IsList a vs from x); exact ⟨o, k o e, r⟩
  | true => obtain ⟨o, e, r⟩ := (show h.IsTuple a vs from x); exact ⟨o, k o e, r⟩
theorem iterB_obj {h : Heap} {t : Bool} {it a : Addr} {i : Nat} (x : IterB h t it a i) : ∃ o, h.get? it = some o ∧ ∀ v, o.data ≠ .cell v := by
  cases t with
  | false => obtain ⟨o, e, _, d⟩ := (show h.IsListIter it a i from x); exact ⟨o, e, fun v z => by rw [d] at z; cases z⟩
  | true => obtain ⟨o, e, _, d⟩ := (show h.IsTupleIter it a i from x); exact ⟨o, e, fun v z => by rw [d] at z; cases z⟩
theorem drawsB {prog : Program} {w : World} {A : Around} (hh : A.handled = none) (t : Bool) (it a : Addr) (hne : a ≠ it) (items : Array Value) :
    Draws prog w A it [it, a] items.size (fun i v => items[i]? = some v) (fun i h => IterB h t it a i ∧ IsB h t a items) := by
  cases t with
  | false => exact Draws.list hh it a hne items
  | true => exact Draws.tuple hh it a hne items
theorem beginsB (t : Bool) (a : Addr) (items : Array Value) : Begins (.ref a) (itObj t a) (fun h => IsB h t a items) := by
  cases t with
  | false => exact begins_list a items
  | true => exact begins_tuple a items
theorem iterB_new {h : Heap} {t : Bool} {it a : Addr} (e : h.get? it = some (itObj t a)) : IterB h t it a 0 := by
  cases t with
  | false => exact ⟨_, e, rfl, rfl⟩
  | true => exact ⟨_, e, rfl, rfl⟩

/-! ### enumerate -/
set_option maxHeartbeats 1000000 in
theorem meets_enum0 {v : Value} {o : Obj} {Hc : Heap → Prop} (B : Begins v o Hc) :
    Meets (Builtin.«enumerate.__new__» ⟨[.type "enumerate", v], []⟩) (fun _ R s => Hc s.heap ∧
      R (.ok (.ret (.ref (s.heap.push o).objs.size))) { s with heap := (s.heap.push o).push { cls := .type "enumerate", data := .fields #[.none, .bool false, .ref s.heap.objs.size, rawInt 0, .none, .none] } }) :=
  .of_wp fun prog w A R s h => by
    obtain ⟨hp, g, d, tk, os⟩ := s; obtain ⟨h1, h⟩ := h
    have hsub := sub_enumerate
    have q1 : ∀ {A' : Around} {E : Value → Shared → Prop} {Q : Value → Shared → Prop}, Q (.ref hp.objs.size) ⟨hp.push o, g, d, tk, os⟩ → wpAny (model prog w) A' (pyIter v) Q E ⟨hp, g, d, tk, os⟩ :=
      fun q => B.iter prog w _ _ ⟨hp, g, d, tk, os⟩ _ h1 q
    wp_walk using q1
    refine wpAny_stack_any fun st => wpAny_pure ?_
    split
    · rename_i c _ _ _ _ _
      cases (c == Value.type "enumerate")
      · wp_walk using q1
        exact ⟨_, rfl, h⟩
      · wp_walk using q1
        exact ⟨_, rfl, h⟩
    · wp_walk using q1
      exact ⟨_, rfl, h⟩
theorem enum_begins0 {prog : Program} {w : World} {A : Around} {E : Value → Shared → Prop} {s : Shared} {v : Value} {o : Obj} {Hc : Heap → Prop} {Q : Value → Shared → Prop} (B : Begins v o Hc) (h1 : Hc s.heap)
    (h : ∀ h', IsEnum h' (s.heap.objs.size + 1) s.heap.objs.size 0 .none → h'.get? s.heap.objs.size = some o → h'.objs.size = s.heap.objs.size + 2 →
      (∀ b o, s.heap.get? b = some o → h'.get? b = some o) → Q (.ref (s.heap.objs.size + 1)) { s with heap := h' }) :
    wpAny (model prog w) A (call (.type "enumerate") [v]) Q E s := by
  refine callType_new F.called_enumerate (by decide) (F.typeCall_enumerate_1 _) (F.newCall_enumerate_1 _) (fun obj => F.args_object_init_2 obj _) F.entry_enumerate_new
    (meets_enum0 B) ⟨h1, ?_⟩
  have hz : (s.heap.push o).objs.size = s.heap.objs.size + 1 := Heap.size_push ..
  show _ ∧ _
  rw [hz]
  have he : IsEnum ((s.heap.push o).push { cls := .type "enumerate", data := .fields #[.none, .bool false, .ref s.heap.objs.size, rawInt 0, .none, .none] }) (s.heap.objs.size + 1) s.heap.objs.size 0 .none := by
    have := Heap.get?_push_size (s.heap.push o) (o := { cls := .type "enumerate", data := .fields #[.none, .bool false, .ref s.heap.objs.size, rawInt 0, .none, .none] }) rfl
    rw [hz] at this; exact this
  refine ⟨⟨_, he, rfl⟩, h _ he (Heap.get?_push_of_some _ (Heap.get?_push_size _ B.free)) (by rw [Heap.size_push, hz]) fun b o x => Heap.get?_push_of_some _ (Heap.get?_push_of_some _ x)⟩
def IteB (K : PySem.W.Frag) (t : Bool) (a : Addr) : L2.It :=
  ⟨fun i H => ∃ (xs : List V) (x : V), SqB K H t a xs ∧ xs[i]? = some x, fun i H v H' => ∃ T x, v = .ref T ∧ H T = none ∧ H' = upd H T (.tup [.int (i : Nat), x]) ∧ ∀ xs, SqB K H t a xs → xs[i]? = some x, fun i H => ∃ xs : List V, SqB K H t a xs ∧ xs.length = i⟩
theorem turn_enumB {P : Program} {w : World} {K : PySem.W.Frag} {elts : List Expr} {kk : Nat} {tpos : Pos} {t : Bool} {a e it : Addr} (h1 : e ≠ it) (h2 : e ≠ a) (h3 : a ≠ it) :
    Turn P w K (.Tuple elts kk tpos) (IteB K t a) [e, it] e (fun i h => (∃ old, IsEnum h e it ((i : Nat) : Int) old) ∧ IterB h t it a i) where
  mem := by simp
  obj := fun i h st b hb => by
    obtain ⟨⟨old, he⟩, hi⟩ := st
    have e' : b = e ∨ b = it := by simpa using hb
    rcases e' with z | z
    · rw [z]; exact ⟨_, he, fun v q => nomatch q⟩
    · rw [z]; exact iterB_obj hi
  keep := fun i h h' st k => let ⟨⟨old, he⟩, hi⟩ := st; ⟨⟨old, k e (by simp) _ he⟩, iterB_at hi fun o q => k it (by simp) o q⟩
  item := by
    intro X hP hw hK hc i pins s σ H E I hf st hg
    subst hP hw hK
    obtain ⟨⟨old, he⟩, hit⟩ := st
    obtain ⟨xs, x, hq, hx⟩ := hg
    obtain ⟨its, rv, p⟩ := sqB_at I hq
    obtain ⟨u, hu, ru⟩ := rv.get hx
    have hel : e < s.heap.objs.size := Heap.lt_size he
    have hil : it < s.heap.objs.size := by obtain ⟨o, q, _⟩ := iterB_obj hit; exact Heap.lt_size q
    have hlt : i < its.toArray.size := by
      have := (List.getElem?_eq_some_iff.mp hu).1
      simpa using this
    have hef : e ∉ [it, a] := by simp [h1, h2]
    refine wpAny_pyNext_enum_itemD (drawsB (A := X.A.in1) (I.ok.hd hc) t it a h3 its.toArray) he ⟨hit, p⟩ hlt h1 hef fun y h' tk hy ho hst hT hsz hk => ?_
    have ey : y = u := by
      have q1 : its[i]? = some y := by simpa using hy
      rw [hu] at q1
      exact (Option.some.inj q1).symm
    subst ey
    refine ⟨_, rfl, wpAny_letOwnedTupleGo_enum (s := { s with heap := h', toks := tk + 1 }) ho fun h'' he' sb => ?_⟩
    have hT2 : h''.get? s.heap.objs.size = some { cls := .type "tuple", data := .seq #[.int i tk, y] } := (sb.2 _ (Nat.ne_of_gt hel)).trans hT
    have new : ObjOk X.prog X.w (upd H s.heap.objs.size (.tup [.int (i : Nat), x])) h'' s.heap.objs.size (.tup [.int (i : Nat), x]) :=
      ⟨by show 2 ≤ sizeLine; decide, [.int i tk, y], .cons ⟨_, rfl⟩ (.cons ru .nil), ⟨_, hT2, rfl, _, rfl⟩⟩
    have I1 : Inv X pins σ (upd H s.heap.objs.size (.tup [.int (i : Nat), x])) { s with heap := h'', toks := tk + 1 } :=
      I.turnedNew (ch := [e, it]) (fun b ob hb q => (sb.2 b (fun z => hb (by simp [z]))).trans (hk b ob (fun z => hb (by simp [z])) (fun z => hb (by simp [z])) q)) hf (Nat.le_refl _) new
    refine ⟨.ref s.heap.objs.size, _, I1, rfl, ⟨_, x, rfl, I.hok.fresh (Nat.le_refl _), rfl, fun ys hy => by rw [sqB_inj I hy hq]; exact hx⟩, ⟨⟨y, ?_⟩, iterB_at hst.1 fun o q => (sb.2 it (Ne.symm h1)).trans q⟩, fun b hb => ?_⟩
    · have e1 : ((i + 1 : Nat) : Int) = (i : Int) + 1 := by omega
      rw [e1]; exact he'
    · have hb' : b < s.heap.objs.size := by
        have e' : b = e ∨ b = it := by simpa using hb
        rcases e' with z | z
        · rw [z]; exact hel
        · rw [z]; exact hil
      rw [upd_ne (Nat.ne_of_lt hb')]
      exact (hf b hb).1
  done := by
    intro X hP hw hK hc i pins s σ H E I hf st hg
    subst hP hw hK
    obtain ⟨⟨old, he⟩, hit⟩ := st
    obtain ⟨xs, hq, hx⟩ := hg
    obtain ⟨its, rv, p⟩ := sqB_at I hq
    obtain ⟨f0, f1, f2, f3, f4, f5⟩ := hf it (by simp)
    have hl := rv.length
    have en : i = its.toArray.size := by rw [List.size_toArray, ← hl]; exact hx.symm
    subst en
    exact wpAny_pyNext_enum_endD (drawsB (A := X.A.in1) (I.ok.hd hc) t it a h3 its.toArray) he ⟨hit, p⟩ fun h' eb => ⟨rfl, I.turned (t' := s.toks) (fun b o hb q => eb b o hb q) f0 f1 f3 f4 f5⟩
  self := fun A i s Q E st h => let ⟨⟨_, he⟩, _⟩ := st; wpAny_pyIter_enum he h
def iEnumB (K : PySem.W.Frag) (ta : TA) : TI := fun σ H R => ta σ H fun vs H1 => ∃ t a xs, vs = [.ref a] ∧ SqB K H1 t a xs ∧ R (IteB K t a) H1
theorem pi_enumB {X : Cx} {e : Expr} {ta : TA} {p pos tpos : Pos} {elts : List Expr} {kk : Nat} (hg : Gl X "enumerate") (hm : X.mg "enumerate" = none) (ha : PA X [e] ta) (hs : starEach [e] X.env = [(false, eval e X.env)]) :
    PI X (.Tuple elts kk tpos) (.Call (.Name "enumerate" p) [e] [] pos) (iEnumB X.K ta) := by
  refine ⟨fun pins s σ H R I h => ?_⟩
  refine Call_ (ld_blt I hg hm boot_enumerate (PyProof.Rows.callWith_type1 (thn (ha.run pos pins s σ H _ I h) fun us s1 ⟨vs, H1, I1, r1, q1⟩ => ?_) hs rfl))
  obtain ⟨t, a, xs, ex, hq, q⟩ := q1
  subst ex
  cases r1 with
  | cons r rr =>
    cases rr
    cases r
    obtain ⟨its, rv, p'⟩ := sqB_at I1 hq
    have la := isB_lt p'
    refine enum_begins0 (beginsB t a its.toArray) p' fun h' he hit hsz hk => wpAny_pyIter_enum he ?_
    have I2 : Inv X pins σ H1 { s1 with heap := h' } := I1.kept (t' := s1.toks) hk
    refine ⟨s1.heap.objs.size + 1, [s1.heap.objs.size + 1, s1.heap.objs.size], _, _, H1, rfl, I2, turn_enumB (t := t) (a := a) (e := s1.heap.objs.size + 1) (it := s1.heap.objs.size) (Nat.succ_ne_self _) (Nat.ne_of_gt (Nat.lt_succ_of_lt la)) (Nat.ne_of_lt la), ⟨⟨.none, he⟩, iterB_new hit⟩, fun b hb => ?_, q⟩
    have e' : b = s1.heap.objs.size + 1 ∨ b = s1.heap.objs.size := by simpa using hb
    have hle : s1.heap.objs.size ≤ b := by
      rcases e' with z | z
      · rw [z]; exact Nat.le_add_right _ _
      · rw [z]; exact Nat.le_refl _
    exact I1.fpOk hle (I1.hok.fresh hle)

/-! ### zip -/
def ItzB (K : PySem.W.Frag) (t t' : Bool) (a b : Addr) : L2.It :=
  ⟨fun i H => ∃ (xs ys : List V) (x y : V), SqB K H t a xs ∧ SqB K H t' b ys ∧ xs[i]? = some x ∧ ys[i]? = some y,
    fun i H v H' => ∃ T x y, v = .ref T ∧ H T = none ∧ H' = upd H T (.tup [x, y]) ∧ (∀ xs, SqB K H t a xs → xs[i]? = some x) ∧ ∀ ys, SqB K H t' b ys → ys[i]? = some y,
    fun i H => ∃ xs ys : List V, SqB K H t a xs ∧ SqB K H t' b ys ∧ i ≤ xs.length ∧ i ≤ ys.length ∧ (i = xs.length ∨ i = ys.length)⟩
theorem turn_zipB {P : Program} {w : World} {K : PySem.W.Frag} {elts : List Expr} {kk : Nat} {tpos : Pos} {t t' : Bool} {a b z TI TO i1 i2 : Addr} (D : ZipSep2 z TI TO i1 i2 [i1, a] [i2, b]) (ha : a ≠ i1) (hb : b ≠ i2) :
    Turn P w K (.Tuple elts kk tpos) (ItzB K t t' a b) [z, TI, TO, i1, i2] z (fun i h => IsZip h z TI TO .none ∧ IsTupOf2 h TI (.ref i1) (.ref i2) ∧ (∃ x y, IsTupOf2 h TO x y) ∧ IterB h t i1 a i ∧ IterB h t' i2 b i) where
  mem := by simp
  obj := fun i h st c hc => by
    obtain ⟨hz, hTI, ⟨x, y, hTO⟩, j1, j2⟩ := st
    have e' : c = z ∨ c = TI ∨ c = TO ∨ c = i1 ∨ c = i2 := by simpa using hc
    rcases e' with q | q | q | q | q
    · rw [q]; exact ⟨_, hz, fun v q => nomatch q⟩
    · rw [q]; exact ⟨_, hTI, fun v q => nomatch q⟩
    · rw [q]; exact ⟨_, hTO, fun v q => nomatch q⟩
    · rw [q]; exact iterB_obj j1
    · rw [q]; exact iterB_obj j2
  keep := fun i h h' st k => by
    obtain ⟨hz, hTI, ⟨x, y, hTO⟩, h1, h2⟩ := st
    exact ⟨k z (by simp) _ hz, k TI (by simp) _ hTI, ⟨x, y, k TO (by simp) _ hTO⟩, iterB_at h1 fun o q => k i1 (by simp) o q, iterB_at h2 fun o q => k i2 (by simp) o q⟩
  item := by
    intro X hP hw hK hc i pins s σ H E I hf st hg
    subst hP hw hK
    obtain ⟨hz, hTI, ⟨x0, y0, hTO⟩, h1, h2⟩ := st
    obtain ⟨xs, ys, x, y, hqx, hqy, hx, hy⟩ := hg
    obtain ⟨its, rv, p⟩ := sqB_at I hqx
    obtain ⟨its2, rv2, p2⟩ := sqB_at I hqy
    obtain ⟨u, hu, ru⟩ := rv.get hx
    obtain ⟨u2, hu2, ru2⟩ := rv2.get hy
    have hzl : z < s.heap.objs.size := Heap.lt_size hz
    have hlt1 : i < its.toArray.size := by simpa using (List.getElem?_eq_some_iff.mp hu).1
    have hlt2 : i < its2.toArray.size := by simpa using (List.getElem?_eq_some_iff.mp hu2).1
    refine wpAny_pyNext_zipD2_item D (drawsB (A := X.A.in1) (I.ok.hd hc) t i1 a ha its.toArray) (drawsB (A := X.A.in1) (I.ok.hd hc) t' i2 b hb its2.toArray) hz hTI hTO ⟨h1, p⟩ ⟨h2, p2⟩ hlt1 hlt2 fun v1 v2 h' tk hv1 hv2 z' TO' st1 st2 hT hsz hk => ?_
    have e1 : v1 = u := by
      have q1 : its[i]? = some v1 := by simpa using hv1
      rw [hu] at q1
      exact (Option.some.inj q1).symm
    have e2 : v2 = u2 := by
      have q1 : its2[i]? = some v2 := by simpa using hv2
      rw [hu2] at q1
      exact (Option.some.inj q1).symm
    subst e1 e2
    refine ⟨_, rfl, wpAny_letOwnedTupleGo_zip (s := { s with heap := h', toks := tk }) z' fun h'' z'' sb => ?_⟩
    have hT2 : h''.get? s.heap.objs.size = some { cls := .type "tuple", data := .seq #[v1, v2] } := (sb.2 _ (Nat.ne_of_gt hzl)).trans hT
    have new : ObjOk X.prog X.w (upd H s.heap.objs.size (.tup [x, y])) h'' s.heap.objs.size (.tup [x, y]) :=
      ⟨by show 2 ≤ sizeLine; decide, [v1, v2], .cons ru (.cons ru2 .nil), ⟨_, hT2, rfl, _, rfl⟩⟩
    have I1 : Inv X pins σ (upd H s.heap.objs.size (.tup [x, y])) { s with heap := h'', toks := tk } :=
      I.turnedNew (t' := tk) (ch := [z, TI, TO, i1, i2]) (fun c o hb q => (sb.2 c (fun q' => hb (by simp [q']))).trans (hk c o (fun q' => hb (by simp [q'])) (fun q' => hb (by simp [q'])) (fun q' => hb (by simp [q'])) (fun q' => hb (by simp [q'])) q)) hf (Nat.le_refl _) new
    have zi1 : i1 ≠ z := Ne.symm D.zi1
    have zi2 : i2 ≠ z := Ne.symm D.zi2
    refine ⟨.ref s.heap.objs.size, _, I1, rfl, ⟨_, x, y, rfl, I.hok.fresh (Nat.le_refl _), rfl, fun l hl => by rw [sqB_inj I hl hqx]; exact hx, fun l hl => by rw [sqB_inj I hl hqy]; exact hy⟩, ⟨z'', ?_, ⟨v1, v2, ?_⟩, ?_, ?_⟩, fun c hcm => ?_⟩
    · exact (sb.2 _ D.TIz).trans (hk _ _ D.TIz D.TITO D.TIi1 D.TIi2 hTI)
    · exact (sb.2 _ D.TOz).trans TO'
    · exact iterB_at st1.1 fun o q => (sb.2 _ zi1).trans q
    · exact iterB_at st2.1 fun o q => (sb.2 _ zi2).trans q
    · have hlt : c < s.heap.objs.size := by
        have e' : c = z ∨ c = TI ∨ c = TO ∨ c = i1 ∨ c = i2 := by simpa using hcm
        rcases e' with q | q | q | q | q
        · rw [q]; exact hzl
        · rw [q]; exact Heap.lt_size hTI
        · rw [q]; exact Heap.lt_size hTO
        · rw [q]; obtain ⟨_, e1, _⟩ := iterB_obj h1; exact Heap.lt_size e1
        · rw [q]; obtain ⟨_, e2, _⟩ := iterB_obj h2; exact Heap.lt_size e2
      rw [upd_ne (Nat.ne_of_lt hlt)]
      exact (hf c hcm).1
  done := by
    intro X hP hw hK hc i pins s σ H E I hf st hg
    subst hP hw hK
    obtain ⟨hz, hTI, ⟨x0, y0, hTO⟩, h1, h2⟩ := st
    obtain ⟨xs, ys, hqx, hqy, hl1, hl2, hend⟩ := hg
    obtain ⟨its, rv, p⟩ := sqB_at I hqx
    obtain ⟨its2, rv2, p2⟩ := sqB_at I hqy
    have l1 := rv.length
    have l2 := rv2.length
    refine wpAny_pyNext_zipD2_end D (drawsB (A := X.A.in1) (I.ok.hd hc) t i1 a ha its.toArray) (drawsB (A := X.A.in1) (I.ok.hd hc) t' i2 b hb its2.toArray) hz hTI hTO ⟨h1, p⟩ ⟨h2, p2⟩ (by simp; omega) (by simp; omega) (by simp; omega) fun h' tk hk => ⟨rfl, I.turnedL (t' := tk) (ch := [z, TI, TO, i1, i2]) (fun c o hb q =>
      hk c o (fun q' => hb (by simp [q'])) (fun q' => hb (by simp [q'])) (fun q' => hb (by simp [q'])) (fun q' => hb (by simp [q'])) q) hf⟩
  self := fun A i s Q E st h => wpAny_pyIter_zip st.1 h
def iZipB (K : PySem.W.Frag) (ta : TA) : TI := fun σ H R => ta σ H fun vs H1 => ∃ t t' a b xs ys, vs = [.ref a, .ref b] ∧ SqB K H1 t a xs ∧ SqB K H1 t' b ys ∧ R (ItzB K t t' a b) H1
theorem pi_zipB {X : Cx} {e e2 : Expr} {ta : TA} {p pos tpos : Pos} {elts : List Expr} {kk : Nat} (hg : Gl X "zip") (hm : X.mg "zip" = none) (ha : PA X [e, e2] ta)
    (hs : starEach [e, e2] X.env = (false, eval e X.env) :: starEach [e2] X.env) (hpl : (backTo pos (starEach [e2] X.env)).any (·.1) = false) :
    PI X (.Tuple elts kk tpos) (.Call (.Name "zip" p) [e, e2] [] pos) (iZipB X.K ta) := by
  refine ⟨fun pins s σ H R I h => ?_⟩
  refine Call_ (ld_blt I hg hm PyProof.Rows.boot_zip (PyProof.Rows.callWith_type1 (thn (ha.run pos pins s σ H _ I h) fun us s1 ⟨vs, H1, I1, r1, q1⟩ => ?_) hs hpl))
  obtain ⟨t, t', a, b, xs, ys, ex, hqx, hqy, q⟩ := q1
  subst ex
  cases r1 with
  | cons r rr =>
    cases rr with
    | cons r' rr =>
      cases rr
      cases r
      cases r'
      have fresh5 : ∀ c, c ∈ [s1.heap.objs.size + 4, s1.heap.objs.size + 2, s1.heap.objs.size + 3, s1.heap.objs.size, s1.heap.objs.size + 1] → FpOk X pins H1 c := fun c hcm => by
        have e' : c = s1.heap.objs.size + 4 ∨ c = s1.heap.objs.size + 2 ∨ c = s1.heap.objs.size + 3 ∨ c = s1.heap.objs.size ∨ c = s1.heap.objs.size + 1 := by simpa using hcm
        have hle : s1.heap.objs.size ≤ c := by
          rcases e' with z | z | z | z | z
          · rw [z]; exact Nat.le_add_right _ _
          · rw [z]; exact Nat.le_add_right _ _
          · rw [z]; exact Nat.le_add_right _ _
          · rw [z]; exact Nat.le_refl _
          · rw [z]; exact Nat.le_add_right _ _
        exact I1.fpOk hle (I1.hok.fresh hle)
      obtain ⟨its, rv, p1⟩ := sqB_at I1 hqx
      obtain ⟨its2, rv2, p2⟩ := sqB_at I1 hqy
      have la := isB_lt p1
      have lb := isB_lt p2
      refine zip_begins2 (beginsB t a its.toArray) (beginsB t' b its2.toArray) p1 p2 fun h' hz hTI hTO h1 h2 hsz hk => wpAny_pyIter_zip hz ?_
      have I2 : Inv X pins σ H1 { s1 with heap := h' } := I1.kept (t' := s1.toks) hk
      exact ⟨s1.heap.objs.size + 4, [s1.heap.objs.size + 4, s1.heap.objs.size + 2, s1.heap.objs.size + 3, s1.heap.objs.size, s1.heap.objs.size + 1], _, _, H1, rfl, I2,
        turn_zipB (t := t) (t' := t') (zip_sep2 (N := s1.heap.objs.size) (fp1 := [a]) (fp2 := [b]) (fun c hc => by rw [List.mem_singleton.mp hc]; exact la) (fun c hc => by rw [List.mem_singleton.mp hc]; exact lb)) (Nat.ne_of_lt la) (Nat.ne_of_lt (Nat.lt_succ_of_lt lb)), ⟨hz, hTI, ⟨_, _, hTO⟩, iterB_new h1, iterB_new h2⟩, fresh5, q⟩
end
end PI

set_option maxRecDepth 100000
set_option maxHeartbeats 2000000
/-! PIh: lists as values, what is walked, targets. -/
namespace PI
open PySem PySem.Spec PyProof.Rows L2
section
variable {F : Fx} {K : PySem.W.Frag} {φ φ' : List Addr} {h h' : Hh} {H H' H0 : Hp}
theorem Ext.fresh (S : Sim F K φ' h' H') (x : Ext φ H φ' H') {p : Addr} (n : H' p = none) : H p = none := by
  cases q : H p with
  | none => rfl
  | some o =>
    by_cases m : p ∈ φ
    · obtain ⟨ψ, e⟩ := x.pre
      obtain ⟨u, e2, _⟩ := S.own (p := p) (by rw [e]; exact List.mem_append_left _ m)
      rw [n] at e2; cases e2
    · rw [x.keep p o q m] at n; cases n
/-- a list value, made since H0 -/
def RL (K : PySem.W.Frag) (H0 : Hp) (φ : List Addr) (H : Hp) : LV → V → Prop
  | .new xs, w => ∃ p vs, w = .ref p ∧ H0 p = none ∧ p ∉ φ ∧ H p = some (.lst vs) ∧ RDs K φ H xs vs
  | .val d, w => RD K φ H d w
theorem Ext.out (x : Ext φ H φ' H') {p : Addr} {o : HO} (e : H p = some o) (m : p ∉ φ) : p ∉ φ' := fun z => by
  rcases x.new p z with z | z
  · exact m z
  · rw [e] at z; cases z
theorem RL.mono (S : Sim F K φ h H) (x : Ext φ H φ' H') {l : LV} {w : V} (r : RL K H0 φ H l w) : RL K H0 φ' H' l w := by
  cases l with
  | new xs =>
    obtain ⟨p, vs, e, h0, m, e1, r1⟩ := r
    exact ⟨p, vs, e, h0, x.out e1 m, x.keep _ _ e1 m, r1.mono (S.up x)⟩
  | val d => exact RD.mono (S.up x) r
theorem RL.base (S : Sim F K φ' h' H) (x : Ext φ H0 φ' H) {φ2 : List Addr} {H2 : Hp} {l : LV} {w : V} (r : RL K H φ2 H2 l w) : RL K H0 φ2 H2 l w := by
  cases l with
  | new xs =>
    obtain ⟨p, vs, e, h0, q⟩ := r
    exact ⟨p, vs, e, Ext.fresh S x h0, q⟩
  | val d => exact r
def dT : D → Bool
  | .tup _ => true
  | _ => false
theorem items_sq (S : Sim F K φ h H) {d : D} {w : V} (r : RD K φ H d w) {xs : List D} (e : items? h d = some xs) : ∃ a vs, w = .ref a ∧ SqB K H (dT d) a vs ∧ RDs K φ H xs vs := by
  cases r with
  | tup t r => cases e; exact ⟨_, _, rfl, t, r⟩
  | scr t => cases e; exact ⟨_, _, rfl, t.sq, RDs.ints _⟩
  | ref ea =>
    simp only [items?] at e
    split at e
    · rename_i hx
      cases e
      obtain ⟨vs, h1, h2⟩ := S.lst ea hx
      exact ⟨_, vs, rfl, SqL.of h1, h2⟩
    · cases e
  | _ => cases e
theorem LV.sq (S : Sim F K φ h H) {l : LV} {w : V} (r : RL K H0 φ H l w) {xs : List D} (e : l.items h = some xs) : ∃ a vs, w = .ref a ∧ SqB K H l.isT a vs ∧ RDs K φ H xs vs := by
  cases l with
  | new ys =>
    cases e
    obtain ⟨p, vs, e, h0, m, e1, r1⟩ := r
    exact ⟨p, vs, e, SqL.of e1, r1⟩
  | val d =>
    obtain ⟨a, vs, h1, h2, h3⟩ := items_sq S r e
    refine ⟨a, vs, h1, ?_, h3⟩
    cases d <;> exact h2
end
section
variable {F : Fx} {X : Cx} {W : XK} {C : Nat → List D → Hh → R D} {k : Nat} {e a b c o : Expr} {es : List Expr} {pos p apos : Pos}
def mL (F : Fx) (K : PySem.W.Frag) (W : XK) (m : Sto → Hh → R LV) : TE := fun σ' H Q => ∃ φ h σ, Sim F K φ h H ∧ RE K φ H σ σ' ∧ Kt F K W φ H (m σ h) (RL K H) Q
abbrev SL (F : Fx) (X : Cx) (W : XK) (e : Expr) (m : Sto → Hh → R LV) : Prop := PE X e (mL F X.K W m)
/-- what follows, told at the base -/
theorem Kt.bndB {α β α' β' : Type} {K : PySem.W.Frag} {φ : List Addr} {H : Hp} {r : R α} {f : α → Hh → R α'} {Rel : List Addr → Hp → α' → β' → Prop} {Q : β' → Hp → Prop} {Rel1 : List Addr → Hp → α → β → Prop} {Q1 : β → Hp → Prop}
    (k : Kt F K W φ H (r.bnd f) Rel Q) (hq : ∀ a h1 φ1 H1 b, r = .ok a h1 → Ext φ H φ1 H1 → Sim F K φ1 h1 H1 → Rel1 φ1 H1 a b → Kt F K W φ H (f a h1) Rel Q → Q1 b H1) : Kt F K W φ H r Rel1 Q1 := by
  cases r with
  | ok a h1 => exact fun φ1 H1 b x1 S1 r1 => hq a h1 φ1 H1 b rfl x1 S1 r1 k
  | exc c h1 => exact k
  | bad => exact k
theorem sl_of {x : E} (ha : SE F X W a (ev F.P C x)) : SL F X W a (evL F.P C (.of x)) := by
  refine ⟨fun pins s σ' H Q I ⟨φ, h0, σ, S, E, kt⟩ => ha.run pins s σ' H Q I ⟨φ, h0, σ, S, E, ?_⟩⟩
  simp only [evL] at kt
  exact kt.bndB fun d h1 φ1 H1 v _ x1 S1 r1 k1 => k1 φ1 H1 v x1 S1 r1
theorem sl_lit {xs : Es} (ha : PA X es (mA F X.K W (evs F.P C xs))) : SL F X W (.List es p) (evL F.P C (.lit xs)) := by
  refine ⟨fun pins s σ' H Q I ⟨φ, h0, σ, S, E, kt⟩ => (pe_lst ha).run pins s σ' H Q I ⟨φ, h0, σ, S, E, ?_⟩⟩
  simp only [evL] at kt
  refine kt.bndB fun ds h1 φ1 H1 vs _ x1 S1 r1 k1 => ?_
  split at k1
  · rename_i hl
    refine ⟨by rw [← r1.length]; exact Nat.le_trans hl limLine, fun q hq => ?_⟩
    exact k1 φ1 (upd H1 q (.lst vs)) (.ref q) (x1.trans (Ext.more hq)) (S1.more hq) ⟨q, vs, rfl, Ext.fresh S1 x1 hq, S1.free hq, upd_same, r1.mono (up_more S1 hq)⟩
  · exact k1.elim
theorem sl_cat {x y : L} (ha : SL F X W a (evL F.P C x)) (hb : SL F X W b (evL F.P C y)) : SL F X W (.BinOp a .Add b p) (evL F.P C (.cat x y)) := by
  refine ⟨fun pins s σ' H Q I ⟨φ, h0, σ, S, E, kt⟩ => (pe_op op_cat ha hb).run pins s σ' H Q I ⟨φ, h0, σ, S, E, ?_⟩⟩
  simp only [evL] at kt
  refine kt.bndB fun d h1 φ1 H1 v _ x1 S1 r1 k1 => ?_
  refine ⟨φ1, h1, σ, S1, E.mono (S.up x1), ?_⟩
  have k1' : Kt F X.K W φ1 H1 (evL F.P C y σ h1) (fun φ2 H2 u w => RL X.K H1 φ2 H2 u w) (fun w H2 => ∃ u h2 φ2, Ext φ1 H1 φ2 H2 ∧ Sim F X.K φ2 h2 H2 ∧ RL X.K H1 φ2 H2 u w ∧ Kt F X.K W φ H (match d, u with
    | .new xs, .new ys => if xs.length + ys.length ≤ LIM then .ok (.new (xs ++ ys)) h2 else .bad
    | .new xs, .val (.ref b) => match lstOf h2 b with
      | some ys => if xs.length + ys.length ≤ LIM then .ok (.new (xs ++ ys)) h2 else .bad
      | none => .bad
    | .val (.ref a), .new ys => match lstOf h2 a with
      | some xs => if xs.length + ys.length ≤ LIM then .ok (.new (xs ++ ys)) h2 else .bad
      | none => .bad
    | _, _ => .bad) (RL X.K H) Q) := by
    cases q2 : evL F.P C y σ h1 with
    | bad => rw [q2] at k1; exact k1.elim
    | exc z hz => rw [q2] at k1; exact Kt.mono x1 k1
    | ok u h2 => rw [q2] at k1; exact fun φ2 H2 w x2 S2 r2 => ⟨u, h2, φ2, x2, S2, r2, k1⟩
  refine Kt_imp k1' fun w H2 ⟨u, h2, φ2, x2, S2, r2, k2⟩ => ?_
  have X2 := x1.trans x2
  have rd := r1.mono S1 x2
  have fin : ∀ {l b xs zs us ws}, (v = V.ref l) → (w = V.ref b) → H2 l = some (.lst us) → H2 b = some (.lst ws) → RDs X.K φ2 H2 xs us → RDs X.K φ2 H2 zs ws → Kt F X.K W φ H (if xs.length + zs.length ≤ LIM then .ok (.new (xs ++ zs)) h2 else .bad) (RL X.K H) Q →
      rCat v w H2 Q := fun {l b xs zs us ws} e1 e2 e3 e4 q1 q2 k3 => by
    split at k3
    · rename_i hl
      refine ⟨l, b, us, ws, e1, e2, e3, e4, by rw [← q1.length, ← q2.length]; exact Nat.le_trans hl limLine, fun q hq => ?_⟩
      exact k3 φ2 (upd H2 q (.lst (us ++ ws))) (.ref q) (X2.trans (Ext.more hq)) (S2.more hq) ⟨q, _, rfl, Ext.fresh S2 X2 hq, S2.free hq, upd_same, (q1.append q2).mono (up_more S2 hq)⟩
    · exact k3.elim
  cases d with
  | new xs =>
    obtain ⟨l, us, e1, _, m1, e3, q1⟩ := rd
    cases u with
    | new zs =>
      obtain ⟨b, ws, e2, _, m2, e4, q2⟩ := r2
      exact fin e1 e2 e3 e4 q1 q2 k2
    | val d2 =>
      cases d2 with
      | ref b =>
        cases r2 with
        | ref eb =>
          dsimp only at k2
          split at k2
          · rename_i ys hy
            obtain ⟨ws, e4, q2⟩ := lst_at S2 eb hy
            exact fin e1 rfl e3 e4 q1 q2 k2
          · exact k2.elim
      | _ => exact k2.elim
  | val d1 =>
    cases d1 with
    | ref l =>
      cases u with
      | new zs =>
        obtain ⟨b, ws, e2, _, m2, e4, q2⟩ := r2
        cases rd with
        | ref el =>
          dsimp only at k2
          split at k2
          · rename_i xs hy
            obtain ⟨us, e3, q1⟩ := lst_at S2 el hy
            exact fin rfl e2 e3 e4 q1 q2 k2
          · exact k2.elim
      | val d2 => exact k2.elim
    | _ => exact k2.elim
where
  Kt_imp {α β : Type} {K : PySem.W.Frag} {φ : List Addr} {H : Hp} {r : R α} {Rel : List Addr → Hp → α → β → Prop} {Q Q' : β → Hp → Prop} (k : Kt F K W φ H r Rel Q) (h : ∀ b H, Q b H → Q' b H) : Kt F K W φ H r Rel Q' := by
    cases r with
    | ok a h1 => exact fun φ1 H1 b x1 S1 r1 => h _ _ (k φ1 H1 b x1 S1 r1)
    | exc c h1 => exact k
    | bad => exact k
theorem sorted_eq {ns ms : List Int} (hp : ms.Perm ns) (hs : ms.Pairwise (· ≤ ·)) : ms = isortI ns := by
  have perm : ∀ ns : List Int, (isortI ns).Perm ns := by
    have ins : ∀ (x : Int) (l : List Int), (insI x l).Perm (x :: l) := by
      intro x l
      induction l with
      | nil => exact .refl _
      | cons y r ih =>
        unfold insI
        split
        · exact .refl _
        · exact (List.Perm.cons y ih).trans (List.Perm.swap x y r)
    intro ns
    induction ns with
    | nil => exact .refl _
    | cons x r ih => exact (ins x _).trans (List.Perm.cons x ih)
  have srt : ∀ ns : List Int, (isortI ns).Pairwise (· ≤ ·) := by
    have ins : ∀ (x : Int) (l : List Int), l.Pairwise (· ≤ ·) → (insI x l).Pairwise (· ≤ ·) := by
      intro x l hl
      induction l with
      | nil => exact List.pairwise_singleton _ _
      | cons y r ih =>
        obtain ⟨h1, h2⟩ := List.pairwise_cons.mp hl
        unfold insI
        split
        · rename_i hxy
          refine List.pairwise_cons.mpr ⟨fun z hz => ?_, hl⟩
          rcases List.mem_cons.mp hz with rfl | hz
          · exact hxy
          · have := h1 z hz; omega
        · rename_i hxy
          refine List.pairwise_cons.mpr ⟨fun z hz => ?_, ih h2⟩
          have hm : ∀ (l : List Int) (z : Int), z ∈ insI x l → z = x ∨ z ∈ l := by
            intro l
            induction l with
            | nil => intro z hz; left; simpa [insI] using hz
            | cons a b ihb =>
              intro z hz
              unfold insI at hz
              split at hz
              · rcases List.mem_cons.mp hz with e | e
                · exact .inl e
                · exact .inr e
              · rcases List.mem_cons.mp hz with e | e
                · exact .inr (by simp [e])
                · rcases ihb z e with q | q
                  · exact .inl q
                  · exact .inr (by simp [q])
          rcases hm r z hz with rfl | hz
          · omega
          · exact h1 z hz
    intro ns
    induction ns with
    | nil => exact .nil
    | cons x r ih => exact ins x _ ih
  refine List.Perm.eq_of_pairwise (le := (· ≤ ·)) (fun a b _ _ h1 h2 => Int.le_antisymm h1 h2) hs (srt ns) (hp.trans (perm ns).symm)
theorem sl_sorted {x : L} (ha : SL F X W a (evL F.P C x)) (hg : Gl X "sorted") (hm : X.mg "sorted" = none) (hs : starEach [a] X.env = (false, eval a X.env) :: starEach [] X.env) : SL F X W (.Call (.Name "sorted" p) [a] [] pos) (evL F.P C (.sorted x)) := by
  refine ⟨fun pins s σ' H Q I ⟨φ, h0, σ, S, E, kt⟩ => (pe_callB cr_sortedI hg hm (by decide +kernel) (pa_cons ha pa_nil hs) (he := hs)).run pins s σ' H Q I ⟨φ, h0, σ, S, E, ?_⟩⟩
  simp only [evL] at kt
  refine kt.bndB fun d h1 φ1 H1 v _ x1 S1 r1 k1 => ?_
  split at k1
  · exact k1.elim
  rename_i ht
  split at k1
  · rename_i xs hxs
    split at k1
    · rename_i ns hns
      obtain ⟨q, vs, e1, e2, e3⟩ := LV.sq S1 r1 hxs
      have ev := e3.ints? hns
      subst ev
      have e2 : SqL X.K H1 q (ns.map V.int) := by
        cases z : d.isT with
        | true => exact absurd z ht
        | false => rw [z] at e2; exact e2
      refine ⟨q, ns, by rw [e1], e2, fun ms r hp hsrt hr => ?_⟩
      rw [sorted_eq hp hsrt]
      exact k1 φ1 (upd H1 r (.lst ((isortI ns).map V.int))) (.ref r) (x1.trans (Ext.more hr)) (S1.more hr) ⟨r, _, rfl, Ext.fresh S1 x1 hr, S1.free hr, upd_same, RDs.ints _⟩
    · exact k1.elim
  · exact k1.elim
end
end PI

set_option maxRecDepth 100000
set_option maxHeartbeats 2000000
/-! PIi: what is walked, targets, comprehensions. -/
namespace PI
open PySem PySem.Spec PyProof.Rows L2
/-- an iterator serves what the interpreter's does -/
structure RI (F : Fx) (K : PySem.W.Frag) (φ0 : List Addr) (H0 : Hp) (iv : Iv) (J : L2.It) : Prop where
  go : ∀ i φ h H d, i < iv.n → Ext φ0 H0 φ H → Sim F K φ h H → iv.get h i = some d → J.go i H
  yld : ∀ i φ h H d x H', i < iv.n → Ext φ0 H0 φ H → Sim F K φ h H → iv.get h i = some d → J.yld i H x H' → Ext φ H φ H' ∧ Sim F K φ h H' ∧ RD K φ H' d x
  stop : ∀ φ h H, Ext φ0 H0 φ H → Sim F K φ h H → iv.fin h = true → J.stop iv.n H
def mI (F : Fx) (K : PySem.W.Frag) (W : XK) (m : Sto → Hh → R Iv) : TI := fun σ' H R => ∃ φ h σ, Sim F K φ h H ∧ RE K φ H σ σ' ∧ Kt F K W φ H (m σ h) (RI F K) R
section
variable {F : Fx} {K : PySem.W.Frag} {φ : List Addr} {h : Hh} {H H0 : Hp}
theorem LV.at_some {l : LV} {n : Nat} {i : Nat} {d : D} (e : l.at_ n h i = some d) : ∃ xs, l.items h = some xs ∧ xs.length = n ∧ xs[i]? = some d := by
  unfold LV.at_ at e
  split at e
  · rename_i xs hx
    split at e
    · rename_i hn
      exact ⟨xs, hx, hn, e⟩
    · cases e
  · cases e
theorem LV.fin_some {l : LV} {n : Nat} (e : l.fin n h = true) : ∃ xs, l.items h = some xs ∧ xs.length = n := by
  unfold LV.fin at e
  split at e
  · rename_i xs hx
    exact ⟨xs, hx, by simpa using e⟩
  · cases e
theorem ri_rng {lo c : Int} {n : Nat} : RI F K φ H ⟨n, fun _ k => some (.int (lo + (k : Nat) * c)), fun _ => true⟩ (Itc lo c n) where
  go := fun i _ _ _ _ hi _ _ _ => hi
  yld := fun i φ h H d x H' hi _ S e y => by
    obtain ⟨rfl, rfl⟩ := y
    cases e
    exact ⟨Ext.refl, S, .int _⟩
  stop := fun _ _ _ _ _ _ => Nat.le_refl _
theorem ri_rng1 {lo : Int} {n : Nat} {f : Nat → Int} (hf : ∀ i, f i = lo + i) : RI F K φ H ⟨n, fun _ k => some (.int (f k)), fun _ => true⟩ (Itr lo n) where
  go := fun i _ _ _ _ hi _ _ _ => hi
  yld := fun i φ h H d x H' hi _ S e y => by
    obtain ⟨rfl, rfl⟩ := y
    cases e
    rw [hf]
    exact ⟨Ext.refl, S, .int _⟩
  stop := fun _ _ _ _ _ _ => Nat.le_refl _
theorem ri_str {z : Str} : RI F K φ H ⟨z.cps.size, fun _ i => strAt z i, fun _ => true⟩ (Its z) where
  go := fun i _ _ _ _ hi _ _ _ => hi
  yld := fun i φ h H d x H' hi _ S e y => by
    obtain ⟨rfl, c, hc, rfl⟩ := y
    have e : strAt z i = some d := e
    unfold strAt at e
    rw [hc] at e
    cases e
    exact ⟨Ext.refl, S, .str _⟩
  stop := fun _ _ _ _ _ _ => Nat.le_refl _
theorem ri_list {l : LV} {a : Addr} {n : Nat} (r : RL K H0 φ H l (.ref a)) (S : Sim F K φ h H) (ht : l.isT = false) : RI F K φ H ⟨n, fun h i => l.at_ n h i, l.fin n⟩ (Itl K a) where
  go := fun i φ' h' H' d hi x S' e => by
    obtain ⟨xs, h1, h2, h3⟩ := LV.at_some e
    obtain ⟨b, vs, e1, e2, e3⟩ := LV.sq S' (r.mono S x) h1
    cases e1
    obtain ⟨v, e4, _⟩ := e3.get h3
    rw [ht] at e2
    exact ⟨vs, v, e2, e4⟩
  yld := fun i φ' h' H' d x' H'' hi x S' e y => by
    obtain ⟨xs, h1, h2, h3⟩ := LV.at_some e
    obtain ⟨b, vs, e1, e2, e3⟩ := LV.sq S' (r.mono S x) h1
    cases e1
    obtain ⟨v, e4, rv⟩ := e3.get h3
    rw [ht] at e2
    obtain ⟨rfl, q⟩ := y
    have := q vs e2
    rw [e4] at this
    cases this
    exact ⟨Ext.refl, S', rv⟩
  stop := fun φ' h' H' x S' e => by
    obtain ⟨xs, h1, h2⟩ := LV.fin_some e
    obtain ⟨b, vs, e1, e2, e3⟩ := LV.sq S' (r.mono S x) h1
    cases e1
    rw [ht] at e2
    exact ⟨vs, e2, by rw [← e3.length, h2]; exact Nat.le_refl _⟩
theorem ri_tup {l : LV} {a : Addr} {n : Nat} (r : RL K H0 φ H l (.ref a)) (S : Sim F K φ h H) (ht : l.isT = true) : RI F K φ H ⟨n, fun h i => l.at_ n h i, l.fin n⟩ (Itt K a) where
  go := fun i φ' h' H' d hi x S' e => by
    obtain ⟨xs, h1, h2, h3⟩ := LV.at_some e
    obtain ⟨b, vs, e1, e2, e3⟩ := LV.sq S' (r.mono S x) h1
    cases e1
    obtain ⟨v, e4, _⟩ := e3.get h3
    rw [ht] at e2
    exact ⟨vs, v, e2, e4⟩
  yld := fun i φ' h' H' d x' H'' hi x S' e y => by
    obtain ⟨xs, h1, h2, h3⟩ := LV.at_some e
    obtain ⟨b, vs, e1, e2, e3⟩ := LV.sq S' (r.mono S x) h1
    cases e1
    obtain ⟨v, e4, rv⟩ := e3.get h3
    rw [ht] at e2
    obtain ⟨rfl, q⟩ := y
    have := q vs e2
    rw [e4] at this
    cases this
    exact ⟨Ext.refl, S', rv⟩
  stop := fun φ' h' H' x S' e => by
    obtain ⟨xs, h1, h2⟩ := LV.fin_some e
    obtain ⟨b, vs, e1, e2, e3⟩ := LV.sq S' (r.mono S x) h1
    cases e1
    rw [ht] at e2
    exact ⟨vs, e2, by rw [← e3.length, h2]; exact Nat.le_refl _⟩
theorem pair_new (S : Sim F K φ h H) {T : Addr} {d1 d2 : D} {v1 v2 : V} (hT : H T = none) (r1 : RD K φ H d1 v1) (r2 : RD K φ H d2 v2) :
    Ext φ H φ (upd H T (.tup [v1, v2])) ∧ Sim F K φ h (upd H T (.tup [v1, v2])) ∧ RD K φ (upd H T (.tup [v1, v2])) (.tup [d1, d2]) (.ref T) :=
  ⟨Ext.more hT, S.more hT, .tup (.inl (.inl upd_same)) (.cons (r1.mono (up_more S hT)) (.cons (r2.mono (up_more S hT)) .nil))⟩
theorem ri_enum {l : LV} {a : Addr} {n : Nat} (r : RL K H0 φ H l (.ref a)) (S : Sim F K φ h H) : RI F K φ H ⟨n, fun h i => (l.at_ n h i).map fun x => .tup [.int (i : Nat), x], l.fin n⟩ (IteB K l.isT a) where
  go := fun i φ' h' H' d hi x S' e => by
    obtain ⟨d', e0, _⟩ := Option.map_eq_some_iff.mp e
    obtain ⟨xs, h1, h2, h3⟩ := LV.at_some e0
    obtain ⟨b, vs, e1, e2, e3⟩ := LV.sq S' (r.mono S x) h1
    cases e1
    obtain ⟨v, e4, _⟩ := e3.get h3
    exact ⟨vs, v, e2, e4⟩
  yld := fun i φ' h' H' d x' H'' hi x S' e y => by
    obtain ⟨d', e0, e5⟩ := Option.map_eq_some_iff.mp e
    obtain ⟨xs, h1, h2, h3⟩ := LV.at_some e0
    obtain ⟨b, vs, e1, e2, e3⟩ := LV.sq S' (r.mono S x) h1
    cases e1
    obtain ⟨v, e4, rv⟩ := e3.get h3
    obtain ⟨T, u, rfl, hT, rfl, q⟩ := y
    have := q vs e2
    rw [e4] at this
    cases this
    subst e5
    exact pair_new S' hT (.int _) rv
  stop := fun φ' h' H' x S' e => by
    obtain ⟨xs, h1, h2⟩ := LV.fin_some e
    obtain ⟨b, vs, e1, e2, e3⟩ := LV.sq S' (r.mono S x) h1
    cases e1
    exact ⟨vs, e2, by rw [← e3.length, h2]⟩
theorem ri_zip {l l' : LV} {a b : Addr} {n n' : Nat} {H0' : Hp} (r : RL K H0 φ H l (.ref a)) (r' : RL K H0' φ H l' (.ref b)) (S : Sim F K φ h H) : RI F K φ H ⟨min n n', fun h i => match l.at_ n h i, l'.at_ n' h i with
      | some x, some y => some (.tup [x, y])
      | _, _ => none, fun h => l.fin n h && l'.fin n' h⟩ (ItzB K l.isT l'.isT a b) where
  go := fun i φ' h' H' d hi x S' e => by
    dsimp only at e
    split at e
    · rename_i d1 d2 q1 q2
      obtain ⟨xs, h1, h2, h3⟩ := LV.at_some q1
      obtain ⟨ys, h1', h2', h3'⟩ := LV.at_some q2
      obtain ⟨_, vs, e1, e2, e3⟩ := LV.sq S' (r.mono S x) h1
      cases e1
      obtain ⟨_, vs', e1', e2', e3'⟩ := LV.sq S' (r'.mono S x) h1'
      cases e1'
      obtain ⟨v, e4, rv⟩ := e3.get h3
      obtain ⟨v', e4', rv'⟩ := e3'.get h3'
      exact ⟨vs, vs', v, v', e2, e2', e4, e4'⟩
    · cases e
  yld := fun i φ' h' H' d x' H'' hi x S' e y => by
    dsimp only at e
    split at e
    · rename_i d1 d2 q1 q2
      obtain ⟨xs, h1, h2, h3⟩ := LV.at_some q1
      obtain ⟨ys, h1', h2', h3'⟩ := LV.at_some q2
      obtain ⟨_, vs, e1, e2, e3⟩ := LV.sq S' (r.mono S x) h1
      cases e1
      obtain ⟨_, vs', e1', e2', e3'⟩ := LV.sq S' (r'.mono S x) h1'
      cases e1'
      obtain ⟨v, e4, rv⟩ := e3.get h3
      obtain ⟨v', e4', rv'⟩ := e3'.get h3'
      obtain ⟨T, u, u', rfl, hT, rfl, q, q'⟩ := y
      have z := q vs e2
      rw [e4] at z
      cases z
      have z := q' vs' e2'
      rw [e4'] at z
      cases z
      cases e
      exact pair_new S' hT rv rv'
    · cases e
  stop := fun φ' h' H' x S' e => by
    dsimp only at e
    rw [Bool.and_eq_true] at e
    obtain ⟨xs, h1, h2⟩ := LV.fin_some e.1
    obtain ⟨ys, h1', h2'⟩ := LV.fin_some e.2
    obtain ⟨_, vs, e1, e2, e3⟩ := LV.sq S' (r.mono S x) h1
    cases e1
    obtain ⟨_, vs', e1', e2', e3'⟩ := LV.sq S' (r'.mono S x) h1'
    cases e1'
    have l1 := e3.length
    have l2 := e3'.length
    exact ⟨vs, vs', e2, e2', by show min n n' ≤ _; omega, by show min n n' ≤ _; omega, by show min n n' = _ ∨ min n n' = _; omega⟩
end
section
variable {F : Fx} {X : Cx} {W : XK} {C : Nat → List D → Hh → R D} {k : Nat} {e a b c o tg : Expr} {es : List Expr} {pos p apos : Pos}
abbrev SI (F : Fx) (X : Cx) (W : XK) (tg e : Expr) (m : Sto → Hh → R Iv) : Prop := L2.PI X tg e (mI F X.K W m)
theorem si_rng1 {x : E} (ha : SE F X W a (ev F.P C x)) (hg : Gl X "range") (hm : X.mg "range" = none) (hs : starEach [a] X.env = [(false, eval a X.env)]) : SI F X W tg (.Call (.Name "range" p) [a] [] pos) (evIt F.P C (.rng1 x)) := by
  refine ⟨fun pins s σ' H Q I ⟨φ, h0, σ, S, E, kt⟩ => (pi_range1 hg hm (pa_cons ha pa_nil hs) hs).run pins s σ' H Q I ⟨φ, h0, σ, S, E, ?_⟩⟩
  simp only [evIt] at kt
  refine kt.bnd fun d h1 φ1 H1 v _ x1 S1 r1 k1 => ?_
  split at k1
  · cases r1
    split at k1
    · rename_i hj
      exact ⟨_, rfl, hj.1, hj.2, k1.ok S1 (ri_rng1 fun i => by simp)⟩
    · exact k1.elim
  · exact k1.elim
theorem si_rng2 {x y : E} (ha : SE F X W a (ev F.P C x)) (hb : SE F X W b (ev F.P C y)) (hg : Gl X "range") (hm : X.mg "range" = none) (hs : starEach [a, b] X.env = [(false, eval a X.env), (false, eval b X.env)]) (hs2 : starEach [b] X.env = [(false, eval b X.env)]) :
    SI F X W tg (.Call (.Name "range" p) [a, b] [] pos) (evIt F.P C (.rng2 x y)) := by
  refine ⟨fun pins s σ' H Q I ⟨φ, h0, σ, S, E, kt⟩ => (pi_range2 hg hm (pa_cons ha (pa_cons hb pa_nil hs2) (hs.trans (by rw [hs2]))) hs hs2).run pins s σ' H Q I ⟨φ, h0, σ, S, E, ?_⟩⟩
  simp only [evIt] at kt
  refine kt.bnd fun d h1 φ1 H1 v _ x1 S1 r1 k1 => ?_
  refine ⟨φ1, h1, σ, S1, E.mono (S.up x1), k1.bnd fun d2 h2 φ2 H2 v2 _ x2 S2 r2 k2 => ?_⟩
  split at k2
  · cases r1; cases r2
    split at k2
    · rename_i hj
      exact ⟨_, _, rfl, hj, k2.ok S2 (ri_rng1 fun i => rfl)⟩
    · exact k2.elim
  · exact k2.elim
theorem si_rng3 {x y z : E} (ha : SE F X W a (ev F.P C x)) (hb : SE F X W b (ev F.P C y)) (hc : SE F X W c (ev F.P C z)) (hg : Gl X "range") (hm : X.mg "range" = none) (hs : starEach [a, b, c] X.env = (false, eval a X.env) :: starEach [b, c] X.env)
    (hs2 : starEach [b, c] X.env = (false, eval b X.env) :: starEach [c] X.env) (hs3 : starEach [c] X.env = (false, eval c X.env) :: starEach [] X.env) (hpl : (backTo pos (starEach [b, c] X.env)).any (·.1) = false) : SI F X W tg (.Call (.Name "range" p) [a, b, c] [] pos) (evIt F.P C (.rng3 x y z)) := by
  refine ⟨fun pins s σ' H Q I ⟨φ, h0, σ, S, E, kt⟩ => (pi_range3 hg hm (pa_cons ha (pa_cons hb (pa_cons hc pa_nil hs3) hs2) hs) hs hpl).run pins s σ' H Q I ⟨φ, h0, σ, S, E, ?_⟩⟩
  simp only [evIt] at kt
  refine kt.bnd fun d h1 φ1 H1 v _ x1 S1 r1 k1 => ?_
  refine ⟨φ1, h1, σ, S1, E.mono (S.up x1), k1.bnd fun d2 h2 φ2 H2 v2 _ x2 S2 r2 k2 => ?_⟩
  refine ⟨φ2, h2, σ, S2, (E.mono (S.up x1)).mono (S1.up x2), k2.bnd fun d3 h3 φ3 H3 v3 _ x3 S3 r3 k3 => ?_⟩
  split at k3
  · cases r1; cases r2; cases r3
    split at k3
    · rename_i hj
      obtain ⟨rfl, h1, h2, h3, h4⟩ := hj
      exact ⟨_, _, _, _, rfl, RgC.neg h1 h2 h3 h4, k3.ok S3 ri_rng⟩
    · exact k3.elim
  · exact k3.elim
theorem si_enum {x : L} {elts : List Expr} {kk : Nat} {tpos : Pos} (ha : SL F X W a (evL F.P C x)) (hg : Gl X "enumerate") (hm : X.mg "enumerate" = none) (hs : starEach [a] X.env = [(false, eval a X.env)]) : SI F X W (.Tuple elts kk tpos) (.Call (.Name "enumerate" p) [a] [] pos) (evIt F.P C (.enum x)) := by
  refine ⟨fun pins s σ' H Q I ⟨φ, h0, σ, S, E, kt⟩ => (pi_enumB hg hm (pa_cons ha pa_nil hs) hs).run pins s σ' H Q I ⟨φ, h0, σ, S, E, ?_⟩⟩
  simp only [evIt] at kt
  refine kt.bndB fun d h1 φ1 H1 v _ x1 S1 r1 k1 => ?_
  split at k1
  · rename_i xs hxs
    obtain ⟨q, vs, e1, e2, e3⟩ := LV.sq S1 r1 hxs
    subst e1
    exact ⟨_, q, vs, rfl, e2, k1 φ1 H1 _ x1 S1 (ri_enum r1 S1)⟩
  · exact k1.elim
theorem si_zip {x y : L} {elts : List Expr} {kk : Nat} {tpos : Pos} (ha : SL F X W a (evL F.P C x)) (hb : SL F X W b (evL F.P C y)) (hg : Gl X "zip") (hm : X.mg "zip" = none) (hs : starEach [a, b] X.env = (false, eval a X.env) :: starEach [b] X.env) (hs2 : starEach [b] X.env = (false, eval b X.env) :: starEach [] X.env)
    (hpl : (backTo pos (starEach [b] X.env)).any (·.1) = false) : SI F X W (.Tuple elts kk tpos) (.Call (.Name "zip" p) [a, b] [] pos) (evIt F.P C (.zip x y)) := by
  refine ⟨fun pins s σ' H Q I ⟨φ, h0, σ, S, E, kt⟩ => (pi_zipB hg hm (pa_cons ha (pa_cons hb pa_nil hs2) hs) hs hpl).run pins s σ' H Q I ⟨φ, h0, σ, S, E, ?_⟩⟩
  simp only [evIt] at kt
  refine kt.bndB fun d h1 φ1 H1 v _ x1 S1 r1 k1 => ?_
  refine ⟨φ1, h1, σ, S1, E.mono (S.up x1), ?_⟩
  refine (Kt.mono x1 k1).bndB fun d2 h2 φ2 H2 v2 _ x2 S2 r2 k2 => ?_
  have r1' := r1.mono S1 x2
  split at k2
  · rename_i xs ys hxs hys
    obtain ⟨q, vs, e1, e2, e3⟩ := LV.sq S2 r1' hxs
    obtain ⟨q', vs', e1', e2', e3'⟩ := LV.sq S2 r2 hys
    subst e1
    subst e1'
    exact ⟨_, _, q, q', vs, vs', rfl, e2, e2', k2 φ2 H2 _ x2 S2 (ri_zip r1' r2 S2)⟩
  · exact k2.elim
theorem si_seq {x : L} (ha : SL F X W a (evL F.P C x)) : SI F X W tg a (evIt F.P C (.seq x)) := by
  refine ⟨fun pins s σ' H Q I ⟨φ, h0, σ, S, E, kt⟩ => ?_⟩
  simp only [evIt] at kt
  have tell : ∀ {v : LV} {h1 : Hh}, evL F.P C x σ h0 = .ok v h1 → v.isT = false → (∀ z, v ≠ .val (.str z)) → wpAny (model X.prog X.w) X.A (eval a X.env) (fun v s1 => wpAny (model X.prog X.w) X.A (pyIter v) (PIE X pins σ' tg Q) X.xe s1) X.xe s := fun {v h1} ev ht hn => by
    refine (pi_list ha).run pins s σ' H Q I ⟨φ, h0, σ, S, E, ?_⟩
    rw [ev] at kt ⊢
    refine kt.bndB fun d h1 φ1 H1 w ed x1 S1 r1 k1 => ?_
    cases ed
    split at k1
    · exact absurd rfl (hn _)
    split at k1
    · rename_i xs hxs
      obtain ⟨q, vs, e1, e2, e3⟩ := LV.sq S1 r1 hxs
      rw [ht] at e2
      subst e1
      exact ⟨q, rfl, ⟨vs, e2⟩, k1 φ1 H1 _ x1 S1 (ri_list r1 S1 ht)⟩
    · exact k1.elim
  cases ev : evL F.P C x σ h0 with
  | bad => rw [ev] at kt; exact kt.elim
  | exc z hz =>
    refine (pi_list ha).run pins s σ' H Q I ⟨φ, h0, σ, S, E, ?_⟩
    rw [ev] at kt ⊢
    exact kt
  | ok v h1 =>
    cases v with
    | new xs => exact tell ev rfl fun z q => nomatch q
    | val d =>
      cases d with
      | str z =>
        refine (pi_str ha).run pins s σ' H Q I ⟨φ, h0, σ, S, E, ?_⟩
        rw [ev] at kt ⊢
        refine kt.bndB fun d h1 φ1 H1 w ed x1 S1 r1 k1 => ?_
        cases ed
        cases r1
        exact ⟨z, rfl, k1 φ1 H1 _ x1 S1 ri_str⟩
      | tup xs =>
        refine (pi_tup ha).run pins s σ' H Q I ⟨φ, h0, σ, S, E, ?_⟩
        rw [ev] at kt ⊢
        refine kt.bndB fun d h1 φ1 H1 w ed x1 S1 r1 k1 => ?_
        cases ed
        obtain ⟨q, vs, e1, e2, e3⟩ := LV.sq S1 r1 rfl
        subst e1
        exact ⟨q, rfl, ⟨vs, e2⟩, k1 φ1 H1 _ x1 S1 (ri_tup r1 S1 rfl)⟩
      | non => exact tell ev rfl fun z q => nomatch q
      | bl _ => exact tell ev rfl fun z q => nomatch q
      | int _ => exact tell ev rfl fun z q => nomatch q
      | scr _ => exact tell ev rfl fun z q => nomatch q
      | ref _ => exact tell ev rfl fun z q => nomatch q

/-! ### targets -/
end
mutual
def Tg.within (own : List Nat) : Tg → Bool
  | .nm i => own.contains i
  | .tup ts => Tgs.within own ts
def Tgs.within (own : List Nat) : Tgs → Bool
  | .nil => true
  | .cons t ts => Tg.within own t && Tgs.within own ts
end
def Tgs.len : Tgs → Nat
  | .nil => 0
  | .cons _ ts => ts.len + 1
theorem asTs_len : ∀ {ts : Tgs} {ds : List D} {σ σ1 : Sto}, asTs ts ds σ = some σ1 → ds.length = ts.len
  | .nil, [], _, _, _ => rfl
  | .nil, _ :: _, _, _, e => by cases e
  | .cons t ts, [], _, _, e => by cases e
  | .cons t ts, d :: ds, σ, σ1, e => by
    unfold asTs at e
    dsimp only at e
    split at e
    · cases e
    · exact congrArg Nat.succ (asTs_len e)
theorem wipe_set {σ : L2.St} {i : Nat} {x : Option V} : ∀ {vs : List Nat}, i ∈ vs → L2.wipe (σ.set i x) vs = L2.wipe σ vs
  | v :: vs, h => by
    unfold L2.wipe
    by_cases hv : i ∈ vs
    · rw [wipe_set hv]
    · have e : i = v := by rcases List.mem_cons.mp h with e | e; exact e; exact absurd e hv
      subst e
      have : ∀ vs : List Nat, i ∉ vs → L2.wipe (σ.set i x) vs = (L2.wipe σ vs).set i x := by
        intro vs
        induction vs with
        | nil => intro _; rfl
        | cons v vs ih =>
          intro hn
          simp only [List.mem_cons, not_or] at hn
          unfold L2.wipe
          rw [ih hn.2, List.set_comm _ _ hn.1]
      rw [this vs hv, List.set_set]
theorem wipe_wipe (σ : L2.St) (vs : List Nat) : L2.wipe (L2.wipe σ vs) vs = L2.wipe σ vs := by
  have : ∀ (us : List Nat), (∀ u ∈ us, u ∈ vs) → L2.wipe (L2.wipe σ us) vs = L2.wipe σ vs := by
    intro us
    induction us with
    | nil => intro _; rfl
    | cons u us ih =>
      intro h
      show L2.wipe ((L2.wipe σ us).set u none) vs = _
      rw [wipe_set (h u List.mem_cons_self), ih fun u hu => h u (List.mem_cons_of_mem _ hu)]
  exact this vs fun _ h => h
def mG (F : Fx) (K : PySem.W.Frag) (t : Tg) : TG := fun v σ' H Q => ∃ φ h σ d σ1, Sim F K φ h H ∧ RE K φ H σ σ' ∧ RD K φ H d v ∧ asT t d σ = some σ1 ∧ ∀ σ1', RE K φ H σ1 σ1' → (∀ own, t.within own = true → L2.wipe σ1' own = L2.wipe σ' own) → Q σ1' H
def mGs (F : Fx) (K : PySem.W.Frag) (t : Tgs) : TGs := fun v σ' H Q => ∃ φ h σ d σ1, Sim F K φ h H ∧ RE K φ H σ σ' ∧ RDs K φ H d v ∧ asTs t d σ = some σ1 ∧ ∀ σ1', RE K φ H σ1 σ1' → (∀ own, t.within own = true → L2.wipe σ1' own = L2.wipe σ' own) → Q σ1' H
section
variable {F : Fx} {X : Cx} {W : XK} {C : Nat → List D → Hh → R D} {k : Nat} {e a b c o tg : Expr} {es : List Expr} {pos p apos : Pos}
theorem sg_nm {i : Nat} {x : Str} (hN : X.N.Nodup) (hi : X.N[i]? = some x) (hx : Loc X.env.scope x) (hf : X.fn x = true ∨ X.env.scope.names.lookup x = some .local) : PG X (.Name x pos) (mG F X.K (.nm i)) := by
  refine ⟨fun pins s σ' H v u Q I r ⟨φ, h, σ, d, σ1, S, E, r1, e1, q⟩ => (pg_name hN hi hx hf).run pins s σ' H v u Q I r ?_⟩
  cases e1
  refine q _ (E.set r1) fun own ho => wipe_set ?_
  simpa [Tg.within] using ho
theorem sgs_nil : PGs X [] (mGs F X.K .nil) := by
  refine ⟨fun pins s σ' H v u Q I r ⟨φ, h, σ, d, σ1, S, E, r1, e1, q⟩ => pgs_nil.run pins s σ' H v u Q I r ?_⟩
  cases r1 with
  | nil => cases e1; exact ⟨rfl, q _ E fun _ _ => rfl⟩
  | cons _ _ => cases e1
theorem sgs_cons {t : Tg} {ts : Tgs} (h1 : PG X e (mG F X.K t)) (h2 : PGs X es (mGs F X.K ts)) (hs : (assignEach (e :: es) X.env).map (·.2) = assign e X.env :: (assignEach es X.env).map (·.2)) : PGs X (e :: es) (mGs F X.K (.cons t ts)) := by
  refine ⟨fun pins s σ' H v u Q I r ⟨φ, h, σ, d, σ1, S, E, r1, e1, q⟩ => (pgs_cons h1 h2 hs).run pins s σ' H v u Q I r ?_⟩
  cases r1 with
  | nil => cases e1
  | cons r1 rr =>
    unfold asTs at e1
    dsimp only at e1
    split at e1
    · cases e1
    · rename_i σ2 e2
      refine ⟨_, _, rfl, φ, h, σ, _, σ2, S, E, r1, e2, fun σ2' E2 w2 => ⟨φ, h, σ2, _, σ1, S, E2, rr, e1, fun σ1' E1 w1 => q σ1' E1 fun own ho => ?_⟩⟩
      simp only [Tgs.within, Bool.and_eq_true] at ho
      rw [w1 own ho.2, w2 own ho.1]
theorem sg_tup {j : Nat} {ts : Tgs} (hc : X.calm = true) (hh : PGs X es (mGs F X.K ts)) (hn : (assignEach es X.env).length = ts.len) (hst : (assignEach es X.env).findIdx? (·.1) = none) : PG X (.Tuple es j pos) (mG F X.K (.tup ts)) := by
  refine ⟨fun pins s σ' H v u Q I r ⟨φ, h, σ, d, σ1, S, E, r1, e1, q⟩ => (pg_tup hc hh hn hst).run pins s σ' H v u Q I r ?_⟩
  unfold asT at e1
  split at e1
  · cases r1 with
    | tup t rs => exact ⟨_, _, rfl, t, by rw [← rs.length, asTs_len e1], φ, h, σ, _, σ1, S, E, rs, e1, q⟩
  · cases e1

/-! ### comprehensions -/
theorem Sim.out {φ : List Addr} {h : Hh} {H : Hp} (S : Sim F X.K φ h H) {A : Addr} {vs ws : List V} (e : H A = some (.lst vs)) (m : A ∉ φ) : Sim F X.K φ h (upd H A (.lst ws)) ∧ Up X.K φ H φ (upd H A (.lst ws)) := by
  have up : Up X.K φ H φ (upd H A (.lst ws)) := ⟨fun e => e, fun {p us} t => ?_, fun {p us} t => ?_⟩
  · exact ⟨⟨S.len, S.inj, fun a o q => by
      obtain ⟨p, e1, r⟩ := S.obj a o q
      exact ⟨p, e1, r.mono up (upd_ne fun z => by subst z; exact m (List.mem_of_getElem? e1))⟩⟩, up⟩
  · rcases t with (t | ⟨o, t⟩) | t
    · exact .inl (.inl ((upd_ne fun z => by subst z; rw [e] at t; cases t).trans t))
    · exact .inl (.inr ⟨o, (upd_ne fun z => by subst z; rw [e] at t; cases t).trans t⟩)
    · exact .inr t
  · rcases t with ⟨o, t⟩ | t
    · exact .inl ⟨o, (upd_ne fun z => by subst z; rw [e] at t; cases t).trans t⟩
    · exact .inr t
theorem Ext.outU {φ φ' : List Addr} {H H' : Hp} (x : Ext φ H φ' H') {A : Addr} {u : HO} (n : H A = none) : Ext φ H φ' (upd H' A u) :=
  ⟨x.pre, x.new, fun p o e m => (upd_ne fun z => by subst z; rw [n] at e; cases e).trans (x.keep p o e m), fun p o w e => (upd_ne fun z => by subst z; rw [n] at e; cases e).trans (x.frz p o w e)⟩
/-- the loop of a list comprehension -/
theorem lc_run {iv : Iv} {J : L2.It} {φ1 : List Addr} {H1 : Hp} {h1 : Hh} {σ : Sto} {σ' : L2.St} {A : Addr} {t : Tg} {own : List Nat} {mt : Sto → Hh → R Bool} {me : Sto → Hh → R D} {r0 : List D} {hE : Hh} {Q : VK}
    (S1 : Sim F X.K φ1 h1 H1) (E1 : RE X.K φ1 H1 σ σ') (ri : RI F X.K φ1 H1 iv J) (hA : H1 A = none) (hl : iv.n ≤ LIM) (ht : t.within own = true)
    (e0 : lcGo iv.fin iv.get (fun x => asT t x (wipe σ own)) (fun σ1 h => (mt σ1 h).nox) (fun σ1 h => (me σ1 h).nox) iv.n 0 h1 = .ok r0 hE)
    (hq : ∀ φ2 H2 vs, Ext φ1 H1 φ2 H2 → Sim F X.K φ2 hE H2 → A ∉ φ2 → H2 A = some (.lst vs) → RDs X.K φ2 H2 r0 vs → Q (.ref A) H2) :
    ∃ W : Nat → Nat → Hp → Prop, (∃ m, W 0 m (upd H1 A (.lst []))) ∧ ∀ i m H, W i m H →
      (J.stop i H ∧ Q (.ref A) H) ∨ (J.go i H ∧ ∃ Nx : Hp → Prop, (∀ H', Nx H' → ∃ m', m' < m ∧ W (i + 1) m' H') ∧ ∀ x H', J.yld i H x H' → mG F X.K t x (L2.wipe σ' own) H' fun σ2 H2 => L2.wipe σ2 own = L2.wipe σ' own ∧ mB F X.K WE0 mt σ2 H2 fun b H3 =>
        if b = true then mE F X.K WE0 me σ2 H3 fun y H4 => ∃ acc, H4 A = some (.lst acc) ∧ acc.length < sizeLine ∧ Nx (upd H4 A (.lst (acc ++ [y]))) else Nx H3) := by
  let go := lcGo iv.fin iv.get (fun x => asT t x (wipe σ own)) (fun σ1 h => (mt σ1 h).nox) (fun σ1 h => (me σ1 h).nox)
  let Pv : Nat → Nat → Hp → Prop := fun i m H => m = iv.n - i ∧ i ≤ iv.n ∧ ∃ φ h acc vs, Ext φ1 H1 φ H ∧ Sim F X.K φ h H ∧ A ∉ φ ∧ H A = some (.lst vs) ∧ RDs X.K φ H acc vs ∧ vs.length ≤ i ∧ (go (iv.n - i) i h).bnd (fun ws h3 => .ok (acc ++ ws) h3) = .ok r0 hE
  refine ⟨Pv, ⟨iv.n, rfl, Nat.zero_le _, φ1, h1, [], [], Ext.more hA, S1.more hA, S1.free hA, upd_same, .nil, Nat.le_refl _, ?_⟩, ?_⟩
  · show (go iv.n 0 h1).bnd _ = _
    rw [show go iv.n 0 h1 = .ok r0 hE from e0]; rfl
  rintro i m H ⟨rfl, hi, φ, h, acc, vs, x1, S, mA, eA, rA, lA, e1⟩
  by_cases hlt : i < iv.n
  · right
    obtain ⟨n, hn⟩ : ∃ n, iv.n - i = n + 1 := ⟨iv.n - i - 1, by omega⟩
    rw [hn] at e1
    have e1 : ((lcGo iv.fin iv.get (fun x => asT t x (wipe σ own)) (fun σ1 h => (mt σ1 h).nox) (fun σ1 h => (me σ1 h).nox) (n + 1) i h).bnd (fun ws h3 => .ok (acc ++ ws) h3)) = .ok r0 hE := e1
    unfold lcGo at e1
    split at e1
    · cases e1
    rename_i d ed
    refine ⟨ri.go i φ h H d hlt x1 S ed, fun H' => Pv (i + 1) n H', fun H' w => ⟨n, by omega, w⟩, fun x H' y => ?_⟩
    obtain ⟨x2, S2, rd⟩ := ri.yld i φ h H d x H' hlt x1 S ed y
    split at e1
    · cases e1
    rename_i σ2 eb
    have E2 : RE X.K φ H' (wipe σ own) (L2.wipe σ' own) := ((E1.mono (S1.up x1)).mono (S.up x2)).wipe own
    refine ⟨φ, h, _, d, σ2, S2, E2, rd, eb, fun σ2' E3 w3 => ⟨?_, ?_⟩⟩
    · rw [w3 own ht, wipe_wipe]
    have X2 := x1.trans x2
    have eA2 : H' A = some (.lst vs) := x2.keep _ _ eA mA
    have rA2 := rA.mono (S.up x2)
    rw [R.bnd_assoc] at e1
    refine ⟨φ, h, σ2, S2, E3, ?_⟩
    cases q3 : mt σ2 h with
    | bad => rw [q3] at e1; cases e1
    | exc z hz => rw [q3] at e1; cases e1
    | ok b h3 =>
      rw [q3] at e1
      intro φ3 H3 b' x3 S3 eb'
      subst eb'
      have X3 := X2.trans x3
      have mA3 : A ∉ φ3 := x3.out eA2 mA
      have eA3 : H3 A = some (.lst vs) := x3.keep _ _ eA2 mA
      have rA3 := rA2.mono (S2.up x3)
      have hn1 : n = iv.n - (i + 1) := by omega
      cases b with
      | false =>
        rw [if_neg Bool.false_ne_true]
        exact ⟨hn1, hlt, φ3, h3, acc, vs, X3, S3, mA3, eA3, rA3, by omega, by rw [← hn1]; exact e1⟩
      | true =>
        rw [if_pos rfl]
        refine ⟨φ3, h3, σ2, S3, E3.mono (S2.up x3), ?_⟩
        simp only [R.nox_ok, R.bnd_ok] at e1
        cases q4 : me σ2 h3 with
        | bad => rw [q4] at e1; cases e1
        | exc z hz => rw [q4] at e1; cases e1
        | ok w h4 =>
          rw [q4] at e1
          simp only [R.nox_ok, R.bnd_ok] at e1
          intro φ4 H4 y x4 S4 rw4
          have mA4 : A ∉ φ4 := x4.out eA3 mA3
          have eA4 : H4 A = some (.lst vs) := x4.keep _ _ eA3 mA3
          have rA4 := rA3.mono (S3.up x4)
          obtain ⟨S5, up5⟩ := Sim.out (ws := vs ++ [y]) S4 eA4 mA4
          refine ⟨vs, eA4, by have : LIM < sizeLine := by decide
                              omega, hn1, hlt, φ4, h4, acc ++ [w], vs ++ [y], (X3.trans x4).outU hA, S5, mA4, upd_same, (rA4.append (.cons rw4 .nil)).mono up5, by simp; omega, ?_⟩
          rw [← hn1]
          rw [R.bnd_assoc] at e1
          rw [← e1]
          congr 1
          funext a b
          simp
  · left
    have e : i = iv.n := by omega
    subst e
    rw [Nat.sub_self] at e1
    have e1 : ((lcGo iv.fin iv.get (fun x => asT t x (wipe σ own)) (fun σ1 h => (mt σ1 h).nox) (fun σ1 h => (me σ1 h).nox) 0 iv.n h).bnd (fun ws h3 => .ok (acc ++ ws) h3)) = .ok r0 hE := e1
    unfold lcGo at e1
    split at e1
    · rename_i hf
      rw [R.bnd_ok] at e1
      cases e1
      rw [List.append_nil] at hq
      exact ⟨ri.stop φ _ H x1 S hf, hq φ H vs x1 S mA eA rA⟩
    · cases e1
end
end PI

set_option maxRecDepth 100000
set_option maxHeartbeats 2000000
/-! PIj: comprehensions, built-in functions and methods. -/
namespace PI
open PySem PySem.Spec PyProof.Rows L2
section
variable {F : Fx} {X : Cx} {W : XK} {C : Nat → List D → Hh → R D} {k : Nat} {e a b c o tg f : Expr} {es : List Expr} {pos p apos cpos : Pos}
theorem lcGo_noexc {fin : Hh → Bool} {get : Hh → Nat → Option D} {bind : D → Option Sto} {mt : Sto → Hh → R Bool} {me : Sto → Hh → R D} {z : Nat} {hz : Hh} : ∀ (n i : Nat) (h : Hh), lcGo fin get bind (fun σ1 h => (mt σ1 h).nox) (fun σ1 h => (me σ1 h).nox) n i h ≠ .exc z hz
  | 0, i, h, e => by unfold lcGo at e; split at e <;> cases e
  | n + 1, i, h, e => by
    unfold lcGo at e
    split at e
    · cases e
    split at e
    · cases e
    rename_i x ex σ es
    cases q : mt σ h with
    | bad => rw [q] at e; cases e
    | exc _ _ => rw [q] at e; cases e
    | ok b h1 =>
      rw [q] at e
      cases b with
      | false => exact lcGo_noexc n _ _ e
      | true =>
        simp only [R.nox_ok, R.bnd_ok] at e
        cases q2 : me σ h1 with
        | bad => rw [q2] at e; cases e
        | exc _ _ => rw [q2] at e; cases e
        | ok v h2 =>
          rw [q2] at e
          simp only [R.nox_ok, R.bnd_ok] at e
          cases q3 : lcGo fin get bind (fun σ1 h => (mt σ1 h).nox) (fun σ1 h => (me σ1 h).nox) n (i + 1) h2 with
          | bad => rw [q3] at e; cases e
          | exc _ _ =>
            rw [q3] at e
            have e : R.exc _ _ = R.exc _ _ := e
            cases e
            exact lcGo_noexc n _ _ q3
          | ok _ _ => rw [q3] at e; cases e
theorem lc_wish {x : E} {t : Tg} {it : It} {c : OE} {own : List Nat} {σ' : L2.St} {H : Hp} {Q : VK} (ht : t.within own = true) (h : mL F X.K W (evL F.P C (.comp x t it c own)) σ' H Q) :
    tLc (mI F X.K W (evIt F.P C it)) (mG F X.K t) (mB F X.K WE0 (evC F.P C c)) (mE F X.K WE0 (ev F.P C x)) own σ' H Q := by
  obtain ⟨φ, h0, σ, S, E, kt⟩ := h
  refine ⟨φ, h0, σ, S, E, ?_⟩
  simp only [evL] at kt
  refine kt.bndB fun J h1 φ1 H1 J' _ x1 S1 r1 k1 => ?_
  intro A hA
  split at k1
  · rename_i hl
    cases q : lcGo J.fin J.get (fun x => asT t x (wipe σ own)) (fun σ1 h => (evC F.P C c σ1 h).nox) (fun σ1 h => (ev F.P C x σ1 h).nox) J.n 0 h1 with
    | bad => rw [q] at k1; exact k1.elim
    | exc z hz => exact absurd q (lcGo_noexc _ _ _)
    | ok vs h2 =>
      rw [q] at k1
      exact lc_run S1 (E.mono (S.up x1)) r1 hA hl ht q fun φ2 H2 ws x2 S2 mA eA rA =>
        k1 φ2 H2 (.ref A) (x1.trans x2) S2 ⟨A, ws, rfl, Ext.fresh S1 x1 hA, mA, eA, rA⟩
  · exact k1.elim
/-- a comprehension's parts -/
structure CompOk (F : Fx) (X : Cx) (W : XK) (C : Nat → List D → Hh → R D) (tg iter : Expr) (ifs : List Expr) (scope : Scope) (own : List (Str × Nat)) (t : Tg) (it : It) (c : OE) : Prop where
  nd : X.N.Nodup
  it : SI F X W tg iter (evIt F.P C it)
  ok : BlkOk X.N X.env.scope scope own
  g : ∀ (s : Shared) (H : Hp) (A : Addr) (cl : List (Str × Addr)) (fp : List Addr), PG (X.blk s H scope (compEnvC scope cl A X.env) fp) tg (mG F X.K t)
  ts : ∀ (s : Shared) (H : Hp) (A : Addr) (cl : List (Str × Addr)) (fp : List Addr), PTs (X.blk s H scope (compEnvC scope cl A X.env) fp) ifs (mB F X.K WE0 (evC F.P C c))
  s : ∀ x, foldedSetIterable iter X.env x = pure x
  w : Tg.within (own.map (·.2)) t = true
theorem sl_comp {x : E} {t : Tg} {it : It} {co : OE} {ifs : List Expr} {scope : Scope} {own : List (Str × Nat)} {elt tg iter : Expr} (hc : X.calm = true) (c : CompOk F X W C tg iter ifs scope own t it co)
    (he : ∀ (s : Shared) (H : Hp) (A : Addr) (cl : List (Str × Addr)) (fp : List Addr), SE F (X.blk s H scope (compEnvC scope cl A X.env) fp) WE0 elt (ev F.P C x)) :
    SL F X W (.ListComp elt [⟨tg, iter, ifs, 0⟩] scope pos) (evL F.P C (.comp x t it co (own.map (·.2)))) :=
  ⟨fun pins s σ' H Q I h => (pe_lc hc c.nd c.it c.ok c.g c.ts he c.s).run pins s σ' H Q I (lc_wish c.w h)⟩
theorem pts_no : PTs X [] (mB F X.K W (evC F.P C .none)) := by
  refine ⟨fun pins s σ' H Q I ⟨φ, h, σ, S, E, kt⟩ => pts_nil.run pins s σ' H Q I ?_⟩
  simp only [evC] at kt
  exact Kt.ok kt S rfl
theorem pts_if {x : E} (h : PT X a (mB F X.K W (tst (ev F.P C x)))) : PTs X [a] (mB F X.K W (evC F.P C (.some x))) := by
  have e : evC F.P C (.some x) = tst (ev F.P C x) := by
    funext σ h
    simp only [evC, tst]
    try congr 1
  rw [e]
  exact pts_one h
/-- a display, a new list -/
def L.fresh : L → Bool
  | .of _ => false
  | _ => true
theorem L.new {l : L} {σ : Sto} {h h1 : Hh} {v : LV} (hf : l.fresh = true) (e : evL F.P C l σ h = .ok v h1) : ∃ xs, v = .new xs := by
  have bnd : ∀ {α : Type} {r : R α} {g : α → Hh → R LV}, (∀ a h2, g a h2 = .ok v h1 → ∃ xs, v = .new xs) → r.bnd g = .ok v h1 → ∃ xs, v = .new xs := fun {α r g} hg e => by
    cases r with
    | ok a h2 => exact hg a h2 e
    | exc _ _ => cases e
    | bad => cases e
  cases l with
  | of _ => cases hf
  | lit es =>
    simp only [evL] at e
    refine bnd (fun a h2 e => ?_) e
    split at e <;> cases e
    exact ⟨_, rfl⟩
  | comp x t it c own =>
    simp only [evL] at e
    refine bnd (fun a h2 e => ?_) e
    split at e
    · refine bnd (fun a h2 e => ?_) e
      cases e; exact ⟨_, rfl⟩
    · cases e
  | cat x y =>
    simp only [evL] at e
    refine bnd (fun a h2 e => bnd (fun b h3 e => ?_) e) e
    split at e
    · split at e <;> cases e
      exact ⟨_, rfl⟩
    · split at e
      · split at e <;> cases e
        exact ⟨_, rfl⟩
      · cases e
    · split at e
      · split at e <;> cases e
        exact ⟨_, rfl⟩
      · cases e
    · cases e
  | sorted x =>
    simp only [evL] at e
    refine bnd (fun a h2 e => ?_) e
    split at e
    · cases e
    split at e
    · split at e <;> cases e
      exact ⟨_, rfl⟩
    · cases e
theorem lst_wish {l : L} {σ' : L2.St} {H : Hp} {Q : VK} (hf : l.fresh = true) (h : mE F X.K W (ev F.P C (.lst l)) σ' H Q) : mL F X.K W (evL F.P C l) σ' H Q := by
  obtain ⟨φ, h0, σ, S, E, kt⟩ := h
  refine ⟨φ, h0, σ, S, E, ?_⟩
  simp only [ev] at kt
  refine kt.bndB fun v h1 φ1 H1 w ev x1 S1 r1 k1 => ?_
  obtain ⟨xs, rfl⟩ := L.new hf ev
  obtain ⟨q, vs, rfl, h0, m, e1, r⟩ := r1
  refine (show Kt F X.K W φ H (.ok (.ref h1.length) (h1 ++ [.lst xs])) (RD X.K) Q from k1) (φ1 ++ [q]) H1 (.ref q) ?_ (S1.add m ⟨vs, e1, r.mono Up.grow⟩) (.ref (by simp [← S1.len]))
  refine ⟨?_, fun z hz => ?_, x1.keep, x1.frz⟩
  · obtain ⟨ψ, e⟩ := x1.pre
    exact ⟨ψ ++ [q], by rw [e, List.append_assoc]⟩
  · rcases List.mem_append.mp hz with hz | hz
    · exact x1.new z hz
    · rw [List.mem_singleton.mp hz]; exact .inr h0
theorem se_lst {l : L} (hf : l.fresh = true) (h : SL F X W e (evL F.P C l)) : SE F X W e (ev F.P C (.lst l)) :=
  ⟨fun pins s σ' H Q I hw => h.run pins s σ' H Q I (lst_wish hf hw)⟩
/-! ### dict comprehensions -/
theorem Sim.outD {φ : List Addr} {h : Hh} {H : Hp} (S : Sim F X.K φ h H) {A : Addr} {vs ws : List (Key × V)} (e : H A = some (.dK vs)) (m : A ∉ φ) : Sim F X.K φ h (upd H A (.dK ws)) ∧ Up X.K φ H φ (upd H A (.dK ws)) := by
  have up : Up X.K φ H φ (upd H A (.dK ws)) := ⟨fun e => e, fun {p us} t => ?_, fun {p us} t => ?_⟩
  · exact ⟨⟨S.len, S.inj, fun a o q => by
      obtain ⟨p, e1, r⟩ := S.obj a o q
      exact ⟨p, e1, r.mono up (upd_ne fun z => by subst z; exact m (List.mem_of_getElem? e1))⟩⟩, up⟩
  · rcases t with (t | ⟨o, t⟩) | t
    · exact .inl (.inl ((upd_ne fun z => by subst z; rw [e] at t; cases t).trans t))
    · exact .inl (.inr ⟨o, (upd_ne fun z => by subst z; rw [e] at t; cases t).trans t⟩)
    · exact .inr t
  · rcases t with ⟨o, t⟩ | t
    · exact .inl ⟨o, (upd_ne fun z => by subst z; rw [e] at t; cases t).trans t⟩
    · exact .inr t
theorem dcGo_noexc {fin : Hh → Bool} {get : Hh → Nat → Option D} {bind : D → Option Sto} {mk mv : Sto → Hh → R D} {z : Nat} {hz : Hh} : ∀ (n i : Nat) (acc : List (Int × D)) (h : Hh), dcGo fin get bind (fun σ1 h => (mk σ1 h).nox) (fun σ1 h => (mv σ1 h).nox) n i acc h ≠ .exc z hz
  | 0, i, acc, h, e => by unfold dcGo at e; split at e <;> cases e
  | n + 1, i, acc, h, e => by
    unfold dcGo at e
    split at e
    · cases e
    split at e
    · cases e
    rename_i x ex σ es
    cases q : mk σ h with
    | bad => rw [q] at e; cases e
    | exc _ _ => rw [q] at e; cases e
    | ok d h1 =>
      rw [q] at e
      simp only [R.nox_ok, R.bnd_ok] at e
      cases q2 : mv σ h1 with
      | bad => rw [q2] at e; cases e
      | exc _ _ => rw [q2] at e; cases e
      | ok v h2 =>
        rw [q2] at e
        simp only [R.nox_ok, R.bnd_ok] at e
        split at e
        · exact dcGo_noexc n _ _ _ e
        · cases e
theorem dput_length (kvs : List (Int × D)) (k : Int) (v : D) : (dput kvs k v).length ≤ kvs.length + 1 := by
  unfold dput
  split <;> simp
theorem dc_run {iv : Iv} {J : L2.It} {φ1 : List Addr} {H1 : Hp} {h1 : Hh} {σ : Sto} {σ' : L2.St} {A : Addr} {t : Tg} {own : List Nat} {mk mv : Sto → Hh → R D} {r0 : List (Int × D)} {hE : Hh} {Q : VK}
    (S1 : Sim F X.K φ1 h1 H1) (E1 : RE X.K φ1 H1 σ σ') (ri : RI F X.K φ1 H1 iv J) (hA : H1 A = none) (hl : iv.n ≤ LIM) (ht : t.within own = true)
    (e0 : dcGo iv.fin iv.get (fun x => asT t x (wipe σ own)) (fun σ1 h => (mk σ1 h).nox) (fun σ1 h => (mv σ1 h).nox) iv.n 0 [] h1 = .ok r0 hE)
    (hq : ∀ φ2 H2 vs, Ext φ1 H1 φ2 H2 → Sim F X.K φ2 hE H2 → A ∉ φ2 → H2 A = some (.dK vs) → RKs X.K φ2 H2 r0 vs → Q (.ref A) H2) :
    ∃ W : Nat → Nat → Hp → Prop, (∃ m, W 0 m (upd H1 A (.dK []))) ∧ ∀ i m H, W i m H →
      (J.stop i H ∧ Q (.ref A) H) ∨ (J.go i H ∧ ∃ Nx : Hp → Prop, (∀ H', Nx H' → ∃ m', m' < m ∧ W (i + 1) m' H') ∧ ∀ x H', J.yld i H x H' → mG F X.K t x (L2.wipe σ' own) H' fun σ2 H2 => L2.wipe σ2 own = L2.wipe σ' own ∧ tYes σ2 H2 fun b H3 =>
        if b = true then mE F X.K WE0 mk σ2 H3 fun y H4 => mE F X.K WE0 mv σ2 H4 fun z H5 => ∃ kvs k, y = kV k ∧ H5 A = some (.dK kvs) ∧ kvs.length < sizeLine ∧ Nx (upd H5 A (.dK (putK kvs k z))) else Nx H3) := by
  let go := dcGo iv.fin iv.get (fun x => asT t x (wipe σ own)) (fun σ1 h => (mk σ1 h).nox) (fun σ1 h => (mv σ1 h).nox)
  let Pv : Nat → Nat → Hp → Prop := fun i m H => m = iv.n - i ∧ i ≤ iv.n ∧ ∃ φ h acc vs, Ext φ1 H1 φ H ∧ Sim F X.K φ h H ∧ A ∉ φ ∧ H A = some (.dK vs) ∧ RKs X.K φ H acc vs ∧ vs.length ≤ i ∧ go (iv.n - i) i acc h = .ok r0 hE
  refine ⟨Pv, ⟨iv.n, rfl, Nat.zero_le _, φ1, h1, [], [], Ext.more hA, S1.more hA, S1.free hA, upd_same, .nil, Nat.le_refl _, e0⟩, ?_⟩
  rintro i m H ⟨rfl, hi, φ, h, acc, vs, x1, S, mA, eA, rA, lA, e1⟩
  by_cases hlt : i < iv.n
  · right
    obtain ⟨n, hn⟩ : ∃ n, iv.n - i = n + 1 := ⟨iv.n - i - 1, by omega⟩
    rw [hn] at e1
    have e1 : dcGo iv.fin iv.get (fun x => asT t x (wipe σ own)) (fun σ1 h => (mk σ1 h).nox) (fun σ1 h => (mv σ1 h).nox) (n + 1) i acc h = .ok r0 hE := e1
    unfold dcGo at e1
    split at e1
    · cases e1
    rename_i d ed
    refine ⟨ri.go i φ h H d hlt x1 S ed, fun H' => Pv (i + 1) n H', fun H' w => ⟨n, by omega, w⟩, fun x H' y => ?_⟩
    obtain ⟨x2, S2, rd⟩ := ri.yld i φ h H d x H' hlt x1 S ed y
    split at e1
    · cases e1
    rename_i σ2 eb
    have E2 : RE X.K φ H' (wipe σ own) (L2.wipe σ' own) := ((E1.mono (S1.up x1)).mono (S.up x2)).wipe own
    refine ⟨φ, h, _, d, σ2, S2, E2, rd, eb, fun σ2' E3 w3 => ⟨?_, ?_⟩⟩
    · rw [w3 own ht, wipe_wipe]
    have X2 := x1.trans x2
    have eA2 : H' A = some (.dK vs) := x2.keep _ _ eA mA
    have rA2 := rA.mono (S.up x2)
    unfold tYes
    dsimp only
    rw [if_pos rfl]
    refine ⟨φ, h, σ2, S2, E3, ?_⟩
    have hn1 : n = iv.n - (i + 1) := by omega
    cases q3 : mk σ2 h with
    | bad => rw [q3] at e1; cases e1
    | exc z hz => rw [q3] at e1; cases e1
    | ok dk h3 =>
      rw [q3] at e1
      intro φ3 H3 kv x3 S3 rk3
      have X3 := X2.trans x3
      have mA3 : A ∉ φ3 := x3.out eA2 mA
      have eA3 : H3 A = some (.dK vs) := x3.keep _ _ eA2 mA
      have rA3 := rA2.mono (S2.up x3)
      refine ⟨φ3, h3, σ2, S3, E3.mono (S2.up x3), ?_⟩
      simp only [R.nox_ok, R.bnd_ok] at e1
      cases q4 : mv σ2 h3 with
      | bad => rw [q4] at e1; cases e1
      | exc z hz => rw [q4] at e1; cases e1
      | ok w h4 =>
        rw [q4] at e1
        simp only [R.nox_ok, R.bnd_ok] at e1
        intro φ4 H4 y x4 S4 rw4
        have mA4 : A ∉ φ4 := x4.out eA3 mA3
        have eA4 : H4 A = some (.dK vs) := x4.keep _ _ eA3 mA3
        have rA4 := rA3.mono (S3.up x4)
        split at e1
        · rename_i ki
          cases rk3
          obtain ⟨S5, up5⟩ := Sim.outD (ws := putK vs (Sum.inl ki) y) S4 eA4 mA4
          have lp := length_putK vs (Sum.inl ki) y
          refine ⟨vs, Sum.inl ki, rfl, eA4, by have : LIM < sizeLine := by decide
                                               omega, hn1, hlt, φ4, h4, dput acc ki w, putK vs (Sum.inl ki) y, (X3.trans x4).outU hA, S5, mA4, upd_same, (rA4.put ki rw4).mono up5, by omega, ?_⟩
          rw [← hn1]
          exact e1
        · cases e1
  · left
    have e : i = iv.n := by omega
    subst e
    rw [Nat.sub_self] at e1
    have e1 : dcGo iv.fin iv.get (fun x => asT t x (wipe σ own)) (fun σ1 h => (mk σ1 h).nox) (fun σ1 h => (mv σ1 h).nox) 0 iv.n acc h = .ok r0 hE := e1
    unfold dcGo at e1
    split at e1
    · rename_i hf
      cases e1
      exact ⟨ri.stop φ _ H x1 S hf, hq φ H vs x1 S mA eA rA⟩
    · cases e1
/-- a tracked dict is told to the interpreter's heap -/
theorem Kt.tellD {φ0 φ1 : List Addr} {H0 H1 : Hp} {h1 : Hh} {A : Addr} {kvs : List (Int × D)} {vs : List (Key × V)} {Q : VK} (x1 : Ext φ0 H0 φ1 H1) (S1 : Sim F X.K φ1 h1 H1) (h0 : H0 A = none) (m : A ∉ φ1) (e1 : H1 A = some (.dK vs)) (r : RKs X.K φ1 H1 kvs vs)
    (k : Kt F X.K W φ0 H0 (PI.alloc h1 (.dct kvs)) (RD X.K) Q) : Q (.ref A) H1 := by
  refine (show Kt F X.K W φ0 H0 (.ok (.ref h1.length) (h1 ++ [.dct kvs])) (RD X.K) Q from k) (φ1 ++ [A]) H1 (.ref A) ?_ (S1.add m ⟨vs, e1, r.mono Up.grow⟩) (.ref (by simp [← S1.len]))
  refine ⟨?_, fun z hz => ?_, x1.keep, x1.frz⟩
  · obtain ⟨ψ, e⟩ := x1.pre
    exact ⟨ψ ++ [A], by rw [e, List.append_assoc]⟩
  · rcases List.mem_append.mp hz with hz | hz
    · exact x1.new z hz
    · rw [List.mem_singleton.mp hz]; exact .inr h0
theorem se_dc {kx vx : Expr} {x y : E} {t : Tg} {it : It} {scope : Scope} {own : List (Str × Nat)} {tg iter : Expr} (hc : X.calm = true) (c : CompOk F X W C tg iter [] scope own t it .none)
    (hk : ∀ (s : Shared) (H : Hp) (A : Addr) (cl : List (Str × Addr)) (fp : List Addr), SE F (X.blk s H scope (compEnvC scope cl A X.env) fp) WE0 kx (ev F.P C x))
    (hv : ∀ (s : Shared) (H : Hp) (A : Addr) (cl : List (Str × Addr)) (fp : List Addr), SE F (X.blk s H scope (compEnvC scope cl A X.env) fp) WE0 vx (ev F.P C y)) :
    SE F X W (.DictComp kx vx [⟨tg, iter, [], 0⟩] scope pos) (ev F.P C (.dc x y t it (own.map (·.2)))) := by
  refine ⟨fun pins s σ' H Q I ⟨φ, h0, σ, S, E, kt⟩ => (pe_dc (tk := mE F X.K WE0 (ev F.P C x)) (tv := mE F X.K WE0 (ev F.P C y)) hc c.nd c.it c.ok c.g (fun _ _ _ _ _ => pts_nil) hk hv c.s).run pins s σ' H Q I ⟨φ, h0, σ, S, E, ?_⟩⟩
  simp only [ev] at kt
  refine kt.bndB fun J h1 φ1 H1 J' _ x1 S1 r1 k1 => ?_
  intro A hA
  split at k1
  · rename_i hl
    cases q : dcGo J.fin J.get (fun x => asT t x (wipe σ (own.map (·.2)))) (fun σ1 h => (ev F.P C x σ1 h).nox) (fun σ1 h => (ev F.P C y σ1 h).nox) J.n 0 [] h1 with
    | bad => rw [q] at k1; exact k1.elim
    | exc z hz => exact absurd q (dcGo_noexc _ _ _ _)
    | ok vs h2 =>
      rw [q] at k1
      exact dc_run S1 (E.mono (S.up x1)) r1 hA hl c.w q fun φ2 H2 ws x2 S2 mA eA rA =>
        Kt.tellD (x1.trans x2) S2 (Ext.fresh S1 x1 hA) mA eA rA k1
  · exact k1.elim
end
end PI

set_option maxRecDepth 100000
set_option maxHeartbeats 2000000
/-! PIk: the items of a locked dict; built-in functions and methods. -/
namespace PI
open PySem PySem.Spec PyProof.Rows L2
section
variable {F : Fx} {K : PySem.W.Frag} {φ φ' : List Addr} {h : Hh} {H H' H0 : Hp}
theorem RKs.get {kvs : List (Int × D)} {kv : List (Key × V)} (r : RKs K φ H kvs kv) : ∀ {i : Nat} {x : Int × D}, kvs[i]? = some x → ∃ v, kv[i]? = some (Sum.inl x.1, v) ∧ RD K φ H x.2 v := by
  induction r with
  | nil => intro i x e; simp at e
  | @cons j d xs v vs q _ ih =>
    intro i x e
    cases i with
    | zero => simp at e; subst e; exact ⟨v, rfl, q⟩
    | succ i => simp at e; obtain ⟨u, h1, h2⟩ := ih e; exact ⟨u, by simpa using h1, h2⟩
theorem ri_items {p : Addr} {o : Obj} {kvs : List (Int × D)} {kv : List (Key × V)} (e : H p = some (.frz o (.dK kv))) (S : Sim F K φ h H) (r : RKs K φ H kvs kv) : RI F K φ H ⟨kvs.length, fun _ => kvAt kvs, fun _ => true⟩ (Iti p o kv) where
  go := fun i φ' h' H' d hi x S' _ => ⟨x.frz _ _ _ e, by rw [← r.length]; exact hi⟩
  yld := fun i φ' h' H' d x' H'' hi x S' ed y => by
    obtain ⟨T, k, v, h1, rfl, hT, rfl⟩ := y
    obtain ⟨kd, h2, rfl⟩ := Option.map_eq_some_iff.mp ed
    obtain ⟨w, h3, rw'⟩ := r.get h2
    rw [h3] at h1
    cases h1
    exact pair_new S' hT (.int _) (rw'.mono (S.up x))
  stop := fun φ' h' H' x S' _ => ⟨x.frz _ _ _ e, by rw [← r.length]; exact Nat.le_refl _⟩
theorem Ext.updIn (x : Ext φ H φ' H') {p : Addr} {u : HO} (m : p ∈ φ) (nf : ∀ o w, H p ≠ some (.frz o w)) : Ext φ H φ' (upd H' p u) :=
  ⟨x.pre, x.new, fun q o e n => (upd_ne fun z => n (by rw [z]; exact m)).trans (x.keep q o e n), fun q o w e => (upd_ne fun z => by subst z; exact nf _ _ e).trans (x.frz q o w e)⟩
/-- the dict at a locked -/
theorem lock_sim (S : Sim F K φ h H) {a : Nat} {kvs : List (Int × D)} {hL : Hh} (e : lock a h = some (kvs, hL)) : ∃ p kv, φ[a]? = some p ∧ H p = some (.dK kv) ∧ RKs K φ H kvs kv ∧ ∀ od, Ext φ H φ (upd H p (.frz od (.dK kv))) ∧ Sim F K φ hL (upd H p (.frz od (.dK kv))) := by
  unfold lock at e
  split at e
  · rename_i ks hk
    cases e
    obtain ⟨p, e1, kv, e2, r⟩ := S.obj a _ hk
    refine ⟨p, kv, e1, e2, r, fun od => ⟨Ext.chg (List.mem_of_getElem? e1) (by rw [e2]; intro _ _ z; cases z), S.chg e1 ⟨od, kv, upd_same, r.mono (S.upChg (List.mem_of_getElem? e1))⟩⟩⟩
  · cases e
/-- and set free again -/
theorem thaw_sim (S : Sim F K φ h H) {a : Nat} {p : Addr} {od : Obj} {kv : List (Key × V)} {hT : Hh} (e1 : φ[a]? = some p) (e2 : H p = some (.frz od (.dK kv))) (e : thaw a h = some hT) : Sim F K φ hT (upd H p (.dK kv)) := by
  unfold thaw at e
  split at e
  · rename_i ks hk
    cases e
    obtain ⟨o, kv', e3, r⟩ := S.at_ e1 hk
    rw [e2] at e3
    cases e3
    exact S.chg e1 ⟨kv, upd_same, r.mono (S.upChg (List.mem_of_getElem? e1))⟩
  · cases e
theorem isRef_eq {a : Nat} {d : D} (e : isRef a d = true) : d = .ref a := by
  cases d <;> simp [isRef] at e
  subst e; rfl
end
section
variable {F : Fx} {X : Cx} {W : XK} {C : Nat → List D → Hh → R D} {k : Nat} {e a b c o tg f : Expr} {es : List Expr} {pos p apos cpos : Pos}
theorem se_dcI {kx vx : Expr} {x y z : E} {t : Tg} {scope : Scope} {own : List (Str × Nat)} {elts : List Expr} {kk : Nat} {tpos : Pos} (hc : X.calm = true) (hN : X.N.Nodup) (ha : SE F X W a (ev F.P C z)) (ok : BlkOk X.N X.env.scope scope own)
    (hg : ∀ (s : Shared) (H : Hp) (A : Addr) (cl : List (Str × Addr)) (fp : List Addr), PG (X.blk s H scope (compEnvC scope cl A X.env) fp) (.Tuple elts kk tpos) (mG F X.K t))
    (hk : ∀ (s : Shared) (H : Hp) (A : Addr) (cl : List (Str × Addr)) (fp : List Addr), SE F (X.blk s H scope (compEnvC scope cl A X.env) fp) WE0 kx (ev F.P C x))
    (hv : ∀ (s : Shared) (H : Hp) (A : Addr) (cl : List (Str × Addr)) (fp : List Addr), SE F (X.blk s H scope (compEnvC scope cl A X.env) fp) WE0 vx (ev F.P C y))
    (hs : ∀ v, foldedSetIterable (.Call (.Attribute a "items" apos) [] [] cpos) X.env v = pure v) (hw : Tg.within (own.map (·.2)) t = true)
    (hbase : attributeBase a "items" X.env (eval a X.env) = eval a X.env) (hline : (apos.endLine == cpos.line) = true) :
    SE F X W (.DictComp kx vx [⟨.Tuple elts kk tpos, .Call (.Attribute a "items" apos) [] [] cpos, [], 0⟩] scope pos) (ev F.P C (.dcI x y t z (own.map (·.2)))) := by
  refine ⟨fun pins s σ' H Q I ⟨φ, h0, σ, S, E, kt⟩ => (pe_lock (pe_dc (tk := mE F X.K WE0 (ev F.P C x)) (tv := mE F X.K WE0 (ev F.P C y)) hc hN (pi_items ha hbase hline) ok hg (fun _ _ _ _ _ => pts_nil) hk hv hs)).run pins s σ' H Q I ?_⟩
  simp only [ev] at kt
  split at kt
  rotate_left
  · exact kt.elim
  rename_i i _ _
  split at kt
  rotate_left
  · exact kt.elim
  rename_i kvs hL eL
  obtain ⟨q, kv, e1, e2, rk, hod⟩ := lock_sim S eL
  refine ⟨q, .dK kv, e2, trivial, fun od => ?_⟩
  obtain ⟨xL, SL⟩ := hod od
  have EL := E.mono (S.up xL)
  refine ⟨φ, hL, σ, SL, EL, ?_⟩
  cases q1 : ev F.P C z σ hL with
  | bad => rw [q1] at kt; exact kt.elim
  | exc c hz => rw [q1] at kt; exact Kt.mono xL kt
  | ok d1 h1 =>
    rw [q1] at kt
    intro φ1 H1 w x1 S1 r1
    simp only [R.bnd_ok] at kt
    split at kt
    rotate_left
    · exact kt.elim
    rename_i hcond
    obtain ⟨hr, hl⟩ := hcond
    have := isRef_eq hr
    subst this
    cases r1 with
    | ref e3 =>
      rw [x1.at_ e1] at e3
      cases e3
      have e4 := x1.frz _ _ _ (upd_same : (upd H q (.frz od (.dK kv))) q = _)
      refine ⟨q, od, kv, rfl, e4, fun A hA => ?_⟩
      have rk1 := (rk.mono (S.up xL)).mono (SL.up x1)
      cases q2 : dcGo (fun _ => true) (fun _ => kvAt kvs) (fun x => asT t x (wipe σ (own.map (·.2)))) (fun σ1 h => (ev F.P C x σ1 h).nox) (fun σ1 h => (ev F.P C y σ1 h).nox) kvs.length 0 [] h1 with
      | bad => rw [q2] at kt; exact kt.elim
      | exc z hz => exact absurd q2 (dcGo_noexc _ _ _ _)
      | ok vs h2 =>
        rw [q2] at kt
        simp only [R.bnd_ok] at kt
        refine dc_run (Q := fun v H' => H' q = some (HO.frz od (HO.dK kv)) ∧ Q v (upd H' q (HO.dK kv))) S1 (EL.mono (SL.up x1)) (ri_items e4 S1 rk1) hA hl hw q2 fun φ2 H2 ws x2 S2 mA eA rA => ?_
        have e5 := x2.frz _ _ _ e4
        refine ⟨e5, ?_⟩
        split at kt
        rotate_left
        · exact kt.elim
        rename_i h3 eT
        have e6 : φ2[i]? = some q := x2.at_ (x1.at_ e1)
        have S3 := thaw_sim S2 e6 e5 eT
        have xx : Ext φ H φ2 (upd H2 q (.dK kv)) := (xL.trans (x1.trans x2)).updIn (List.mem_of_getElem? e1) (by rw [e2]; intro _ _ z; cases z)
        have hne : A ≠ q := fun z => mA (by rw [z]; exact List.mem_of_getElem? e6)
        refine Kt.tellD xx S3 (Ext.fresh S1 (xL.trans x1) hA) mA ((upd_ne hne).trans eA) (rA.mono (S2.upChg (List.mem_of_getElem? e6))) kt

/-! ### built-in functions -/
theorem se_dict {j : List Expr} : SE F X W (.Dict [] [] pos) (ev F.P C .dict) := by
  refine ⟨fun pins s σ' H Q I ⟨φ, h0, σ, S, E, kt⟩ => pe_dnewK.run pins s σ' H Q I ?_⟩
  simp only [ev] at kt
  exact fun q hq => Kt.allocD S hq kt .nil
theorem noT {K : PySem.W.Frag} {H : Hp} {l : LV} {q : Addr} {vs : List V} (ht : ¬ l.isT = true) (e : SqB K H l.isT q vs) : SqL K H q vs := by
  cases z : l.isT with
  | true => exact absurd z ht
  | false => rw [z] at e; exact e
theorem sqOr {K : PySem.W.Frag} {H : Hp} {t : Bool} {q : Addr} {vs : List V} (e : SqB K H t q vs) : SqL K H q vs ∨ SqT K H q vs := by
  cases t with
  | true => exact .inr e
  | false => exact .inl e
section
variable {x y : E} {l : L}
theorem se_len (ha : SL F X W a (evL F.P C l)) (hg : Gl X "len") (hm : X.mg "len" = none) (hs : starEach [a] X.env = (false, eval a X.env) :: starEach [] X.env) : SE F X W (.Call (.Name "len" p) [a] [] pos) (ev F.P C (.len l)) := by
  refine ⟨fun pins s σ' H Q I ⟨φ, h0, σ, S, E, kt⟩ => ?_⟩
  simp only [ev] at kt
  have seq : (∀ z, ∀ h1, evL F.P C l σ h0 ≠ .ok (.val (.str z)) h1) → wpAny (model X.prog X.w) X.A (eval (.Call (.Name "len" p) [a] [] pos) X.env) (EP X pins σ' Q) X.xe s := fun hn => by
    refine (pe_callB call_len_seq hg hm (by decide +kernel) (pa_cons ha pa_nil hs) (he := hs)).run pins s σ' H Q I ⟨φ, h0, σ, S, E, ?_⟩
    refine kt.bndB fun d h1 φ1 H1 v ed x1 S1 r1 k1 => ?_
    split at k1
    · exact absurd ed (hn _ _)
    split at k1
    · rename_i xs hxs
      obtain ⟨q, vs, e1, e2, e3⟩ := LV.sq S1 r1 hxs
      exact ⟨q, vs, by rw [e1], sqOr e2, by rw [← e3.length]; exact k1 φ1 H1 _ x1 S1 (.int _)⟩
    · exact k1.elim
  cases q : evL F.P C l σ h0 with
  | bad => rw [q] at kt; exact kt.elim
  | exc c hz => exact seq fun z h1 e => by rw [q] at e; cases e
  | ok d h1 =>
    cases d with
    | new xs => exact seq fun z h1 e => by rw [q] at e; cases e
    | val d =>
      cases d with
      | str z =>
        refine (pe_callB call_len_str hg hm (by decide +kernel) (pa_cons ha pa_nil hs) (he := hs)).run pins s σ' H Q I ⟨φ, h0, σ, S, E, ?_⟩
        refine kt.bndB fun d h1 φ1 H1 v ed x1 S1 r1 k1 => ?_
        rw [q] at ed
        cases ed
        cases r1
        dsimp only at k1
        split at k1
        · rename_i hl
          exact ⟨z, rfl, Nat.le_trans hl limLine, k1 φ1 H1 _ x1 S1 (.int _)⟩
        · exact k1.elim
      | _ => exact seq fun z h1 e => by rw [q] at e; cases e
theorem se_tupl (ha : SL F X W a (evL F.P C l)) (hg : Gl X "tuple") (hm : X.mg "tuple" = none) (hs : starEach [a] X.env = (false, eval a X.env) :: starEach [] X.env) : SE F X W (.Call (.Name "tuple" p) [a] [] pos) (ev F.P C (.tupl l)) := by
  refine ⟨fun pins s σ' H Q I ⟨φ, h0, σ, S, E, kt⟩ => (pe_callTy call_tuple_of hg hm (by decide +kernel) (pa_cons ha pa_nil hs) (he := hs)).run pins s σ' H Q I ⟨φ, h0, σ, S, E, ?_⟩⟩
  simp only [ev] at kt
  refine kt.bndB fun d h1 φ1 H1 v ed x1 S1 r1 k1 => ?_
  split at k1
  · rename_i xs hxs
    obtain ⟨q, vs, e1, e2, e3⟩ := LV.sq S1 r1 hxs
    refine ⟨q, vs, by rw [e1], ?_⟩
    cases hT : d.isT with
    | false =>
      rw [hT] at e2
      refine .inl ⟨e2, fun r hr => ?_⟩
      exact k1 φ1 _ _ (x1.trans (Ext.more hr)) (S1.more hr) (.tup (SqT.of upd_same) (e3.mono (up_more S1 hr)))
    | true =>
      rw [hT] at e2
      exact .inr ⟨e2, k1 φ1 H1 _ x1 S1 (.tup e2 e3)⟩
  · exact k1.elim
theorem se_listOf (ha : SL F X W a (evL F.P C l)) (hg : Gl X "list") (hm : X.mg "list" = none) (hs : starEach [a] X.env = (false, eval a X.env) :: starEach [] X.env) : SE F X W (.Call (.Name "list" p) [a] [] pos) (ev F.P C (.lst l)) := by
  refine ⟨fun pins s σ' H Q I ⟨φ, h0, σ, S, E, kt⟩ => (pe_callTy call_list_of hg hm (by decide +kernel) (pa_cons ha pa_nil hs) (he := hs)).run pins s σ' H Q I ⟨φ, h0, σ, S, E, ?_⟩⟩
  simp only [ev] at kt
  refine kt.bndB fun d h1 φ1 H1 v ed x1 S1 r1 k1 => ?_
  have fin : ∀ {xs : List D}, d.items h1 = some xs → Kt F X.K W φ H (PI.alloc h1 (.lst xs)) (RD X.K) Q → ∃ q ys, [v] = [.ref q] ∧ (SqL X.K H1 q ys ∨ SqT X.K H1 q ys) ∧ ∀ l, H1 l = none → Q (.ref l) (upd H1 l (.lst ys)) := fun {xs} hxs k1 => by
    obtain ⟨q, vs, e1, e2, e3⟩ := LV.sq S1 r1 hxs
    refine ⟨q, vs, by rw [e1], sqOr e2, fun r hr => ?_⟩
    exact (show Kt F X.K W φ H (.ok (.ref h1.length) (h1 ++ [.lst xs])) (RD X.K) Q from k1) (φ1 ++ [r]) _ _ (x1.trans (Ext.add hr)) (S1.lay hr ⟨vs, upd_same, e3.mono (up_lay S1 hr)⟩) (.ref (by simp [← S1.len]))
  split at k1
  · exact fin rfl k1
  · split at k1
    · rename_i hxs
      exact fin hxs k1
    · exact k1.elim
theorem se_sum (c : XC F X W C k) (ha : SL F X W a (evL F.P C l)) (hg : Gl X "sum") (hm : X.mg "sum" = none) (hs : starEach [a] X.env = (false, eval a X.env) :: starEach [] X.env) : SE F X W (.Call (.Name "sum" p) [a] [] pos) (ev F.P C (.sum l)) := by
  refine ⟨fun pins s σ' H Q I ⟨φ, h0, σ, S, E, kt⟩ => (pe_callB (cr_sum c.calm) hg hm (by decide +kernel) (pa_cons ha pa_nil hs) (he := hs)).run pins s σ' H Q I ⟨φ, h0, σ, S, E, ?_⟩⟩
  simp only [ev] at kt
  refine kt.bndB fun d h1 φ1 H1 v ed x1 S1 r1 k1 => ?_
  split at k1
  · exact k1.elim
  rename_i ht
  split at k1
  rotate_left
  · exact k1.elim
  rename_i xs hxs
  split at k1
  rotate_left
  · exact k1.elim
  rename_i ns hns
  obtain ⟨q, vs, e1, e2, e3⟩ := LV.sq S1 r1 hxs
  have ev := e3.ints? hns
  subst ev
  exact ⟨q, ns, by rw [e1], noT ht e2, k1 φ1 H1 _ x1 S1 (.int _)⟩
theorem se_all (c : XC F X W C k) (ha : SL F X W a (evL F.P C l)) (hg : Gl X "all") (hm : X.mg "all" = none) (hs : starEach [a] X.env = (false, eval a X.env) :: starEach [] X.env) : SE F X W (.Call (.Name "all" p) [a] [] pos) (ev F.P C (.all l)) := by
  refine ⟨fun pins s σ' H Q I ⟨φ, h0, σ, S, E, kt⟩ => (pe_callB (cr_all c.calm) hg hm (by decide +kernel) (pa_cons ha pa_nil hs) (he := hs)).run pins s σ' H Q I ⟨φ, h0, σ, S, E, ?_⟩⟩
  simp only [ev] at kt
  refine kt.bndB fun d h1 φ1 H1 v ed x1 S1 r1 k1 => ?_
  split at k1
  · exact k1.elim
  rename_i ht
  split at k1
  rotate_left
  · exact k1.elim
  rename_i xs hxs
  split at k1
  rotate_left
  · exact k1.elim
  rename_i ns hns
  obtain ⟨q, vs, e1, e2, e3⟩ := LV.sq S1 r1 hxs
  have ev := e3.bools? hns
  subst ev
  exact ⟨q, ns, by rw [e1], noT ht e2, k1 φ1 H1 _ x1 S1 (.bl _)⟩
theorem se_any (c : XC F X W C k) (ha : SL F X W a (evL F.P C l)) (hg : Gl X "any") (hm : X.mg "any" = none) (hs : starEach [a] X.env = (false, eval a X.env) :: starEach [] X.env) : SE F X W (.Call (.Name "any" p) [a] [] pos) (ev F.P C (.any l)) := by
  refine ⟨fun pins s σ' H Q I ⟨φ, h0, σ, S, E, kt⟩ => (pe_callB (cr_any c.calm) hg hm (by decide +kernel) (pa_cons ha pa_nil hs) (he := hs)).run pins s σ' H Q I ⟨φ, h0, σ, S, E, ?_⟩⟩
  simp only [ev] at kt
  refine kt.bndB fun d h1 φ1 H1 v ed x1 S1 r1 k1 => ?_
  split at k1
  · exact k1.elim
  rename_i ht
  split at k1
  rotate_left
  · exact k1.elim
  rename_i xs hxs
  split at k1
  rotate_left
  · exact k1.elim
  rename_i ns hns
  obtain ⟨q, vs, e1, e2, e3⟩ := LV.sq S1 r1 hxs
  have ev := e3.bools? hns
  subst ev
  exact ⟨q, ns, by rw [e1], noT ht e2, k1 φ1 H1 _ x1 S1 (.bl _)⟩
theorem se_abs (ha : SE F X W a (ev F.P C x)) (hg : Gl X "abs") (hm : X.mg "abs" = none) (hs : starEach [a] X.env = (false, eval a X.env) :: starEach [] X.env) : SE F X W (.Call (.Name "abs" p) [a] [] pos) (ev F.P C (.abs x)) := by
  refine ⟨fun pins s σ' H Q I ⟨φ, h0, σ, S, E, kt⟩ => (pe_callB call_abs hg hm (by decide +kernel) (pa_cons ha pa_nil hs) (he := hs)).run pins s σ' H Q I ⟨φ, h0, σ, S, E, ?_⟩⟩
  simp only [ev] at kt
  refine kt.bnd fun d h1 φ1 H1 v ed x1 S1 r1 k1 => ?_
  split at k1
  rotate_left
  · exact k1.elim
  cases r1
  exact ⟨_, rfl, k1.ok S1 (.int _)⟩
theorem se_max2 (c : XC F X W C k) (ha : SE F X W a (ev F.P C x)) (hb : SE F X W b (ev F.P C y)) (hg : Gl X "max") (hm : X.mg "max" = none) (hs : starEach [a, b] X.env = (false, eval a X.env) :: starEach [b] X.env) (hs2 : starEach [b] X.env = (false, eval b X.env) :: starEach [] X.env)
    (hpl : (backTo pos (starEach [b] X.env)).any (·.1) = false) : SE F X W (.Call (.Name "max" p) [a, b] [] pos) (ev F.P C (.max2 x y)) := by
  refine ⟨fun pins s σ' H Q I ⟨φ, h0, σ, S, E, kt⟩ => (pe_callB (call_max2 c.calm) hg hm (by decide +kernel) (pa_cons ha (pa_cons hb pa_nil hs2) hs) (he := hs) (hpl := hpl)).run pins s σ' H Q I ⟨φ, h0, σ, S, E, ?_⟩⟩
  simp only [ev] at kt
  refine kt.bnd fun d h1 φ1 H1 v ed x1 S1 r1 k1 => ?_
  refine ⟨φ1, h1, σ, S1, E.mono (S.up x1), k1.bnd fun d2 h2 φ2 H2 v2 _ x2 S2 r2 k2 => ?_⟩
  split at k2
  rotate_left
  · exact k2.elim
  cases r1; cases r2
  exact ⟨_, _, rfl, k2.ok S2 (.int _)⟩
theorem se_min2 (c : XC F X W C k) (ha : SE F X W a (ev F.P C x)) (hb : SE F X W b (ev F.P C y)) (hg : Gl X "min") (hm : X.mg "min" = none) (hs : starEach [a, b] X.env = (false, eval a X.env) :: starEach [b] X.env) (hs2 : starEach [b] X.env = (false, eval b X.env) :: starEach [] X.env)
    (hpl : (backTo pos (starEach [b] X.env)).any (·.1) = false) : SE F X W (.Call (.Name "min" p) [a, b] [] pos) (ev F.P C (.min2 x y)) := by
  refine ⟨fun pins s σ' H Q I ⟨φ, h0, σ, S, E, kt⟩ => (pe_callB (call_min2 c.calm) hg hm (by decide +kernel) (pa_cons ha (pa_cons hb pa_nil hs2) hs) (he := hs) (hpl := hpl)).run pins s σ' H Q I ⟨φ, h0, σ, S, E, ?_⟩⟩
  simp only [ev] at kt
  refine kt.bnd fun d h1 φ1 H1 v ed x1 S1 r1 k1 => ?_
  refine ⟨φ1, h1, σ, S1, E.mono (S.up x1), k1.bnd fun d2 h2 φ2 H2 v2 _ x2 S2 r2 k2 => ?_⟩
  split at k2
  rotate_left
  · exact k2.elim
  cases r1; cases r2
  exact ⟨_, _, rfl, k2.ok S2 (.int _)⟩
theorem cr_int : CallR X (.type "int") (fun xs H Q => ((∃ i, xs = [.int i] ∧ Q (.int i) H) ∨ ∃ k, xs = [.bl k] ∧ Q (.int (if k then 1 else 0)) H) ∨ ∃ a n, xs = [.str a] ∧ PySem.intText? a = some n ∧ a.length ≤ 640 ∧ Q (.int n) H) := by
  intro pins s σ H xs us Q I r h
  rcases h with h | h
  · exact call_int1 pins s σ H xs us Q I r h
  · exact call_int_str pins s σ H xs us Q I r h
theorem se_int1 (ha : SE F X W a (ev F.P C x)) (hg : Gl X "int") (hm : X.mg "int" = none) (hs : starEach [a] X.env = (false, eval a X.env) :: starEach [] X.env) : SE F X W (.Call (.Name "int" p) [a] [] pos) (ev F.P C (.int1 x)) := by
  refine ⟨fun pins s σ' H Q I ⟨φ, h0, σ, S, E, kt⟩ => (pe_callTy cr_int hg hm (by decide +kernel) (pa_cons ha pa_nil hs) (he := hs)).run pins s σ' H Q I ⟨φ, h0, σ, S, E, ?_⟩⟩
  simp only [ev] at kt
  refine kt.bnd fun d h1 φ1 H1 v ed x1 S1 r1 k1 => ?_
  split at k1
  · cases r1
    exact .inl (.inl ⟨_, rfl, k1.ok S1 (.int _)⟩)
  · cases r1
    exact .inl (.inr ⟨_, rfl, k1.ok S1 (.int _)⟩)
  · cases r1
    split at k1
    · rename_i hl
      obtain ⟨n, e1, k2⟩ := opt_map_some k1
      exact .inr ⟨_, n, rfl, e1, hl, k2.ok S1 (.int _)⟩
    · exact k1.elim
  · exact k1.elim
theorem cr_str : CallR X (.type "str") (fun xs H Q => (∃ i, xs = [.int i] ∧ i.natAbs.log2 < 1920 ∧ Q (.str (toString i)) H) ∨ (xs = [.non] ∧ Q (.str "None") H)) := by
  intro pins s σ H xs us Q I r h
  rcases h with h | ⟨rfl, q⟩
  · exact call_str_int pins s σ H xs us Q I r h
  · obtain ⟨u, rfl, r1⟩ := vals1 r
    have : u = .none := r1
    subst this
    exact PySem.P.str_of_none ⟨.str "None", H, I.tok _, ⟨_, rfl⟩, q⟩
/-- list(range(a, b)) -/
theorem se_lrng {b : Expr} {p2 pos2 : Pos} {y : E} (hc : X.calm = true) (ha : SE F X W a (ev F.P C x)) (hb : SE F X W b (ev F.P C y)) (hg : Gl X "list") (hm : X.mg "list" = none) (hg2 : Gl X "range") (hm2 : X.mg "range" = none) (na : starEach [a, b] X.env = (false, eval a X.env) :: starEach [b] X.env) (nb : starEach [b] X.env = (false, eval b X.env) :: starEach [] X.env) (hp : (backTo pos2 (starEach [b] X.env)).any (·.1) = false) :
    SE F X W (.Call (.Name "list" p) [.Call (.Name "range" p2) [a, b] [] pos2] [] pos) (ev F.P C (.lrng x y)) := by
  refine ⟨fun pins s σ' H Q I ⟨φ, h0, σ, S, E, kt⟩ => (pe_listRg hc hg hm (prg_2 hg2 hm2 ha hb na nb hp)).run pins s σ' H Q I ⟨φ, h0, σ, S, E, ?_⟩⟩
  simp only [ev] at kt
  refine kt.bnd fun d h1 φ1 H1 v ed x1 S1 r1 k1 => ?_
  refine ⟨φ1, h1, σ, S1, E.mono (S.up x1), k1.bnd fun d2 h2 φ2 H2 v2 ed2 x2 S2 r2 k2 => ?_⟩
  have r1 := r1.mono (S1.up x2)
  cases r1 with
  | int i =>
    cases r2 with
    | int j =>
      dsimp only at k2
      split at k2
      rotate_left
      · exact k2.elim
      rename_i hh
      refine ⟨_, _, rfl, rfl, RgOk.of_le hh.1 (by omega) (by omega) hh.2.1, fun q hq => ?_⟩
      have e1 : (List.range (j - i).toNat).map (fun k => D.int (i + (k : Nat))) = ((List.range (j - i).toNat).map fun k => i + ((k : Nat) : Int)).map D.int := by rw [List.map_map]; rfl
      have e2 : rgV i j = ((List.range (j - i).toNat).map fun k => i + ((k : Nat) : Int)).map V.int := by unfold rgV; rw [List.map_map]; rfl
      rw [e1] at k2
      rw [e2]
      exact Kt.allocL S2 hq k2 (RDs.ints _)
    | _ => exact k2.elim
  | _ => exact k2.elim
theorem se_str1 (ha : SE F X W a (ev F.P C x)) (hg : Gl X "str") (hm : X.mg "str" = none) (hs : starEach [a] X.env = (false, eval a X.env) :: starEach [] X.env) : SE F X W (.Call (.Name "str" p) [a] [] pos) (ev F.P C (.str1 x)) := by
  refine ⟨fun pins s σ' H Q I ⟨φ, h0, σ, S, E, kt⟩ => (pe_callTy cr_str hg hm (by decide +kernel) (pa_cons ha pa_nil hs) (he := hs)).run pins s σ' H Q I ⟨φ, h0, σ, S, E, ?_⟩⟩
  simp only [ev] at kt
  refine kt.bnd fun d h1 φ1 H1 v ed x1 S1 r1 k1 => ?_
  split at k1
  · cases r1
    split at k1
    · rename_i hl
      exact .inl ⟨_, rfl, hl, k1.ok S1 (.str _)⟩
    · exact k1.elim
  · cases r1
    exact .inr ⟨rfl, k1.ok S1 (.str _)⟩
  · exact k1.elim
theorem se_dictOf (ha : SE F X W a (ev F.P C x)) (hg : Gl X "dict") (hm : X.mg "dict" = none) (hs : starEach [a] X.env = (false, eval a X.env) :: starEach [] X.env) : SE F X W (.Call (.Name "dict" p) [a] [] pos) (ev F.P C (.dictOf x)) := by
  refine ⟨fun pins s σ' H Q I ⟨φ, h0, σ, S, E, kt⟩ => (pe_callTy call_dictD hg hm (by decide +kernel) (pa_cons ha pa_nil hs) (he := hs)).run pins s σ' H Q I ⟨φ, h0, σ, S, E, ?_⟩⟩
  simp only [ev] at kt
  refine kt.bnd fun d h1 φ1 H1 v ed x1 S1 r1 k1 => ?_
  split at k1
  rotate_left
  · exact k1.elim
  split at k1
  rotate_left
  · exact k1.elim
  rename_i kvs hk
  cases r1 with
  | ref e1 =>
    obtain ⟨kv, e2, rk⟩ := dct_at S1 e1 hk
    exact ⟨_, kv, rfl, e2, fun r hr => Kt.allocD S1 hr k1 rk⟩
end
end
end PI

set_option maxRecDepth 100000
set_option maxHeartbeats 2000000
/-! PIl: methods of lists, dicts and texts; f-strings. -/
namespace PI
open PySem PySem.Spec PyProof.Rows L2
section
variable {F : Fx} {X : Cx} {W : XK} {C : Nat → List D → Hh → R D} {k : Nat} {e a b c o tg f : Expr} {es : List Expr} {pos p apos cpos : Pos}
/-- the form of a call of a built-in's method -/
structure BM (X : Cx) (o : Expr) (n : Str) (apos : Pos) (e : Expr) (es : List Expr) (cpos : Pos) : Prop where
  base : attributeBase o n X.env (eval o X.env) = eval o X.env
  few : ((backTo cpos (starEach (e :: es) X.env)).all (fun x => !x.1) && (backToKw cpos (keywordEach [] X.env)).all (fun x => x.1.isSome)
      && decide ((e :: es).length + ([] : List Keyword).length + (if ([] : List Keyword).isEmpty then 0 else 1) < 30)) = true
  line : (apos.endLine == cpos.line) = true
  s : starEach (e :: es) X.env = (false, eval e X.env) :: starEach es X.env
  plain : (backTo cpos (starEach es X.env)).any (·.1) = false
theorem tyV_lst {K : PySem.W.Frag} {H : Hp} {p : Addr} {vs : List V} (e : SqL K H p vs) : tyV K "list" (.ref p) H := .inl ⟨rfl, vs, e⟩
theorem se_app {x y : E} (ho : SE F X W o (ev F.P C x)) (ha : SE F X W a (ev F.P C y)) (m : BM X o "append" apos a [] cpos) : SE F X W (.Call (.Attribute o "append" apos) [a] [] cpos) (ev F.P C (.app x y)) := by
  refine ⟨fun pins s σ' H Q I ⟨φ, h0, σ, S, E, kt⟩ => (pe_bm (T := "list") PySem.F.plainAttrs_list PySem.F.slot_list_append PySem.F.type_list_append (mt_append (X := X)) ho (pa_cons ha pa_nil m.s) m.base m.few m.line m.s m.plain).run pins s σ' H Q I ⟨φ, h0, σ, S, E, ?_⟩⟩
  simp only [ev] at kt
  refine kt.bnd fun d h1 φ1 H1 v ed x1 S1 r1 k1 => ?_
  split at k1
  rotate_left
  · exact k1.elim
  rename_i ad
  split at k1
  rotate_left
  · exact k1.elim
  rename_i xs0 hx0
  cases r1 with
  | ref e1 =>
    obtain ⟨vs0, e2, _⟩ := lst_at S1 e1 hx0
    refine ⟨tyV_lst (SqL.of e2), φ1, h1, σ, S1, E.mono (S.up x1), k1.bnd fun d2 h2 φ2 H2 v2 _ x2 S2 r2 k2 => ?_⟩
    split at k2
    rotate_left
    · exact k2.elim
    rename_i xs hx
    split at k2
    rotate_left
    · exact k2.elim
    rename_i hl
    have e3 := x2.at_ e1
    obtain ⟨vs, e4, r4⟩ := lst_at S2 e3 hx
    have hm := List.mem_of_getElem? e3
    refine ⟨_, vs, v2, rfl, rfl, e4, by rw [← r4.length]; exact Nat.lt_of_lt_of_le hl limLine, k2 φ2 _ _ (Ext.chg hm (by rw [e4]; intro _ _ z; cases z)) (S2.chg e3 ⟨_, upd_same, (r4.append (.cons r2 .nil)).mono (S2.upChg hm)⟩) .non⟩
theorem se_ext {x : E} {l : L} (ho : SE F X W o (ev F.P C x)) (ha : SL F X W a (evL F.P C l)) (m : BM X o "extend" apos a [] cpos) : SE F X W (.Call (.Attribute o "extend" apos) [a] [] cpos) (ev F.P C (.ext x l)) := by
  refine ⟨fun pins s σ' H Q I ⟨φ, h0, σ, S, E, kt⟩ => (pe_bm (T := "list") PySem.F.plainAttrs_list PySem.F.slot_list_extend PySem.F.type_list_extend (mt_extend (X := X)) ho (pa_cons ha pa_nil m.s) m.base m.few m.line m.s m.plain).run pins s σ' H Q I ⟨φ, h0, σ, S, E, ?_⟩⟩
  simp only [ev] at kt
  refine kt.bnd fun d h1 φ1 H1 v ed x1 S1 r1 k1 => ?_
  split at k1
  rotate_left
  · exact k1.elim
  rename_i ad
  split at k1
  rotate_left
  · exact k1.elim
  rename_i xs0 hx0
  cases r1 with
  | ref e1 =>
    obtain ⟨vs0, e2, _⟩ := lst_at S1 e1 hx0
    refine ⟨tyV_lst (SqL.of e2), φ1, h1, σ, S1, E.mono (S.up x1), k1.bndB fun d2 h2 φ2 H2 v2 _ x2 S2 r2 k2 => ?_⟩
    have e3 := x2.at_ e1
    have hm := List.mem_of_getElem? e3
    have fin : ∀ {xs ys : List D} {b : Addr} {ws : List V}, lstOf h2 ad = some xs → v2 = .ref b → H2 b = some (.lst ws) → RDs X.K φ2 H2 ys ws → Kt F X.K W φ1 H1 (if xs.length + ys.length ≤ LIM then .ok .non (h2.set ad (.lst (xs ++ ys))) else .bad) (RD X.K) Q →
        rExtend (.ref _) [v2] H2 Q := fun {xs ys b ws} hx ev eb rb k3 => by
      split at k3
      rotate_left
      · exact k3.elim
      rename_i hl
      obtain ⟨vs, e4, r4⟩ := lst_at S2 e3 hx
      refine ⟨_, b, vs, ws, rfl, by rw [ev], e4, eb, by rw [← r4.length, ← rb.length]; exact Nat.le_trans hl limLine, k3 φ2 _ _ (x2.trans (Ext.chg hm (by rw [e4]; intro _ _ z; cases z))) (S2.chg e3 ⟨_, upd_same, (r4.append rb).mono (S2.upChg hm)⟩) .non⟩
    split at k2
    · split at k2
      · rename_i hx
        obtain ⟨b, ws, rfl, _, _, eb, rb⟩ := r2
        exact fin hx rfl eb rb k2
      · exact k2.elim
    · split at k2
      · rename_i hx hy
        cases r2 with
        | ref e5 =>
          obtain ⟨ws, e6, r6⟩ := lst_at S2 e5 hy
          exact fin hx rfl e6 r6 k2
      · exact k2.elim
    · exact k2.elim
theorem se_pop {x y : E} (ho : SE F X W o (ev F.P C x)) (ha : SE F X W a (ev F.P C y)) (m : M1 X o "pop" apos a cpos) : SE F X W (.Call (.Attribute o "pop" apos) [a] [] cpos) (ev F.P C (.pop x y)) := by
  refine ⟨fun pins s σ' H Q I ⟨φ, h0, σ, S, E, kt⟩ => (pe_dpop1 ho ha m).run pins s σ' H Q I ⟨φ, h0, σ, S, E, ?_⟩⟩
  simp only [ev] at kt
  refine kt.bnd fun d h1 φ1 H1 v ed x1 S1 r1 k1 => ?_
  split at k1
  rotate_left
  · exact k1.elim
  rename_i ad
  split at k1
  rotate_left
  · exact k1.elim
  rename_i kvs0 hx0
  cases r1 with
  | ref e1 =>
    obtain ⟨kv0, e2, _⟩ := dct_at S1 e1 hx0
    refine ⟨_, rfl, .inl ⟨kv0, e2⟩, φ1, h1, σ, S1, E.mono (S.up x1), k1.bnd fun d2 h2 φ2 H2 v2 _ x2 S2 r2 k2 => ?_⟩
    split at k2
    rotate_left
    · exact k2.elim
    cases r2
    split at k2
    rotate_left
    · exact k2.elim
    rename_i kvs hk
    split at k2
    rotate_left
    · exact k2.elim
    rename_i w hw
    have e3 := x2.at_ e1
    have hm := List.mem_of_getElem? e3
    obtain ⟨kv, e4, r4⟩ := S2.at_ e3 hk
    rcases r4.look _ with ⟨z, _⟩ | ⟨d', v', z, e5, r5⟩
    · rw [hw] at z; cases z
    · rw [hw] at z
      cases z
      exact ⟨kv, Sum.inl _, v', e4, rfl, e5, k2 φ2 _ _ (Ext.chg hm (by rw [e4]; intro _ _ z; cases z)) (S2.chg e3 ⟨_, upd_same, (r4.drop _).mono (S2.upChg hm)⟩) (r5.mono (S2.upChg hm))⟩
theorem se_get (c : XC F X W C k) {x y z : E} (ho : SE F X W o (ev F.P C x)) (ha : SE F X W a (ev F.P C y)) (hb : SE F X W b (ev F.P C z)) (m : M2 X o "get" apos a b cpos) : SE F X W (.Call (.Attribute o "get" apos) [a, b] [] cpos) (ev F.P C (.get x y z)) := by
  refine ⟨fun pins s σ' H Q I ⟨φ, h0, σ, S, E, kt⟩ => (pe_dget2 (by have := c.hu; omega) ho ha hb m).run pins s σ' H Q I ⟨φ, h0, σ, S, E, ?_⟩⟩
  simp only [ev] at kt
  refine kt.bnd fun d h1 φ1 H1 v ed x1 S1 r1 k1 => ?_
  split at k1
  rotate_left
  · exact k1.elim
  rename_i ad
  split at k1
  rotate_left
  · exact k1.elim
  rename_i kvs0 hx0
  cases r1 with
  | ref e1 =>
    obtain ⟨kv0, e2, _⟩ := dct_at S1 e1 hx0
    refine ⟨_, rfl, .inl ⟨kv0, e2⟩, φ1, h1, σ, S1, E.mono (S.up x1), k1.bnd fun d2 h2 φ2 H2 v2 _ x2 S2 r2 k2 => ?_⟩
    refine ⟨φ2, h2, σ, S2, (E.mono (S.up x1)).mono (S1.up x2), k2.bnd fun d3 h3 φ3 H3 v3 _ x3 S3 r3 k3 => ?_⟩
    split at k3
    rotate_left
    · exact k3.elim
    cases r2
    split at k3
    rotate_left
    · exact k3.elim
    rename_i kvs hk
    obtain ⟨kv, e4, r4⟩ := dct_at S3 (x3.at_ (x2.at_ e1)) hk
    refine ⟨_, .inl ⟨kv, Sum.inl _, e4, rfl, rfl⟩, ?_⟩
    rcases r4.look _ with ⟨z, e5⟩ | ⟨d', v', z, e5, r5⟩
    · rw [z] at k3
      rw [e5]
      exact k3.ok S3 r3
    · rw [z] at k3
      rw [e5]
      exact k3.ok S3 r5
theorem findIdx_first {α : Type} {p : α → Bool} : ∀ {l : List α} {j : Nat}, l.findIdx? p = some j → ∃ z, l[j]? = some z ∧ p z = true ∧ ∀ (m : Nat) (z' : α), m < j → l[m]? = some z' → p z' = false
  | [], j, e => by simp at e
  | a :: l, j, e => by
    rw [List.findIdx?_cons] at e
    split at e
    · rename_i ha
      cases e
      exact ⟨a, rfl, ha, fun m z hm => absurd hm (Nat.not_lt_zero _)⟩
    · rename_i ha
      obtain ⟨i, e1, e2⟩ := Option.map_eq_some_iff.mp e
      subst e2
      obtain ⟨z, h1, h2, h3⟩ := findIdx_first e1
      refine ⟨z, by simpa using h1, h2, fun m z' hm hz => ?_⟩
      cases m with
      | zero => simp at hz; subst hz; simpa using ha
      | succ m => exact h3 m z' (by omega) (by simpa using hz)
theorem lst_data {K : PySem.W.Frag} {φ : List Addr} {h : Hh} {H : Hp} (S : Sim F K φ h H) {x : D} {u : V} {ds : List PyData} (r : RD K φ H x u) (e : data h x = some (.list ds)) : ∃ p vs, u = .ref p ∧ SqL K H p vs := by
  cases r with
  | ref e1 =>
    unfold data at e
    split at e
    · cases e
    rename_i pd hp
    simp only [toP] at hp
    split at hp
    · rename_i hx
      obtain ⟨vs, h1, _⟩ := S.lst e1 hx
      exact ⟨_, vs, rfl, SqL.of h1⟩
    · cases hp
  | scr t => exact ⟨_, _, rfl, t.sq⟩
  | tup _ _ =>
    unfold data at e
    split at e
    · cases e
    rename_i pd hp
    simp only [toP] at hp
    obtain ⟨q, _, e2⟩ := Option.map_eq_some_iff.mp hp
    subst e2
    split at e <;> cases e
  | _ =>
    unfold data at e
    split at e
    · cases e
    rename_i pd hp
    simp only [toP] at hp
    cases hp
    split at e <;> cases e
theorem RDs.strs {K : PySem.W.Frag} {φ : List Addr} {H : Hp} : ∀ ns : List Str, RDs K φ H (ns.map D.str) (ns.map V.str)
  | [] => .nil
  | n :: ns => .cons (.str n) (RDs.strs ns)
theorem isL_ty {K : PySem.W.Frag} {φ : List Addr} {h : Hh} {H : Hp} (S : Sim F K φ h H) {x : D} {u : V} (r : RD K φ H x u) (e : isL h x = true) : tyV K "list" u H := by
  cases r with
  | ref e1 =>
    obtain ⟨xs, hx⟩ := Option.isSome_iff_exists.mp e
    obtain ⟨vs, h1, _⟩ := lst_at S e1 hx
    exact tyV_lst (SqL.of h1)
  | scr t => exact tyV_lst t.sq
  | _ => cases e
theorem se_index (c : XC F X W C k) {x y : E} (ho : SE F X W o (ev F.P C x)) (ha : SE F X W a (ev F.P C y)) (m : BM X o "index" apos a [] cpos) : SE F X W (.Call (.Attribute o "index" apos) [a] [] cpos) (ev F.P C (.index x y)) := by
  refine ⟨fun pins s σ' H Q I ⟨φ, h0, σ, S, E, kt⟩ => (pe_bm (T := "list") PySem.F.plainAttrs_list PySem.F.slot_list_index PySem.F.type_list_index (mt_indexD (X := X) c.hu) ho (pa_cons ha pa_nil m.s) m.base m.few m.line m.s m.plain).run pins s σ' H Q I ⟨φ, h0, σ, S, E, ?_⟩⟩
  simp only [ev] at kt
  refine kt.bnd fun d h1 φ1 H1 v ed x1 S1 r1 k1 => ?_
  split at k1
  rotate_left
  · exact k1.elim
  rename_i hL
  refine ⟨isL_ty S1 r1 hL, φ1, h1, σ, S1, E.mono (S.up x1), k1.bnd fun d2 h2 φ2 H2 v2 _ x2 S2 r2 k2 => ?_⟩
  split at k2
  rotate_left
  · exact k2.elim
  rename_i ds dd e1 e2
  split at k2
  rotate_left
  · exact k2.elim
  rename_i j hj
  have r1' := r1.mono (S1.up x2)
  obtain ⟨z, h3, h4, h5⟩ := findIdx_first hj
  obtain ⟨p, vs, rfl, _⟩ := lst_data S2 r1' e1
  obtain ⟨d1, s1⟩ := data_dp S2 r1' e1
  obtain ⟨d2', s2⟩ := data_dp S2 r2 e2
  exact ⟨p, v2, dd, ds, j, z, rfl, rfl, d1, d2', s1, s2, h3, h4, h5, k2.ok S2 (.int _)⟩
theorem se_split {x y : E} (ho : SE F X W o (ev F.P C x)) (ha : SE F X W a (ev F.P C y)) (m : BM X o "split" apos a [] cpos) : SE F X W (.Call (.Attribute o "split" apos) [a] [] cpos) (ev F.P C (.split x y)) := by
  refine ⟨fun pins s σ' H Q I ⟨φ, h0, σ, S, E, kt⟩ => (pe_bm (T := "str") PySem.F.plainAttrs_str PySem.F.slot_str_split PySem.F.type_str_split (mt_split (X := X)) ho (pa_cons ha pa_nil m.s) m.base m.few m.line m.s m.plain).run pins s σ' H Q I ⟨φ, h0, σ, S, E, ?_⟩⟩
  simp only [ev] at kt
  refine kt.bnd fun d h1 φ1 H1 v ed x1 S1 r1 k1 => ?_
  split at k1
  rotate_left
  · exact k1.elim
  rename_i z _ _
  cases r1
  refine ⟨rfl, φ1, h1, σ, S1, E.mono (S.up x1), k1.bnd fun d2 h2 φ2 H2 v2 _ x2 S2 r2 k2 => ?_⟩
  split at k2
  rotate_left
  · exact k2.elim
  cases r2
  split at k2
  rotate_left
  · exact k2.elim
  rename_i hcond
  refine ⟨_, _, rfl, rfl, by simpa using hcond.1, Nat.le_trans hcond.2 limLine, fun p hp => ?_⟩
  exact Kt.allocL S2 hp k2 (RDs.strs _)
theorem se_join {x : E} {l : L} (ho : SE F X W o (ev F.P C x)) (ha : SL F X W a (evL F.P C l)) (m : BM X o "join" apos a [] cpos) : SE F X W (.Call (.Attribute o "join" apos) [a] [] cpos) (ev F.P C (.join x l)) := by
  refine ⟨fun pins s σ' H Q I ⟨φ, h0, σ, S, E, kt⟩ => (pe_bm (T := "str") PySem.F.plainAttrs_str PySem.F.slot_str_join PySem.F.type_str_join (mt_join (X := X)) ho (pa_cons ha pa_nil m.s) m.base m.few m.line m.s m.plain).run pins s σ' H Q I ⟨φ, h0, σ, S, E, ?_⟩⟩
  simp only [ev] at kt
  refine kt.bnd fun d h1 φ1 H1 v ed x1 S1 r1 k1 => ?_
  split at k1
  rotate_left
  · exact k1.elim
  rename_i z _ _
  cases r1
  refine ⟨rfl, φ1, h1, σ, S1, E.mono (S.up x1), k1.bndB fun d2 h2 φ2 H2 v2 _ x2 S2 r2 k2 => ?_⟩
  split at k2
  rotate_left
  · exact k2.elim
  rename_i xs hxs
  split at k2
  rotate_left
  · exact k2.elim
  rename_i ys hys
  split at k2
  rotate_left
  · exact k2.elim
  rename_i hl
  obtain ⟨q, vs, e1, e2, e3⟩ := LV.sq S2 r2 hxs
  have ev := e3.strs? hys
  subst ev
  subst e1
  exact ⟨_, q, ys, rfl, rfl, sqOr e2, Nat.le_trans hl (by decide), k2 φ2 H2 _ x2 S2 (.str _)⟩

/-! ### f-strings -/
/-- the parts of an f-string -/
inductive SJ (F : Fx) (X : Cx) (W : XK) (C : Nat → List D → Hh → R D) : List Expr → Es → Prop where
  | nil : SJ F X W C [] .nil
  | txt {s : Str} {j : Nat} {p : Pos} {es : List Expr} {xs : Es} (r : SJ F X W C es xs) : SJ F X W C (.Constant (.str s) j p :: es) (.cons (.str s) xs)
  | fmt {e : Expr} {x : E} {p : Pos} {es : List Expr} {xs : Es} (h : SE F X W e (ev F.P C x)) (r : SJ F X W C es xs) : SJ F X W C (.FormattedValue e (-1) none p :: es) (.cons x xs)
theorem str_len (a b : Str) : (a ++ b).length = a.length + b.length := by
  show (a.cps ++ b.cps).size = _
  rw [Array.size_append]; rfl
theorem strs_cons {d : D} {ds : List D} {ys : List Str} (e : strs? (d :: ds) = some ys) : ∃ y zs, d = .str y ∧ strs? ds = some zs ∧ ys = y :: zs := by
  cases d with
  | str y =>
    have e' : (strs? ds).map (y :: ·) = some ys := e
    obtain ⟨zs, h1, h2⟩ := Option.map_eq_some_iff.mp e'
    exact ⟨y, zs, rfl, h1, h2.symm⟩
  | _ => cases e
theorem sj_run {es : List Expr} {xs : Es} (h : SJ F X W C es xs) : ∃ ts, L2.PJ X es ts ∧ ∀ (acc : Str) (σ' : L2.St) (H : Hp) (Q : Str → Hp → Prop) (φ : List Addr) (h0 : Hh) (σ : Sto) (vs : List D) (h1 : Hh) (ys : List Str), Sim F X.K φ h0 H → RE X.K φ H σ σ' →
    evs F.P C xs σ h0 = .ok vs h1 → strs? (vs.map txtOf) = some ys → acc.length + (ys.map (·.length)).sum ≤ LIM → (∀ φ1 H1, Ext φ H φ1 H1 → Sim F X.K φ1 h1 H1 → Q (ys.foldl (· ++ ·) acc) H1) → tJs ts acc σ' H Q := by
  induction h with
  | nil =>
    refine ⟨[], .nil, fun acc σ' H Q φ h0 σ vs h1 ys S E e1 e2 e3 q => ?_⟩
    simp only [evs] at e1
    cases e1
    cases e2
    exact q φ H Ext.refl S
  | @txt s j p es xs r ih =>
    obtain ⟨ts, pj, hh⟩ := ih
    refine ⟨_, .cons pe_str pj, fun acc σ' H Q φ h0 σ vs h1 ys S E e1 e2 e3 q => ?_⟩
    simp only [evs, ev, R.bnd_ok] at e1
    cases q1 : evs F.P C xs σ h0 with
    | bad => rw [q1] at e1; cases e1
    | exc _ _ => rw [q1] at e1; cases e1
    | ok ws h2 =>
      rw [q1] at e1
      cases e1
      obtain ⟨y, zs, h3, h4, rfl⟩ := strs_cons (d := txtOf (.str s)) e2
      cases h3
      have e3' : acc.length + (s.length + (zs.map (·.length)).sum) ≤ LIM := by simpa using e3
      have hl : (acc ++ s).length + (zs.map (·.length)).sum ≤ LIM := by rw [str_len]; omega
      exact ⟨s, rfl, Nat.le_trans (Nat.le_trans (Nat.le_add_right _ _) hl) limLine, hh (acc ++ s) σ' H Q φ h0 σ ws h1 zs S E q1 h4 hl fun φ1 H1 x1 S1 => q φ1 H1 x1 S1⟩
  | @fmt e x p es xs h r ih =>
    obtain ⟨ts, pj, hh⟩ := ih
    refine ⟨_, .cons (pe_fmt h) pj, fun acc σ' H Q φ h0 σ vs h1 ys S E e1 e2 e3 q => ?_⟩
    simp only [evs] at e1
    refine ⟨φ, h0, σ, S, E, ?_⟩
    cases q0 : ev F.P C x σ h0 with
    | bad => rw [q0] at e1; cases e1
    | exc _ _ => rw [q0] at e1; cases e1
    | ok d h2 =>
      rw [q0] at e1
      simp only [R.bnd_ok] at e1
      cases q1 : evs F.P C xs σ h2 with
      | bad => rw [q1] at e1; cases e1
      | exc _ _ => rw [q1] at e1; cases e1
      | ok ws h3 =>
        rw [q1] at e1
        cases e1
        obtain ⟨y, zs, h4, h5, rfl⟩ := strs_cons (d := txtOf d) e2
        have e3' : acc.length + (y.length + (zs.map (·.length)).sum) ≤ LIM := by simpa using e3
        have hl : (acc ++ y).length + (zs.map (·.length)).sum ≤ LIM := by rw [str_len]; omega
        intro φ1 H1 v x1 S1 r1
        have rest : ∃ y', V.str y = .str y' ∧ (acc ++ y').length ≤ sizeLine ∧ tJs ts (acc ++ y') σ' H1 Q :=
          ⟨y, rfl, Nat.le_trans (Nat.le_trans (Nat.le_add_right _ _) hl) limLine, hh (acc ++ y) σ' H1 Q φ1 h2 σ ws h1 zs S1 (E.mono (S.up x1)) q1 h5 hl fun φ2 H2 x2 S2 => q φ2 H2 (x1.trans x2) S2⟩
        cases r1 with
        | str s =>
          cases h4
          exact .inl ⟨_, rfl, by have := limLine; omega, rest⟩
        | int i =>
          right
          have h4 : (if i.natAbs.log2 < 1920 then D.str (toString i) else .non) = .str y := h4
          by_cases hz : i.natAbs.log2 < 1920
          · rw [if_pos hz] at h4
            cases h4
            exact ⟨i, rfl, hz, rest⟩
          · rw [if_neg hz] at h4
            cases h4
        | _ => cases h4
theorem se_fs {e1 e2 : Expr} {xs : Es} (h : SJ F X W C (e1 :: e2 :: es) xs) : SE F X W (.JoinedStr (e1 :: e2 :: es) p) (ev F.P C (.fs xs)) := by
  obtain ⟨ts, pj, hh⟩ := sj_run h
  refine ⟨fun pins s σ' H Q I ⟨φ, h0, σ, S, E, kt⟩ => (pe_joined pj).run pins s σ' H Q I ?_⟩
  simp only [ev] at kt
  cases q1 : evs F.P C xs σ h0 with
  | bad => rw [q1] at kt; exact kt.elim
  | exc _ _ => rw [q1] at kt; exact kt.elim
  | ok vs h1 =>
    rw [q1] at kt
    simp only [R.nox_ok, R.bnd_ok] at kt
    split at kt
    rotate_left
    · exact kt.elim
    rename_i ys hys
    split at kt
    rotate_left
    · exact kt.elim
    rename_i hl
    exact hh Str.empty σ' H _ φ h0 σ vs h1 ys S E q1 hys (by show 0 + _ ≤ _; omega) fun φ1 H1 x1 S1 => kt φ1 H1 _ x1 S1 (.str _)
end
end PI

set_option maxRecDepth 100000
set_option maxHeartbeats 2000000
/-! PIm: statements. -/
namespace PI
open PySem PySem.Spec PyProof.Rows L2
inductive FlV where
  | nx (σ : L2.St) | rt (v : V) | bk (σ : L2.St) | ct (σ : L2.St)
inductive RFl (K : PySem.W.Frag) (φ : List Addr) (H : Hp) : Fl → FlV → Prop where
  | nx {σ σ'} : RE K φ H σ σ' → RFl K φ H (.nx σ) (.nx σ')
  | rt {d v} : RD K φ H d v → RFl K φ H (.rt d) (.rt v)
  | bk {σ σ'} : RE K φ H σ σ' → RFl K φ H (.bk σ) (.bk σ')
  | ct {σ σ'} : RE K φ H σ σ' → RFl K φ H (.ct σ) (.ct σ')
def QFl (D : L2.Ends) : FlV → Hp → Prop
  | .nx σ, H => D.nx σ H
  | .rt v, H => D.rt v H
  | .bk σ, H => D.bk σ H
  | .ct σ, H => D.ct σ H
def mS (F : Fx) (K : PySem.W.Frag) (W : XK) (m : Sto → Hh → R Fl) : TS := fun D σ' H => ∃ φ h σ, Sim F K φ h H ∧ RE K φ H σ σ' ∧ Kt F K W φ H (m σ h) (RFl K) (QFl D)
section
variable {F : Fx} {X : Cx} {W : XK} {C : Nat → List D → Hh → R D} {k : Nat} {e a b c o tg f : Expr} {es : List Expr} {pos p apos cpos : Pos} {st : Stmt} {sts : List Stmt}
abbrev SS (F : Fx) (X : Cx) (W : XK) (st : Stmt) (m : Sto → Hh → R Fl) : Prop := PS X st (mS F X.K W m)
abbrev SSs (F : Fx) (X : Cx) (W : XK) (st : List Stmt) (m : Sto → Hh → R Fl) : Prop := PSs X st (mS F X.K W m)
theorem Kt.nx {φ : List Addr} {H : Hp} {h : Hh} {K : PySem.W.Frag} {D : L2.Ends} {σ : Sto} {σ' : L2.St} (k : Kt F K W φ H (.ok (.nx σ) h) (RFl K) (QFl D)) (S : Sim F K φ h H) (E : RE K φ H σ σ') : D.nx σ' H := k.ok (b := .nx σ') S (.nx E)
theorem ss_nil : SSs F X W [] (execs F.P C .nil) := by
  refine ⟨fun pins s σ' H D I ⟨φ, h, σ, S, E, kt⟩ => pss_nil.run pins s σ' H D I ?_⟩
  simp only [execs] at kt
  exact kt.nx S E
theorem ss_cons {x : S} {xs : Ss} (h1 : SS F X W st (exec F.P C x)) (h2 : SSs F X W sts (execs F.P C xs)) : SSs F X W (st :: sts) (execs F.P C (.cons x xs)) := by
  refine ⟨fun pins s σ' H D I ⟨φ, h, σ, S, E, kt⟩ => (pss_cons h1 h2).run pins s σ' H D I ?_⟩
  simp only [execs] at kt
  refine ⟨φ, h, σ, S, E, kt.bnd fun f h1 φ1 H1 v _ x1 S1 r1 k1 => ?_⟩
  cases r1 with
  | nx E1 => exact ⟨φ1, h1, _, S1, E1, k1⟩
  | rt r => exact k1.ok (b := .rt _) S1 (.rt r)
  | bk E1 => exact k1.ok (b := .bk _) S1 (.bk E1)
  | ct E1 => exact k1.ok (b := .ct _) S1 (.ct E1)
theorem ss_pass : SS F X W (.Pass pos) (exec F.P C .pass) := by
  refine ⟨fun pins s σ' H D I ⟨φ, h, σ, S, E, kt⟩ => ps_pass.run pins s σ' H D I ?_⟩
  simp only [exec] at kt
  exact kt.nx S E
theorem ss_expr {x : E} (h : SE F X W e (ev F.P C x)) (hs : swapsWith e none pos.line X.env = pure false) : SS F X W (.Expr e pos) (exec F.P C (.expr x)) := by
  refine ⟨fun pins s σ' H D I ⟨φ, h0, σ, S, E, kt⟩ => (ps_expr h hs).run pins s σ' H D I ?_⟩
  simp only [exec] at kt
  exact ⟨φ, h0, σ, S, E, kt.bnd fun d h1 φ1 H1 v _ x1 S1 r1 k1 => k1.nx S1 (E.mono (S.up x1))⟩
theorem ss_ret {x : E} (h : SE F X W e (ev F.P C x)) : SS F X W (.Return (some e) pos) (exec F.P C (.ret x)) := by
  refine ⟨fun pins s σ' H D I ⟨φ, h0, σ, S, E, kt⟩ => (ps_ret h).run pins s σ' H D I ?_⟩
  simp only [exec] at kt
  exact ⟨φ, h0, σ, S, E, kt.bnd fun d h1 φ1 H1 v _ x1 S1 r1 k1 => k1.ok (b := .rt v) S1 (.rt r1)⟩
theorem ss_if {x : E} {ys zs : Ss} {as bs : List Stmt} (hc : PT X c (mB F X.K W (tst (ev F.P C x)))) (ha : SSs F X W as (execs F.P C ys)) (hb : SSs F X W bs (execs F.P C zs)) : SS F X W (.If c as bs pos) (exec F.P C (.if_ x ys zs)) := by
  refine ⟨fun pins s σ' H D I ⟨φ, h0, σ, S, E, kt⟩ => (ps_if hc ha hb).run pins s σ' H D I ?_⟩
  simp only [exec] at kt
  rw [tst_bnd (f := fun b h1 => match b with | true => execs F.P C ys σ h1 | false => execs F.P C zs σ h1) (fun d h => by cases d with | bl b => cases b <;> rfl | _ => rfl)] at kt
  refine ⟨φ, h0, σ, S, E, kt.bnd fun d h1 φ1 H1 v _ x1 S1 r1 k1 => ?_⟩
  subst r1
  cases d with
  | true => rw [if_pos rfl]; exact ⟨φ1, h1, σ, S1, E.mono (S.up x1), k1⟩
  | false => rw [if_neg Bool.false_ne_true]; exact ⟨φ1, h1, σ, S1, E.mono (S.up x1), k1⟩
/-! ### stores -/
theorem set_go {t : Tg} {σ : Sto} {σ' : L2.St} {φ φ1 : List Addr} {H H1 : Hp} {h1 : Hh} {d : D} {v : V} {Dn : L2.Ends} (k1 : Kt F X.K W φ1 H1 (opt ((asT t d σ).map Fl.nx) h1) (RFl X.K) (QFl Dn)) (S1 : Sim F X.K φ1 h1 H1) (E1 : RE X.K φ1 H1 σ σ') (r : RD X.K φ1 H1 d v) : mG F X.K t v σ' H1 Dn.nx := by
  obtain ⟨σ1, e1, k2⟩ := opt_map_some k1
  exact ⟨φ1, h1, σ, d, σ1, S1, E1, r, e1, fun σ1' E2 _ => k2.nx S1 E2⟩
theorem ss_set {x : E} {t : Tg} (h : SE F X W e (ev F.P C x)) (hg : PG X tg (mG F X.K t)) (hs : swapsWithSole [tg] e pos.line X.env = pure false) (hw : swappedStores [tg] e X.env = pure none) (h1 : (assignEach [tg] X.env).map (·.2) = [assign tg X.env]) :
    SS F X W (.Assign [tg] e pos) (exec F.P C (.set t x)) := by
  refine ⟨fun pins s σ' H D I ⟨φ, h0, σ, S, E, kt⟩ => (ps_asg h hg hs hw h1).run pins s σ' H D I ?_⟩
  simp only [exec] at kt
  exact ⟨φ, h0, σ, S, E, kt.bnd fun d h1 φ1 H1 v _ x1 S1 r1 k1 => set_go (φ := φ) (H := H) k1 S1 (E.mono (S.up x1)) r1⟩
/-- name = [..] on one line -/
theorem ss_setLc {i : Nat} {y : Str} {py spos : Pos} {x : E} {t : Tg} {it : It} {co : OE} {ifs : List Expr} {scope : Scope} {own : List (Str × Nat)} {elt tg iter : Expr} (hc : X.calm = true) (c : CompOk F X W C tg iter ifs scope own t it co)
    (he : ∀ (s : Shared) (H : Hp) (A : Addr) (cl : List (Str × Addr)) (fp : List Addr), SE F (X.blk s H scope (compEnvC scope cl A X.env) fp) WE0 elt (ev F.P C x)) (hy : X.N[i]? = some y) (hyl : X.env.scope.names.lookup y = some .local)
    (hsw : swapsWith (.ListComp elt [⟨tg, iter, ifs, 0⟩] scope pos) (some (.Name y py)) spos.line X.env = pure true) : SS F X W (.Assign [.Name y py] (.ListComp elt [⟨tg, iter, ifs, 0⟩] scope pos) spos) (exec F.P C (.set (.nm i) (.lst (.comp x t it co (own.map (·.2)))))) := by
  refine ⟨fun pins s σ' H D I ⟨φ, h0, σ, S, E, kt⟩ => (ps_setLc (te := mE F X.K WE0 (ev F.P C x)) hc c.nd hy hyl hsw c.it c.ok c.g c.ts he c.s).run pins s σ' H D I ?_⟩
  refine lc_wish c.w (lst_wish rfl ?_)
  simp only [exec] at kt
  refine ⟨φ, h0, σ, S, E, kt.bnd fun d h1 φ1 H1 v _ x1 S1 r1 k1 => ?_⟩
  exact k1.nx S1 ((E.mono (S.up x1)).set r1)
theorem ss_sub {x y z : E} {tpos : Pos} (h : SE F X W e (ev F.P C z)) (c : XC F X W C k) (ho : SE F X W o (ev F.P C x)) (hi : SE F X W a (ev F.P C y)) (ha : ∀ v, assign (.Subscript o a tpos) X.env v = (do
      let ov ← holding [v] (eval o X.env)
      let iv ← holding [v, ov] (eval a X.env)
      standAt tpos
      holding [v, ov, iv] (setItem ov iv v)
      release [v, ov, iv] [])) (hs : swapsWithSole [.Subscript o a tpos] e pos.line X.env = pure false) (hw : swappedStores [.Subscript o a tpos] e X.env = pure none) (h1 : (assignEach [.Subscript o a tpos] X.env).map (·.2) = [assign (.Subscript o a tpos) X.env]) :
    SS F X W (.Assign [.Subscript o a tpos] e pos) (exec F.P C (.sub x y z)) := by
  refine ⟨fun pins s σ' H D I ⟨φ, h0, σ, S, E, kt⟩ => (ps_asg h (pg_sub ho hi (set_any (F := F) c.hu) ha) hs hw h1).run pins s σ' H D I ?_⟩
  simp only [exec] at kt
  refine ⟨φ, h0, σ, S, E, kt.bnd fun d h1 φ1 H1 v _ x1 S1 r1 k1 => ?_⟩
  have E1 := E.mono (S.up x1)
  refine ⟨φ1, h1, σ, S1, E1, k1.bnd fun d2 h2 φ2 H2 v2 _ x2 S2 r2 k2 => ?_⟩
  have E2 := E1.mono (S1.up x2)
  refine ⟨φ2, h2, σ, S2, E2, k2.bnd fun d3 h3 φ3 H3 v3 _ x3 S3 r3 k3 => ?_⟩
  split at k3
  · rename_i h4 e4
    exact ⟨φ3, h3, d2, d3, d, h4, S3, r2.mono (S2.up x3), r3, (r1.mono (S1.up x2)).mono (S2.up x3), e4, fun H' x4 S4 => (Kt.mono x4 k3).nx S4 ((E2.mono (S2.up x3)).mono (S3.up x4))⟩
  · exact k3.elim
/-- o[i], p[j] = a pair -/
theorem ss_sub2 {x y x' y' z : E} {o' a' : Expr} {tpos tpos' pt : Pos} {kt' : Nat} (h : SE F X W e (ev F.P C z)) (c : XC F X W C k) (ho : SE F X W o (ev F.P C x)) (hi : SE F X W a (ev F.P C y)) (ho' : SE F X W o' (ev F.P C x')) (hi' : SE F X W a' (ev F.P C y'))
    (ha : ∀ v, assign (.Subscript o a tpos) X.env v = (do
      let ov ← holding [v] (eval o X.env)
      let iv ← holding [v, ov] (eval a X.env)
      standAt tpos
      holding [v, ov, iv] (setItem ov iv v)
      release [v, ov, iv] []))
    (ha' : ∀ v, assign (.Subscript o' a' tpos') X.env v = (do
      let ov ← holding [v] (eval o' X.env)
      let iv ← holding [v, ov] (eval a' X.env)
      standAt tpos'
      holding [v, ov, iv] (setItem ov iv v)
      release [v, ov, iv] [])) (hs : swapsWithSole [.Tuple [.Subscript o a tpos, .Subscript o' a' tpos'] kt' pt] e pos.line X.env = pure false) (hw : swappedStores [.Tuple [.Subscript o a tpos, .Subscript o' a' tpos'] kt' pt] e X.env = pure none) :
    SS F X W (.Assign [.Tuple [.Subscript o a tpos, .Subscript o' a' tpos'] kt' pt] e pos) (exec F.P C (.sub2 x y x' y' z)) := by
  refine ⟨fun pins s σ' H D I ⟨φ, h0, σ, S, E, kt⟩ => (ps_asg h (pg_tup c.calm (pgs_cons (pg_sub ho hi (set_any (F := F) c.hu) ha) (pgs_cons (pg_sub ho' hi' (set_any (F := F) c.hu) ha') pgs_nil)) (n := 2) rfl rfl) hs hw rfl).run pins s σ' H D I ?_⟩
  simp only [exec] at kt
  refine ⟨φ, h0, σ, S, E, kt.bnd fun d h1 φ1 H1 v _ x1 S1 r1 k1 => ?_⟩
  have E1 := E.mono (S.up x1)
  split at k1
  rotate_left
  · exact k1.elim
  rename_i d1 d2
  cases r1 with
  | tup t rs =>
    cases rs with
    | cons q1 rs =>
      cases rs with
      | cons q2 rs =>
        cases rs
        refine ⟨_, _, rfl, t, rfl, _, _, rfl, φ1, h1, σ, S1, E1, k1.bnd fun d2 h2 φ2 H2 v2 _ x2 S2 r2 k2 => ?_⟩
        have E2 := E1.mono (S1.up x2)
        refine ⟨φ2, h2, σ, S2, E2, k2.bnd fun d3 h3 φ3 H3 v3 _ x3 S3 r3 k3 => ?_⟩
        split at k3
        rotate_left
        · exact k3.elim
        rename_i h4 e4
        refine ⟨φ3, h3, d2, d3, _, h4, S3, r2.mono (S2.up x3), r3, (q1.mono (S1.up x2)).mono (S2.up x3), e4, fun H4 x4 S4 => ?_⟩
        have k4 := Kt.mono x4 k3
        have E4 := (E2.mono (S2.up x3)).mono (S3.up x4)
        have q4 := ((q2.mono (S1.up x2)).mono (S2.up x3)).mono (S3.up x4)
        refine ⟨_, _, rfl, φ3, h4, σ, S4, E4, k4.bnd fun d5 h5 φ5 H5 v5 _ x5 S5 r5 k5 => ?_⟩
        have E5 := E4.mono (S4.up x5)
        refine ⟨φ5, h5, σ, S5, E5, k5.bnd fun d6 h6 φ6 H6 v6 _ x6 S6 r6 k6 => ?_⟩
        split at k6
        rotate_left
        · exact k6.elim
        rename_i h7 e7
        exact ⟨φ6, h6, d5, d6, _, h7, S6, r5.mono (S5.up x6), r6, (q4.mono (S4.up x5)).mono (S5.up x6), e7, fun H' x7 S7 => ⟨rfl, (Kt.mono x7 k6).nx S7 ((E5.mono (S5.up x6)).mono (S6.up x7))⟩⟩
theorem ss_fld (c : XC F X W C k) {x z : E} {fi : Nat} {n : Str} (hn : n = F.att fi) (h : SE F X W e (ev F.P C z)) (ho : SE F X W o (ev F.P C x)) (hs : swapsWith e (some (.Attribute o n apos)) pos.line X.env = pure false) : SS F X W (.Assign [.Attribute o n apos] e pos) (exec F.P C (.fld x fi z)) := by
  subst hn
  refine ⟨fun pins s σ' H D I ⟨φ, h0, σ, S, E, kt⟩ => (ps_fld ho h hs).run pins s σ' H D I ?_⟩
  simp only [exec] at kt
  refine ⟨φ, h0, σ, S, E, kt.bnd fun d h1 φ1 H1 v _ x1 S1 r1 k1 => ?_⟩
  have E1 := E.mono (S.up x1)
  refine ⟨φ1, h1, σ, S1, E1, k1.bnd fun d2 h2 φ2 H2 v2 _ x2 S2 r2 k2 => ?_⟩
  have E2 := E1.mono (S1.up x2)
  split at k2
  rotate_left
  · exact k2.elim
  split at k2
  rotate_left
  · exact k2.elim
  rename_i cl fs hx
  split at k2
  rotate_left
  · exact k2.elim
  rename_i hc
  split at k2
  rotate_left
  · exact k2.elim
  rename_i hat
  split at k2
  rotate_left
  · exact k2.elim
  rename_i hl
  cases r2 with
  | ref ea =>
    obtain ⟨dx, fv, h2', h3⟩ := S2.at_ ea hx
    obtain ⟨hfl, hno⟩ := c.gd.fld cl fi hc hat
    have hm := List.mem_of_getElem? ea
    have xx : Ext φ2 H2 φ2 (upd H2 _ (.ins (F.ca cl) dx (putF (F.att fi) v fv))) := Ext.chg hm (by rw [h2']; intro _ _ z; cases z)
    have SS' := S2.chg ea (u := .ins (F.ca cl) dx (putF (F.att fi) v fv)) (o := .ins cl (fput fi d fs)) ⟨dx, _, upd_same, (h3.put c.gd hfl (r1.mono (S1.up x2))).mono (S2.upChg hm)⟩
    exact ⟨_, _, dx, fv, rfl, h2', c.gd.cls cl hc, hno, by rw [← h3.length]; omega, (Kt.mono xx k2).nx SS' (E2.mono (S2.upChg hm))⟩
theorem ss_par {i j : Nat} {x y : E} {n m : Str} {px py pt : Pos} {kt' k2 : Nat} {pt2 : Pos} (hc : X.calm = true) (hN : X.N.Nodup) (hi : X.N[i]? = some n) (hj : X.N[j]? = some m) (hij : i ≠ j) (hx : X.env.scope.names.lookup n = some .local) (hy : X.env.scope.names.lookup m = some .local)
    (ha : PA X [a, b] (mA F X.K W (evs F.P C (.cons x (.cons y .nil)))))
    (hw : swappedStores [.Tuple [.Name n px, .Name m py] kt' pt] (.Tuple [a, b] k2 pt2) X.env = pure (some [n, m])) (hs : swapsWithSole [.Tuple [.Name n px, .Name m py] kt' pt] (.Tuple [a, b] k2 pt2) pos.line X.env = pure false) :
    SS F X W (.Assign [.Tuple [.Name n px, .Name m py] kt' pt] (.Tuple [a, b] k2 pt2) pos) (exec F.P C (.par i j x y)) := by
  refine ⟨fun pins s σ' H D I ⟨φ, h0, σ, S, E, kt⟩ => (ps_par hc hN hi hj hij hx hy ha hw hs).run pins s σ' H D I ?_⟩
  simp only [exec] at kt
  refine ⟨φ, h0, σ, S, E, ?_⟩
  have kt' : Kt F X.K W φ H ((evs F.P C (.cons x (.cons y .nil)) σ h0).bnd fun vs h2 => match vs with
    | [v, w] => .ok (.nx ((σ.set i (some v)).set j (some w))) h2
    | _ => .bad) (RFl X.K) (QFl D) := by
    simp only [evs, R.bnd_assoc, R.bnd_ok]
    exact kt
  refine kt'.bnd fun ds h1 φ1 H1 vs _ x1 S1 r1 k1 => ?_
  split at k1
  rotate_left
  · exact k1.elim
  cases r1 with
  | cons r1 rr =>
    cases rr with
    | cons r2 rr =>
      cases rr
      exact ⟨_, _, rfl, k1.nx S1 (((E.mono (S.up x1)).set r1).set r2)⟩
theorem ss_aug {i : Nat} {n : Str} {x : E} (hN : X.N.Nodup) (hi : X.N[i]? = some n) (hx : Loc X.env.scope n) (hf : X.fn n = true ∨ X.env.scope.names.lookup n = some .local) (h : SE F X W e (ev F.P C x)) : SS F X W (.AugAssign (.Name n p) .Add e pos) (exec F.P C (.aug i x)) := by
  refine ⟨fun pins s σ' H D I ⟨φ, h0, σ, S, E, kt⟩ => (ps_aug hN hi hx h ip_add hf).run pins s σ' H D I ?_⟩
  simp only [exec] at kt
  split at kt
  rotate_left
  · exact kt.elim
  rename_i mm hm
  obtain ⟨v, e1, r⟩ := E.at_ i _ hm
  cases r
  refine ⟨_, e1, φ, h0, σ, S, E, kt.bnd fun d h1 φ1 H1 v _ x1 S1 r1 k1 => ?_⟩
  split at k1
  rotate_left
  · exact k1.elim
  cases r1
  exact ⟨_, _, rfl, rfl, k1.nx S1 ((E.mono (S.up x1)).set (.int _))⟩
theorem get_list : PGet X (rIxL X.K) := by
  intro pins s σ H x y v u Q I rx ry h
  obtain ⟨p, xs, i, z, rfl, rfl, hq, he, q⟩ := h
  cases rx
  obtain ⟨t, rfl⟩ := ry
  obtain ⟨its, r, pl, hz⟩ := I.list hq
  obtain ⟨j, h1, h2, h3, h4, h5⟩ := atI_get he
  obtain ⟨w, ew, rw'⟩ := r.get h2
  have hl := r.length
  have hn := line63
  have fin : EP X pins σ Q w s := ⟨z, H, I, rw', q⟩
  by_cases h0 : 0 ≤ i
  · have hj : i.toNat = j := by
      rw [seqIndex_of h0 h5] at h1
      exact Option.some.inj h1
    exact wpAny_getItem_list pl.isList h0 (by omega) (by rw [hj]; simpa using ew) fin
  · have hj : (i + (its.toArray.size : Int)).toNat = j := by
      rw [seqIndex_neg (by omega) h4] at h1
      rw [List.size_toArray, ← hl]
      exact Option.some.inj h1
    exact wpAny_getItem_list_neg pl.isList (by omega) (by rw [List.size_toArray] <;> omega) (by omega) (by rw [hj]; simpa using ew) fin
theorem ss_augS (c : XC F X W C k) {x y z : E} {tpos : Pos} (ho : SE F X W o (ev F.P C x)) (hi : SE F X W a (ev F.P C y)) (h : SE F X W e (ev F.P C z)) (ha : ∀ ov iv new, augStore a ov iv new = (do holding [new, ov, iv] (setItem ov iv new); release [new, ov, iv] []; pure .next)) :
    SS F X W (.AugAssign (.Subscript o a tpos) .Add e pos) (exec F.P C (.augS x y z)) := by
  refine ⟨fun pins s σ' H D I ⟨φ, h0, σ, S, E, kt⟩ => (ps_augS ho hi get_list h ip_add (set_any (F := F) c.hu) ha).run pins s σ' H D I ?_⟩
  simp only [exec] at kt
  refine ⟨φ, h0, σ, S, E, kt.bnd fun d h1 φ1 H1 v _ x1 S1 r1 k1 => ?_⟩
  have E1 := E.mono (S.up x1)
  refine ⟨φ1, h1, σ, S1, E1, k1.bnd fun d2 h2 φ2 H2 v2 _ x2 S2 r2 k2 => ?_⟩
  have E2 := E1.mono (S1.up x2)
  split at k2
  rotate_left
  · exact k2.elim
  rename_i mm hg
  have r1' := r1.mono (S1.up x2)
  unfold augGet at hg
  split at hg
  rotate_left
  · cases hg
  split at hg
  rotate_left
  · cases hg
  rename_i xs hx
  cases r2
  have r1c := r1'
  cases r1' with
  | ref ea =>
    obtain ⟨vs, e2, rv⟩ := lst_at S2 ea hx
    obtain ⟨w, e3, rw'⟩ := atI_rel rv hg
    cases rw'
    refine ⟨_, vs, _, _, rfl, rfl, SqL.of e2, e3, φ2, h2, σ, S2, E2, k2.bnd fun d3 h3 φ3 H3 v3 _ x3 S3 r3 k3 => ?_⟩
    have E3 := E2.mono (S2.up x3)
    split at k3
    rotate_left
    · exact k3.elim
    cases r3
    refine ⟨_, _, rfl, rfl, ?_⟩
    split at k3
    rotate_left
    · exact k3.elim
    rename_i h4 e4
    exact ⟨φ3, h3, _, _, _, h4, S3, r1c.mono (S2.up x3), .int _, .int _, e4, fun H' x4 S4 => (Kt.mono x4 k3).nx S4 (E3.mono (S3.up x4))⟩
end
end PI

set_option maxRecDepth 100000
set_option maxHeartbeats 2000000
/-! PIn: loops, raise. -/
namespace PI
open PySem PySem.Spec PyProof.Rows L2
section
variable {F : Fx} {X : Cx} {W : XK} {C : Nat → List D → Hh → R D} {k : Nat} {e a b c o tg f iter : Expr} {es : List Expr} {pos p apos cpos : Pos} {st : Stmt} {sts : List Stmt}
theorem ss_while (c0 : XC F X W C k) {x : E} {ys : Ss} (hc : PT X c (mB F X.K W (tst (ev F.P C x)))) (hb : SSs F X W sts (execs F.P C ys)) : SS F X W (.While c sts [] pos) (exec F.P C (.while_ x ys)) := by
  refine ⟨fun pins s σ' H D I ⟨φ, h0, σ, S, E, kt⟩ => (ps_while c0.po hc hb).run pins s σ' H D I ?_⟩
  simp only [exec] at kt
  have kt : Kt F X.K W φ H (whileGo (tst (ev F.P C x)) (fun σ h => execs F.P C ys σ h) big σ h0) (RFl X.K) (QFl D) := kt
  generalize big = n0 at kt
  refine ⟨fun n σ' H' => ∃ φ h σ, Sim F X.K φ h H' ∧ RE X.K φ H' σ σ' ∧ Kt F X.K W φ H' (whileGo (tst (ev F.P C x)) (fun σ h => execs F.P C ys σ h) n σ h) (RFl X.K) (QFl D), ⟨n0, φ, h0, σ, S, E, kt⟩, ?_⟩
  rintro n σ1' H1 ⟨φ1, h1, σ1, S1, E1, k1⟩
  cases n with
  | zero => exact k1.elim
  | succ n =>
    unfold whileGo at k1
    refine ⟨φ1, h1, σ1, S1, E1, k1.bnd fun d h2 φ2 H2 v _ x2 S2 r2 k2 => ?_⟩
    subst r2
    have E2 := E1.mono (S1.up x2)
    cases d with
    | false => rw [if_neg Bool.false_ne_true]; exact k2.nx S2 E2
    | true =>
      rw [if_pos rfl]
      refine ⟨fun σ' H' => ∃ φ h σ, Sim F X.K φ h H' ∧ RE X.K φ H' σ σ' ∧ Kt F X.K W φ H' (whileGo (tst (ev F.P C x)) (fun σ h => execs F.P C ys σ h) n σ h) (RFl X.K) (QFl D), fun σ' H' w => ⟨n, Nat.lt_succ_self _, w⟩, ?_⟩
      refine ⟨φ2, h2, σ1, S2, E2, k2.bnd fun f h3 φ3 H3 v _ x3 S3 r3 k3 => ?_⟩
      cases r3 with
      | nx E3 => exact ⟨φ3, h3, _, S3, E3, k3⟩
      | ct E3 => exact ⟨φ3, h3, _, S3, E3, k3⟩
      | bk E3 => exact k3.nx S3 E3
      | rt r => exact k3.ok (b := .rt _) S3 (.rt r)
theorem for_run {iv : Iv} {J : L2.It} {φ1 : List Addr} {H1 : Hp} {h1 : Hh} {σ : Sto} {σ' : L2.St} {t : Tg} {mb : Sto → Hh → R Fl} {D : L2.Ends}
    (S1 : Sim F X.K φ1 h1 H1) (E1 : RE X.K φ1 H1 σ σ') (ri : RI F X.K φ1 H1 iv J) (kt : Kt F X.K W φ1 H1 (forGo iv.fin iv.get t mb iv.n 0 σ h1) (RFl X.K) (QFl D)) :
    ∃ Wv : Nat → Nat → L2.St → Hp → Prop, (∃ m, Wv 0 m σ' H1) ∧ ∀ i m σ H, Wv i m σ H →
      (J.stop i H ∧ D.nx σ H) ∨ (J.go i H ∧ ∃ N : L2.St → Hp → Prop, (∀ σ' H', N σ' H' → ∃ m', m' < m ∧ Wv (i + 1) m' σ' H') ∧ ∀ x H', J.yld i H x H' → mG F X.K t x σ H' fun σ2 H2 => mS F X.K W mb { D with nx := N, ct := N, bk := D.nx } σ2 H2) := by
  let Pv : Nat → Nat → L2.St → Hp → Prop := fun i m σ' H => m = iv.n - i ∧ i ≤ iv.n ∧ ∃ φ h σ, Ext φ1 H1 φ H ∧ Sim F X.K φ h H ∧ RE X.K φ H σ σ' ∧ Kt F X.K W φ H (forGo iv.fin iv.get t mb (iv.n - i) i σ h) (RFl X.K) (QFl D)
  refine ⟨Pv, ⟨iv.n, rfl, Nat.zero_le _, φ1, h1, σ, Ext.refl, S1, E1, kt⟩, ?_⟩
  rintro i m σ' H ⟨rfl, hi, φ, h, σ, x1, S, E, e1⟩
  by_cases hlt : i < iv.n
  · right
    obtain ⟨n, hn⟩ : ∃ n, iv.n - i = n + 1 := ⟨iv.n - i - 1, by omega⟩
    have hn1 : n = iv.n - (i + 1) := by omega
    rw [hn] at e1
    unfold forGo at e1
    split at e1
    · exact e1.elim
    rename_i d ed
    refine ⟨ri.go i φ h H d hlt x1 S ed, fun σ' H' => Pv (i + 1) n σ' H', fun σ' H' w => ⟨n, by omega, w⟩, fun x H' y => ?_⟩
    obtain ⟨x2, S2, rd⟩ := ri.yld i φ h H d x H' hlt x1 S ed y
    split at e1
    · exact e1.elim
    rename_i σ2 eb
    have E2 := E.mono (S.up x2)
    refine ⟨φ, h, σ, d, σ2, S2, E2, rd, eb, fun σ2' E3 _ => ⟨φ, h, σ2, S2, E3, ?_⟩⟩
    have X2 := x1.trans x2
    refine (Kt.mono x2 e1).bnd fun f h3 φ3 H3 v _ x3 S3 r3 k3 => ?_
    cases r3 with
    | nx E4 => exact ⟨hn1, hlt, φ3, h3, _, X2.trans x3, S3, E4, by rw [← hn1]; exact k3⟩
    | ct E4 => exact ⟨hn1, hlt, φ3, h3, _, X2.trans x3, S3, E4, by rw [← hn1]; exact k3⟩
    | bk E4 => exact k3.nx S3 E4
    | rt r => exact k3.ok (b := .rt _) S3 (.rt r)
  · left
    have e : i = iv.n := by omega
    subst e
    rw [Nat.sub_self] at e1
    unfold forGo at e1
    split at e1
    · rename_i hf
      exact ⟨ri.stop φ _ H x1 S hf, e1.nx S E⟩
    · exact e1.elim
theorem ss_for (c0 : XC F X W C k) {t : Tg} {it : It} {ys : Ss} (hi : SI F X W tg iter (evIt F.P C it)) (hg : PG X tg (mG F X.K t)) (hb : SSs F X W sts (execs F.P C ys)) (hs : ∀ x, foldedSetIterable iter X.env x = pure x) :
    SS F X W (.For tg iter sts [] pos) (exec F.P C (.for_ t it ys)) := by
  refine ⟨fun pins s σ' H D I ⟨φ, h0, σ, S, E, kt⟩ => (ps_for c0.po c0.calm hi hg hb hs).run pins s σ' H D I ?_⟩
  simp only [exec] at kt
  exact ⟨φ, h0, σ, S, E, kt.bnd fun J h1 φ1 H1 J' _ x1 S1 r1 k1 => for_run S1 (E.mono (S.up x1)) r1 k1⟩
theorem ss_forI (c0 : XC F X W C k) {t : Tg} {z : E} {ys : Ss} {elts : List Expr} {kk : Nat} {tpos : Pos} (ha : SE F X W a (ev F.P C z)) (hg : PG X (.Tuple elts kk tpos) (mG F X.K t)) (hb : SSs F X W sts (execs F.P C ys))
    (hs : ∀ v, foldedSetIterable (.Call (.Attribute a "items" apos) [] [] cpos) X.env v = pure v) (hbase : attributeBase a "items" X.env (eval a X.env) = eval a X.env) (hline : (apos.endLine == cpos.line) = true) :
    SS F X W (.For (.Tuple elts kk tpos) (.Call (.Attribute a "items" apos) [] [] cpos) sts [] pos) (exec F.P C (.forI t z ys)) := by
  refine ⟨fun pins s σ' H D I ⟨φ, h0, σ, S, E, kt⟩ => (ps_lock (ps_for c0.po c0.calm (pi_items ha hbase hline) hg hb hs)).run pins s σ' H D I ?_⟩
  simp only [exec] at kt
  split at kt
  rotate_left
  · exact kt.elim
  rename_i i _ _
  split at kt
  rotate_left
  · exact kt.elim
  rename_i kvs hL eL
  obtain ⟨q, kv, e1, e2, rk, hod⟩ := lock_sim S eL
  refine ⟨q, .dK kv, e2, trivial, fun od => ?_⟩
  obtain ⟨xL, SL⟩ := hod od
  have EL := E.mono (S.up xL)
  refine ⟨φ, hL, σ, SL, EL, ?_⟩
  cases q1 : ev F.P C z σ hL with
  | bad => rw [q1] at kt; exact kt.elim
  | exc c hz => rw [q1] at kt; exact Kt.mono xL kt
  | ok d1 h1 =>
    rw [q1] at kt
    intro φ1 H1 w x1 S1 r1
    simp only [R.bnd_ok] at kt
    split at kt
    rotate_left
    · exact kt.elim
    rename_i hr
    have := isRef_eq hr
    subst this
    cases r1 with
    | ref e3 =>
      rw [x1.at_ e1] at e3
      cases e3
      have e4 := x1.frz _ _ _ (upd_same : (upd H q (.frz od (.dK kv))) q = _)
      refine ⟨q, od, kv, rfl, e4, ?_⟩
      have rk1 := (rk.mono (S.up xL)).mono (SL.up x1)
      refine for_run (W := W) (mb := fun σ h => execs F.P C ys σ h) S1 (EL.mono (SL.up x1)) (ri_items e4 S1 rk1) ?_
      show Kt F X.K W φ1 H1 (forGo (fun _ => true) (fun _ => kvAt kvs) t (fun σ h => execs F.P C ys σ h) kvs.length 0 σ h1) (RFl X.K) _
      cases q2 : forGo (fun _ => true) (fun _ => kvAt kvs) t (fun σ h => execs F.P C ys σ h) kvs.length 0 σ h1 with
      | bad => rw [q2] at kt; exact kt.elim
      | exc c hz =>
        rw [q2] at kt
        exact fun φ2 H2 x2 S2 => kt φ2 H2 (xL.trans (x1.trans x2)) S2
      | ok f h2 =>
        rw [q2] at kt
        simp only [R.bnd_ok] at kt
        intro φ2 H2 b x2 S2 r2
        have e5 := x2.frz _ _ _ e4
        split at kt
        rotate_left
        · exact kt.elim
        rename_i h3 eT
        have e6 : φ2[i]? = some q := x2.at_ (x1.at_ e1)
        have S3 := thaw_sim S2 e6 e5 eT
        have xx : Ext φ H φ2 (upd H2 q (.dK kv)) := (xL.trans (x1.trans x2)).updIn (List.mem_of_getElem? e1) (by rw [e2]; intro _ _ z; cases z)
        have up := S2.upChg (List.mem_of_getElem? e6) (u := .dK kv)
        have r3 : RFl X.K φ2 (upd H2 q (.dK kv)) f b := by
          cases r2 with
          | nx E4 => exact .nx (E4.mono up)
          | ct E4 => exact .ct (E4.mono up)
          | bk E4 => exact .bk (E4.mono up)
          | rt r => exact .rt (r.mono up)
        have fin := kt φ2 _ b xx S3 r3
        cases b <;> exact ⟨e5, fin⟩
theorem ss_raise (c0 : XC F X W C k) {n : Nat} {x m : Str} {j : Nat} {p2 pos2 : Pos} (hx : F.ise n = true) (hg : Gl X x) (hm : X.mg x = some (.ref (F.ca n))) (hdb : (x == ("__debug__" : Str)) = false) : SS F X W (.Raise (some (.Call (.Name x p) [.Constant (.str m) j p2] [] pos2)) none pos) (exec F.P C (.raise n)) := by
  obtain ⟨⟨bm, new, ⟨B, init, ef⟩, h1⟩, h2, h3, h4⟩ := c0.gd.exc n hx
  refine ⟨fun pins s σ' H D I ⟨φ, h0, σ, S, E, kt⟩ => (ps_raise c0.calm c0.tk (pmk_own ef h1 hm h4 (raises_own h2 h3) hg hdb)).run pins s σ' H D I ?_⟩
  simp only [exec] at kt
  exact kt φ H Ext.refl S
/-! ### except clauses that return a constant -/
/-- the clauses, read -/
inductive Hl (F : Fx) : List (Nat × E) → List (Value × (Addr → Value → Option Addr → TS)) → Prop
  | nil : Hl F [] []
  | cons {n : Nat} {x : E} {d : D} {v : V} {hs : List (Nat × E)} {l : List (Value × (Addr → Value → Option Addr → TS))} (hn : F.ise n = true) (hc : cst x = some d) (hv : ∀ K φ H, RD K φ H d v) (r : Hl F hs l) : Hl F ((n, x) :: hs) ((.ref (F.ca n), fun _ _ _ D _ H => D.rt v H) :: l)
theorem hdl_wish {c : Nat} (hc : F.ise c = true) (gd : Gd F X.K) {D : L2.Ends} {φ φ1 : List Addr} {H H1 : Hp} {h1 : Hh} (x1 : Ext φ H φ1 H1) (S1 : Sim F X.K φ1 h1 H1) : ∀ {hs : List (Nat × E)} {l : List (Value × (Addr → Value → Option Addr → TS))}, Hl F hs l → Kt F X.K W φ H (hdl c h1 hs) (RFl X.K) (QFl D) → ∀ σ, wMany X.K (fun c d _ H => W c d H) D l (.ref (F.ca c)) none σ H1 := by
  intro hs l hl
  induction hl with
  | nil => exact fun kt σ => kt φ1 H1 x1 S1
  | @cons n x d v hs l hn hx hv r ih =>
    intro kt σ
    unfold hdl at kt
    refine ⟨_, gd.exm c n hc hn, fun hb a _ => ?_, fun hb => ?_⟩
    · have e : c = n := by simpa using hb
      rw [if_pos e, hx] at kt
      exact kt φ1 H1 (.rt v) x1 S1 (.rt (hv _ _ _))
    · have e : c ≠ n := by simpa using hb
      rw [if_neg e] at kt
      exact ih kt σ
theorem ss_try (c0 : XC F X W C k) (hst : X.stack = X.env :: X.outer) (hf : X.env.frame = some X.env.locals) {ys : Ss} {ks : List Nat} {hs : List (Nat × E)} {h₀ : ExceptHandler} {hds : List ExceptHandler} {l : List (Value × (Addr → Value → Option Addr → TS))}
    (hb : ∀ (W' : XK) (pn : List (Addr × Obj)) (xe : Value → Shared → Prop), Takes (X.tr pn xe) (fun c d _ H => W' c d H) → PassesOwn (model X.prog X.w) X.A X.env xe → SSs F (X.tr pn xe) W' sts (execs F.P C ys))
    (hh : HdsOk X (h₀ :: hds) l) (hl : Hl F hs l) (hk : ∀ n ∈ ks, F.ise n = true) : SS F X W (.Try sts (h₀ :: hds) [] [] pos) (exec F.P C (.try_ ys ks hs)) := by
  refine ⟨fun pins s σ' H D I ⟨φ, h0, σ, S, E, kt⟩ => (ps_try_many (tb := fun Wf => mS F X.K (fun c d H => ∀ σ, Wf c d σ H) (execs F.P C ys)) hst hf c0.tk (fun Wf pn xe tk po => ?_) hh).run pins s σ' H D I ?_⟩
  · exact hb (fun c d H => ∀ σ, Wf c d σ H) pn xe (tk.imp fun c d σ H h => h σ) po
  · refine ⟨φ, h0, σ, S, E, ?_⟩
    simp only [exec] at kt
    cases q : execs F.P C ys σ h0 with
    | bad => rw [q] at kt; exact kt.elim
    | ok f h1 => rw [q] at kt; exact kt
    | exc c h1 =>
      rw [q] at kt
      dsimp only at kt
      split at kt
      rotate_left
      · exact kt.elim
      rename_i hc
      have hc : F.ise c = true := hk c (by simpa using hc)
      exact fun φ1 H1 x1 S1 σ2 => hdl_wish hc c0.gd x1 S1 hl kt σ2
end
end PI

set_option maxRecDepth 100000
set_option maxHeartbeats 2000000
/-! PIo: the checker: own code against the program's text. -/
namespace PI
open PySem PySem.Spec PyProof.Rows L2
/-- what the module's names stand for -/
structure Tb where
  fns : List (Str × Nat)
  cls : List (Str × Nat)
  exs : List (Str × Nat)
  con : List (Str × Nat)
  blt : List Str
  att : List Str
structure Ck where
  N : List Str
  sc : Scope
  fn : Str → Bool
  T : Tb
structure TbOk (F : Fx) (K : PySem.W.Frag) (mg : Str → Option Value) (T : Tb) : Prop where
  fns : ∀ x f, T.fns.lookup x = some f → mg x = some (.ref (F.fa f)) ∧ PySem.W.keepIn K (.ref (F.fa f)) = true
  cls : ∀ x f, T.cls.lookup x = some f → mg x = some (.ref (F.ca f)) ∧ PySem.W.keepIn K (.ref (F.ca f)) = true
  exs : ∀ x f, T.exs.lookup x = some f → mg x = some (.ref (F.ca f)) ∧ F.ise f = true
  con : ∀ x g, T.con.lookup x = some g → GloOk F K mg x g
  blt : ∀ x, T.blt.contains x = true → mg x = none
  att : ∀ i x, T.att[i]? = some x → x = F.att i
structure XM (F : Fx) (X : Cx) (c : Ck) : Prop where
  n : X.N = c.N
  sc : X.env.scope = c.sc
  fn : X.fn = c.fn
  nd : c.N.Nodup
  t : TbOk F X.K X.mg c.T
def ns : Expr → Bool
  | .Starred .. => false
  | _ => true
def glB (c : Ck) (x : Str) : Bool := decide (c.sc.names.lookup x = some .globalImplicit)
def bB (c : Ck) (x n : Str) : Bool := decide (x = n) && glB c x && c.T.blt.contains x
def visB (c : Ck) (x : Str) : Bool := match c.sc.names.lookup x with
  | some .local => true
  | some .cell => true
  | some .free => true
  | _ => false
def locB (c : Ck) (x : Str) : Bool := match c.sc.names.lookup x with
  | some .local => true
  | some .cell => c.fn x
  | _ => false
def slotB (c : Ck) (i : Nat) (x : Str) : Bool := decide (c.N[i]? = some x)
/-- not a display of a set -/
def nset : Expr → Bool
  | .Set .. => false
  | _ => true
def nslc : Expr → Bool
  | .Slice .. => false
  | _ => true
/-- no bare call of a name -/
def ncal : Expr → Bool
  | .Call (.Name _ _) [] [] _ => false
  | _ => true
/-- tests that are values -/
def tval : Expr → Bool
  | .UnaryOp .. => false
  | .BoolOp .. => false
  | .IfExp .. => false
  | .Compare .. => false
  | _ => true
def lineB (p q : Pos) : Bool := p.endLine == q.line
def ncomp : Expr → Bool
  | .ListComp .. => false
  | .SetComp .. => false
  | .DictComp .. => false
  | _ => true
theorem ns_eq {e : Expr} {es : List Expr} {env : PySem.Env} (h : ns e = true) : starEach (e :: es) env = (false, eval e env) :: starEach es env := by
  cases e <;> first | rfl | cases h
theorem ns_any {es : List Expr} {env : PySem.Env} {pos : Pos} (h : es.all ns = true) : (backTo pos (starEach es env)).any (·.1) = false := by
  induction es with
  | nil => rfl
  | cons e es ih =>
    simp only [List.all_cons, Bool.and_eq_true] at h
    rw [ns_eq h.1]
    show (false || (backTo pos (starEach es env)).any (·.1)) = false
    rw [ih h.2]; rfl
theorem ns_all {es : List Expr} {env : PySem.Env} {pos : Pos} (h : es.all ns = true) : (backTo pos (starEach es env)).all (fun x => !x.1) = true := by
  induction es with
  | nil => rfl
  | cons e es ih =>
    simp only [List.all_cons, Bool.and_eq_true] at h
    rw [ns_eq h.1]
    show (true && (backTo pos (starEach es env)).all (fun x => !x.1)) = true
    rw [ih h.2]; rfl
theorem ncal_eq {o : Expr} {n : Str} {env : PySem.Env} {w : Sem Value} (h : ncal o = true) : attributeBase o n env w = w := by
  unfold attributeBase
  split
  · cases h
  · rfl
theorem nset_eq {o : CmpOp} {e : Expr} (h : nset e = true) : behindInMarks o e = false := by
  cases e <;> first | rfl | cases h
theorem nslc_eq {e : Expr} (h : nslc e = true) : PlainIx e := by
  intro o i
  cases e <;> first | rfl | cases h
theorem tval_eq {e : Expr} {env : PySem.Env} (h : tval e = true) (whole : Sem Value) : isTrue e env whole = (do let v ← whole; standAt e.pos; holding [v] (truthy v)) := by
  cases e <;> first | rfl | (simp only [tval] at h; cases h)
theorem nsetI_eq {e : Expr} {env : PySem.Env} (h : nset e = true) (x : Value) : foldedSetIterable e env x = pure x := by
  cases e <;> first | rfl | cases h
theorem visB_ok {X : Cx} {c : Ck} {x : Str} (e : X.env.scope = c.sc) (h : visB c x = true) : Vis X.env.scope x := by
  unfold visB at h
  rw [e]
  split at h <;> first | exact .inl (by assumption) | exact .inr (.inl (by assumption)) | exact .inr (.inr (by assumption)) | cases h
theorem locB_ok {X : Cx} {c : Ck} {x : Str} (e : X.env.scope = c.sc) (ef : X.fn = c.fn) (h : locB c x = true) : Loc X.env.scope x ∧ (X.fn x = true ∨ X.env.scope.names.lookup x = some .local) := by
  unfold locB at h
  rw [e, ef]
  split at h
  · exact ⟨.inl (by assumption), .inr (by assumption)⟩
  · exact ⟨.inr (by assumption), .inl h⟩
  · cases h
theorem glB_ok {X : Cx} {c : Ck} {x : Str} (e : X.env.scope = c.sc) (h : glB c x = true) : Gl X x := by
  show X.env.scope.names.lookup x = _
  rw [e]
  exact of_decide_eq_true h
theorem bB_ok {F : Fx} {X : Cx} {c : Ck} {x n : Str} (m : XM F X c) (h : bB c x n = true) : x = n ∧ Gl X n ∧ X.mg n = none := by
  unfold bB at h
  simp only [Bool.and_eq_true] at h
  obtain ⟨⟨h1, h2⟩, h3⟩ := h
  have e := of_decide_eq_true h1
  subst e
  exact ⟨rfl, glB_ok m.sc h2, m.t.blt _ h3⟩
def dbg (x : Str) : Bool := !(x == ("__debug__" : Str))
theorem dbg_ok {x : Str} (h : dbg x = true) : (x == ("__debug__" : Str)) = false := by simpa [dbg] using h
def relC (c : Ck) (scope : Scope) : Ck := ⟨c.N, relS scope c.sc, fun x => scope.names.lookup x == some .cell, c.T⟩
def ownP (c : Ck) (own : List Nat) : List (Str × Nat) := own.map fun i => (c.N.getD i "", i)
theorem ownP_snd (c : Ck) (own : List Nat) : (ownP c own).map (·.2) = own := by
  unfold ownP
  rw [List.map_map]
  exact List.map_id' own
def tyB (c : Ck) (t : Ty) (n : Str) : Bool := match t with
  | .tuple => bB c n "tuple"
  | .int => bB c n "int"
  | .bool => bB c n "bool"
  | .str => bB c n "str"
  | .list => bB c n "list"
  | .dict => bB c n "dict"
  | .cls d => glB c n && decide (c.T.cls.lookup n = some d) && dbg n
mutual
def ckTg : Tg → Ck → Expr → Bool
  | .nm i, c, e => match e with
    | .Name x _ => slotB c i x && locB c x
    | _ => false
  | .tup ts, c, e => match e with
    | .Tuple es _ _ => ckTgs ts c es
    | _ => false
def ckTgs : Tgs → Ck → List Expr → Bool
  | .nil, _, es => match es with
    | [] => true
    | _ => false
  | .cons t ts, c, es => match es with
    | e :: es => ns e && ckTg t c e && ckTgs ts c es
    | _ => false
end
theorem assign_ns {e : Expr} {es : List Expr} {env : PySem.Env} (h : ns e = true) : assignEach (e :: es) env = (false, assign e env) :: assignEach es env := by
  cases e <;> first | rfl | cases h
section
variable {F : Fx}
mutual
theorem ckTg_ok : ∀ (t : Tg) (c : Ck) (e : Expr), ckTg t c e = true → ∀ X : Cx, X.calm = true → XM F X c → PG X e (mG F X.K t)
  | .nm i, c, e, h, X, hc, m => by
    unfold ckTg at h
    split at h
    rotate_left
    · cases h
    simp only [Bool.and_eq_true] at h
    obtain ⟨h1, h2⟩ := locB_ok m.sc m.fn h.2
    exact sg_nm (by rw [m.n]; exact m.nd) (by rw [m.n]; exact of_decide_eq_true h.1) h1 h2
  | .tup ts, c, e, h, X, hc, m => by
    unfold ckTg at h
    split at h
    rotate_left
    · cases h
    obtain ⟨h1, h2, h3⟩ := ckTgs_ok ts c _ h X hc m
    exact sg_tup hc h1 h2 h3
theorem ckTgs_ok : ∀ (t : Tgs) (c : Ck) (es : List Expr), ckTgs t c es = true → ∀ X : Cx, X.calm = true → XM F X c → PGs X es (mGs F X.K t) ∧ (assignEach es X.env).length = t.len ∧ (assignEach es X.env).findIdx? (·.1) = none
  | .nil, c, es, h, X, hc, m => by
    unfold ckTgs at h
    split at h
    · exact ⟨sgs_nil, rfl, rfl⟩
    · cases h
  | .cons t ts, c, es, h, X, hc, m => by
    unfold ckTgs at h
    split at h
    rotate_left
    · cases h
    rename_i e0 es0
    simp only [Bool.and_eq_true] at h
    obtain ⟨⟨h0, h1⟩, h2⟩ := h
    have q1 := ckTg_ok t c _ h1 X hc m
    obtain ⟨q2, q3, q4⟩ := ckTgs_ok ts c _ h2 X hc m
    have ea := assign_ns (es := es0) (env := X.env) h0
    refine ⟨sgs_cons q1 q2 (by rw [ea]; rfl), by rw [ea]; exact congrArg Nat.succ q3, ?_⟩
    rw [ea, List.findIdx?_cons]
    simp only [Bool.false_eq_true, if_false, q4]
    rfl
end
end

def argB (c : Ck) (x n : Str) (a : Expr) : Bool := bB c x n && ns a
def metB (x n : Str) (o : Expr) (apos pos : Pos) : Bool := decide (x = n) && ncal o && lineB apos pos
mutual
def ckE : E → Bool → Ck → Expr → Bool
  | .var i, t, c, e => match e with
    | .Name x p => (!t || tval (.Name x p)) && (slotB c i x && visB c x && dbg x && !(x == ("__classdict__" : Str)))
    | _ => false
  | .non, t, _, e => match e with
    | .Constant .none _ _ => true
    | _ => false
  | .bl b, t, _, e => match e with
    | .Constant (.bool b') _ _ => decide (b' = b)
    | _ => false
  | .int i, t, _, e => match e with
    | .Constant (.int j) _ _ => decide (j = i)
    | _ => false
  | .str s, t, _, e => match e with
    | .Constant (.str j) _ _ => decide (j = s)
    | _ => false
  | .glo g, t, c, e => match e with
    | .Name x _ => glB c x && decide (c.T.con.lookup x = some g) && dbg x
    | _ => false
  | .tup es, t, c, e => match e with
    | .Tuple xs _ _ => ckEs es c xs
    | _ => false
  | .lst l, t, c, e => (!t || tval e) && ((match e with
    | .Call (.Name x _) [a] [] _ => argB c x "list" a && ckL l c a
    | _ => false) || (l.fresh && ckL l c e))
  | .dict, t, _, e => match e with
    | .Dict [] [] _ => true
    | _ => false
  | .bin o a b, t, c, e => match e with
    | .BinOp x op y _ => decide (op = opOf o) && ckE a false c x && ckE b false c y
    | _ => false
  | .neg a, t, c, e => match e with
    | .UnaryOp .USub x _ => !t && ckE a false c x
    | _ => false
  | .not a, t, c, e => match e with
    | .UnaryOp .Not x _ => ckE a t c x
    | _ => false
  | .and a b, t, c, e => match e with
    | .BoolOp .And (x :: l) p => ckE a t c x && (match l with
      | [] => false
      | [y] => ckE b t c y
      | y :: z :: r => ckE b t c (.BoolOp .And (y :: z :: r) p))
    | _ => false
  | .or a b, t, c, e => match e with
    | .BoolOp .Or (x :: l) p => ckE a t c x && (match l with
      | [] => false
      | [y] => ckE b t c y
      | y :: z :: r => ckE b t c (.BoolOp .Or (y :: z :: r) p))
    | _ => false
  | .cmp o a b, t, c, e => match e with
    | .Compare x [op] [y] _ => decide (op = cOf o) && nset y && ckE a false c x && ckE b false c y
    | _ => false
  | .cmp2 o o' a b d, t, c, e => match e with
    | .Compare x [op, op'] [y, z] _ => decide (op = cOf o) && decide (op' = cOf o') && nset y && nset z && ckE a false c x && ckE b false c y && ckE d false c z
    | _ => false
  | .isN a, t, c, e => match e with
    | .Compare x [.Is] [.Constant .none _ _] _ => ckE a false c x
    | _ => false
  | .notN a, t, c, e => match e with
    | .Compare x [.IsNot] [.Constant .none _ _] _ => ckE a false c x
    | _ => false
  | .ifx d a b, t, c, e => match e with
    | .IfExp z x y _ => !t && ckE d true c z && ckE a false c x && ckE b false c y
    | _ => false
  | .idx a i, t, c, e => match e with
    | .Subscript x y _ => nslc y && ckE a false c x && ckE i false c y
    | _ => false
  | .sl a lo hi, t, c, e => match e with
    | .Subscript x (.Slice l h none _) _ => ckE a false c x && ckO lo c l && ckO hi c h
    | _ => false
  | .isi a ty, t, c, e => match e with
    | .Call (.Name f _) [x, .Name n _] [] _ => argB c f "isinstance" x && tyB c ty n && ckE a false c x
    | _ => false
  | .call f es, t, c, e => match e with
    | .Call (.Name x _) args [] _ => glB c x && decide (c.T.fns.lookup x = some f) && dbg x && args.all ns && ckEs es c args
    | _ => false
  | .mk f es, t, c, e => match e with
    | .Call (.Name x _) args [] _ => glB c x && decide (c.T.cls.lookup x = some f) && dbg x && !args.isEmpty && args.all ns && ckEs es c args
    | _ => false
  | .fld a f, t, c, e => match e with
    | .Attribute x n _ => decide (c.T.att[f]? = some n) && ncal x && ckE a false c x
    | _ => false
  | .mth a m es, t, c, e => match e with
    | .Call (.Attribute o n apos) args [] pos => decide (c.T.att[m]? = some n) && ncal o && lineB apos pos && args.all ns && decide (args.length < 30) && ckE a false c o && ckEs es c args
    | _ => false
  | .len l, t, c, e => match e with
    | .Call (.Name x _) [a] [] _ => argB c x "len" a && ckL l c a
    | _ => false
  | .abs l, t, c, e => match e with
    | .Call (.Name x _) [a] [] _ => argB c x "abs" a && ckE l false c a
    | _ => false
  | .int1 l, t, c, e => match e with
    | .Call (.Name x _) [a] [] _ => argB c x "int" a && ckE l false c a
    | _ => false
  | .str1 l, t, c, e => match e with
    | .Call (.Name x _) [a] [] _ => argB c x "str" a && ckE l false c a
    | _ => false
  | .lrng i j, t, c, e => match e with
    | .Call (.Name x _) [.Call (.Name y _) [a, b] [] _] [] _ => bB c x "list" && bB c y "range" && ns a && ns b && ckE i false c a && ckE j false c b
    | _ => false
  | .tupl l, t, c, e => match e with
    | .Call (.Name x _) [a] [] _ => argB c x "tuple" a && ckL l c a
    | _ => false
  | .sum l, t, c, e => match e with
    | .Call (.Name x _) [a] [] _ => argB c x "sum" a && ckL l c a
    | _ => false
  | .all l, t, c, e => match e with
    | .Call (.Name x _) [a] [] _ => argB c x "all" a && ckL l c a
    | _ => false
  | .any l, t, c, e => match e with
    | .Call (.Name x _) [a] [] _ => argB c x "any" a && ckL l c a
    | _ => false
  | .dictOf l, t, c, e => match e with
    | .Call (.Name x _) [a] [] _ => argB c x "dict" a && ckE l false c a
    | _ => false
  | .max2 a b, t, c, e => match e with
    | .Call (.Name x _) [y, z] [] _ => argB c x "max" y && ns z && ckE a false c y && ckE b false c z
    | _ => false
  | .min2 a b, t, c, e => match e with
    | .Call (.Name x _) [y, z] [] _ => argB c x "min" y && ns z && ckE a false c y && ckE b false c z
    | _ => false
  | .app a b, t, c, e => match e with
    | .Call (.Attribute o n apos) [x] [] pos => metB n "append" o apos pos && ns x && ckE a false c o && ckE b false c x
    | _ => false
  | .ext a l, t, c, e => match e with
    | .Call (.Attribute o n apos) [x] [] pos => metB n "extend" o apos pos && ns x && ckE a false c o && ckL l c x
    | _ => false
  | .pop a b, t, c, e => match e with
    | .Call (.Attribute o n apos) [x] [] pos => metB n "pop" o apos pos && ns x && ckE a false c o && ckE b false c x
    | _ => false
  | .get a b d, t, c, e => match e with
    | .Call (.Attribute o n apos) [x, y] [] pos => metB n "get" o apos pos && ns x && ns y && ckE a false c o && ckE b false c x && ckE d false c y
    | _ => false
  | .index a b, t, c, e => match e with
    | .Call (.Attribute o n apos) [x] [] pos => metB n "index" o apos pos && ns x && ckE a false c o && ckE b false c x
    | _ => false
  | .join a l, t, c, e => match e with
    | .Call (.Attribute o n apos) [x] [] pos => metB n "join" o apos pos && ns x && ckE a false c o && ckL l c x
    | _ => false
  | .split a b, t, c, e => match e with
    | .Call (.Attribute o n apos) [x] [] pos => metB n "split" o apos pos && ns x && ckE a false c o && ckE b false c x
    | _ => false
  | .fs es, t, c, e => match e with
    | .JoinedStr (p :: q :: r) _ => ckFs es c (p :: q :: r)
    | _ => false
  | .dc k v tg it own, t, c, e => match e with
    | .DictComp kx vx [⟨tx, iter, [], 0⟩] scope _ => nset iter && blkC c.N c.sc scope (ownP c own) && Tg.within own tg && ckIt it c tx iter && ckTg tg (relC c scope) tx && ckE k false (relC c scope) kx && ckE v false (relC c scope) vx
    | _ => false
  | .dcI k v tg x own, t, c, e => match e with
    | .DictComp kx vx [⟨.Tuple elts kk tpos, .Call (.Attribute a n apos) [] [] cpos, [], 0⟩] scope _ => metB n "items" a apos cpos && blkC c.N c.sc scope (ownP c own) && Tg.within own tg && ckE x false c a && ckTg tg (relC c scope) (.Tuple elts kk tpos) &&
        ckE k false (relC c scope) kx && ckE v false (relC c scope) vx
    | _ => false
def ckO : OE → Ck → Option Expr → Bool
  | .none, _, e => match e with
    | none => true
    | some _ => false
  | .some x, c, e => match e with
    | none => false
    | some e => ckE x false c e
def ckC : OE → Ck → List Expr → Bool
  | .none, _, e => match e with
    | [] => true
    | _ => false
  | .some x, c, e => match e with
    | [e] => ckE x true c e
    | _ => false
def ckEs : Es → Ck → List Expr → Bool
  | .nil, _, es => match es with
    | [] => true
    | _ => false
  | .cons x xs, c, es => match es with
    | e :: es => ns e && ckE x false c e && ckEs xs c es
    | _ => false
def ckFs : Es → Ck → List Expr → Bool
  | .nil, _, es => match es with
    | [] => true
    | _ => false
  | .cons x xs, c, es => match es with
    | e :: es => (match e with
      | .Constant (.str s) _ _ => (match x with
        | .str z => decide (s = z)
        | _ => false)
      | .FormattedValue y cv none _ => decide (cv = -1) && ckE x false c y
      | _ => false) && ckFs xs c es
    | _ => false
def ckL : L → Ck → Expr → Bool
  | .of x, c, e => ckE x false c e
  | .lit es, c, e => match e with
    | .List xs _ => ckEs es c xs
    | _ => false
  | .comp x tg it co own, c, e => match e with
    | .ListComp elt [⟨tx, iter, ifs, 0⟩] scope _ => nset iter && blkC c.N c.sc scope (ownP c own) && Tg.within own tg && ckIt it c tx iter && ckTg tg (relC c scope) tx && ckC co (relC c scope) ifs && ckE x false (relC c scope) elt
    | _ => false
  | .cat a b, c, e => match e with
    | .BinOp x .Add y _ => ckL a c x && ckL b c y
    | _ => false
  | .sorted l, c, e => match e with
    | .Call (.Name x _) [a] [] _ => argB c x "sorted" a && ckL l c a
    | _ => false
def ckIt : It → Ck → Expr → Expr → Bool
  | .rng1 x, c, _, e => match e with
    | .Call (.Name n _) [a] [] _ => argB c n "range" a && ckE x false c a
    | _ => false
  | .rng2 x y, c, _, e => match e with
    | .Call (.Name n _) [a, b] [] _ => argB c n "range" a && ns b && ckE x false c a && ckE y false c b
    | _ => false
  | .rng3 x y z, c, _, e => match e with
    | .Call (.Name n _) [a, b, d] [] _ => argB c n "range" a && ns b && ns d && ckE x false c a && ckE y false c b && ckE z false c d
    | _ => false
  | .enum l, c, tx, e => match e, tx with
    | .Call (.Name n _) [a] [] _, .Tuple .. => argB c n "enumerate" a && ckL l c a
    | _, _ => false
  | .zip l r, c, tx, e => match e, tx with
    | .Call (.Name n _) [a, b] [] _, .Tuple .. => argB c n "zip" a && ns b && ckL l c a && ckL r c b
    | _, _ => false
  | .seq l, c, _, e => ckL l c e
end
end PI

set_option maxRecDepth 100000
set_option maxHeartbeats 4000000
/-! PIp: what the checker accepts is what the interpreter computes: expressions. -/
namespace PI
open PySem PySem.Spec PyProof.Rows L2
section
variable {F : Fx} {X : Cx} {W : XK} {C : Nat → List D → Hh → R D} {k : Nat} {e : Expr} {c : Ck}
theorem XC.blk (x : XC F X W C k) (s : Shared) (H : Hp) (A : Addr) (cl : List (Str × Addr)) (fp : List Addr) (scope : Scope) : XC F (X.blk s H scope (compEnvC scope cl A X.env) fp) WE0 C k where
  calm := x.calm
  nd := x.nd
  room := x.room
  tk := takes0
  po := PassesOwn.never
  gd := x.gd
  cal := x.cal
theorem XM.blk (m : XM F X c) (s : Shared) (H : Hp) (A : Addr) (cl : List (Str × Addr)) (fp : List Addr) (scope : Scope) : XM F (X.blk s H scope (compEnvC scope cl A X.env) fp) (relC c scope) where
  n := m.n
  sc := by
    show relS scope X.env.scope = relS scope c.sc
    rw [m.sc]
  fn := rfl
  nd := m.nd
  t := m.t
def OkE (F : Fx) (X : Cx) (W : XK) (t : Bool) (e : Expr) (m : Sto → Hh → R D) : Prop := (t = false → SE F X W e m) ∧ (t = true → PT X e (mB F X.K W (tst m)) ∧ ∀ op l p, e = .BoolOp op l p → PW X e (mB F X.K W (tst m)))
theorem okV {t : Bool} {m : Sto → Hh → R D} (h : SE F X W e m) (ht : (!t || tval e) = true) : OkE F X W t e m := by
  refine ⟨fun _ => h, fun z => ?_⟩
  subst z
  have hv : tval e = true := ht
  refine ⟨st_val h (tval_eq hv), fun op l p z => ?_⟩
  subst z
  cases hv
theorem okW {t : Bool} {m : Sto → Hh → R D} (h : SE F X W e m) (hv : tval e = true) : OkE F X W t e m := okV h (by rw [hv]; simp)
theorem okC {t : Bool} {m : Sto → Hh → R D} {a : Expr} {ops : List CmpOp} {l : List Expr} {p : Pos} (h : SE F X W (.Compare a ops l p) m) (h2 : PT X (.Compare a ops l p) (mB F X.K W (tst m))) : OkE F X W t (.Compare a ops l p) m :=
  ⟨fun _ => h, fun _ => ⟨h2, fun _ _ _ z => by cases z⟩⟩
theorem argB_ok {x n : Str} {a : Expr} (m : XM F X c) (h : argB c x n a = true) : x = n ∧ Gl X n ∧ X.mg n = none ∧ ns a = true := by
  unfold argB at h
  simp only [Bool.and_eq_true] at h
  obtain ⟨h1, h2, h3⟩ := bB_ok m h.1
  exact ⟨h1, h2, h3, h.2⟩
theorem metB_ok {x n : Str} {o : Expr} {apos pos : Pos} (h : metB x n o apos pos = true) : x = n ∧ ncal o = true ∧ (apos.endLine == pos.line) = true := by
  unfold metB at h
  simp only [Bool.and_eq_true] at h
  exact ⟨of_decide_eq_true h.1.1, h.1.2, h.2⟩
theorem bm_of {n : Str} {o a : Expr} {apos pos : Pos} (h1 : ncal o = true) (h2 : (apos.endLine == pos.line) = true) (h3 : ns a = true) : BM X o n apos a [] pos where
  base := ncal_eq h1
  few := by
    have e := ns_all (es := [a]) (env := X.env) (pos := pos) (by simp [h3])
    rw [e]; rfl
  line := h2
  s := ns_eq h3
  plain := rfl
theorem m1_of {n : Str} {o a : Expr} {apos pos : Pos} (h1 : ncal o = true) (h2 : (apos.endLine == pos.line) = true) (h3 : ns a = true) : M1 X o n apos a pos where
  base := ncal_eq h1
  few := by
    have e := ns_all (es := [a]) (env := X.env) (pos := pos) (by simp [h3])
    rw [e]; rfl
  line := h2
  trees := by rw [ns_eq h3]; rfl
theorem m2_of {n : Str} {o a b : Expr} {apos pos : Pos} (h1 : ncal o = true) (h2 : (apos.endLine == pos.line) = true) (h3 : ns a = true) (h4 : ns b = true) : M2 X o n apos a b pos where
  base := ncal_eq h1
  few := by
    have e := ns_all (es := [a, b]) (env := X.env) (pos := pos) (by simp [h3, h4])
    rw [e]; rfl
  line := h2
  trees := by rw [ns_eq h3, ns_eq h4]; rfl
theorem tyB_ok {ty : Ty} {n : Str} (m : XM F X c) (h : tyB c ty n = true) :
    (∃ T : String, tyName ty = some T ∧ Gl X n ∧ X.mg n = none ∧ bootBuiltins n = some (.type T) ∧ n ≠ "__name__" ∧ (n == ("__debug__" : Str)) = false) ∨ (∃ d, ty = .cls d ∧ Gl X n ∧ X.mg n = some (.ref (F.ca d)) ∧ (n == ("__debug__" : Str)) = false) := by
  cases ty with
  | cls d =>
    unfold tyB at h
    simp only [Bool.and_eq_true] at h
    exact .inr ⟨d, rfl, glB_ok m.sc h.1.1, (m.t.cls _ _ (of_decide_eq_true h.1.2)).1, dbg_ok h.2⟩
  | tuple => obtain ⟨rfl, h2, h3⟩ := bB_ok m h; exact .inl ⟨_, rfl, h2, h3, by decide +kernel, by decide, by decide⟩
  | int => obtain ⟨rfl, h2, h3⟩ := bB_ok m h; exact .inl ⟨_, rfl, h2, h3, by decide +kernel, by decide, by decide⟩
  | bool => obtain ⟨rfl, h2, h3⟩ := bB_ok m h; exact .inl ⟨_, rfl, h2, h3, by decide +kernel, by decide, by decide⟩
  | str => obtain ⟨rfl, h2, h3⟩ := bB_ok m h; exact .inl ⟨_, rfl, h2, h3, by decide +kernel, by decide, by decide⟩
  | list => obtain ⟨rfl, h2, h3⟩ := bB_ok m h; exact .inl ⟨_, rfl, h2, h3, by decide +kernel, by decide, by decide⟩
  | dict => obtain ⟨rfl, h2, h3⟩ := bB_ok m h; exact .inl ⟨_, rfl, h2, h3, by decide +kernel, by decide, by decide⟩
end
/-- what stands around -/
structure At (F : Fx) (X : Cx) (W : XK) (C : Nat → List D → Hh → R D) (k : Nat) (c : Ck) : Prop where
  x : XC F X W C k
  m : XM F X c
theorem At.blk {F : Fx} {X : Cx} {W : XK} {C : Nat → List D → Hh → R D} {k : Nat} {c : Ck} (a : At F X W C k c) (s : Shared) (H : Hp) (A : Addr) (cl : List (Str × Addr)) (fp : List Addr) (scope : Scope) : At F (X.blk s H scope (compEnvC scope cl A X.env) fp) WE0 C k (relC c scope) :=
  ⟨a.x.blk s H A cl fp scope, a.m.blk s H A cl fp scope⟩
section
variable {F : Fx} {C : Nat → List D → Hh → R D} {k : Nat}
set_option maxHeartbeats 20000000
mutual
theorem ckE_ok : ∀ (x : E) (t : Bool) (c : Ck) (e : Expr), ckE x t c e = true → ∀ (X : Cx) (W : XK), At F X W C k c → OkE F X W t e (ev F.P C x)
  | .var i, t, c, e, h, X, W, A => by
    unfold ckE at h
    split at h
    rotate_left
    · cases h
    simp only [Bool.and_eq_true] at h
    obtain ⟨ht, ⟨⟨h1, h2⟩, h3⟩, h4⟩ := h
    exact okV (se_var (by rw [A.m.n]; exact of_decide_eq_true h1) (visB_ok A.m.sc h2) (dbg_ok h3) (by simpa using h4)) (by simpa using ht)
  | .non, t, c, e, h, X, W, A => by
    unfold ckE at h
    split at h
    rotate_left
    · cases h
    exact okW se_non rfl
  | .bl b, t, c, e, h, X, W, A => by
    unfold ckE at h
    split at h
    rotate_left
    · cases h
    have := of_decide_eq_true h
    subst this
    exact okW se_bl rfl
  | .int i, t, c, e, h, X, W, A => by
    unfold ckE at h
    split at h
    rotate_left
    · cases h
    have := of_decide_eq_true h
    subst this
    exact okW se_int rfl
  | .str i, t, c, e, h, X, W, A => by
    unfold ckE at h
    split at h
    rotate_left
    · cases h
    have := of_decide_eq_true h
    subst this
    exact okW se_str rfl
  | .glo g, t, c, e, h, X, W, A => by
    unfold ckE at h
    split at h
    rotate_left
    · cases h
    simp only [Bool.and_eq_true] at h
    exact okW (se_glo (glB_ok A.m.sc h.1.1) (A.m.t.con _ _ (of_decide_eq_true h.1.2)) (dbg_ok h.2)) rfl
  | .tup es, t, c, e, h, X, W, A => by
    unfold ckE at h
    split at h
    rotate_left
    · cases h
    exact okW (se_tup (ckEs_ok es c _ h X W A)) rfl
  | .lst l, t, c, e, h, X, W, A => by
    unfold ckE at h
    simp only [Bool.and_eq_true, Bool.or_eq_true (_ : Bool) (_ : Bool)] at h
    obtain ⟨ht, h⟩ := h
    refine okV ?_ (by simpa using ht)
    rcases h with h | h
    · split at h
      rotate_left
      · cases h
      simp only [Bool.and_eq_true] at h
      obtain ⟨rfl, h2, h3, h4⟩ := argB_ok A.m h.1
      exact se_listOf (ckL_ok l c _ h.2 X W A) h2 h3 (ns_eq h4)
    · obtain ⟨h1, h2⟩ := h
      exact se_lst h1 (ckL_ok l c _ h2 X W A)
  | .dict, t, c, e, h, X, W, A => by
    unfold ckE at h
    split at h
    rotate_left
    · cases h
    exact okW (se_dict (j := [])) rfl
  | .bin o a b, t, c, e, h, X, W, A => by
    unfold ckE at h
    split at h
    rotate_left
    · cases h
    simp only [Bool.and_eq_true] at h
    have := of_decide_eq_true h.1.1
    subst this
    exact okW (se_bin o ((ckE_ok a false c _ h.1.2 X W A).1 rfl) ((ckE_ok b false c _ h.2 X W A).1 rfl)) rfl
  | .neg a, t, c, e, h, X, W, A => by
    unfold ckE at h
    split at h
    rotate_left
    · cases h
    simp only [Bool.and_eq_true, Bool.not_eq_true'] at h
    exact ⟨fun _ => se_neg ((ckE_ok a false c _ h.2 X W A).1 rfl), fun z => by rw [h.1] at z; cases z⟩
  | .not a, t, c, e, h, X, W, A => by
    unfold ckE at h
    split at h
    rotate_left
    · cases h
    refine ⟨fun z => ?_, fun z => ?_⟩
    · subst z
      exact se_not ((ckE_ok a false c _ h X W A).1 rfl)
    · subst z
      exact ⟨st_not ((ckE_ok a true c _ h X W A).2 rfl).1, fun _ _ _ z => by cases z⟩
  | .and a b, t, c, e, h, X, W, A => by
    unfold ckE at h
    split at h
    rotate_left
    · cases h
    simp only [Bool.and_eq_true] at h
    obtain ⟨h1, h2⟩ := h
    split at h2
    · cases h2
    · refine ⟨fun z => ?_, fun z => ?_⟩
      · subst z
        exact se_and ((ckE_ok a false c _ h1 X W A).1 rfl) (se_one ((ckE_ok b false c _ h2 X W A).1 rfl))
      · subst z
        refine (fun w => ⟨PW.pt w, fun _ _ _ _ => w⟩) ?_
        exact sw_and ((ckE_ok a true c _ h1 X W A).2 rfl).1 (sw_one ((ckE_ok b true c _ h2 X W A).2 rfl).1)
    · refine ⟨fun z => ?_, fun z => ?_⟩
      · subst z
        exact se_and ((ckE_ok a false c _ h1 X W A).1 rfl) ((ckE_ok b false c _ h2 X W A).1 rfl)
      · subst z
        have w := sw_and ((ckE_ok a true c _ h1 X W A).2 rfl).1 (((ckE_ok b true c _ h2 X W A).2 rfl).2 _ _ _ rfl)
        exact ⟨w.pt, fun _ _ _ _ => w⟩
  | .or a b, t, c, e, h, X, W, A => by
    unfold ckE at h
    split at h
    rotate_left
    · cases h
    simp only [Bool.and_eq_true] at h
    obtain ⟨h1, h2⟩ := h
    split at h2
    · cases h2
    · refine ⟨fun z => ?_, fun z => ?_⟩
      · subst z
        exact se_or ((ckE_ok a false c _ h1 X W A).1 rfl) (se_one ((ckE_ok b false c _ h2 X W A).1 rfl))
      · subst z
        refine (fun w => ⟨PW.pt w, fun _ _ _ _ => w⟩) ?_
        exact sw_or ((ckE_ok a true c _ h1 X W A).2 rfl).1 (sw_one ((ckE_ok b true c _ h2 X W A).2 rfl).1)
    · refine ⟨fun z => ?_, fun z => ?_⟩
      · subst z
        exact se_or ((ckE_ok a false c _ h1 X W A).1 rfl) ((ckE_ok b false c _ h2 X W A).1 rfl)
      · subst z
        have w := sw_or ((ckE_ok a true c _ h1 X W A).2 rfl).1 (((ckE_ok b true c _ h2 X W A).2 rfl).2 _ _ _ rfl)
        exact ⟨w.pt, fun _ _ _ _ => w⟩
  | .cmp o a b, t, c, e, h, X, W, A => by
    unfold ckE at h
    split at h
    rotate_left
    · cases h
    simp only [Bool.and_eq_true] at h
    obtain ⟨⟨⟨h1, h2⟩, h3⟩, h4⟩ := h
    have := of_decide_eq_true h1
    subst this
    have q1 := (ckE_ok a false c _ h3 X W A).1 rfl
    have q2 := (ckE_ok b false c _ h4 X W A).1 rfl
    exact okC (se_cmp A.x o q1 q2 (nset_eq h2)) (st_cmp A.x o q1 q2 (nset_eq h2))
  | .cmp2 o o' a b d, t, c, e, h, X, W, A => by
    unfold ckE at h
    split at h
    rotate_left
    · cases h
    simp only [Bool.and_eq_true] at h
    obtain ⟨⟨⟨⟨⟨⟨h1, h1'⟩, h2⟩, h2'⟩, h3⟩, h4⟩, h5⟩ := h
    have := of_decide_eq_true h1
    subst this
    have := of_decide_eq_true h1'
    subst this
    have q1 := (ckE_ok a false c _ h3 X W A).1 rfl
    have q2 := (ckE_ok b false c _ h4 X W A).1 rfl
    have q3 := (ckE_ok d false c _ h5 X W A).1 rfl
    have hl := nset_eq (o := cOf o') h2'
    exact okC (se_cmp2 A.x o o' q1 q2 q3 (nset_eq h2) (nset_eq h2') hl) (st_cmp2 A.x o o' q1 q2 q3 hl)
  | .isN a, t, c, e, h, X, W, A => by
    unfold ckE at h
    split at h
    rotate_left
    · cases h
    have q := (ckE_ok a false c _ h X W A).1 rfl
    exact okC (se_isN q) (st_isN q)
  | .notN a, t, c, e, h, X, W, A => by
    unfold ckE at h
    split at h
    rotate_left
    · cases h
    have q := (ckE_ok a false c _ h X W A).1 rfl
    exact okC (se_notN q) (st_notN q)
  | .ifx d a b, t, c, e, h, X, W, A => by
    unfold ckE at h
    split at h
    rotate_left
    · cases h
    simp only [Bool.and_eq_true, Bool.not_eq_true'] at h
    obtain ⟨⟨⟨h1, h2⟩, h3⟩, h4⟩ := h
    exact ⟨fun _ => se_ifx ((ckE_ok d true c _ h2 X W A).2 rfl).1 ((ckE_ok a false c _ h3 X W A).1 rfl) ((ckE_ok b false c _ h4 X W A).1 rfl), fun z => by rw [h1] at z; cases z⟩
  | .idx a i, t, c, e, h, X, W, A => by
    unfold ckE at h
    split at h
    rotate_left
    · cases h
    simp only [Bool.and_eq_true] at h
    obtain ⟨⟨h1, h2⟩, h3⟩ := h
    exact okW (se_idx A.x ((ckE_ok a false c _ h2 X W A).1 rfl) ((ckE_ok i false c _ h3 X W A).1 rfl) (nslc_eq h1)) rfl
  | .sl a lo hi, t, c, e, h, X, W, A => by
    unfold ckE at h
    split at h
    rotate_left
    · cases h
    simp only [Bool.and_eq_true] at h
    obtain ⟨⟨h1, h2⟩, h3⟩ := h
    exact okW (se_sl ((ckE_ok a false c _ h1 X W A).1 rfl) (ckO_ok lo c _ h2 X W A) (ckO_ok hi c _ h3 X W A)) rfl
  | .isi a ty, t, c, e, h, X, W, A => by
    unfold ckE at h
    split at h
    rotate_left
    · cases h
    simp only [Bool.and_eq_true] at h
    obtain ⟨⟨h1, h2⟩, h3⟩ := h
    obtain ⟨rfl, g1, g2, g3⟩ := argB_ok A.m h1
    exact okW (se_isi A.x ((ckE_ok a false c _ h3 X W A).1 rfl) g1 g2 (ns_eq g3) (tyB_ok A.m h2)) rfl
  | .call f es, t, c, e, h, X, W, A => by
    unfold ckE at h
    split at h
    rotate_left
    · cases h
    simp only [Bool.and_eq_true] at h
    obtain ⟨⟨⟨⟨h1, h2⟩, h3⟩, h4⟩, h5⟩ := h
    obtain ⟨g1, g2⟩ := A.m.t.fns _ _ (of_decide_eq_true h2)
    rename_i x p args pos
    cases args with
    | nil =>
      cases es with
      | nil => exact okW (se_call0 A.x (glB_ok A.m.sc h1) g1 g2 (dbg_ok h3)) rfl
      | cons _ _ => cases h5
    | cons a as =>
      have h4' := h4
      simp only [List.all_cons, Bool.and_eq_true] at h4'
      exact okW (se_call A.x (glB_ok A.m.sc h1) g1 g2 (ckEs_ok es c _ h5 X W A) (dbg_ok h3) (ns_eq h4'.1) (ns_any h4'.2)) rfl
  | .mk f es, t, c, e, h, X, W, A => by
    unfold ckE at h
    split at h
    rotate_left
    · cases h
    simp only [Bool.and_eq_true] at h
    obtain ⟨⟨⟨⟨⟨h1, h2⟩, h3⟩, h6⟩, h4⟩, h5⟩ := h
    obtain ⟨g1, g2⟩ := A.m.t.cls _ _ (of_decide_eq_true h2)
    rename_i x p args pos
    cases args with
    | nil => cases h6
    | cons a as =>
      have h4' := h4
      simp only [List.all_cons, Bool.and_eq_true] at h4'
      exact okW (se_mk A.x (glB_ok A.m.sc h1) g1 g2 (ckEs_ok es c _ h5 X W A) (dbg_ok h3) (ns_eq h4'.1) (ns_any h4'.2)) rfl
  | .fld a f, t, c, e, h, X, W, A => by
    unfold ckE at h
    split at h
    rotate_left
    · cases h
    simp only [Bool.and_eq_true] at h
    obtain ⟨⟨h1, h2⟩, h3⟩ := h
    exact okW (se_fld A.x (A.m.t.att _ _ (of_decide_eq_true h1)) ((ckE_ok a false c _ h3 X W A).1 rfl) (ncal_eq h2)) rfl
  | .mth a m es, t, c, e, h, X, W, A => by
    unfold ckE at h
    split at h
    rotate_left
    · cases h
    simp only [Bool.and_eq_true] at h
    obtain ⟨⟨⟨⟨⟨⟨h1, h2⟩, h3⟩, h4⟩, h5⟩, h6⟩, h7⟩ := h
    have hn := A.m.t.att _ _ (of_decide_eq_true h1)
    have q1 := (ckE_ok a false c _ h6 X W A).1 rfl
    have h5n := of_decide_eq_true h5
    rename_i o n apos args pos
    cases args with
    | nil =>
      cases es with
      | nil => exact okW (se_mth0 A.x hn q1 (ncal_eq h2) h3) rfl
      | cons _ _ => cases h7
    | cons y ys =>
      have h4' := h4
      simp only [List.all_cons, Bool.and_eq_true] at h4'
      refine okW (se_mth A.x hn q1 (ckEs_ok es c _ h7 X W A) (ns_eq h4'.1) (ns_any h4'.2) (ncal_eq h2) ?_ h3) rfl
      unfold methodCallForm
      rw [ns_all h4]
      simpa using h5n
  | .len l, t, c, e, h, X, W, A => by
    unfold ckE at h
    split at h
    rotate_left
    · cases h
    simp only [Bool.and_eq_true] at h
    obtain ⟨rfl, h2, h3, h4⟩ := argB_ok A.m h.1
    exact okW (se_len (ckL_ok l c _ h.2 X W A) h2 h3 (ns_eq h4)) rfl
  | .abs l, t, c, e, h, X, W, A => by
    unfold ckE at h
    split at h
    rotate_left
    · cases h
    simp only [Bool.and_eq_true] at h
    obtain ⟨rfl, h2, h3, h4⟩ := argB_ok A.m h.1
    exact okW (se_abs ((ckE_ok l false c _ h.2 X W A).1 rfl) h2 h3 (ns_eq h4)) rfl
  | .int1 l, t, c, e, h, X, W, A => by
    unfold ckE at h
    split at h
    rotate_left
    · cases h
    simp only [Bool.and_eq_true] at h
    obtain ⟨rfl, h2, h3, h4⟩ := argB_ok A.m h.1
    exact okW (se_int1 ((ckE_ok l false c _ h.2 X W A).1 rfl) h2 h3 (ns_eq h4)) rfl
  | .str1 l, t, c, e, h, X, W, A => by
    unfold ckE at h
    split at h
    rotate_left
    · cases h
    simp only [Bool.and_eq_true] at h
    obtain ⟨rfl, h2, h3, h4⟩ := argB_ok A.m h.1
    exact okW (se_str1 ((ckE_ok l false c _ h.2 X W A).1 rfl) h2 h3 (ns_eq h4)) rfl
  | .lrng i j, t, c, e, h, X, W, A => by
    unfold ckE at h
    split at h
    rotate_left
    · cases h
    simp only [Bool.and_eq_true] at h
    obtain ⟨⟨⟨⟨⟨h1, h2⟩, h3⟩, h4⟩, h5⟩, h6⟩ := h
    obtain ⟨rfl, g1, g2⟩ := bB_ok A.m h1
    obtain ⟨rfl, g3, g4⟩ := bB_ok A.m h2
    exact okW (se_lrng A.x.calm ((ckE_ok i false c _ h5 X W A).1 rfl) ((ckE_ok j false c _ h6 X W A).1 rfl) g1 g2 g3 g4 (ns_eq h3) (ns_eq h4) (ns_any (by simp [h4]))) rfl
  | .tupl l, t, c, e, h, X, W, A => by
    unfold ckE at h
    split at h
    rotate_left
    · cases h
    simp only [Bool.and_eq_true] at h
    obtain ⟨rfl, h2, h3, h4⟩ := argB_ok A.m h.1
    exact okW (se_tupl (ckL_ok l c _ h.2 X W A) h2 h3 (ns_eq h4)) rfl
  | .sum l, t, c, e, h, X, W, A => by
    unfold ckE at h
    split at h
    rotate_left
    · cases h
    simp only [Bool.and_eq_true] at h
    obtain ⟨rfl, h2, h3, h4⟩ := argB_ok A.m h.1
    exact okW (se_sum A.x (ckL_ok l c _ h.2 X W A) h2 h3 (ns_eq h4)) rfl
  | .all l, t, c, e, h, X, W, A => by
    unfold ckE at h
    split at h
    rotate_left
    · cases h
    simp only [Bool.and_eq_true] at h
    obtain ⟨rfl, h2, h3, h4⟩ := argB_ok A.m h.1
    exact okW (se_all A.x (ckL_ok l c _ h.2 X W A) h2 h3 (ns_eq h4)) rfl
  | .any l, t, c, e, h, X, W, A => by
    unfold ckE at h
    split at h
    rotate_left
    · cases h
    simp only [Bool.and_eq_true] at h
    obtain ⟨rfl, h2, h3, h4⟩ := argB_ok A.m h.1
    exact okW (se_any A.x (ckL_ok l c _ h.2 X W A) h2 h3 (ns_eq h4)) rfl
  | .dictOf l, t, c, e, h, X, W, A => by
    unfold ckE at h
    split at h
    rotate_left
    · cases h
    simp only [Bool.and_eq_true] at h
    obtain ⟨rfl, h2, h3, h4⟩ := argB_ok A.m h.1
    exact okW (se_dictOf ((ckE_ok l false c _ h.2 X W A).1 rfl) h2 h3 (ns_eq h4)) rfl
  | .max2 a b, t, c, e, h, X, W, A => by
    unfold ckE at h
    split at h
    rotate_left
    · cases h
    simp only [Bool.and_eq_true] at h
    obtain ⟨⟨⟨h1, h5⟩, h6⟩, h7⟩ := h
    obtain ⟨rfl, h2, h3, h4⟩ := argB_ok A.m h1
    exact okW (se_max2 A.x ((ckE_ok a false c _ h6 X W A).1 rfl) ((ckE_ok b false c _ h7 X W A).1 rfl) h2 h3 (ns_eq h4) (ns_eq h5) (ns_any (by simp [h5]))) rfl
  | .min2 a b, t, c, e, h, X, W, A => by
    unfold ckE at h
    split at h
    rotate_left
    · cases h
    simp only [Bool.and_eq_true] at h
    obtain ⟨⟨⟨h1, h5⟩, h6⟩, h7⟩ := h
    obtain ⟨rfl, h2, h3, h4⟩ := argB_ok A.m h1
    exact okW (se_min2 A.x ((ckE_ok a false c _ h6 X W A).1 rfl) ((ckE_ok b false c _ h7 X W A).1 rfl) h2 h3 (ns_eq h4) (ns_eq h5) (ns_any (by simp [h5]))) rfl
  | .app a b, t, c, e, h, X, W, A => by
    unfold ckE at h
    split at h
    rotate_left
    · cases h
    simp only [Bool.and_eq_true] at h
    obtain ⟨⟨⟨h1, h2⟩, h3⟩, h4⟩ := h
    obtain ⟨rfl, g1, g2⟩ := metB_ok h1
    exact okW (se_app ((ckE_ok a false c _ h3 X W A).1 rfl) ((ckE_ok b false c _ h4 X W A).1 rfl) (bm_of g1 g2 h2)) rfl
  | .ext a l, t, c, e, h, X, W, A => by
    unfold ckE at h
    split at h
    rotate_left
    · cases h
    simp only [Bool.and_eq_true] at h
    obtain ⟨⟨⟨h1, h2⟩, h3⟩, h4⟩ := h
    obtain ⟨rfl, g1, g2⟩ := metB_ok h1
    exact okW (se_ext ((ckE_ok a false c _ h3 X W A).1 rfl) (ckL_ok l c _ h4 X W A) (bm_of g1 g2 h2)) rfl
  | .pop a b, t, c, e, h, X, W, A => by
    unfold ckE at h
    split at h
    rotate_left
    · cases h
    simp only [Bool.and_eq_true] at h
    obtain ⟨⟨⟨h1, h2⟩, h3⟩, h4⟩ := h
    obtain ⟨rfl, g1, g2⟩ := metB_ok h1
    exact okW (se_pop ((ckE_ok a false c _ h3 X W A).1 rfl) ((ckE_ok b false c _ h4 X W A).1 rfl) (m1_of g1 g2 h2)) rfl
  | .get a b d, t, c, e, h, X, W, A => by
    unfold ckE at h
    split at h
    rotate_left
    · cases h
    simp only [Bool.and_eq_true] at h
    obtain ⟨⟨⟨⟨⟨h1, h2⟩, h2'⟩, h3⟩, h4⟩, h5⟩ := h
    obtain ⟨rfl, g1, g2⟩ := metB_ok h1
    exact okW (se_get A.x ((ckE_ok a false c _ h3 X W A).1 rfl) ((ckE_ok b false c _ h4 X W A).1 rfl) ((ckE_ok d false c _ h5 X W A).1 rfl) (m2_of g1 g2 h2 h2')) rfl
  | .index a b, t, c, e, h, X, W, A => by
    unfold ckE at h
    split at h
    rotate_left
    · cases h
    simp only [Bool.and_eq_true] at h
    obtain ⟨⟨⟨h1, h2⟩, h3⟩, h4⟩ := h
    obtain ⟨rfl, g1, g2⟩ := metB_ok h1
    exact okW (se_index A.x ((ckE_ok a false c _ h3 X W A).1 rfl) ((ckE_ok b false c _ h4 X W A).1 rfl) (bm_of g1 g2 h2)) rfl
  | .join a l, t, c, e, h, X, W, A => by
    unfold ckE at h
    split at h
    rotate_left
    · cases h
    simp only [Bool.and_eq_true] at h
    obtain ⟨⟨⟨h1, h2⟩, h3⟩, h4⟩ := h
    obtain ⟨rfl, g1, g2⟩ := metB_ok h1
    exact okW (se_join ((ckE_ok a false c _ h3 X W A).1 rfl) (ckL_ok l c _ h4 X W A) (bm_of g1 g2 h2)) rfl
  | .split a b, t, c, e, h, X, W, A => by
    unfold ckE at h
    split at h
    rotate_left
    · cases h
    simp only [Bool.and_eq_true] at h
    obtain ⟨⟨⟨h1, h2⟩, h3⟩, h4⟩ := h
    obtain ⟨rfl, g1, g2⟩ := metB_ok h1
    exact okW (se_split ((ckE_ok a false c _ h3 X W A).1 rfl) ((ckE_ok b false c _ h4 X W A).1 rfl) (bm_of g1 g2 h2)) rfl
  | .fs es, t, c, e, h, X, W, A => by
    unfold ckE at h
    split at h
    rotate_left
    · cases h
    exact okW (se_fs (ckFs_ok es c _ h X W A)) rfl
  | .dc ke ve tg it own, t, c, e, h, X, W, A => by
    unfold ckE at h
    split at h
    rotate_left
    · cases h
    simp only [Bool.and_eq_true] at h
    obtain ⟨⟨⟨⟨⟨⟨h1, h2⟩, h3⟩, h4⟩, h5⟩, h6⟩, h7⟩ := h
    rename_i kx vx tx iter scope pos
    have co : CompOk F X W C tx iter [] scope (ownP c own) tg it .none := {
      nd := A.x.nd
      it := ckIt_ok it c _ _ h4 X W A
      ok := blkOk_by (by rw [A.m.n, A.m.sc]; exact h2)
      g := fun s H Ad cl fp => ckTg_ok tg _ _ h5 _ A.x.calm (A.m.blk s H Ad cl fp scope)
      ts := fun s H Ad cl fp => pts_no
      s := nsetI_eq h1
      w := by rw [ownP_snd]; exact h3 }
    have q := se_dc (pos := pos) A.x.calm co (fun s H Ad cl fp => (ckE_ok ke false _ _ h6 _ _ (A.blk s H Ad cl fp scope)).1 rfl) (fun s H Ad cl fp => (ckE_ok ve false _ _ h7 _ _ (A.blk s H Ad cl fp scope)).1 rfl)
    rw [ownP_snd] at q
    exact okW q rfl
  | .dcI ke ve tg x own, t, c, e, h, X, W, A => by
    unfold ckE at h
    split at h
    rotate_left
    · cases h
    simp only [Bool.and_eq_true] at h
    obtain ⟨⟨⟨⟨⟨⟨h1, h2⟩, h3⟩, h4⟩, h5⟩, h6⟩, h7⟩ := h
    rename_i kx vx elts kk tpos a n apos cpos scope pos
    obtain ⟨rfl, g1, g2⟩ := metB_ok h1
    have q := se_dcI (pos := pos) (own := ownP c own) (scope := scope) A.x.calm A.x.nd ((ckE_ok x false c _ h4 X W A).1 rfl) (blkOk_by (by rw [A.m.n, A.m.sc]; exact h2)) (fun s H Ad cl fp => ckTg_ok tg _ _ h5 _ A.x.calm (A.m.blk s H Ad cl fp scope))
      (fun s H Ad cl fp => (ckE_ok ke false _ _ h6 _ _ (A.blk s H Ad cl fp scope)).1 rfl) (fun s H Ad cl fp => (ckE_ok ve false _ _ h7 _ _ (A.blk s H Ad cl fp scope)).1 rfl) (fun v => rfl) (by rw [ownP_snd]; exact h3) (ncal_eq g1) g2
    rw [ownP_snd] at q
    exact okW q rfl
theorem ckO_ok : ∀ (x : OE) (c : Ck) (e : Option Expr), ckO x c e = true → ∀ (X : Cx) (W : XK), At F X W C k c → PO X e (mO F X.K W (evO F.P C x))
  | .none, c, e, h, X, W, A => by
    unfold ckO at h
    split at h
    · exact so_none
    · cases h
  | .some x, c, e, h, X, W, A => by
    unfold ckO at h
    split at h
    · cases h
    · exact so_some ((ckE_ok x false c _ h X W A).1 rfl)
theorem ckC_ok : ∀ (x : OE) (c : Ck) (e : List Expr), ckC x c e = true → ∀ (X : Cx) (W : XK), At F X W C k c → PTs X e (mB F X.K W (evC F.P C x))
  | .none, c, e, h, X, W, A => by
    unfold ckC at h
    split at h
    · exact pts_no
    · cases h
  | .some x, c, e, h, X, W, A => by
    unfold ckC at h
    split at h
    · exact pts_if ((ckE_ok x true c _ h X W A).2 rfl).1
    · cases h
theorem ckEs_ok : ∀ (x : Es) (c : Ck) (e : List Expr), ckEs x c e = true → ∀ (X : Cx) (W : XK), At F X W C k c → PA X e (mA F X.K W (evs F.P C x))
  | .nil, c, e, h, X, W, A => by
    unfold ckEs at h
    split at h
    · exact sa_nil
    · cases h
  | .cons x xs, c, e, h, X, W, A => by
    unfold ckEs at h
    split at h
    rotate_left
    · cases h
    simp only [Bool.and_eq_true] at h
    exact sa_cons ((ckE_ok x false c _ h.1.2 X W A).1 rfl) (ckEs_ok xs c _ h.2 X W A) (ns_eq h.1.1)
theorem ckFs_ok : ∀ (x : Es) (c : Ck) (e : List Expr), ckFs x c e = true → ∀ (X : Cx) (W : XK), At F X W C k c → SJ F X W C e x
  | .nil, c, e, h, X, W, A => by
    unfold ckFs at h
    split at h
    · exact .nil
    · cases h
  | .cons x xs, c, e, h, X, W, A => by
    unfold ckFs at h
    split at h
    rotate_left
    · cases h
    simp only [Bool.and_eq_true] at h
    obtain ⟨h1, h2⟩ := h
    have r := ckFs_ok xs c _ h2 X W A
    split at h1
    · split at h1
      · have := of_decide_eq_true h1
        subst this
        exact .txt r
      · cases h1
    · simp only [Bool.and_eq_true] at h1
      have := of_decide_eq_true h1.1
      subst this
      exact .fmt ((ckE_ok x false c _ h1.2 X W A).1 rfl) r
    · cases h1
theorem ckL_ok : ∀ (x : L) (c : Ck) (e : Expr), ckL x c e = true → ∀ (X : Cx) (W : XK), At F X W C k c → SL F X W e (evL F.P C x)
  | .of x, c, e, h, X, W, A => by
    unfold ckL at h
    exact sl_of ((ckE_ok x false c _ h X W A).1 rfl)
  | .lit es, c, e, h, X, W, A => by
    unfold ckL at h
    split at h
    · exact sl_lit (ckEs_ok es c _ h X W A)
    · cases h
  | .comp x tg it co own, c, e, h, X, W, A => by
    unfold ckL at h
    split at h
    rotate_left
    · cases h
    simp only [Bool.and_eq_true] at h
    obtain ⟨⟨⟨⟨⟨⟨h1, h2⟩, h3⟩, h4⟩, h5⟩, h6⟩, h7⟩ := h
    rename_i elt tx iter ifs scope pos
    have ok : CompOk F X W C tx iter ifs scope (ownP c own) tg it co := {
      nd := A.x.nd
      it := ckIt_ok it c _ _ h4 X W A
      ok := blkOk_by (by rw [A.m.n, A.m.sc]; exact h2)
      g := fun s H Ad cl fp => ckTg_ok tg _ _ h5 _ A.x.calm (A.m.blk s H Ad cl fp scope)
      ts := fun s H Ad cl fp => ckC_ok co _ _ h6 _ _ (A.blk s H Ad cl fp scope)
      s := nsetI_eq h1
      w := by rw [ownP_snd]; exact h3 }
    have q := sl_comp (pos := pos) A.x.calm ok (fun s H Ad cl fp => (ckE_ok x false _ _ h7 _ _ (A.blk s H Ad cl fp scope)).1 rfl)
    rw [ownP_snd] at q
    exact q
  | .cat a b, c, e, h, X, W, A => by
    unfold ckL at h
    split at h
    rotate_left
    · cases h
    simp only [Bool.and_eq_true] at h
    exact sl_cat (ckL_ok a c _ h.1 X W A) (ckL_ok b c _ h.2 X W A)
  | .sorted l, c, e, h, X, W, A => by
    unfold ckL at h
    split at h
    rotate_left
    · cases h
    simp only [Bool.and_eq_true] at h
    obtain ⟨rfl, h2, h3, h4⟩ := argB_ok A.m h.1
    exact sl_sorted (ckL_ok l c _ h.2 X W A) h2 h3 (ns_eq h4)
theorem ckIt_ok : ∀ (x : It) (c : Ck) (tx e : Expr), ckIt x c tx e = true → ∀ (X : Cx) (W : XK), At F X W C k c → SI F X W tx e (evIt F.P C x)
  | .rng1 x, c, tx, e, h, X, W, A => by
    unfold ckIt at h
    split at h
    rotate_left
    · cases h
    simp only [Bool.and_eq_true] at h
    obtain ⟨rfl, h2, h3, h4⟩ := argB_ok A.m h.1
    exact si_rng1 ((ckE_ok x false c _ h.2 X W A).1 rfl) h2 h3 (ns_eq h4)
  | .rng2 x y, c, tx, e, h, X, W, A => by
    unfold ckIt at h
    split at h
    rotate_left
    · cases h
    simp only [Bool.and_eq_true] at h
    obtain ⟨⟨⟨h1, h5⟩, h6⟩, h7⟩ := h
    obtain ⟨rfl, h2, h3, h4⟩ := argB_ok A.m h1
    exact si_rng2 ((ckE_ok x false c _ h6 X W A).1 rfl) ((ckE_ok y false c _ h7 X W A).1 rfl) h2 h3 (by rw [ns_eq h4, ns_eq h5]; rfl) (ns_eq h5)
  | .rng3 x y z, c, tx, e, h, X, W, A => by
    unfold ckIt at h
    split at h
    rotate_left
    · cases h
    simp only [Bool.and_eq_true] at h
    obtain ⟨⟨⟨⟨⟨h1, h5⟩, h5'⟩, h6⟩, h7⟩, h8⟩ := h
    obtain ⟨rfl, h2, h3, h4⟩ := argB_ok A.m h1
    exact si_rng3 ((ckE_ok x false c _ h6 X W A).1 rfl) ((ckE_ok y false c _ h7 X W A).1 rfl) ((ckE_ok z false c _ h8 X W A).1 rfl) h2 h3 (ns_eq h4) (ns_eq h5) (ns_eq h5') (ns_any (by simp [h5, h5']))
  | .enum l, c, tx, e, h, X, W, A => by
    unfold ckIt at h
    split at h
    rotate_left
    · cases h
    simp only [Bool.and_eq_true] at h
    obtain ⟨rfl, h2, h3, h4⟩ := argB_ok A.m h.1
    exact si_enum (ckL_ok l c _ h.2 X W A) h2 h3 (ns_eq h4)
  | .zip l r, c, tx, e, h, X, W, A => by
    unfold ckIt at h
    split at h
    rotate_left
    · cases h
    simp only [Bool.and_eq_true] at h
    obtain ⟨⟨⟨h1, h5⟩, h6⟩, h7⟩ := h
    obtain ⟨rfl, h2, h3, h4⟩ := argB_ok A.m h1
    exact si_zip (ckL_ok l c _ h6 X W A) (ckL_ok r c _ h7 X W A) h2 h3 (ns_eq h4) (ns_eq h5) (ns_any (by simp [h5]))
  | .seq l, c, tx, e, h, X, W, A => by
    unfold ckIt at h
    exact si_seq (ckL_ok l c _ h X W A)
end
end
end PI

set_option maxRecDepth 100000
set_option maxHeartbeats 4000000
/-! PIq: the checker and its soundness: statements. -/
namespace PI
open PySem PySem.Spec PyProof.Rows L2
def ntt : Expr → Expr → Bool
  | .Tuple .., .Tuple .. => false
  | .List .., .Tuple .. => false
  | _, _ => true
/-- the store is not exchanged with the value -/
def swOk (c : Ck) (tx e : Expr) : Bool := ncomp e || (match tx with
  | .Name y _ => !decide (c.sc.names.lookup y = some .local)
  | _ => true)
def foldB (ts vs : List Expr) : Bool := vs.all (foldedForSure 8)
def comp1 (e : Expr) : Option (Expr × Expr × Expr × List Expr × Scope × Pos) := match e with
  | .ListComp elt [⟨tx, iter, ifs, 0⟩] scope p => some (elt, tx, iter, ifs, scope, p)
  | _ => none
def cstB : E → Expr → Bool
  | .non, .Constant .none _ _ => true
  | .bl b, .Constant (.bool k) _ _ => decide (b = k)
  | .str s, .Constant (.str t) _ _ => decide (s = t)
  | _, _ => false
def hdB (c : Ck) : List (Nat × E) → List ExceptHandler → Bool
  | [], [] => true
  | (n, x) :: r, .ExceptHandler (some (.Name y _)) none [.Return (some e) _] _ :: q => glB c y && dbg y && decide (c.T.exs.lookup y = some n) && cstB x e && hdB c r q
  | _, _ => false
mutual
def ckS : S → Ck → Stmt → Bool
  | .expr x, c, s => match s with
    | .Expr e _ => ncomp e && ckE x false c e
    | _ => false
  | .set tg x, c, s => match s with
    | .Assign [tx] e spos => (ns tx && ckTg tg c tx && ckE x false c e && swOk c tx e && (ntt tx e || (match tx, e with
        | .Tuple ts _ _, .Tuple vs _ _ => vs.all (foldedForSure 8) && vs.all ns
        | _, _ => false))) ||
      (match tg, x, tx, e with
        | .nm i, .lst (.comp x2 tg2 it co own), .Name y py, .ListComp elt [⟨tx2, iter, ifs, 0⟩] scope p2 => slotB c i y && decide (c.sc.names.lookup y = some .local) && decide (c.sc.kind = .function) && (py.line == p2.line) && !(scope.names.any fun (n, k) => n == y && (k == .local || k == .cell)) &&
          (nset iter && blkC c.N c.sc scope (ownP c own) && Tg.within own tg2 && ckIt it c tx2 iter && ckTg tg2 (relC c scope) tx2 && ckC co (relC c scope) ifs && ckE x2 false (relC c scope) elt)
        | _, _, _, _ => false)
    | _ => false
  | .sub o i x, c, s => match s with
    | .Assign [.Subscript a b _] e _ => nslc b && ckE o false c a && ckE i false c b && ckE x false c e
    | _ => false
  | .sub2 o i o' i' x, c, s => match s with
    | .Assign [.Tuple [.Subscript a b _, .Subscript a' b' _] _ _] e _ => ncomp e && (match e with | .Tuple .. => false | _ => true) && nslc b && nslc b' && ckE o false c a && ckE i false c b && ckE o' false c a' && ckE i' false c b' && ckE x false c e
    | _ => false
  | .fld o f x, c, s => match s with
    | .Assign [.Attribute a n _] e _ => decide (c.T.att[f]? = some n) && ckE o false c a && ckE x false c e
    | _ => false
  | .par i j x y, c, s => match s with
    | .Assign [.Tuple [.Name n px, .Name m py] _ _] (.Tuple [a, b] _ _) _ => slotB c i n && slotB c j m && !decide (i = j) && decide (c.sc.names.lookup n = some .local) && decide (c.sc.names.lookup m = some .local) && decide (c.sc.kind = .function) && (py.line == px.line) && !decide (n = m) &&
        !(foldedForSure 8 a && foldedForSure 8 b) && !(constantsAlone 8 a && constantsAlone 8 b) && ns a && ns b && ckE x false c a && ckE y false c b
    | _ => false
  | .aug i x, c, s => match s with
    | .AugAssign (.Name n _) .Add e _ => slotB c i n && locB c n && ckE x false c e
    | _ => false
  | .augS o i x, c, s => match s with
    | .AugAssign (.Subscript a b _) .Add e _ => nslc b && ckE o false c a && ckE i false c b && ckE x false c e
    | _ => false
  | .ret x, c, s => match s with
    | .Return (some e) _ => ckE x false c e
    | _ => false
  | .if_ x a b, c, s => match s with
    | .If e as bs _ => ckE x true c e && ckSs a c as && ckSs b c bs
    | _ => false
  | .while_ x a, c, s => match s with
    | .While e as [] _ => ckE x true c e && ckSs a c as
    | _ => false
  | .for_ tg it a, c, s => match s with
    | .For tx e as [] _ => nset e && ckTg tg c tx && ckIt it c tx e && ckSs a c as
    | _ => false
  | .forI tg x a, c, s => match s with
    | .For (.Tuple elts kk tpos) (.Call (.Attribute o n apos) [] [] cpos) as [] _ => metB n "items" o apos cpos && ckTg tg c (.Tuple elts kk tpos) && ckE x false c o && ckSs a c as
    | _ => false
  | .raise n, c, s => match s with
    | .Raise (some (.Call (.Name x _) [.Constant (.str _) _ _] [] _)) none _ => glB c x && decide (c.T.exs.lookup x = some n) && dbg x
    | _ => false
  | .pass, _, s => match s with
    | .Pass _ => true
    | _ => false
  | .try_ b ks hs, c, s => match s with
    | .Try ss (h₀ :: hds) [] [] _ => ckSs b c ss && hdB c hs (h₀ :: hds) && ks.all fun n => c.T.exs.any fun z => decide (c.T.exs.lookup z.1 = some n)
    | _ => false
def ckSs : Ss → Ck → List Stmt → Bool
  | .nil, _, s => match s with
    | [] => true
    | _ => false
  | .cons x xs, c, s => match s with
    | s :: ss => ckS x c s && ckSs xs c ss
    | _ => false
end
theorem sw_ncomp {e : Expr} {t : Option Expr} {l : Nat} {env : PySem.Env} (h : ncomp e = true) : swapsWith e t l env = pure false := by
  cases e <;> first | rfl | cases h
theorem sw_other {e tx : Expr} {l : Nat} {env : PySem.Env} (h : ∀ y p, tx ≠ .Name y p) : swapsWith e (some tx) l env = pure false := by
  cases tx with
  | Name y p => exact absurd rfl (h y p)
  | _ => cases e <;> rfl
theorem sw_name {e : Expr} {y : Str} {p : Pos} {l : Nat} {env : PySem.Env} (h : env.scope.names.lookup y ≠ some .local) : swapsWith e (some (.Name y p)) l env = pure false := by
  have hk : (env.kindOf y == some NameKind.local) = false := beq_eq_false_iff_ne.mpr h
  cases e <;> first | rfl | (unfold swapsWith; simp only [hk, Bool.and_false, Bool.false_and])
theorem sole {e tx : Expr} {l : Nat} {env : PySem.Env} (h : swapsWith e (some tx) l env = pure false) : swapsWithSole [tx] e l env = pure false := h
theorem swOk_eq {c : Ck} {tx e : Expr} {l : Nat} {env : PySem.Env} (hs : env.scope = c.sc) (h : swOk c tx e = true) : swapsWithSole [tx] e l env = pure false := by
  show swapsWith e (some tx) l env = pure false
  unfold swOk at h
  rw [Bool.or_eq_true] at h
  rcases h with h | h
  · exact sw_ncomp h
  · split at h
    · refine sw_name ?_
      rw [hs]
      simpa using h
    · rename_i hn
      exact sw_other fun y p z => hn y p z
theorem ntt_eq {tx e : Expr} {env : PySem.Env} (h : ntt tx e = true) : swappedStores [tx] e env = pure none := by
  cases tx <;> first | rfl | (cases e <;> first | rfl | cases h)
theorem fold_eq {ts vs : List Expr} {k k2 : Nat} {p p2 : Pos} {env : PySem.Env} (h : vs.all (foldedForSure 8) = true) : swappedStores [.Tuple ts k p] (.Tuple vs k2 p2) env = pure none := by
  unfold swappedStores
  dsimp only
  split
  · rfl
  split
  · rfl
  split
  · rfl
  rfl
theorem par_eq {n m : Str} {a b : Expr} {px py pt p2 : Pos} {k k2 : Nat} {env : PySem.Env} (hk : env.scope.kind = .function) (hn : env.scope.names.lookup n = some .local) (hm : env.scope.names.lookup m = some .local) (hl : (py.line == px.line) = true) (hne : n ≠ m)
    (h1 : (foldedForSure 8 a && foldedForSure 8 b) = false) (h2 : (constantsAlone 8 a && constantsAlone 8 b) = false) (ha : ns a = true) (hb : ns b = true) : swappedStores [.Tuple [.Name n px, .Name m py] k pt] (.Tuple [a, b] k2 p2) env = pure (some [n, m]) := by
  have kn : (env.kindOf n == some NameKind.local) = true := beq_iff_eq.mpr hn
  have km : (env.kindOf m == some NameKind.local) = true := beq_iff_eq.mpr hm
  have hbk : env.blockKind = .function := by unfold Env.blockKind; rw [hk]; rfl
  have hln : (px.line == px.line) = true := beq_self_eq_true _
  have hf : ([a, b].all (foldedForSure 8)) = false := by simpa using h1
  have hc : ([a, b].all (constantsAlone 8)) = false := by simpa using h2
  have hnm : (m == n) = false := beq_eq_false_iff_ne.mpr (Ne.symm hne)
  have hmn : (n == m) = false := beq_eq_false_iff_ne.mpr hne
  unfold swappedStores
  dsimp only
  split
  · rename_i hc
    simp [hbk] at hc
  split
  · rename_i hc
    exfalso
    revert hc
    cases a <;> first | exact absurd ha Bool.false_ne_true | (cases b <;> first | exact absurd hb Bool.false_ne_true | (intro hc; exact Bool.false_ne_true hc))
  split
  · rename_i hc
    exfalso
    simp only [List.filterMap_cons, List.filterMap_nil, List.head?_cons, Option.map_some, Option.getD_some, Expr.pos, kn, km, hln, hl, Bool.and_self, if_true] at hc
    have e2 : [n, m].eraseDups = [n, m] := by
      rw [List.eraseDups_cons]
      simp only [List.filter_cons, List.filter_nil, hnm, Bool.not_false, if_true]
      rfl
    rw [e2] at hc
    exact Bool.false_ne_true hc
  split
  · rename_i hc2
    rw [hf] at hc2; cases hc2
  split
  · rename_i hc2
    rw [hc] at hc2; cases hc2
  simp only [List.filterMap_cons, List.filterMap_nil, List.head?_cons, Option.map_some, Option.getD_some, Expr.pos, kn, km, hln, hl, Bool.and_self, if_true]
section
variable {F : Fx} {C : Nat → List D → Hh → R D} {k : Nat}
set_option maxHeartbeats 20000000
theorem asub {o a : Expr} {tpos : Pos} {env : PySem.Env} (h : nslc a = true) (v : Value) : assign (.Subscript o a tpos) env v = (do
      let ov ← holding [v] (eval o env)
      let iv ← holding [v, ov] (eval a env)
      standAt tpos
      holding [v, ov, iv] (setItem ov iv v)
      release [v, ov, iv] []) := by
  cases a <;> first | rfl | cases h
theorem aaug {a : Expr} (h : nslc a = true) (ov iv new : Value) : augStore a ov iv new = (do holding [new, ov, iv] (setItem ov iv new); release [new, ov, iv] []; pure .next) := by
  cases a <;> first | rfl | cases h
/-- a def's own context -/
structure OwnX (X : Cx) : Prop where
  st : X.stack = X.env :: X.outer
  fr : X.env.frame = some X.env.locals
theorem cstB_ok {x : E} {e : Expr} (h : cstB x e = true) : ∃ d v, cst x = some d ∧ (∀ K φ H, RD K φ H d v) ∧ ∀ X : Cx, PE X e (tC v) := by
  unfold cstB at h
  split at h
  · exact ⟨_, .non, rfl, fun _ _ _ => .non, fun _ => pe_non⟩
  · have := of_decide_eq_true h
    subst this
    exact ⟨_, .bl _, rfl, fun _ _ _ => .bl _, fun _ => pe_bl⟩
  · have := of_decide_eq_true h
    subst this
    exact ⟨_, .str _, rfl, fun _ _ _ => .str _, fun _ => pe_str⟩
  · cases h
theorem hdB_ok {X : Cx} {c : Ck} (m : XM F X c) : ∀ {hs : List (Nat × E)} {hds : List ExceptHandler}, hdB c hs hds = true → ∃ l, HdsOk X hds l ∧ Hl F hs l := by
  intro hs
  induction hs with
  | nil =>
    intro hds h
    cases hds with
    | nil => exact ⟨[], .nil, .nil⟩
    | cons a r => unfold hdB at h; cases h
  | cons a r ih =>
    intro hds h
    unfold hdB at h
    split at h
    · rename_i hz
      cases hz
    · rename_i n x r2 y p e p2 p3 q e1
      cases e1
      simp only [Bool.and_eq_true] at h
      obtain ⟨⟨⟨⟨h1, h2⟩, h3⟩, h4⟩, h5⟩ := h
      obtain ⟨l, l1, l2⟩ := ih h5
      obtain ⟨g1, g2⟩ := m.t.exs _ _ (of_decide_eq_true h3)
      obtain ⟨d, v, c1, c2, c3⟩ := cstB_ok h4
      exact ⟨_, .cons ⟨glB_ok m.sc h1, dbg_ok h2, .inl g1⟩ (fun a oe cls d' pn _ _ => pss_one (ps_ret (c3 _))) l1, .cons g2 c1 c2 l2⟩
    · cases h
mutual
theorem ckS_ok : ∀ (x : S) (c : Ck) (s : Stmt), ckS x c s = true → ∀ (X : Cx) (W : XK), At F X W C k c → OwnX X → SS F X W s (exec F.P C x)
  | .expr x, c, s, h, X, W, A, O => by
    unfold ckS at h
    split at h
    rotate_left
    · cases h
    simp only [Bool.and_eq_true] at h
    exact ss_expr ((ckE_ok x false c _ h.2 X W A).1 rfl) (sw_ncomp h.1)
  | .set tg x, c, s, h, X, W, A, O => by
    unfold ckS at h
    split at h
    rotate_left
    · cases h
    rename_i tx e spos
    rw [Bool.or_eq_true] at h
    rcases h with h | h
    · simp only [Bool.and_eq_true] at h
      obtain ⟨⟨⟨⟨h1, h2⟩, h3⟩, h4⟩, h5⟩ := h
      refine ss_set ((ckE_ok x false c _ h3 X W A).1 rfl) (ckTg_ok tg c _ h2 X A.x.calm A.m) (swOk_eq A.m.sc h4) ?_ (by rw [assign_ns h1]; rfl)
      rw [Bool.or_eq_true] at h5
      rcases h5 with h5 | h5
      · exact ntt_eq h5
      · split at h5
        · simp only [Bool.and_eq_true] at h5
          exact fold_eq h5.1
        · cases h5
    · split at h
      rotate_left
      · cases h
      simp only [Bool.and_eq_true] at h
      obtain ⟨⟨⟨⟨⟨g1, g2⟩, g3⟩, g4⟩, g5⟩, ⟨⟨⟨⟨⟨⟨h1, h2⟩, h3⟩, h4⟩, h5⟩, h6⟩, h7⟩⟩ := h
      rename_i i x2 tg2 it co own y py elt tx2 iter ifs scope p2
      have ok : CompOk F X W C tx2 iter ifs scope (ownP c own) tg2 it co := {
        nd := A.x.nd
        it := ckIt_ok it c _ _ h4 X W A
        ok := blkOk_by (by rw [A.m.n, A.m.sc]; exact h2)
        g := fun s H Ad cl fp => ckTg_ok tg2 _ _ h5 _ A.x.calm (A.m.blk s H Ad cl fp scope)
        ts := fun s H Ad cl fp => ckC_ok co _ _ h6 _ _ (A.blk s H Ad cl fp scope)
        s := nsetI_eq h1
        w := by rw [ownP_snd]; exact h3 }
      have hl : X.env.scope.names.lookup y = some .local := by rw [A.m.sc]; exact of_decide_eq_true g2
      have q := ss_setLc (spos := spos) (i := i) A.x.calm ok (fun s H Ad cl fp => (ckE_ok x2 false _ _ h7 _ _ (A.blk s H Ad cl fp scope)).1 rfl) (by rw [A.m.n]; exact of_decide_eq_true g1) hl
        (sw_true (py := py) (pos := p2) (by rw [A.m.sc]; exact of_decide_eq_true g3) hl g4 (by simpa using g5))
      rw [ownP_snd] at q
      exact q
  | .sub o i x, c, s, h, X, W, A, O => by
    unfold ckS at h
    split at h
    rotate_left
    · cases h
    simp only [Bool.and_eq_true] at h
    obtain ⟨⟨⟨h1, h2⟩, h3⟩, h4⟩ := h
    exact ss_sub ((ckE_ok x false c _ h4 X W A).1 rfl) A.x ((ckE_ok o false c _ h2 X W A).1 rfl) ((ckE_ok i false c _ h3 X W A).1 rfl) (asub h1) (sole (sw_other fun _ _ z => by cases z)) rfl rfl
  | .sub2 o i o' i' x, c, s, h, X, W, A, O => by
    unfold ckS at h
    split at h
    rotate_left
    · cases h
    simp only [Bool.and_eq_true] at h
    obtain ⟨⟨⟨⟨⟨⟨⟨⟨h1, h2⟩, h3⟩, h4⟩, h5⟩, h6⟩, h7⟩, h8⟩, h9⟩ := h
    refine ss_sub2 ((ckE_ok x false c _ h9 X W A).1 rfl) A.x ((ckE_ok o false c _ h5 X W A).1 rfl) ((ckE_ok i false c _ h6 X W A).1 rfl) ((ckE_ok o' false c _ h7 X W A).1 rfl) ((ckE_ok i' false c _ h8 X W A).1 rfl) (asub h3) (asub h4) (sole (sw_ncomp h1)) ?_
    rename_i e _
    cases e <;> first | rfl | cases h2
  | .fld o f x, c, s, h, X, W, A, O => by
    unfold ckS at h
    split at h
    rotate_left
    · cases h
    simp only [Bool.and_eq_true] at h
    exact ss_fld A.x (A.m.t.att _ _ (of_decide_eq_true h.1.1)) ((ckE_ok x false c _ h.2 X W A).1 rfl) ((ckE_ok o false c _ h.1.2 X W A).1 rfl) (sw_other fun _ _ z => by cases z)
  | .par i j x y, c, s, h, X, W, A, O => by
    unfold ckS at h
    split at h
    rotate_left
    · cases h
    simp only [Bool.and_eq_true, Bool.not_eq_true'] at h
    obtain ⟨⟨⟨⟨⟨⟨⟨⟨⟨⟨⟨⟨⟨h1, h2⟩, h3⟩, h4⟩, h5⟩, h6⟩, h7⟩, h8⟩, h9⟩, h10⟩, h11⟩, h12⟩, h13⟩, h14⟩ := h
    rename_i n _ m _ _ _ _ _ _ _ _
    have l1 : X.env.scope.names.lookup n = some .local := by rw [A.m.sc]; exact of_decide_eq_true h4
    have l2 : X.env.scope.names.lookup m = some .local := by rw [A.m.sc]; exact of_decide_eq_true h5
    refine ss_par A.x.calm A.x.nd (by rw [A.m.n]; exact of_decide_eq_true h1) (by rw [A.m.n]; exact of_decide_eq_true h2) (of_decide_eq_false h3) l1 l2 ?_ ?_ ?_
    · exact sa_cons ((ckE_ok x false c _ h13 X W A).1 rfl) (sa_cons ((ckE_ok y false c _ h14 X W A).1 rfl) sa_nil (ns_eq h12)) (ns_eq h11)
    · exact par_eq (by rw [A.m.sc]; exact of_decide_eq_true h6) l1 l2 h7 (of_decide_eq_false h8) h9 h10 h11 h12
    · exact sole (sw_other fun _ _ z => by cases z)
  | .aug i x, c, s, h, X, W, A, O => by
    unfold ckS at h
    split at h
    rotate_left
    · cases h
    simp only [Bool.and_eq_true] at h
    obtain ⟨g1, g2⟩ := locB_ok A.m.sc A.m.fn h.1.2
    exact ss_aug A.x.nd (by rw [A.m.n]; exact of_decide_eq_true h.1.1) g1 g2 ((ckE_ok x false c _ h.2 X W A).1 rfl)
  | .augS o i x, c, s, h, X, W, A, O => by
    unfold ckS at h
    split at h
    rotate_left
    · cases h
    simp only [Bool.and_eq_true] at h
    obtain ⟨⟨⟨h1, h2⟩, h3⟩, h4⟩ := h
    exact ss_augS A.x ((ckE_ok o false c _ h2 X W A).1 rfl) ((ckE_ok i false c _ h3 X W A).1 rfl) ((ckE_ok x false c _ h4 X W A).1 rfl) (aaug h1)
  | .ret x, c, s, h, X, W, A, O => by
    unfold ckS at h
    split at h
    rotate_left
    · cases h
    exact ss_ret ((ckE_ok x false c _ h X W A).1 rfl)
  | .if_ x a b, c, s, h, X, W, A, O => by
    unfold ckS at h
    split at h
    rotate_left
    · cases h
    simp only [Bool.and_eq_true] at h
    exact ss_if ((ckE_ok x true c _ h.1.1 X W A).2 rfl).1 (ckSs_ok a c _ h.1.2 X W A O) (ckSs_ok b c _ h.2 X W A O)
  | .while_ x a, c, s, h, X, W, A, O => by
    unfold ckS at h
    split at h
    rotate_left
    · cases h
    simp only [Bool.and_eq_true] at h
    exact ss_while A.x ((ckE_ok x true c _ h.1 X W A).2 rfl).1 (ckSs_ok a c _ h.2 X W A O)
  | .for_ tg it a, c, s, h, X, W, A, O => by
    unfold ckS at h
    split at h
    rotate_left
    · cases h
    simp only [Bool.and_eq_true] at h
    obtain ⟨⟨⟨h1, h2⟩, h3⟩, h4⟩ := h
    exact ss_for A.x (ckIt_ok it c _ _ h3 X W A) (ckTg_ok tg c _ h2 X A.x.calm A.m) (ckSs_ok a c _ h4 X W A O) (nsetI_eq h1)
  | .forI tg x a, c, s, h, X, W, A, O => by
    unfold ckS at h
    split at h
    rotate_left
    · cases h
    simp only [Bool.and_eq_true] at h
    obtain ⟨⟨⟨h1, h2⟩, h3⟩, h4⟩ := h
    obtain ⟨rfl, g1, g2⟩ := metB_ok h1
    exact ss_forI A.x ((ckE_ok x false c _ h3 X W A).1 rfl) (ckTg_ok tg c _ h2 X A.x.calm A.m) (ckSs_ok a c _ h4 X W A O) (fun v => rfl) (ncal_eq g1) g2
  | .raise n, c, s, h, X, W, A, O => by
    unfold ckS at h
    split at h
    rotate_left
    · cases h
    simp only [Bool.and_eq_true] at h
    obtain ⟨g1, g2⟩ := A.m.t.exs _ _ (of_decide_eq_true h.1.2)
    exact ss_raise A.x g2 (glB_ok A.m.sc h.1.1) g1 (dbg_ok h.2)
  | .pass, c, s, h, X, W, A, O => by
    unfold ckS at h
    split at h
    rotate_left
    · cases h
    exact ss_pass
  | .try_ b ks hs, c, s, h, X, W, A, O => by
    unfold ckS at h
    split at h
    rotate_left
    · cases h
    simp only [Bool.and_eq_true] at h
    obtain ⟨⟨h1, h2⟩, h3⟩ := h
    obtain ⟨l, l1, l2⟩ := hdB_ok A.m h2
    refine ss_try A.x O.st O.fr (fun W' pn xe tk po => ckSs_ok b c _ h1 (X.tr pn xe) W' ⟨⟨A.x.calm, A.x.nd, A.x.room, tk, po, A.x.gd, A.x.cal⟩, ⟨A.m.n, A.m.sc, A.m.fn, A.m.nd, A.m.t⟩⟩ ⟨O.st, O.fr⟩) l1 l2 fun n hn => ?_
    obtain ⟨z, _, hz⟩ := List.any_eq_true.mp (List.all_eq_true.mp h3 n hn)
    exact (A.m.t.exs _ _ (of_decide_eq_true hz)).2
theorem ckSs_ok : ∀ (x : Ss) (c : Ck) (s : List Stmt), ckSs x c s = true → ∀ (X : Cx) (W : XK), At F X W C k c → OwnX X → SSs F X W s (execs F.P C x)
  | .nil, c, s, h, X, W, A, O => by
    unfold ckSs at h
    split at h
    · exact ss_nil
    · cases h
  | .cons x xs, c, s, h, X, W, A, O => by
    unfold ckSs at h
    split at h
    rotate_left
    · cases h
    simp only [Bool.and_eq_true] at h
    exact ss_cons (ckS_ok x c _ h.1 X W A O) (ckSs_ok xs c _ h.2 X W A O)
end
end
end PI

set_option maxRecDepth 100000
set_option maxHeartbeats 4000000
/-! PIr: defs. -/
namespace PI
open PySem PySem.Spec PyProof.Rows L2
theorem zip_look {α : Type} : ∀ {ps : List Str} {us : List α} {n : Str}, ps.length ≤ us.length → n ∈ ps → ((ps.zip us).lookup n).isSome = true
  | p :: ps, [], _, h, _ => by simp at h
  | p :: ps, u :: us, n, h, m => by
    rw [List.zip_cons_cons, List.lookup_cons]
    cases e : n == p with
    | true => rfl
    | false =>
      rcases List.mem_cons.mp m with z | z
      · subst z; simp at e
      · exact zip_look (by simpa using h) z
theorem zip_filter {α : Type} : ∀ {ps : List Str} {us : List α}, ps.Nodup → ps.length ≤ us.length → ps.filterMap (fun n => ((ps.zip us).lookup n).map (n, ·)) = ps.zip us
  | [], _, _, _ => rfl
  | p :: ps, [], _, h => by simp at h
  | p :: ps, u :: us, nd, h => by
    obtain ⟨h1, h2⟩ := List.nodup_cons.mp nd
    rw [List.zip_cons_cons, List.filterMap_cons]
    have e0 : (((p, u) :: ps.zip us).lookup p).map (p, ·) = some (p, u) := by rw [List.lookup_cons]; simp
    rw [e0]
    dsimp only
    congr 1
    have : ps.filterMap (fun n => (((p, u) :: ps.zip us).lookup n).map (n, ·)) = ps.filterMap (fun n => ((ps.zip us).lookup n).map (n, ·)) := by
      have cong : ∀ (l : List Str), (∀ n ∈ l, n ≠ p) → l.filterMap (fun n => (((p, u) :: ps.zip us).lookup n).map (n, ·)) = l.filterMap (fun n => ((ps.zip us).lookup n).map (n, ·)) := by
        intro l
        induction l with
        | nil => intro _; rfl
        | cons a l ih =>
          intro hl
          rw [List.filterMap_cons, List.filterMap_cons, ih fun n hn => hl n (List.mem_cons_of_mem _ hn), List.lookup_cons]
          have : (a == p) = false := beq_eq_false_iff_ne.mpr (hl a List.mem_cons_self)
          rw [this]
      exact cong ps fun n hn z => h1 (z ▸ hn)
    rw [this]
    exact zip_filter h2 (by simpa using h)
theorem seqNone : seqItems? Value.none = pure none := rfl
theorem bind_gen {name qual : Str} {args : List Arg} {va : Option Arg} {body : List Stmt} {scope : Scope} {kV doc pm cdv ct : Value} {an : Option Addr} {us : List Value} (nd : (args.map (·.arg)).Nodup) (hl : args.length ≤ us.length) (hv : va = none → us.length = args.length) :
    bindArgs (PySem.W.fnOf name qual ⟨[], args, va, [], [], none, []⟩ body scope .none kV doc pm an cdv ct) ⟨us, []⟩ = (match va with
      | none => pure ((args.map (·.arg)).zip us)
      | some a => (newTuple (us.drop args.length) >>= fun t => pure ((args.map (·.arg)).zip us ++ [(a.arg, t)]))) := by
  have hl' : (args.map (·.arg)).length ≤ us.length := by simpa using hl
  have miss : ((args.map (·.arg)).take (args.map (·.arg)).length).filter (fun n => (((args.map (·.arg)).zip us).lookup n).isNone) = [] := by
    rw [List.take_length, List.filter_eq_nil_iff]
    intro n hn
    have := zip_look hl' hn
    simp only [Option.isNone_iff_eq_none, Bool.not_eq_true]
    cases q : ((args.map (·.arg)).zip us).lookup n with
    | none => rw [q] at this; cases this
    | some _ => simp
  unfold bindArgs
  dsimp only [PySem.W.fnOf]
  rw [seqNone]
  simp only [List.map_nil, List.nil_append, List.forIn_nil, pure_bind, Option.getD_none, List.length_nil, Nat.zero_sub, Nat.sub_zero, List.drop_nil, List.zip_nil_right, miss, List.append_nil]
  have c1 : ¬ (decide (us.length > (args.map (·.arg)).length) && va.isNone) = true := by
    cases va with
    | none =>
      have := hv rfl
      simp [this]
    | some a => simp
  rw [if_neg c1, if_neg (by decide), if_neg (by decide), zip_filter nd hl', List.length_map]
  cases va <;> rfl

def vaL (va : Option Arg) : List Str := match va with
  | none => []
  | some a => [a.arg]
/-- the text of a def against its own code, all but where it stands -/
structure Txt1 (T : Tb) (Fd : Fn) (N : List Str) (args : List Arg) (va : Option Arg) (body : List Stmt) (scope : Scope) : Prop where
  sc : FnScope N (args.map (·.arg) ++ vaL va) scope
  ck : ckSs Fd.body ⟨N, scope, fun _ => true, T⟩ body = true
  ns : N.length = Fd.ns
  star : Fd.star = va.isSome
  np : Fd.np = (args.map (·.arg) ++ vaL va).length
structure DOk (F : Fx) (K : PySem.W.Frag) (T : Tb) (f : Nat) (Fd : Fn) : Prop where
  ex : ∃ name qual args va body scope N kws fd, FunD K name qual ⟨[], args, va, [], [], none, []⟩ body scope [] kws (F.fa f) fd ∧ Txt1 T Fd N args va body scope
def spB (F : Fx) (K : PySem.W.Frag) (N : List Str) (m : Sto → Hh → R Fl) : Sp := fun vs H Q E => ∃ φ h σ, Sim F K φ h H ∧ RE K φ H σ (L2.start N vs) ∧ Kt F K E φ H ((m σ h).bnd outOf) (RD K) Q
section
variable {F : Fx} {K : PySem.W.Frag} {φ : List Addr} {H : Hp}
theorem re_start {N : List Str} {ds : List D} {vs : List V} (r : RDs K φ H ds vs) : RE K φ H (ds.map some ++ List.replicate (N.length - ds.length) none) (L2.start N vs) := by
  unfold L2.start
  refine ⟨by simp [r.length], fun i d e => ?_⟩
  by_cases hi : i < ds.length
  · rw [List.getElem?_append_left (by simpa using hi), List.getElem?_map] at e
    obtain ⟨x, e1, e2⟩ := Option.map_eq_some_iff.mp e
    cases e2
    obtain ⟨v, h1, h2⟩ := r.get e1
    refine ⟨v, ?_, h2⟩
    rw [List.getElem?_append_left (by simp [← r.length]; exact hi), List.getElem?_map, h1]; rfl
  · rw [List.getElem?_append_right (by simpa using hi), List.getElem?_replicate] at e
    split at e <;> cases e
end
section
variable {F : Fx} {P : Program} {w : World} {K : PySem.W.Frag} {mg : Str → Option Value} {base : Heap} {T : Tb} {k : Nat} {C : Nat → List D → Hh → R D}
theorem body_ok (gd : Gd F K) (tb : TbOk F K mg T) (cal : ∀ f, FnR P w K mg base (L2.CX P w) k (F.fa f) (spF F K (C f))) {f : Addr} {Fd : Fn} {N : List Str} {args : List Arg} {va : Option Arg} {body : List Stmt} {scope : Scope} {qual : Str} (tx : Txt1 T Fd N args va body scope)
    (cdv : Value) (A : Around) (outer : List PySem.Env) (s : Shared) (H : Hp) (vs : List V) (Q : VK) (E : XK) (hr : Room (k + 2) (A.deeper (envOfC qual scope s.heap.objs.size f cdv))) (hsp : spB F K N (execs F.P C Fd.body) vs H Q E) :
    ∃ t, PSs (cxOf (L2.CX P w) P w K mg base N qual scope f cdv A outer s H E) body t ∧ t { nx := fun _ H' => Q .non H', rt := Q } (L2.start N vs) H := by
  have at_ : At F (cxOf (L2.CX P w) P w K mg base N qual scope f cdv A outer s H E) E C k ⟨N, scope, fun _ => true, T⟩ := {
    x := {
      calm := rfl
      nd := tx.sc.nd
      room := hr
      tk := fun u s' x => by
        show wpAny (model P w) (A.deeper (envOfC qual scope s.heap.objs.size f cdv)) (leaving (envOfC qual scope s.heap.objs.size f cdv) u) (fun _ s'' => L2.CX P w outer H s E u s'') (fun e' s'' => L2.CX P w outer H s E e' s'') s'
        exact XE.leave (W := fun cls d _ H => E cls d H) (E := E) rfl rfl rfl (fun _ _ _ _ h => h) x
      po := PassesOwn.leaving
      gd := gd
      cal := cal }
    m := { n := rfl, sc := rfl, fn := rfl, nd := tx.sc.nd, t := tb } }
  refine ⟨_, ckSs_ok Fd.body _ _ tx.ck _ E at_ ⟨rfl, rfl⟩, ?_⟩
  obtain ⟨φ, h, σ, S, R1, kt⟩ := hsp
  refine ⟨φ, h, σ, S, R1, kt.bnd fun fl h1 φ1 H1 v _ x1 S1 r1 k1 => ?_⟩
  cases r1 with
  | nx E1 => exact k1.ok S1 .non
  | rt r => exact k1.ok S1 r
  | bk E1 => exact k1.elim
  | ct E1 => exact k1.elim
theorem callN_ok (gd : Gd F K) (tb : TbOk F K mg T) (hd : ∀ f Fd, F.P.fns f = some Fd → DOk F K T f Fd) : ∀ d f, FnR P w K mg base (L2.CX P w) (3 * d) (F.fa f) (spF F K (callN F.P d f))
  | 0, f => fun A outer s H us vs Q E hr e0 r ⟨φ, h, ds, S, q, kt⟩ => kt.elim
  | d + 1, f => by
    cases e : F.P.fns f with
    | none =>
      intro A outer s H us vs Q E hr e0 r ⟨φ, h, ds, S, q, kt⟩
      unfold callN at kt
      rw [e] at kt
      exact kt.elim
    | some Fd =>
      obtain ⟨name, qual, args, va, body, scope, N, kws, fd, fun_, tx⟩ := (hd f Fd e).ex
      have ih := callN_ok gd tb hd d
      have hb := fun cdv A outer s H vs Q E hr hsp => body_ok (P := P) (w := w) (base := base) (k := 3 * d) (f := F.fa f) (qual := qual) gd tb ih tx cdv A outer s H vs Q E hr hsp
      have e3 : 3 * (d + 1) = (3 * d + 2) + 1 := by omega
      rw [e3]
      have hpl : args.length ≤ N.length := by
        have := congrArg List.length tx.sc.pre
        rw [List.length_take] at this
        simp at this
        omega
      have nd : (args.map (·.arg)).Nodup := by
        have : (args.map (·.arg) ++ vaL va).Nodup := by rw [← tx.sc.pre]; exact tx.sc.nd.sublist (List.take_sublist _ _)
        exact this.sublist (List.sublist_append_left _ _)
      cases va with
      | none =>
        have hnp : Fd.np = args.length := by rw [tx.np]; simp [vaL]
        have sc : FnScope N (args.map (·.arg)) scope := by have := tx.sc; simpa [vaL] using this
        have ok := FunD.ok (k := 3 * d + 2) (CX := L2.CX P w) (P := P) (w := w) (mg := mg) (base := base) (sp := fun vs H Q E => vs.length = (args.map (·.arg)).length ∧ spB F K N (execs F.P (callN F.P d) Fd.body) vs H Q E) fun_ sc (fun vs H Q E h => h.1)
          fun cdv A outer s H vs Q E hr hsp => hb cdv A outer s H vs Q E hr hsp.2
        have bn : Binds K fd (args.map (·.arg)) [] := FunD.bindsN fun_ fun kV doc pm an cdv ct us hl => by
          have z := bind_gen (name := name) (qual := qual) (va := none) (body := body) (scope := scope) (kV := kV) (doc := doc) (pm := pm) (cdv := cdv) (ct := ct) (an := an) (us := us) nd (by simp at hl; omega) (fun _ => by simpa using hl)
          exact z
        refine (ok.raw bn .nil).imp fun vs H Q E hsp => ?_
        rw [List.append_nil]
        obtain ⟨φ, h, ds, S, q, kt⟩ := hsp
        unfold callN at kt
        rw [e] at kt
        dsimp only at kt
        have hst : ¬ Fd.star = true := by rw [tx.star]; simp
        unfold envOf at kt
        rw [if_neg hst] at kt
        split at kt
        · exact kt.elim
        rename_i σ hσ
        split at hσ
        rotate_left
        · cases hσ
        rename_i hc
        cases hσ
        refine ⟨by rw [← q.length, hc.1, hnp]; simp, φ, h, _, S, ?_, kt⟩
        rw [← tx.ns, ← hc.1]
        exact re_start q
      | some a =>
        obtain ⟨oc, od, dV, kV, doc, pm, an, cdv, ct, osl, rfl, lk, hcd, hD, _⟩ := fun_.ex
        have hdv : dV = .none := by
          rcases hD with ⟨_, z⟩ | ⟨z, _⟩
          · exact z
          · exact absurd rfl z
        subst hdv
        have hnp : Fd.np = args.length + 1 := by rw [tx.np]; simp [vaL]
        have st := StX.fn_star (k := 3 * d + 2) (CX := L2.CX P w) (P := P) (w := w) (mg := mg) (base := base) (ps := args.map (·.arg)) (pv := a.arg) (sp := spB F K N (execs F.P (callN F.P d) Fd.body)) lk hcd tx.sc StX.cxUp (fun us rest hl => by
            have hl2 : us.length = args.length := by simpa using hl
            have z := bind_gen (name := name) (qual := qual) (va := some a) (body := body) (scope := scope) (kV := kV) (doc := doc) (pm := pm) (cdv := cdv) (ct := ct) (an := an) (us := us ++ rest) nd (by simp; omega) (fun h => by cases h)
            rw [z]
            have e1 : (us ++ rest).drop args.length = rest := by rw [← hl2]; simp
            have e2 : (args.map (·.arg)).zip (us ++ rest) = (args.map (·.arg)).zip us := by
              have h := List.zip_append (l₁ := args.map (·.arg)) (l₂ := us) (r₁ := ([] : List Str)) (r₂ := rest) (by simpa using hl2.symm)
              rw [List.append_nil, List.zip_nil_left, List.append_nil] at h
              exact h
            show (newTuple ((us ++ rest).drop args.length) >>= fun t => pure ((args.map (·.arg)).zip (us ++ rest) ++ [(a.arg, t)])) = _
            rw [e1, e2])
          fun A outer s H vs Q E hr hsp => hb cdv A outer s H vs Q E hr hsp
        refine st.imp fun vs H Q E hsp => ?_
        obtain ⟨φ, h, ds, S, q, kt⟩ := hsp
        unfold callN at kt
        rw [e] at kt
        dsimp only at kt
        have hst : Fd.star = true := by rw [tx.star]; rfl
        unfold envOf at kt
        rw [if_pos hst] at kt
        split at kt
        · exact kt.elim
        rename_i σ hσ
        split at hσ
        rotate_left
        · cases hσ
        rename_i hc
        cases hσ
        have e4 : Fd.np - 1 = args.length := by omega
        rw [e4] at kt
        have hle : args.length ≤ ds.length := by omega
        refine ⟨vs.take args.length, vs.drop args.length, (List.take_append_drop _ _).symm, by simp [← q.length]; omega, ?_, fun p hp => ?_⟩
        · have := limLine
          have l2 := hc.2.2.2
          rw [List.length_drop, ← q.length]
          omega
        · have q2 := q.mono (up_more S hp (u := .tup (vs.drop args.length)))
          have qt : RD K φ (upd H p (.tup (vs.drop args.length))) (.tup (ds.drop args.length)) (.ref p) := .tup (SqT.of upd_same) (q2.drop _)
          refine ⟨φ, h, _, S.more hp, ?_, Kt.mono (Ext.more hp) kt⟩
          have r := re_start (N := N) ((q2.take args.length).append (.cons qt .nil))
          have e5 : (ds.take args.length ++ [D.tup (ds.drop args.length)]).map some ++ List.replicate (N.length - (ds.take args.length ++ [D.tup (ds.drop args.length)]).length) none
            = (ds.take args.length).map some ++ [some (D.tup (ds.drop args.length))] ++ List.replicate (Fd.ns - Fd.np) none := by
            rw [List.map_append, List.length_append, List.length_take, Nat.min_eq_left hle, tx.ns, hnp]
            rfl
          rw [e5] at r
          exact r
end
end PI

set_option maxRecDepth 100000
set_option maxHeartbeats 4000000
/-! PIs: a law's program, told; the Hook. -/
namespace PI
open PySem PySem.Spec PyProof.Rows L2
inductive Loc where
  | glo (x : Str) | met (C m : Str) | prp (C m : Str)
def Loc.at_ (l : Loc) (K : PySem.W.Frag) : Addr := match l with
  | .glo x => He.ga K x
  | .met C m => He.ma K (He.ga K C) m
  | .prp C m => match PySem.W.recIn K (He.ma K (He.ga K C) m) "property" with
    | some (.ref g :: _) => g
    | _ => 0
structure FunDs where
  id : Nat
  loc : Loc
  name : Str
  qual : Str
  st : Stmt
  N : List Str
  fn : Fn
structure ClsD where
  name : Str
  id : Nat
  init : Nat
  meths : List (Nat × Str × Nat)
  props : List (Nat × Str × Nat)
  flds : List (Nat × Str)
inductive CV where
  | int (i : Int) | str (s : Str) | tup (l : List Int)
def CV.d : CV → D
  | .int i => .int i
  | .str s => .str s
  | .tup l => .tup (l.map .int)
structure Ds where
  funs : List FunDs
  cls : List ClsD
  exs : List (Str × Nat)
  con : List (Str × Nat × CV)
  blt : List Str
  att : List Str
  sub : List (Nat × Nat) := []
def Ds.P (S : Ds) : Pg where
  fns f := (S.funs.find? fun d => d.id == f).map (·.fn)
  glo g := (S.con.find? fun c => c.2.1 == g).map fun c => c.2.2.d
  isc c := S.cls.any fun k => k.id == c
  meth c m := (S.cls.find? fun k => k.id == c).bind fun k => (k.meths.find? fun z => z.1 == m).map (·.2.2)
  attr c f := match S.cls.find? fun k => k.id == c with
    | none => .no
    | some k => match k.props.find? fun z => z.1 == f with
      | some z => .prop z.2.2
      | none => if (k.flds.any fun z => z.1 == f) = true then .fld else .no
  init c := (S.cls.find? fun k => k.id == c).map (·.init)
  sub c d := c == d || S.sub.contains (c, d)
def Ds.fa (S : Ds) (K : PySem.W.Frag) (f : Nat) : Addr := match S.funs.find? fun d => d.id == f with
  | some d => d.loc.at_ K
  | none => 0
def Ds.ca (S : Ds) (K : PySem.W.Frag) (c : Nat) : Addr := match S.cls.find? fun k => k.id == c with
  | some k => He.ga K k.name
  | none => match S.exs.find? fun z => z.2 == c with
    | some z => He.ga K z.1
    | none => 0
def Ds.F (S : Ds) (K : PySem.W.Frag) : Fx := ⟨S.P, S.fa K, S.ca K, fun i => S.att.getD i "", S.att.length, fun c => S.exs.any fun z => z.2 == c⟩
def Ds.T (S : Ds) : Tb where
  fns := S.funs.filterMap fun d => match d.loc with
    | .glo x => some (x, d.id)
    | _ => none
  cls := S.cls.map fun k => (k.name, k.id)
  exs := S.exs
  con := S.con.map fun c => (c.1, c.2.1)
  blt := S.blt
  att := S.att

/-! ### the text -/
def scB (N ps : List Str) (sc : Scope) : Bool := decide (sc.kind = .function) && !sc.isCoroutine && !sc.isGenerator && decide N.Nodup && decide (N.take ps.length = ps) &&
  (ps.all fun x => decide (sc.names.lookup x = some .local) || decide (sc.names.lookup x = some .cell)) && (sc.names.all fun y => !decide (y.2 = .free))
theorem scB_ok {N ps : List Str} {sc : Scope} (h : scB N ps sc = true) : FnScope N ps sc := by
  unfold scB at h
  simp only [Bool.and_eq_true, List.all_eq_true, Bool.or_eq_true, Bool.not_eq_true', decide_eq_true_eq, decide_eq_false_iff_not] at h
  obtain ⟨⟨⟨⟨⟨⟨h1, h2⟩, h3⟩, h4⟩, h5⟩, h6⟩, h7⟩ := h
  exact ⟨h1, h2, h3, h4, h5, h6, h7⟩
def txtB (T : Tb) (d : FunDs) : Bool := match defArgs d.st with
  | ⟨[], args, va, [], [], none, []⟩ => scB d.N (args.map (·.arg) ++ vaL va) (defScope d.st) && ckSs d.fn.body ⟨d.N, defScope d.st, fun _ => true, T⟩ (defBody d.st) && decide (d.N.length = d.fn.ns) && decide (d.fn.star = va.isSome) &&
      decide (d.fn.np = (args.map (·.arg) ++ vaL va).length)
  | _ => false
theorem txtB_ok {T : Tb} {d : FunDs} (h : txtB T d = true) : ∃ args va, defArgs d.st = ⟨[], args, va, [], [], none, []⟩ ∧ Txt1 T d.fn d.N args va (defBody d.st) (defScope d.st) := by
  unfold txtB at h
  split at h
  · rename_i args va e
    simp only [Bool.and_eq_true, decide_eq_true_eq] at h
    obtain ⟨⟨⟨⟨h1, h2⟩, h3⟩, h4⟩, h5⟩ := h
    exact ⟨args, va, e, scB_ok h1, h2, h3, h4, h5⟩
  · cases h
def FunDs.defA (d : FunDs) : He5.DefA := ⟨d.loc.at_, d.name, d.qual, defArgs d.st, defBody d.st, defScope d.st, [], []⟩

/-! ### facts of the written part -/
def optB (a b : Option (Option Value)) : Bool := decide (a = b)
def clsB (S : Ds) (K : PySem.W.Frag) (k : ClsD) : Bool :=
  let C := He.ga K k.name
  (He.Fa.cls k.name).ok K && (PySem.W.makesIn K C && (optB (PySem.W.findIn K (.ref C) "__init__") (some (some (.ref (S.fa K k.init)))) && (PySem.W.isFn K (.ref (S.fa K k.init)) && (PySem.W.keepIn K (.ref C) &&
  ((k.meths.all fun z => decide (S.att[z.1]? = some z.2.1) && (optB (PySem.W.findIn K (.ref C) z.2.1) (some (some (.ref (S.fa K z.2.2)))) && (PySem.W.isFn K (.ref (S.fa K z.2.2)) && PySem.W.keepIn K (.ref (S.fa K z.2.2))))) &&
  ((k.props.all fun z => decide (S.att[z.1]? = some z.2.1) && (optB (PySem.W.findIn K (.ref C) z.2.1) (some (some (.ref (He.ma K C z.2.1)))) && (optB (PySem.W.specialIn K (.ref (He.ma K C z.2.1)) "__get__") (some (some (.builtin "property.__get__"))) &&
    (decide (PySem.W.takesIn K (.ref (He.ma K C z.2.1)) = some true) && (match PySem.W.recIn K (He.ma K C z.2.1) "property" with
      | some (.ref g :: _) => decide (g = S.fa K z.2.2)
      | _ => false))))) &&
  ((k.flds.all fun z => decide (S.att[z.1]? = some z.2) && optB (PySem.W.findIn K (.ref C) z.2) (some none)) &&
  (optB (PySem.W.findIn K (.ref C) "__class__") (some (some (.builtin "object.__class__"))) && (decide (PySem.W.mroIn K C (.type "object") = some true) &&
  ((btys.all fun a => decide (PySem.W.kitOne K (.type a) (.ref C) = some false) && decide (PySem.W.kitOne K (.ref C) (.type a) = some false)) &&
  (S.cls.all fun j => decide (PySem.W.kitOne K (.ref C) (.ref (He.ga K j.name)) = some (S.P.sub k.id j.id)))))))))))))
def conB (K : PySem.W.Frag) (x : Str) (v : CV) : Bool := match v, PySem.W.nsIn K mainGlobals x with
  | .int i, some (some (.int j _)) => decide (j = i)
  | .str s, some (some (.str t _)) => decide (t = s)
  | .tup l, some (some (.ref a)) => match K.lookup a with
    | some ⟨.type c, _, .seq its _, _⟩ => decide (c = "tuple") && (decide (its.size ≤ 100) && decide (its.toList.map (fun v => match v with
      | .int j _ => some j
      | _ => none) = l.map some))
    | _ => false
  | _, _ => false
def factsB (S : Ds) (K : PySem.W.Frag) : Bool :=
  (decide S.att.Nodup && (decide (S.funs.map (·.id)).Nodup && (decide (S.cls.map (·.id)).Nodup && (decide (S.exs.map (·.2)).Nodup && (decide (S.con.map (·.2.1)).Nodup && (S.exs.all fun z => !(S.cls.any fun k => k.id == z.2))))))) && ((S.cls.all fun k => clsB S K k) && ((S.exs.all fun z => (S.exs.all fun y => decide (PySem.W.exmOne K (.ref (He.ga K z.1)) (.ref (He.ga K y.1)) = some (z.2 == y.2))) && ((He.Fa.glo z.1).ok K && (He.Fa.exc z.1).ok K)) && ((S.con.all fun c => conB K c.1 c.2.2) && ((S.blt.all fun x => (He.Fa.free x).ok K) &&
  ((S.funs.all fun d => match d.loc with
    | .glo x => (He.Fa.glo x).ok K && PySem.W.keepIn K (.ref (He.ga K x))
    | _ => true) && ((S.cls.all fun k => (He.Fa.glo k.name).ok K) &&
  (optB (PySem.W.specialIn K (.builtin "object.__class__") "__get__") (some (some (.builtin "getset_descriptor.__get__"))) && decide (PySem.W.takesIn K (.builtin "object.__class__") = some true))))))))

/-! ### the facts, read -/
theorem find_uniq {α : Type} {f : α → Nat} : ∀ {l : List α} {a : α}, (l.map f).Nodup → a ∈ l → l.find? (fun b => f b == f a) = some a
  | b :: l, a, nd, m => by
    rw [List.map_cons, List.nodup_cons] at nd
    rw [List.find?_cons]
    rcases List.mem_cons.mp m with e | m
    · subst e; simp
    · have : (f b == f a) = false := beq_eq_false_iff_ne.mpr fun z => nd.1 (z ▸ List.mem_map_of_mem m)
      rw [this]
      exact find_uniq nd.2 m
theorem find_some {α : Type} {f : α → Nat} {l : List α} {c : Nat} {a : α} (e : l.find? (fun b => f b == c) = some a) : a ∈ l ∧ f a = c :=
  ⟨List.mem_of_find?_eq_some e, by simpa using List.find?_some e⟩
section
variable {S : Ds} {K : PySem.W.Frag}
structure Uq (S : Ds) : Prop where
  att : S.att.Nodup
  funs : (S.funs.map (·.id)).Nodup
  cls : (S.cls.map (·.id)).Nodup
  exs : (S.exs.map (·.2)).Nodup
  con : (S.con.map (·.2.1)).Nodup
  dis : ∀ z ∈ S.exs, ∀ k ∈ S.cls, k.id ≠ z.2
structure Fs (S : Ds) (K : PySem.W.Frag) : Prop where
  u : Uq S
  cls : ∀ k ∈ S.cls, clsB S K k = true
  exs : ∀ z ∈ S.exs, (∀ y ∈ S.exs, PySem.W.exmOne K (.ref (He.ga K z.1)) (.ref (He.ga K y.1)) = some (z.2 == y.2)) ∧ (He.Fa.glo z.1).ok K = true ∧ (He.Fa.exc z.1).ok K = true
  con : ∀ c ∈ S.con, conB K c.1 c.2.2 = true
  blt : ∀ x ∈ S.blt, (He.Fa.free x).ok K = true
  funs : ∀ d ∈ S.funs, ∀ x, d.loc = .glo x → (He.Fa.glo x).ok K = true ∧ PySem.W.keepIn K (.ref (He.ga K x)) = true
  gcls : ∀ k ∈ S.cls, (He.Fa.glo k.name).ok K = true
  tyg : PySem.W.specialIn K (.builtin "object.__class__") "__get__" = some (some (.builtin "getset_descriptor.__get__")) ∧ PySem.W.takesIn K (.builtin "object.__class__") = some true
theorem fs_of (h : factsB S K = true) : Fs S K := by
  unfold factsB at h
  simp only [Bool.and_eq_true, List.all_eq_true, decide_eq_true_eq, Bool.not_eq_true', optB] at h
  obtain ⟨⟨a1, a2, a3, a4, a5, a6⟩, h1, h2, h3, h4, h5, h6, h7, h8⟩ := h
  refine ⟨⟨a1, a2, a3, a4, a5, fun z hz k hk e => ?_⟩, h1, h2, h3, h4, fun d hd x e => ?_, h6, h7, h8⟩
  · have := a6 z hz
    rw [List.any_eq_false] at this
    exact this k hk (by simpa using e)
  · have := h5 d hd
    rw [e] at this
    simpa using this
theorem isc_find {c : Nat} (h : S.P.isc c = true) : ∃ k, S.cls.find? (fun k => k.id == c) = some k ∧ k ∈ S.cls ∧ k.id = c := by
  obtain ⟨k, hk, e⟩ := List.any_eq_true.mp (show (S.cls.any fun k => k.id == c) = true from h)
  cases q : S.cls.find? fun k => k.id == c with
  | none => exact absurd e (by simpa using List.find?_eq_none.mp q k hk)
  | some j => exact ⟨j, rfl, find_some (f := ClsD.id) q⟩
theorem ca_cls {c : Nat} {k : ClsD} (e : S.cls.find? (fun k => k.id == c) = some k) : S.ca K c = He.ga K k.name := by
  unfold Ds.ca
  rw [e]
structure ClsF (S : Ds) (K : PySem.W.Frag) (k : ClsD) : Prop where
  cls : (He.Fa.cls k.name).ok K = true
  makes : PySem.W.makesIn K (He.ga K k.name) = true
  init : PySem.W.findIn K (.ref (He.ga K k.name)) "__init__" = some (some (.ref (S.fa K k.init)))
  ifn : PySem.W.isFn K (.ref (S.fa K k.init)) = true
  kp : PySem.W.keepIn K (.ref (He.ga K k.name)) = true
  meths : ∀ z ∈ k.meths, S.att[z.1]? = some z.2.1 ∧ PySem.W.findIn K (.ref (He.ga K k.name)) z.2.1 = some (some (.ref (S.fa K z.2.2))) ∧ PySem.W.isFn K (.ref (S.fa K z.2.2)) = true ∧ PySem.W.keepIn K (.ref (S.fa K z.2.2)) = true
  props : ∀ z ∈ k.props, S.att[z.1]? = some z.2.1 ∧ PropOf K (He.ga K k.name) z.2.1 (He.ma K (He.ga K k.name) z.2.1) (S.fa K z.2.2)
  flds : ∀ z ∈ k.flds, S.att[z.1]? = some z.2 ∧ PySem.W.findIn K (.ref (He.ga K k.name)) z.2 = some none
  tyc : PySem.W.findIn K (.ref (He.ga K k.name)) "__class__" = some (some (.builtin "object.__class__")) ∧ PySem.W.mroIn K (He.ga K k.name) (.type "object") = some true
  kb : ∀ a ∈ btys, PySem.W.kitOne K (.type a) (.ref (He.ga K k.name)) = some false ∧ PySem.W.kitOne K (.ref (He.ga K k.name)) (.type a) = some false
  kc : ∀ j ∈ S.cls, PySem.W.kitOne K (.ref (He.ga K k.name)) (.ref (He.ga K j.name)) = some (S.P.sub k.id j.id)
theorem clsF_of {k : ClsD} (h : clsB S K k = true) : ClsF S K k := by
  unfold clsB at h
  simp only [Bool.and_eq_true, List.all_eq_true, decide_eq_true_eq, optB] at h
  obtain ⟨h1, h2, h3, h4, h5, h6, h7, h8, h9, h10, h11, h12⟩ := h
  refine ⟨h1, h2, h3, h4, h5, h6, fun z hz => ?_, h8, ⟨h9, h10⟩, h11, h12⟩
  obtain ⟨g1, g2, g3, g4, g5⟩ := h7 z hz
  refine ⟨g1, g2, g3, g4, ?_⟩
  split at g5
  · rename_i g r e
    have := of_decide_eq_true g5
    subst this
    exact ⟨r, e⟩
  · cases g5
theorem att_eq {i : Nat} {x : Str} (h : S.att[i]? = some x) : i < (S.F K).natt ∧ (S.F K).att i = x := by
  refine ⟨(List.getElem?_eq_some_iff.mp h).1, ?_⟩
  show S.att.getD i "" = x
  rw [List.getD_eq_getElem?_getD, h]; rfl
theorem exs_ca (f : Fs S K) {c : Nat} (hc : (S.F K).ise c = true) : ∃ z ∈ S.exs, z.2 = c ∧ S.ca K c = He.ga K z.1 := by
  have hc : (S.exs.any fun z => z.2 == c) = true := hc
  obtain ⟨z, hz, ez⟩ := List.any_eq_true.mp hc
  have ez : z.2 = c := by simpa using ez
  refine ⟨z, hz, ez, ?_⟩
  unfold Ds.ca
  have h1 : S.cls.find? (fun k => k.id == c) = none := by
    rw [List.find?_eq_none]
    intro k hk
    have := f.u.dis z hz k hk
    rw [ez] at this
    simpa using this
  rw [h1]
  have h2 := find_uniq (f := fun z : Str × Nat => z.2) f.u.exs hz
  rw [ez] at h2
  rw [h2]
theorem gd_of (f : Fs S K) : Gd (S.F K) K where
  inj := fun i j hi hj e => by
    have hi : i < S.att.length := hi
    have hj : j < S.att.length := hj
    have e : S.att.getD i "" = S.att.getD j "" := e
    rw [List.getD_eq_getElem?_getD, List.getD_eq_getElem?_getD, List.getElem?_eq_getElem hi, List.getElem?_eq_getElem hj] at e
    have key : ∀ (l : List Str), l.Nodup → ∀ i j (hi : i < l.length) (hj : j < l.length), l[i] = l[j] → i = j := by
      intro l
      induction l with
      | nil => intro _ i j hi; exact absurd hi (Nat.not_lt_zero _)
      | cons a l ih =>
        intro nd i j hi hj e
        obtain ⟨h1, h2⟩ := List.nodup_cons.mp nd
        cases i with
        | zero =>
          cases j with
          | zero => rfl
          | succ j => exact absurd (show a ∈ l from by have e : a = l[j]'(by simpa using hj) := e; rw [e]; exact List.getElem_mem _) h1
        | succ i =>
          cases j with
          | zero => exact absurd (show a ∈ l from by have e : l[i]'(by simpa using hi) = a := e; rw [← e]; exact List.getElem_mem _) h1
          | succ j => exact congrArg Nat.succ (ih h2 i j (by simpa using hi) (by simpa using hj) e)
    exact key S.att f.u.att i j hi hj e
  cls := fun c hc => by
    obtain ⟨k, e, hk, _⟩ := isc_find hc
    show Cls K (S.ca K c)
    rw [ca_cls e]
    exact He.cls_ok (clsF_of (f.cls k hk)).cls
  fld := fun c a hc ha => by
    obtain ⟨k, e, hk, _⟩ := isc_find hc
    have ha : (match S.cls.find? fun k => k.id == c with
      | none => AK.no
      | some k => match k.props.find? fun z : Nat × Str × Nat => z.1 == a with
        | some z => .prop z.2.2
        | none => if (k.flds.any fun z : Nat × Str => z.1 == a) = true then .fld else .no) = .fld := ha
    rw [e] at ha
    dsimp only at ha
    split at ha
    · cases ha
    split at ha
    · rename_i hf
      obtain ⟨z, hz, ez⟩ := List.any_eq_true.mp hf
      have ez : z.1 = a := by simpa using ez
      obtain ⟨g1, g2⟩ := (clsF_of (f.cls k hk)).flds z hz
      rw [ez] at g1
      obtain ⟨q1, q2⟩ := att_eq (K := K) g1
      refine ⟨q1, ?_⟩
      show PySem.W.findIn K (.ref (S.ca K c)) ((S.F K).att a) = some none
      rw [ca_cls e, q2]
      exact g2
    · cases ha
  prop := fun c a g hc ha => by
    obtain ⟨k, e, hk, _⟩ := isc_find hc
    have ha : (match S.cls.find? fun k => k.id == c with
      | none => AK.no
      | some k => match k.props.find? fun z : Nat × Str × Nat => z.1 == a with
        | some z => .prop z.2.2
        | none => if (k.flds.any fun z : Nat × Str => z.1 == a) = true then .fld else .no) = .prop g := ha
    rw [e] at ha
    dsimp only at ha
    split at ha
    · rename_i z hz
      cases ha
      obtain ⟨m, ez⟩ := find_some (f := fun z : Nat × Str × Nat => z.1) hz
      obtain ⟨g1, g2⟩ := (clsF_of (f.cls k hk)).props z m
      rw [ez] at g1
      obtain ⟨q1, q2⟩ := att_eq (K := K) g1
      refine ⟨He.ma K (He.ga K k.name) z.2.1, ?_⟩
      show PropOf K (S.ca K c) ((S.F K).att a) _ _
      rw [ca_cls e, q2]
      exact g2
    · split at ha <;> cases ha
  meth := fun c m g hc hm => by
    obtain ⟨k, e, hk, _⟩ := isc_find hc
    have hm : ((S.cls.find? fun k => k.id == c).bind fun k => (k.meths.find? fun z => z.1 == m).map (·.2.2)) = some g := hm
    rw [e] at hm
    obtain ⟨z, hz, ez⟩ := Option.map_eq_some_iff.mp hm
    subst ez
    obtain ⟨hmem, ez⟩ := find_some (f := fun z : Nat × Str × Nat => z.1) hz
    obtain ⟨g1, g2, g3, g4⟩ := (clsF_of (f.cls k hk)).meths z hmem
    rw [ez] at g1
    obtain ⟨q1, q2⟩ := att_eq (K := K) g1
    refine ⟨q1, ?_⟩
    show Meth K (S.ca K c) ((S.F K).att m) (S.fa K z.2.2)
    rw [ca_cls e, q2]
    exact ⟨g2, g3, g4⟩
  init := fun c g hc hi => by
    obtain ⟨k, e, hk, _⟩ := isc_find hc
    have hi : (S.cls.find? fun k => k.id == c).map (·.init) = some g := hi
    rw [e] at hi
    cases hi
    have q := clsF_of (f.cls k hk)
    show Mk K (S.ca K c) (S.fa K k.init)
    rw [ca_cls e]
    exact ⟨q.makes, q.init, q.ifn, q.kp⟩
  tyc := fun c hc => by
    obtain ⟨k, e, hk, _⟩ := isc_find hc
    show PySem.W.findIn K (.ref (S.ca K c)) "__class__" = _ ∧ PySem.W.mroIn K (S.ca K c) (.type "object") = some true
    rw [ca_cls e]
    exact (clsF_of (f.cls k hk)).tyc
  tyg := f.tyg
  kb := fun c a hc ha => by
    obtain ⟨k, e, hk, _⟩ := isc_find hc
    show PySem.W.kitOne K (.type a) (.ref (S.ca K c)) = some false ∧ PySem.W.kitOne K (.ref (S.ca K c)) (.type a) = some false
    rw [ca_cls e]
    exact (clsF_of (f.cls k hk)).kb a ha
  exc := fun c hc => by
    obtain ⟨z, hz, _, e⟩ := exs_ca f hc
    show excOkB K (S.ca K c)
    rw [e]
    obtain ⟨q1, q2, q3, q4⟩ := He.exc_ok (f.exs z hz).2.2
    exact ⟨⟨He.veBase, _, ⟨_, _, PySem.F.excBase_ValueError⟩, q1⟩, q3, q4, q2⟩
  exm := fun c d hc hd => by
    obtain ⟨z, hz, ez, e⟩ := exs_ca f hc
    obtain ⟨y, hy, ey, e2⟩ := exs_ca f hd
    show PySem.W.exmOne K (.ref (S.ca K c)) (.ref (S.ca K d)) = _
    rw [e, e2, (f.exs z hz).1 y hy, ez, ey]
  kc := fun c d hc hd => by
    obtain ⟨k, e, hk, ek⟩ := isc_find hc
    obtain ⟨j, e2, hj, ej⟩ := isc_find hd
    show PySem.W.kitOne K (.ref (S.ca K c)) (.ref (S.ca K d)) = some (S.P.sub c d)
    rw [ca_cls e, ca_cls e2, (clsF_of (f.cls k hk)).kc j hj, ek, ej]
theorem fa_glo (f : Fs S K) {d : FunDs} (hd : d ∈ S.funs) : S.fa K d.id = d.loc.at_ K := by
  unfold Ds.fa
  rw [find_uniq (f := FunDs.id) f.u.funs hd]
theorem tb_of {h : Heap} {mg : Str → Option Value} (f : Fs S K) (X : K.In h) (G : h.Ns mainGlobals mg) : TbOk (S.F K) K mg S.T where
  fns := fun x g e => by
    obtain ⟨d, hd, e2⟩ := List.mem_filterMap.mp (PySem.mem_of_lookup e)
    split at e2
    · rename_i y el
      cases e2
      obtain ⟨q1, q2⟩ := f.funs d hd _ el
      have e3 : (S.F K).fa d.id = He.ga K x := by
        show S.fa K d.id = _
        rw [fa_glo f hd, el]; rfl
      rw [e3]
      exact ⟨He.glo_ok X G q1, q2⟩
    · cases e2
  cls := fun x g e => by
    obtain ⟨k, hk, e2⟩ := List.mem_map.mp (PySem.mem_of_lookup e)
    cases e2
    have e3 : (S.F K).ca k.id = He.ga K k.name := ca_cls (find_uniq (f := ClsD.id) f.u.cls hk)
    rw [e3]
    exact ⟨He.glo_ok X G (f.gcls k hk), (clsF_of (f.cls k hk)).kp⟩
  exs := fun x g e => by
    have hz := PySem.mem_of_lookup e
    have e3 : (S.F K).ca g = He.ga K x := by
      show S.ca K g = _
      unfold Ds.ca
      have h1 : S.cls.find? (fun k => k.id == g) = none := by
        rw [List.find?_eq_none]
        intro k hk
        simpa using f.u.dis _ hz k hk
      rw [h1]
      have h2 := find_uniq (f := fun z : Str × Nat => z.2) f.u.exs hz
      have h2 : S.exs.find? (fun b => b.2 == g) = some (x, g) := h2
      rw [h2]
    rw [e3]
    exact ⟨He.glo_ok X G (f.exs _ hz).2.1, List.any_eq_true.mpr ⟨_, hz, by simp⟩⟩
  con := fun x g e => by
    obtain ⟨c, hc, e2⟩ := List.mem_map.mp (PySem.mem_of_lookup e)
    obtain ⟨y, i, v⟩ := c
    have e3 : y = x := (Prod.mk.inj e2).1
    have e4 : i = g := (Prod.mk.inj e2).2
    subst e3
    subst e4
    have eg : (S.F K).P.glo i = some v.d := by
      show (S.con.find? fun c => c.2.1 == i).map _ = _
      have h2 := find_uniq (f := fun c : Str × Nat × CV => c.2.1) f.u.con hc
      have h2 : S.con.find? (fun b => b.2.1 == i) = some (y, i, v) := h2
      rw [h2]; rfl
    have hb := f.con _ hc
    unfold conB at hb
    dsimp only at hb
    split at hb
    · rename_i i j t hn
      have := of_decide_eq_true hb
      subst this
      exact ⟨_, .int j, _, PySem.W.mg_of X G hn, ⟨t, rfl⟩, eg, fun φ H => .int _⟩
    · rename_i i j t hn
      have := of_decide_eq_true hb
      subst this
      exact ⟨_, .str j, _, PySem.W.mg_of X G hn, ⟨t, rfl⟩, eg, fun φ H => .str _⟩
    · rename_i l a hn
      split at hb
      · rename_i c od its n sl hl
        simp only [Bool.and_eq_true, decide_eq_true_eq] at hb
        obtain ⟨h1, h2, h3⟩ := hb
        subst h1
        refine ⟨_, .ref a, _, PySem.W.mg_of X G hn, rfl, eg, fun φ H => .tup (vs := l.map V.int) (.inr ⟨_, its, n, hl, rfl, rfl, ?_, ?_⟩) (RDs.ints l)⟩
        · rw [sizeLine_eq]; omega
        · have key : ∀ (xs : List Value) (l : List Int), xs.map (fun v => match v with
              | .int j _ => some j
              | _ => none) = l.map some → Vals (l.map V.int) xs := by
            intro xs
            induction xs with
            | nil => intro l e; cases l with
              | nil => exact .nil
              | cons _ _ => cases e
            | cons x xs ih =>
              intro l e
              cases l with
              | nil => cases e
              | cons b l =>
                rw [List.map_cons, List.map_cons] at e
                injection e with e1 e2
                refine .cons ?_ (ih l e2)
                split at e1
                · cases e1; exact ⟨_, rfl⟩
                · cases e1
          exact key _ _ h3
      · cases hb
    · cases hb
  blt := fun x hx => by
    have hx : x ∈ S.blt := by
      have : S.blt.contains x = true := hx
      simpa using this
    exact He.free_ok X G (f.blt x hx)
  att := fun i x e => (att_eq (K := K) e).2.symm
end

/-! ### the Hook -/
def obsP (S : Ds) (K : PySem.W.Frag) : He.AlD := (factsB S K && (S.funs.all fun d => d.defA.ok K), S.funs.map fun d => He5.fnA K (d.loc.at_ K))
def valP (S : Ds) : He.AlD := (true, S.funs.map fun d => d.defA.val)
def SaysP (S : Ds) (K : PySem.W.Frag) : Prop := obsP S K = valP S
def obsPG (n : Nat) (S : Ds) (g : Addr → Option Obj) : He.AlD := obsP S (He.frG g (He5.asA g n))
def hookP (n : Nat) (S : Ds) : PySem.W.Hook where
  α := He.AlD
  obs := fun s => obsPG n S s.heap.get?
  val := fun _ => valP S
  says := fun _ h => ∃ K : PySem.W.Frag, K.In h ∧ SaysP S K
  of := fun _ _ e => ⟨_, He.frG_in, e⟩
  keeps := fun _ _ _ ⟨K, hK, c⟩ k => ⟨K, PySem.W.Frag.In.keeps hK k, c⟩
theorem obsPG_eq {n : Nat} {S : Ds} {g : Addr → Option Obj} {s : Shared} (h : ∀ a, g a = s.heap.get? a) : obsPG n S g = (hookP n S).obs s := by
  have e : g = s.heap.get? := funext h
  rw [e] <;> rfl
section
variable {S : Ds} {K : PySem.W.Frag}
theorem SaysP.facts (c : SaysP S K) : Fs S K := fs_of (He.ba (show (factsB S K && (S.funs.all fun d => d.defA.ok K)) = true from congrArg (fun z : He.AlD => z.1) c)).1
theorem SaysP.def_ (c : SaysP S K) {d : FunDs} (hd : d ∈ S.funs) : ∃ fd, FunD K d.name d.qual (defArgs d.st) (defBody d.st) (defScope d.st) [] [] (d.loc.at_ K) fd := by
  have c2 := (He.ba (show (factsB S K && (S.funs.all fun d => d.defA.ok K)) = true from congrArg (fun z : He.AlD => z.1) c)).2
  have e : (S.funs.map fun d => He5.fnA K (d.loc.at_ K)) = S.funs.map fun d => d.defA.val := congrArg (fun z : He.AlD => z.2) c
  obtain ⟨i, hi, ei⟩ := List.mem_iff_getElem.mp hd
  have e2 : (S.funs.map fun d => He5.fnA K (d.loc.at_ K))[i]? = (S.funs.map fun d => d.defA.val)[i]? := by rw [e]
  rw [List.getElem?_map, List.getElem?_map, List.getElem?_eq_getElem hi, ei] at e2
  exact He5.DefA.funD (d := d.defA) (Option.some.inj e2) (List.all_eq_true.mp c2 d hd)
/-- what the calls do -/
theorem SaysP.calls (c : SaysP S K) (tx : (S.funs.all fun d => txtB S.T d) = true) {P : Program} {w : World} {h base : Heap} {mg : Str → Option Value} (X : K.In base) (G : base.Ns mainGlobals mg) (n f : Nat) :
    FnR P w K mg base (L2.CX P w) (3 * n) (S.fa K f) (spF (S.F K) K (callN S.P n f)) := by
  have f0 := c.facts
  refine callN_ok (F := S.F K) (T := S.T) (gd_of f0) (tb_of f0 X G) (fun g Fd e => ?_) n f
  have e : (S.funs.find? fun d => d.id == g).map (·.fn) = some Fd := e
  obtain ⟨d, hd, e2⟩ := Option.map_eq_some_iff.mp e
  subst e2
  obtain ⟨hm, eg⟩ := find_some (f := FunDs.id) hd
  obtain ⟨fd, hf⟩ := c.def_ hm
  obtain ⟨args, va, ea, t⟩ := txtB_ok (List.all_eq_true.mp tx d hm)
  rw [ea] at hf
  have efa : (S.F K).fa g = d.loc.at_ K := by
    show S.fa K g = _
    rw [← eg]
    exact fa_glo f0 hm
  exact ⟨_, _, args, va, _, _, d.N, _, fd, by rw [efa]; exact hf, t⟩
end
end PI

set_option maxRecDepth 100000
set_option maxHeartbeats 4000000
/-! PIt: a law's end: what the interpreter says of the law holds of the program. -/
namespace PI
open PySem PySem.Spec PyProof.Rows L2
theorem cx_none {P : Program} {w : World} {outer : List PySem.Env} {H : Hp} {s : Shared} {e : Value} {s' : Shared} (h : L2.CX P w outer H s (fun _ _ _ => False) e s') : False := by
  obtain ⟨_, _, _, _, _, _, _, _, _, _, _, _, z⟩ := h
  exact z
section
variable {S : Ds} {K : PySem.W.Frag}
/-- the law's def, its promise for law_call -/
theorem law_fn (c : SaysP S K) (tx : (S.funs.all fun d => txtB S.T d) = true) {d : FunDs} (hd : d ∈ S.funs) {x : Str} {p : Pos} {an : Option Expr} (ha : defArgs d.st = ⟨[], [⟨x, an, p⟩], none, [], [], none, []⟩) (n : Nat) :
    ∃ fd : FuncData, (∀ (s : Shared) (u : Value), BindsTo s fd ⟨[u], []⟩ [(x, u)]) ∧ d.fn.ns = d.N.length ∧ ∀ (P : Program) (w : World) (base : Heap) (mg : Str → Option Value), K.In base → base.Ns mainGlobals mg →
      FnOk P w K mg base (L2.CX P w) (3 * (n + 1)) (d.loc.at_ K) fd [x] (fun vs H Q E => vs.length = 1 ∧ spB (S.F K) K d.N (execs S.P (callN S.P n) d.fn.body) vs H Q E) := by
  have f0 := c.facts
  obtain ⟨fd, hf⟩ := c.def_ hd
  obtain ⟨args, va, ea, t⟩ := txtB_ok (List.all_eq_true.mp tx d hd)
  rw [ha] at ea hf
  cases ea
  refine ⟨fd, fun s u => ?_, t.ns.symm, fun P w base mg X G => ?_⟩
  · exact FunD.bindsA (ps := [x]) hf (fun kV doc pm an' cdv ct us hl => bind_gen (va := none) (args := [⟨x, an, p⟩]) (by simp) (by simp at hl; simp [hl]) (fun _ => by simpa using hl)) s [u] rfl
  · have sc : FnScope d.N [x] (defScope d.st) := t.sc
    have ih := fun f => SaysP.calls c tx (P := P) (w := w) (h := base) X G n f
    exact FunD.ok (k := 3 * n + 2) (CX := L2.CX P w) (P := P) (w := w) (mg := mg) (base := base) (sp := fun vs H Q E => vs.length = 1 ∧ spB (S.F K) K d.N (execs S.P (callN S.P n) d.fn.body) vs H Q E) hf sc (fun vs H Q E h => h.1)
      fun cdv A outer s H vs Q E hr hsp => body_ok (F := S.F K) (P := P) (w := w) (base := base) (k := 3 * n) (f := d.loc.at_ K) (qual := d.qual) (gd_of f0) (tb_of f0 X G) ih t cdv A outer s H vs Q E hr hsp.2
/-- what the plain law is to say -/
def LawOk (S : Ds) (f n most : Nat) : Prop := ∀ ns : List Int, ns.length ≤ most → (∀ z ∈ ns, Builtin.Int.intBits z ≤ 1048576) → ∃ h, callN S.P (n + 1) f [.scr ns] [] = .ok (.bl true) h
theorem walk_law {l : PySem.W.OpenLaw} {n most : Nat} {q : Program} {loose : List Str} {XP : (Str → Option Value) → Heap → Prop} {d : DefRec} (hn : l.most = some most) (hn2 : most ≤ 1000000) (hdf : d.params.defaults = [])
    (hr : 3 * (3 * (n + 1)) + 5 < 900) {k : FunDs} (hk : k ∈ S.funs) (hkn : k.loc = .glo d.name) {x : Str} {p : Pos} {an : Option Expr} (ha : defArgs k.st = ⟨[], [⟨x, an, p⟩], none, [], [], none, []⟩) (hnp : k.fn.np = 1) (hst : k.fn.star = false) (hns : 1 ≤ k.fn.ns)
    (hroom : Room (3 * (n + 1)) callerA) (tx : (S.funs.all fun d => txtB S.T d) = true) (hfn : S.P.fns k.id = some k.fn) (law : LawOk S k.id n most) :
    PySem.W.WalkO q loose XP (fun w h => ∃ K : PySem.W.Frag, K.In h ∧ SaysP S K) l.row.toRowW d [] (fun f vs => PySem.call f vs) := by
  refine Att.attach_callB hn hdf fun w s₀ s₁ mg mb fa o pm cd doc a vs ns G Y ho hd hcd hmg hobj hints hlen hbits hg => ?_
  obtain ⟨K, KX, c⟩ := Y
  obtain ⟨fd, hb, hN, hF⟩ := law_fn c tx hk ha n
  have f0 := c.facts
  have e1 := hmg.symm.trans (He.glo_ok KX G.T.g (f0.funs k hk _ hkn).1)
  have e2 : k.loc.at_ K = fa := by
    rw [hkn]
    cases e1
    rfl
  refine law_call (CX := L2.CX l.prog w) KX G.T.g G.T.b G.T.builtins G.T.nolimit hg hobj hints (by rw [sizeLine_eq]; omega) hroom (fun base X Gb => by rw [← e2]; exact hF l.prog w base mg X Gb) hb (fun H hO hS => ?_) fun H e s' z => cx_none z
  refine ⟨rfl, [], [], (([D.scr ns]).map some ++ List.replicate (k.fn.ns - 1) none), ⟨rfl, fun a b p h => by simp at h, fun a o h => by simp at h⟩, ?_, ?_⟩
  · have r : RDs K [] H [.scr ns] [.ref a] := .cons (.scr ?_) .nil
    · have z := re_start (N := k.N) r
      rw [← hN] at z
      exact z
    · rcases hS with (h | h) | h
      · rcases hO a with z | ⟨o, xs, z⟩
        · rw [h] at z; cases z
        · rw [h] at z; cases z
      · exact .inl h
      · exact .inr h
  · obtain ⟨h, e⟩ := law ns hlen hbits
    unfold callN at e
    rw [hfn] at e
    dsimp only at e
    unfold envOf at e
    rw [if_neg (by rw [hst]; decide), if_pos ⟨by rw [hnp]; rfl, by rw [hnp]; exact hns⟩, hnp] at e
    dsimp only at e
    rw [e]
    intro φ1 H1 b x1 S1 r
    cases r
    rfl
end
end PI

set_option maxRecDepth 100000
set_option maxHeartbeats 1000000
/-! QA: rules of the interpreter; the arithmetic of the program. -/
namespace PI
open PySem
def c_is_between : Fn := ⟨3, 3, false, (.cons (.ret (.and (.call 0 (.cons (.var 0) .nil)) (.cmp2 .le .le (.var 1) (.var 0) (.var 2)))) .nil)⟩
def c_plus : Fn := ⟨2, 2, false, (.cons (.ret (.call 3 (.cons (.bin .add (.bin .mul (.idx (.var 0) (.int 0)) (.idx (.var 1) (.int 1))) (.bin .mul (.idx (.var 1) (.int 0)) (.idx (.var 0) (.int 1)))) (.cons (.bin .mul (.idx (.var 0) (.int 1)) (.idx (.var 1) (.int 1))) .nil)))) .nil)⟩
def c_times : Fn := ⟨2, 2, false, (.cons (.ret (.call 3 (.cons (.bin .mul (.idx (.var 0) (.int 0)) (.idx (.var 1) (.int 0))) (.cons (.bin .mul (.idx (.var 0) (.int 1)) (.idx (.var 1) (.int 1))) .nil)))) .nil)⟩
def c_over : Fn := ⟨2, 2, false, (.cons (.ret (.call 3 (.cons (.bin .mul (.idx (.var 0) (.int 0)) (.idx (.var 1) (.int 1))) (.cons (.bin .mul (.idx (.var 0) (.int 1)) (.idx (.var 1) (.int 0))) .nil)))) .nil)⟩
def c_minus : Fn := ⟨2, 2, false, (.cons (.ret (.call 3 (.cons (.bin .sub (.bin .mul (.idx (.var 0) (.int 0)) (.idx (.var 1) (.int 1))) (.bin .mul (.idx (.var 1) (.int 0)) (.idx (.var 0) (.int 1)))) (.cons (.bin .mul (.idx (.var 0) (.int 1)) (.idx (.var 1) (.int 1))) .nil)))) .nil)⟩
def c_is_integer : Fn := ⟨1, 1, false, (.cons (.ret (.and (.isi (.var 0) .int) (.not (.isi (.var 0) .bool)))) .nil)⟩
def c_ratio : Fn := ⟨2, 3, false, (.cons (.set (.nm 2) (.call 2 (.cons (.var 0) (.cons (.var 1) .nil)))) (.cons (.ret (.tup (.cons (.bin .fdiv (.var 0) (.var 2)) (.cons (.bin .fdiv (.var 1) (.var 2)) .nil)))) .nil))⟩
def c_greatest_divisor : Fn := ⟨2, 2, false, (.cons (.par 0 1 (.abs (.var 0)) (.abs (.var 1))) (.cons (.while_ (.cmp .gt (.var 1) (.int 0)) (.cons (.par 0 1 (.var 1) (.bin .mod (.var 0) (.var 1))) .nil)) (.cons (.ret (.var 0)) .nil)))⟩
theorem call_eq {P : Pg} {d f : Nat} {F : Fn} (h : P.fns f = some F) {vs : List D} {hp : Hh} {σ : Sto} (e : envOf F vs = some σ) : callN P (d + 1) f vs hp = (execs P (callN P d) F.body σ hp).bnd outOf := by
  unfold callN
  rw [h]
  dsimp only
  rw [e]
/-! ### loops -/
theorem while_rule {test : Sto → Hh → R Bool} {body : Sto → Hh → R Fl} (I : Nat → Sto → Hh → Prop)
    (step : ∀ m σ h, I m σ h → test σ h = .ok false h ∨ (test σ h = .ok true h ∧ ∃ σ' h' m', body σ h = .ok (.nx σ') h' ∧ m' < m ∧ I m' σ' h')) :
    ∀ n m σ h, I m σ h → m < n → ∃ m' σ' h', whileGo test body n σ h = .ok (.nx σ') h' ∧ I m' σ' h' ∧ test σ' h' = .ok false h'
  | 0, m, σ, h, _, hn => absurd hn (Nat.not_lt_zero _)
  | n + 1, m, σ, h, hi, hn => by
    rcases step m σ h hi with e | ⟨e, σ', h', m', e2, hm, hi'⟩
    · exact ⟨m, σ, h, by unfold whileGo; rw [e]; rfl, hi, e⟩
    · obtain ⟨m2, σ2, h2, q1, q2, q3⟩ := while_rule I step n m' σ' h' hi' (by omega)
      exact ⟨m2, σ2, h2, by unfold whileGo; rw [e]; simp only [R.bnd_ok]; rw [e2]; simp only [R.bnd_ok]; exact q1, q2, q3⟩
theorem for_rule {fin : Hh → Bool} {get : Hh → Nat → Option D} {t : Tg} {body : Sto → Hh → R Fl} (N : Nat) (I : Nat → Sto → Hh → Prop) (hfin : ∀ σ h, I N σ h → fin h = true)
    (step : ∀ i σ h, i < N → I i σ h → ∃ x σ1, get h i = some x ∧ asT t x σ = some σ1 ∧ ∃ σ2 h2, body σ1 h = .ok (.nx σ2) h2 ∧ I (i + 1) σ2 h2) :
    ∀ n i σ h, n + i = N → I i σ h → ∃ σ' h', forGo fin get t body n i σ h = .ok (.nx σ') h' ∧ I N σ' h'
  | 0, i, σ, h, e, hi => by
    have : i = N := by omega
    subst this
    exact ⟨σ, h, by unfold forGo; rw [if_pos (hfin σ h hi)], hi⟩
  | n + 1, i, σ, h, e, hi => by
    obtain ⟨x, σ1, e1, e2, σ2, h2, e3, hi2⟩ := step i σ h (by omega) hi
    obtain ⟨σ', h', q1, q2⟩ := for_rule N I hfin step n (i + 1) σ2 h2 (by omega) hi2
    refine ⟨σ', h', ?_, q2⟩
    unfold forGo
    simp only [e1, e2, e3, R.bnd_ok]
    exact q1
theorem big_eq : big = 1099511627776 := rfl
section
variable {P : Pg} {C : Nat → List D → Hh → R D} {s : S} {ss : Ss} {σ σ1 : Sto} {h h1 : Hh} {v : D}
theorem ex_nx (e : exec P C s σ h = .ok (.nx σ1) h1) : execs P C (.cons s ss) σ h = execs P C ss σ1 h1 := by
  simp only [execs, e, R.bnd_ok]
theorem ex_rt (e : exec P C s σ h = .ok (.rt v) h1) : execs P C (.cons s ss) σ h = .ok (.rt v) h1 := by
  simp only [execs, e, R.bnd_ok]
theorem ex_exc {c : Nat} (e : exec P C s σ h = .exc c h1) : execs P C (.cons s ss) σ h = .exc c h1 := by
  simp only [execs, e, R.bnd_exc]
theorem ex_nil : execs P C .nil σ h = .ok (.nx σ) h := rfl
theorem ex_set {t : Tg} {x : E} (e : ev P C x σ h = .ok v h1) (e2 : asT t v σ = some σ1) : exec P C (.set t x) σ h = .ok (.nx σ1) h1 := by
  simp only [exec, e, R.bnd_ok, e2, Option.map_some, opt_some]
theorem ex_expr {x : E} (e : ev P C x σ h = .ok v h1) : exec P C (.expr x) σ h = .ok (.nx σ) h1 := by
  simp only [exec, e, R.bnd_ok]
theorem ex_ret {x : E} (e : ev P C x σ h = .ok v h1) : exec P C (.ret x) σ h = .ok (.rt v) h1 := by
  simp only [exec, e, R.bnd_ok]
theorem ex_if {x : E} {a b : Ss} {k : Bool} (e : ev P C x σ h = .ok (.bl k) h1) : exec P C (.if_ x a b) σ h = if k = true then execs P C a σ h1 else execs P C b σ h1 := by
  simp only [exec, e, R.bnd_ok]
  cases k <;> rfl
theorem while_ok {c : E} {b : Ss} (I : Nat → Sto → Hh → Prop)
    (step : ∀ m σ h, I m σ h → ev P C c σ h = .ok (.bl false) h ∨ (ev P C c σ h = .ok (.bl true) h ∧ ∃ σ' h' m', execs P C b σ h = .ok (.nx σ') h' ∧ m' < m ∧ I m' σ' h')) {m : Nat} (hi : I m σ h) (hm : m < big) :
    ∃ m' σ' h', exec P C (.while_ c b) σ h = .ok (.nx σ') h' ∧ I m' σ' h' ∧ ev P C c σ' h' = .ok (.bl false) h' := by
  have key : ∀ σ h, ((ev P C c σ h).bnd fun x h1 => match x with
    | .bl b => R.ok b h1
    | _ => .bad) = .ok false h → ev P C c σ h = .ok (.bl false) h := fun σ h e => by
    cases q : ev P C c σ h with
    | ok d h1 =>
      rw [q] at e
      cases d with
      | bl b =>
        have e : R.ok b h1 = R.ok false h := e
        cases e
        rfl
      | _ => cases e
    | exc _ _ => rw [q] at e; cases e
    | bad => rw [q] at e; cases e
  obtain ⟨m', σ', h', e1, e2, e3⟩ := while_rule (test := fun σ h => (ev P C c σ h).bnd fun x h1 => match x with
    | .bl b => .ok b h1
    | _ => .bad) (body := fun σ h => execs P C b σ h) I (fun m σ h hi => by
      rcases step m σ h hi with e | ⟨e, z⟩
      · left; rw [e]; rfl
      · right; exact ⟨by rw [e]; rfl, z⟩) big m σ h hi hm
  exact ⟨m', σ', h', by simp only [exec]; exact e1, e2, key _ _ e3⟩
theorem for_ok {t : Tg} {it : It} {b : Ss} {iv : Iv} (ei : evIt P C it σ h = .ok iv h1) (I : Nat → Sto → Hh → Prop) (hfin : ∀ σ h, I iv.n σ h → iv.fin h = true)
    (step : ∀ i σ h, i < iv.n → I i σ h → ∃ x σ1, iv.get h i = some x ∧ asT t x σ = some σ1 ∧ ∃ σ2 h2, execs P C b σ1 h = .ok (.nx σ2) h2 ∧ I (i + 1) σ2 h2) (hi : I 0 σ h1) :
    ∃ σ' h', exec P C (.for_ t it b) σ h = .ok (.nx σ') h' ∧ I iv.n σ' h' := by
  obtain ⟨σ', h', e1, e2⟩ := for_rule (fin := iv.fin) (get := iv.get) (t := t) (body := fun σ h => execs P C b σ h) iv.n I hfin step iv.n 0 σ h1 (by omega) hi
  exact ⟨σ', h', by simp only [exec, ei, R.bnd_ok]; exact e1, e2⟩
end
/-! ### arithmetic -/
/-- a fraction as the program holds it -/
def fr (q : Rat) : D := .tup [.int q.num, .int q.den]
structure HasA (P : Pg) : Prop where
  f0 : P.fns 0 = some c_is_integer
  f1 : P.fns 1 = some c_is_between
  f2 : P.fns 2 = some c_greatest_divisor
  f3 : P.fns 3 = some c_ratio
  f4 : P.fns 4 = some c_plus
  f5 : P.fns 5 = some c_minus
  f6 : P.fns 6 = some c_times
  f7 : P.fns 7 = some c_over
section
variable {P : Pg} {d : Nat} {h : Hh}
theorem is_integer_int (e : P.fns 0 = some c_is_integer) (i : Int) : callN P (d + 1) 0 [.int i] h = .ok (.bl true) h := by
  rw [call_eq e (σ := [some (.int i)]) rfl]
  rfl
theorem is_between_int (a : HasA P) (i lo hi : Int) : callN P (d + 2) 1 [.int i, .int lo, .int hi] h = .ok (.bl (decide (lo ≤ i) && decide (i ≤ hi))) h := by
  rw [call_eq a.f1 (σ := [some (.int i), some (.int lo), some (.int hi)]) rfl]
  have h0 := fun i => is_integer_int (h := h) (d := d) a.f0 i
  simp only [c_is_between, execs, exec, ev, evs, R.bnd_ok, List.getElem?_cons_zero, List.getElem?_cons_succ, h0, cmpop]
  by_cases h1 : lo ≤ i <;> by_cases h2 : i ≤ hi <;> simp [h1, h2, outOf]
theorem log2_half {a b : Nat} (hb : 0 < b) (h : 2 * b ≤ a) : b.log2 + 1 ≤ a.log2 := by
  have h1 : 2 ^ b.log2 ≤ b := Nat.log2_self_le (by omega)
  have h2 : 2 ^ (b.log2 + 1) ≤ a := by rw [Nat.pow_succ]; omega
  exact (Nat.le_log2 (by omega)).mpr h2
theorem gcd_ok (a : HasA P) (x y : Int) (hx : (x.natAbs * y.natAbs).log2 < 1000000000) : callN P (d + 1) 2 [.int x, .int y] h = .ok (.int (Nat.gcd x.natAbs y.natAbs : Nat)) h := by
  rw [call_eq a.f2 (σ := [some (.int x), some (.int y)]) rfl]
  have habs : ∀ z : Int, (if z < 0 then -z else z) = (z.natAbs : Nat) := fun z => by split <;> omega
  have e0 : exec P (callN P d) (.par 0 1 (.abs (.var 0)) (.abs (.var 1))) [some (.int x), some (.int y)] h = .ok (.nx [some (.int (x.natAbs : Nat)), some (.int (y.natAbs : Nat))]) h := by
    simp only [exec, ev, R.bnd_ok, List.getElem?_cons_zero, List.getElem?_cons_succ, List.set_cons_zero, List.set_cons_succ, habs]
  unfold c_greatest_divisor
  rw [ex_nx e0]
  generalize x.natAbs = u at *
  generalize y.natAbs = v at *
  let μ : Nat → Nat → Nat := fun p q => if q = 0 then 0 else (p * q).log2 + (if p < q then 2 else 1)
  have hm : μ u v < big := by
    rw [big_eq]
    simp only [μ]
    split
    · decide
    · split <;> omega
  obtain ⟨m', σ', h', e1, ⟨eh, p, q, es, eg, em⟩, e3⟩ := while_ok (P := P) (C := callN P d) (c := .cmp .gt (.var 1) (.int 0)) (b := .cons (.par 0 1 (.var 1) (.bin .mod (.var 0) (.var 1))) .nil)
    (fun m σ h' => h' = h ∧ ∃ p q : Nat, σ = [some (.int p), some (.int q)] ∧ Nat.gcd p q = Nat.gcd u v ∧ m = μ p q) (fun m σ h' hi => by
    obtain ⟨rfl, p, q, rfl, eg, rfl⟩ := hi
    have ec : ev P (callN P d) (.cmp .gt (.var 1) (.int 0)) [some (.int p), some (.int q)] h' = .ok (.bl (decide ((0 : Int) < q))) h' := rfl
    rw [ec]
    by_cases hq : q = 0
    · left; subst hq; rfl
    · right
      have h2 : (0 : Int) < (q : Int) := by omega
      refine ⟨by rw [decide_eq_true h2], [some (.int q), some (.int (p % q : Nat))], h', μ q (p % q), ?_, ?_, rfl, q, p % q, rfl, ?_, rfl⟩
      · refine (ex_nx (σ1 := [some (.int q), some (.int (p % q : Nat))]) (h1 := h') ?_).trans ex_nil
        simp only [exec, ev, R.bnd_ok, List.getElem?_cons_zero, List.getElem?_cons_succ, List.set_cons_zero, List.set_cons_succ, binop, h2, if_true]
        rfl
      · show μ q (p % q) < μ p q
        simp only [μ, if_neg hq]
        by_cases hr : p % q = 0
        · rw [if_pos hr]; split <;> omega
        · rw [if_neg hr]
          have hlt : p % q < q := Nat.mod_lt _ (by omega)
          rw [if_neg (by omega)]
          by_cases hpq : p < q
          · rw [if_pos hpq, Nat.mod_eq_of_lt hpq, Nat.mul_comm]; omega
          · rw [if_neg hpq]
            have h3 : 2 * (p % q) ≤ p := by
              have := Nat.mod_add_div p q
              have h4 : 1 ≤ p / q := (Nat.one_le_div_iff (by omega)).mpr (by omega)
              have h5 : q * 1 ≤ q * (p / q) := Nat.mul_le_mul_left _ h4
              omega
            have h6 := log2_half (a := p * q) (b := q * (p % q)) (Nat.mul_pos (by omega) (by omega)) (by
              calc 2 * (q * (p % q)) = q * (2 * (p % q)) := by rw [Nat.mul_left_comm]
                _ ≤ q * p := Nat.mul_le_mul_left _ h3
                _ = p * q := Nat.mul_comm _ _)
            omega
      · rw [Nat.gcd_comm, ← Nat.gcd_rec, Nat.gcd_comm]; exact eg) (m := μ u v) (σ := [some (.int u), some (.int v)]) (h := h) ⟨rfl, u, v, rfl, rfl, rfl⟩ hm
  rw [ex_nx e1]
  subst eh es
  simp only [ev, R.bnd_ok, List.getElem?_cons_zero, List.getElem?_cons_succ, cmpop, Option.map_some, opt_some] at e3
  have hq : q = 0 := by
    have := congrArg (fun r => match r with | R.ok (.bl b) _ => b | _ => true) e3
    simp at this
    omega
  subst hq
  rw [ex_rt (v := .int p) (h1 := h') (ex_ret rfl), ← eg, Nat.gcd_zero_right]
  rfl
theorem mk_num {n : Int} {b : Nat} (hb : b ≠ 0) : (mkRat n b).num = n / (Nat.gcd n.natAbs b : Nat) ∧ (mkRat n b).den = b / Nat.gcd n.natAbs b := by
  unfold mkRat
  rw [dif_neg hb, Rat.normalize_eq]
  exact ⟨rfl, rfl⟩
theorem log2_le {a b : Nat} (ha : a ≠ 0) (h : a ≤ b) : a.log2 ≤ b.log2 := (Nat.le_log2 (by omega)).mpr (Nat.le_trans (Nat.log2_self_le ha) h)
theorem ratio_ok (a : HasA P) (n : Int) (b : Nat) (hb : b ≠ 0) (h1 : b.log2 < 9000) (h2 : (n.natAbs * b).log2 < 1000000000) : callN P (d + 2) 3 [.int n, .int b] h = .ok (fr (mkRat n b)) h := by
  rw [call_eq a.f3 (σ := [some (.int n), some (.int b), none]) rfl]
  have hg := gcd_ok (d := d) (h := h) a n b (by simpa using h2)
  have e0 : exec P (callN P (d + 1)) (.set (.nm 2) (.call 2 (.cons (.var 0) (.cons (.var 1) .nil)))) [some (.int n), some (.int b), none] h = .ok (.nx [some (.int n), some (.int b), some (.int (Nat.gcd n.natAbs b : Nat))]) h := by
    refine ex_set (v := .int (Nat.gcd n.natAbs b : Nat)) ?_ rfl
    simp only [ev, evs, R.bnd_ok, List.getElem?_cons_zero, List.getElem?_cons_succ]
    exact hg
  unfold c_ratio
  rw [ex_nx e0]
  have g0 : 0 < Nat.gcd n.natAbs b := Nat.gcd_pos_of_pos_right _ (by omega)
  have gl : (Nat.gcd n.natAbs b).log2 < 9000 := Nat.lt_of_le_of_lt (log2_le (by omega) (Nat.gcd_le_right _ (by omega))) h1
  obtain ⟨q1, q2⟩ := mk_num (n := n) hb
  have e1 : ev P (callN P (d + 1)) (.tup (.cons (.bin .fdiv (.var 0) (.var 2)) (.cons (.bin .fdiv (.var 1) (.var 2)) .nil))) [some (.int n), some (.int b), some (.int (Nat.gcd n.natAbs b : Nat))] h = .ok (fr (mkRat n b)) h := by
    have c1 : (0 : Int) < (Nat.gcd n.natAbs b : Nat) ∧ ((Nat.gcd n.natAbs b : Nat) : Int).natAbs.log2 < 9000 := ⟨by omega, by simpa using gl⟩
    simp only [ev, evs, R.bnd_ok, List.getElem?_cons_zero, List.getElem?_cons_succ, binop, if_pos c1]
    rw [fr, q1, q2]
    rfl
  rw [ex_rt (ex_ret e1)]
  rfl
/-- a small enough fraction -/
def okF (q : Rat) : Prop := q.den.log2 < 4400 ∧ q.num.natAbs.log2 < 100000
theorem log2_mul_le (a b : Nat) : (a * b).log2 ≤ a.log2 + b.log2 + 1 := by
  by_cases h : a * b = 0
  · rw [h]; simp
  · have ha : a ≠ 0 := fun z => h (by rw [z, Nat.zero_mul])
    have hb : b ≠ 0 := fun z => h (by rw [z, Nat.mul_zero])
    refine Nat.le_of_lt_succ ((Nat.log2_lt h).mpr ?_)
    have h1 : a < 2 ^ (a.log2 + 1) := Nat.lt_log2_self
    have h2 : b < 2 ^ (b.log2 + 1) := Nat.lt_log2_self
    calc a * b < 2 ^ (a.log2 + 1) * 2 ^ (b.log2 + 1) := Nat.mul_lt_mul'' h1 h2
      _ = 2 ^ (a.log2 + b.log2 + 1 + 1) := by rw [← Nat.pow_add]; congr 1; omega
theorem log2_add_le (a b : Nat) : (a + b).log2 ≤ max a.log2 b.log2 + 1 := by
  by_cases h : a + b = 0
  · rw [h]; simp
  · refine Nat.le_of_lt_succ ((Nat.log2_lt h).mpr ?_)
    have h1 : a < 2 ^ (max a.log2 b.log2 + 1) := Nat.lt_of_lt_of_le Nat.lt_log2_self (Nat.pow_le_pow_right (by decide) (by omega))
    have h2 : b < 2 ^ (max a.log2 b.log2 + 1) := Nat.lt_of_lt_of_le Nat.lt_log2_self (Nat.pow_le_pow_right (by decide) (by omega))
    rw [Nat.pow_succ (n := 2) (m := max a.log2 b.log2 + 1)]
    omega
end
end PI

set_option maxRecDepth 100000
set_option maxHeartbeats 1000000
/-! QB: plus, minus, times, over. -/
namespace PI
open PySem
section
variable {P : Pg} {d : Nat} {h : Hh}
theorem okMul_of {i j : Int} (hi : i.natAbs.log2 < 300000) (hj : j.natAbs.log2 < 300000) : okMul i j = true := by
  unfold okMul
  simp only [Bool.or_eq_true, decide_eq_true_eq]
  right
  omega
theorem at0 {x y : D} : L2.atI [x, y] 0 = some x := rfl
theorem at1 {x y : D} : L2.atI [x, y] 1 = some y := rfl
theorem fr_ix (q : Rat) (h : Hh) : idxop (fr q) (.int 0) h = some (.int q.num) ∧ idxop (fr q) (.int 1) h = some (.int q.den) := ⟨rfl, rfl⟩
theorem bits_mul (a b : Int) : (a * b).natAbs.log2 ≤ a.natAbs.log2 + b.natAbs.log2 + 1 := by
  rw [Int.natAbs_mul]; exact log2_mul_le _ _
theorem log2_mono {a b : Nat} (h : a ≤ b) : a.log2 ≤ b.log2 := by
  by_cases ha : a = 0
  · subst ha; simp
  · exact log2_le ha h
theorem bits_add (a b : Int) : (a + b).natAbs.log2 ≤ max a.natAbs.log2 b.natAbs.log2 + 1 :=
  Nat.le_trans (log2_mono (Int.natAbs_add_le a b)) (log2_add_le _ _)
theorem bits_sub (a b : Int) : (a - b).natAbs.log2 ≤ max a.natAbs.log2 b.natAbs.log2 + 1 :=
  Nat.le_trans (log2_mono (Int.natAbs_sub_le a b)) (log2_add_le _ _)
theorem den_ne (q : Rat) : q.den ≠ 0 := q.den_nz
theorem plus_ok (a : HasA P) (x y : Rat) (hx : okF x) (hy : okF y) : callN P (d + 3) 4 [fr x, fr y] h = .ok (fr (x + y)) h := by
  rw [call_eq a.f4 (σ := [some (fr x), some (fr y)]) rfl]
  obtain ⟨x1, x2⟩ := hx
  obtain ⟨y1, y2⟩ := hy
  have b1 := bits_mul x.num y.den
  have b2 := bits_mul y.num x.den
  have b3 := bits_add (x.num * y.den) (y.num * x.den)
  have b4 := log2_mul_le x.den y.den
  have m1 := okMul_of (i := x.num) (j := y.den) (by omega) (by simpa using by omega)
  have m2 := okMul_of (i := y.num) (j := x.den) (by omega) (by simpa using by omega)
  have m3 := okMul_of (i := x.den) (j := y.den) (by simpa using by omega) (by simpa using by omega)
  simp only [Int.natAbs_natCast] at b1 b2
  have r := ratio_ok (d := d) (h := h) a (x.num * y.den + y.num * x.den) (x.den * y.den) (Nat.mul_ne_zero (den_ne x) (den_ne y)) (by omega) (by
    have := log2_mul_le (x.num * y.den + y.num * x.den).natAbs (x.den * y.den)
    omega)
  rw [← Rat.add_def'] at r
  have e : ev P (callN P (d + 2)) (.call 3 (.cons (.bin .add (.bin .mul (.idx (.var 0) (.int 0)) (.idx (.var 1) (.int 1))) (.bin .mul (.idx (.var 1) (.int 0)) (.idx (.var 0) (.int 1)))) (.cons (.bin .mul (.idx (.var 0) (.int 1)) (.idx (.var 1) (.int 1))) .nil))) [some (fr x), some (fr y)] h = .ok (fr (x + y)) h := by
    simp only [ev, evs, R.bnd_ok, List.getElem?_cons_zero, List.getElem?_cons_succ, fr_ix, opt_some, binop, m1, m2, m3, if_true]
    rw [← Int.natCast_mul]
    exact r
  unfold c_plus
  rw [ex_rt (ex_ret e)]
  rfl
theorem minus_ok (a : HasA P) (x y : Rat) (hx : okF x) (hy : okF y) : callN P (d + 3) 5 [fr x, fr y] h = .ok (fr (x - y)) h := by
  rw [call_eq a.f5 (σ := [some (fr x), some (fr y)]) rfl]
  obtain ⟨x1, x2⟩ := hx
  obtain ⟨y1, y2⟩ := hy
  have b1 := bits_mul x.num y.den
  have b2 := bits_mul y.num x.den
  have b3 := bits_sub (x.num * y.den) (y.num * x.den)
  have b4 := log2_mul_le x.den y.den
  have m1 := okMul_of (i := x.num) (j := y.den) (by omega) (by simpa using by omega)
  have m2 := okMul_of (i := y.num) (j := x.den) (by omega) (by simpa using by omega)
  have m3 := okMul_of (i := x.den) (j := y.den) (by simpa using by omega) (by simpa using by omega)
  simp only [Int.natAbs_natCast] at b1 b2
  have r := ratio_ok (d := d) (h := h) a (x.num * y.den - y.num * x.den) (x.den * y.den) (Nat.mul_ne_zero (den_ne x) (den_ne y)) (by omega) (by
    have := log2_mul_le (x.num * y.den - y.num * x.den).natAbs (x.den * y.den)
    omega)
  rw [← Rat.sub_def'] at r
  have e : ev P (callN P (d + 2)) (.call 3 (.cons (.bin .sub (.bin .mul (.idx (.var 0) (.int 0)) (.idx (.var 1) (.int 1))) (.bin .mul (.idx (.var 1) (.int 0)) (.idx (.var 0) (.int 1)))) (.cons (.bin .mul (.idx (.var 0) (.int 1)) (.idx (.var 1) (.int 1))) .nil))) [some (fr x), some (fr y)] h = .ok (fr (x - y)) h := by
    simp only [ev, evs, R.bnd_ok, List.getElem?_cons_zero, List.getElem?_cons_succ, fr_ix, opt_some, binop, m1, m2, m3, if_true]
    rw [← Int.natCast_mul]
    exact r
  unfold c_minus
  rw [ex_rt (ex_ret e)]
  rfl
theorem times_ok (a : HasA P) (x y : Rat) (hx : okF x) (hy : okF y) : callN P (d + 3) 6 [fr x, fr y] h = .ok (fr (x * y)) h := by
  rw [call_eq a.f6 (σ := [some (fr x), some (fr y)]) rfl]
  obtain ⟨x1, x2⟩ := hx
  obtain ⟨y1, y2⟩ := hy
  have b1 := bits_mul x.num y.num
  have b4 := log2_mul_le x.den y.den
  have m1 := okMul_of (i := x.num) (j := y.num) (by omega) (by omega)
  have m3 := okMul_of (i := x.den) (j := y.den) (by simpa using by omega) (by simpa using by omega)
  have r := ratio_ok (d := d) (h := h) a (x.num * y.num) (x.den * y.den) (Nat.mul_ne_zero (den_ne x) (den_ne y)) (by omega) (by
    have := log2_mul_le (x.num * y.num).natAbs (x.den * y.den)
    omega)
  rw [← Rat.mul_def'] at r
  have e : ev P (callN P (d + 2)) (.call 3 (.cons (.bin .mul (.idx (.var 0) (.int 0)) (.idx (.var 1) (.int 0))) (.cons (.bin .mul (.idx (.var 0) (.int 1)) (.idx (.var 1) (.int 1))) .nil))) [some (fr x), some (fr y)] h = .ok (fr (x * y)) h := by
    simp only [ev, evs, R.bnd_ok, List.getElem?_cons_zero, List.getElem?_cons_succ, fr_ix, opt_some, binop, m1, m3, if_true]
    rw [← Int.natCast_mul]
    exact r
  unfold c_times
  rw [ex_rt (ex_ret e)]
  rfl
theorem div_mk (x y : Rat) (hy : 0 < y.num) : x / y = mkRat (x.num * y.den) (x.den * y.num.toNat) := by
  have hx : (x.num : Rat) / (x.den : Rat) = x := by rw [show ((x.den : Rat)) = ((x.den : Int) : Rat) from rfl, ← Rat.divInt_eq_div]; exact Rat.num_divInt_den x
  have hyy : (y.num : Rat) / (y.den : Rat) = y := by rw [show ((y.den : Rat)) = ((y.den : Int) : Rat) from rfl, ← Rat.divInt_eq_div]; exact Rat.num_divInt_den y
  have e : ((x.den * y.num.toNat : Nat) : Rat) = (x.den : Rat) * (y.num : Rat) := by
    rw [Rat.natCast_mul]
    congr 1
    have : (y.num.toNat : Int) = y.num := Int.toNat_of_nonneg (by omega)
    rw [← this]; rfl
  rw [Rat.mkRat_eq_div, e, Rat.intCast_mul]
  have d1 : (x.den : Rat) ≠ 0 := by
    intro z; exact x.den_nz (Rat.natCast_eq_zero_iff.mp z)
  have d2 : (y.den : Rat) ≠ 0 := by
    intro z; exact y.den_nz (Rat.natCast_eq_zero_iff.mp z)
  have d3 : (y.num : Rat) ≠ 0 := by
    intro z
    have := Rat.intCast_eq_zero_iff.mp z
    omega
  rw [← hx, ← hyy]
  have c : ((y.den : Int) : Rat) = (y.den : Rat) := rfl
  rw [hx, hyy]
  rw [c]
  generalize (x.num : Rat) = a at *
  generalize (x.den : Rat) = b at *
  generalize (y.num : Rat) = c' at *
  generalize (y.den : Rat) = d' at *
  subst hx hyy
  grind
theorem over_ok (a : HasA P) (x y : Rat) (hx : okF x) (hy : okF y) (h0 : 0 < y.num) (hn : y.num.natAbs.log2 < 4400) : callN P (d + 3) 7 [fr x, fr y] h = .ok (fr (x / y)) h := by
  rw [call_eq a.f7 (σ := [some (fr x), some (fr y)]) rfl]
  obtain ⟨x1, x2⟩ := hx
  obtain ⟨y1, y2⟩ := hy
  have ey : y.num = (y.num.toNat : Nat) := by omega
  have ey2 : y.num.natAbs = y.num.toNat := by omega
  have b1 := bits_mul x.num y.den
  simp only [Int.natAbs_natCast] at b1
  have b4 := log2_mul_le x.den y.num.toNat
  have m1 := okMul_of (i := x.num) (j := y.den) (by omega) (by simpa using by omega)
  have m3 := okMul_of (i := x.den) (j := y.num) (by simpa using by omega) (by omega)
  rw [ey2] at hn
  have r := ratio_ok (d := d) (h := h) a (x.num * y.den) (x.den * y.num.toNat) (Nat.mul_ne_zero (den_ne x) (by omega)) (by omega) (by
    have := log2_mul_le (x.num * y.den).natAbs (x.den * y.num.toNat)
    omega)
  rw [← div_mk x y h0] at r
  have e : ev P (callN P (d + 2)) (.call 3 (.cons (.bin .mul (.idx (.var 0) (.int 0)) (.idx (.var 1) (.int 1))) (.cons (.bin .mul (.idx (.var 0) (.int 1)) (.idx (.var 1) (.int 0))) .nil))) [some (fr x), some (fr y)] h = .ok (fr (x / y)) h := by
    simp only [ev, evs, R.bnd_ok, List.getElem?_cons_zero, List.getElem?_cons_succ, fr_ix, opt_some, binop, m1, m3, if_true]
    rw [Int.natCast_mul, ← ey] at r
    exact r
  unfold c_over
  rw [ex_rt (ex_ret e)]
  rfl
end
end PI

set_option maxRecDepth 100000
set_option maxHeartbeats 1000000
/-! QC: comprehensions, lists of ints, checks. -/
namespace PI
open PySem
/-! ### comprehensions that leave the heap alone -/
theorem lc_pure {fin : Hh → Bool} {get : Hh → Nat → Option D} {bind : D → Option Sto} {test : Sto → Hh → R Bool} {elt : Sto → Hh → R D} {h : Hh} (N : Nat) (v : Nat → D) (hf : fin h = true)
    (step : ∀ i, i < N → ∃ x σ, get h i = some x ∧ bind x = some σ ∧ test σ h = .ok true h ∧ elt σ h = .ok (v i) h) : ∀ n i, n + i = N → lcGo fin get bind test elt n i h = .ok ((List.range' i n).map v) h
  | 0, i, e => by unfold lcGo; rw [if_pos hf]; rfl
  | n + 1, i, e => by
    obtain ⟨x, σ, e1, e2, e3, e4⟩ := step i (by omega)
    have ih := lc_pure N v hf step n (i + 1) (by omega)
    unfold lcGo
    simp only [e1, e2, e3, e4, R.bnd_ok, ih, List.range'_succ, List.map_cons]
theorem lc_filter {fin : Hh → Bool} {get : Hh → Nat → Option D} {bind : D → Option Sto} {test : Sto → Hh → R Bool} {elt : Sto → Hh → R D} {h : Hh} (N : Nat) (b : Nat → Bool) (v : Nat → D) (hf : fin h = true)
    (step : ∀ i, i < N → ∃ x σ, get h i = some x ∧ bind x = some σ ∧ test σ h = .ok (b i) h ∧ (b i = true → elt σ h = .ok (v i) h)) : ∀ n i, n + i = N → lcGo fin get bind test elt n i h = .ok (((List.range' i n).filter b).map v) h
  | 0, i, e => by unfold lcGo; rw [if_pos hf]; rfl
  | n + 1, i, e => by
    obtain ⟨x, σ, e1, e2, e3, e4⟩ := step i (by omega)
    have ih := lc_filter N b v hf step n (i + 1) (by omega)
    unfold lcGo
    rw [List.range'_succ, List.filter_cons]
    cases hb : b i with
    | true => rw [hb] at e3; simp only [e1, e2, e3, e4 hb, R.bnd_ok, ih, if_true, List.map_cons]
    | false => rw [hb] at e3; simp only [e1, e2, e3, R.bnd_ok, ih, Bool.false_eq_true, if_false]
theorem dc_pure {fin : Hh → Bool} {get : Hh → Nat → Option D} {bind : D → Option Sto} {key val : Sto → Hh → R D} {h : Hh} (N : Nat) (k : Nat → Int) (v : Nat → D) (hf : fin h = true)
    (step : ∀ i, i < N → ∃ x σ, get h i = some x ∧ bind x = some σ ∧ key σ h = .ok (.int (k i)) h ∧ val σ h = .ok (v i) h) : ∀ n i acc, n + i = N → dcGo fin get bind key val n i acc h = .ok ((List.range' i n).foldl (fun a j => dput a (k j) (v j)) acc) h
  | 0, i, acc, e => by unfold dcGo; rw [if_pos hf]; rfl
  | n + 1, i, acc, e => by
    obtain ⟨x, σ, e1, e2, e3, e4⟩ := step i (by omega)
    have ih := dc_pure N k v hf step n (i + 1) (dput acc (k i) (v i)) (by omega)
    unfold dcGo
    simp only [e1, e2, e3, e4, R.bnd_ok, ih, List.range'_succ, List.foldl_cons]
/-! ### ints as data -/
theorem toPs_ints (h : Hh) (n : Nat) : ∀ l : List Int, toPs h (n + 2) (l.map D.int) = some (l.map PyData.int)
  | [] => by simp [toPs]
  | i :: l => by
    have ih := toPs_ints h n l
    simp only [List.map_cons, toPs, toP]
    rw [ih]
theorem canLay_ints : ∀ l : List Int, PyData.canLayAll0 (l.map PyData.int) = true
  | [] => by simp [PyData.canLayAll0]
  | i :: l => by simp [PyData.canLayAll0, PyData.canLay0, canLay_ints l]
theorem depth_ints : ∀ l : List Int, PyData.depthAll (l.map PyData.int) ≤ 0 + 1
  | [] => by simp [PyData.depthAll]
  | i :: l => by
    have := depth_ints l
    rw [List.map_cons, PyData.depthAll, PyData.depth]
    omega
theorem shaped_ints (l : List Int) : SeqAt.shaped (.list (l.map PyData.int)) = true := by
  have h1 : (PyData.list (l.map PyData.int)).canLay0 = true := by rw [PyData.canLay0]; exact canLay_ints l
  have h2 := depth_ints l
  have h3 : (PyData.list (l.map PyData.int)).depth = PyData.depthAll (l.map PyData.int) + 1 := by rw [PyData.depth]
  unfold SeqAt.shaped
  rw [h1, h3, Bool.true_and]
  exact decide_eq_true (by omega)
theorem data_int (h : Hh) (i : Int) : data h (.int i) = some (.int i) := by
  have : toP h 40 (.int i) = some (.int i) := by simp [toP]
  unfold data
  rw [this]
  have : SeqAt.shaped (.int i) = true := by simp [SeqAt.shaped, PyData.canLay0, PyData.depth]
  dsimp only
  rw [if_pos this]
theorem data_ints {h : Hh} {a : Nat} {l : List Int} (e : h[a]? = some (.lst (l.map D.int))) : data h (.ref a) = some (.list (l.map PyData.int)) := by
  unfold data
  have : toP h 40 (.ref a) = some (.list (l.map PyData.int)) := by
    simp only [toP, e]
    rw [toPs_ints h 37 l]; rfl
  rw [this]
  dsimp only
  rw [if_pos (shaped_ints l)]
theorem eqv_int (i j : Int) : PyData.eqv (.int i) (.int j) = decide (i = j) := by
  simp only [PyData.eqv]
  rw [Bool.eq_iff_iff]
  simp
theorem in_ints {h : Hh} {a : Nat} {l : List Int} (e : h[a]? = some (.lst (l.map D.int))) (i : Int) : cmpop .in_ (.int i) (.ref a) h = some (decide (i ∈ l)) := by
  have hd : dctOf h a = none := by unfold dctOf; rw [e]
  show inop (.int i) (.ref a) h = _
  unfold inop
  simp only [hd, data_int, data_ints e]
  congr 1
  rw [List.any_map]
  rw [Bool.eq_iff_iff]
  simp only [List.any_eq_true, Function.comp, eqv_int, decide_eq_true_eq]
  constructor
  · rintro ⟨x, hx, rfl⟩; exact hx
  · intro hi; exact ⟨i, hi, rfl⟩
theorem nin_ints {h : Hh} {a : Nat} {l : List Int} (e : h[a]? = some (.lst (l.map D.int))) (i : Int) : cmpop .nin (.int i) (.ref a) h = some (!decide (i ∈ l)) := by
  show (inop (.int i) (.ref a) h).map (!·) = _
  rw [show inop (.int i) (.ref a) h = some (decide (i ∈ l)) from in_ints e i]; rfl
/-! ### evaluation, part by part -/
section
variable {P : Pg} {C : Nat → List D → Hh → R D} {σ : Sto} {h h1 h2 h3 : Hh} {a b c : E} {x y z v : D} {es : Es} {vs : List D}
theorem ev_cmp {o : COp} {k : Bool} (ea : ev P C a σ h = .ok x h1) (eb : ev P C b σ h1 = .ok y h2) (ec : cmpop o x y h2 = some k) : ev P C (.cmp o a b) σ h = .ok (.bl k) h2 := by
  rw [ev, ea, R.bnd_ok, eb, R.bnd_ok, ec]; rfl
theorem ev_bin {o : BOp} (ea : ev P C a σ h = .ok x h1) (eb : ev P C b σ h1 = .ok y h2) (ec : binop o x y h2 = .ok z h3) : ev P C (.bin o a b) σ h = .ok z h3 := by
  rw [ev, ea, R.bnd_ok, eb, R.bnd_ok, ec]
theorem ev_idx (ea : ev P C a σ h = .ok x h1) (eb : ev P C b σ h1 = .ok y h2) (ec : idxop x y h2 = some z) : ev P C (.idx a b) σ h = .ok z h2 := by
  rw [ev, ea, R.bnd_ok, eb, R.bnd_ok, ec]; rfl
theorem ev_andT (ea : ev P C a σ h = .ok (.bl true) h1) : ev P C (.and a b) σ h = ev P C b σ h1 := by
  rw [ev, ea, R.bnd_ok]
theorem ev_andF (ea : ev P C a σ h = .ok (.bl false) h1) : ev P C (.and a b) σ h = .ok (.bl false) h1 := by
  rw [ev, ea, R.bnd_ok]
theorem ev_orT (ea : ev P C a σ h = .ok (.bl true) h1) : ev P C (.or a b) σ h = .ok (.bl true) h1 := by
  rw [ev, ea, R.bnd_ok]
theorem ev_orF (ea : ev P C a σ h = .ok (.bl false) h1) : ev P C (.or a b) σ h = ev P C b σ h1 := by
  rw [ev, ea, R.bnd_ok]
theorem ev_not {k : Bool} (ea : ev P C a σ h = .ok (.bl k) h1) : ev P C (.not a) σ h = .ok (.bl (!k)) h1 := by
  rw [ev, ea, R.bnd_ok]
theorem ev_call {f : Nat} (ea : evs P C es σ h = .ok vs h1) : ev P C (.call f es) σ h = C f vs h1 := by
  rw [ev, ea, R.bnd_ok]
theorem evs_nil : evs P C .nil σ h = .ok [] h := by rw [evs]
theorem evs_cons (ea : ev P C a σ h = .ok x h1) (er : evs P C es σ h1 = .ok vs h2) : evs P C (.cons a es) σ h = .ok (x :: vs) h2 := by
  rw [evs, ea, R.bnd_ok, er, R.bnd_ok]
theorem ev_var {i : Nat} (e : σ[i]? = some (some v)) : ev P C (.var i) σ h = .ok v h := by
  rw [ev, e]
theorem ev_tup (e : evs P C es σ h = .ok vs h1) (hl : vs.length ≤ LIM) : ev P C (.tup es) σ h = .ok (.tup vs) h1 := by
  rw [ev, e, R.bnd_ok, if_pos hl]
theorem ev_lenV {l : L} {d : D} {xs : List D} (e : evL P C l σ h = .ok (.val d) h1) (hi : items? h1 d = some xs) : ev P C (.len l) σ h = .ok (.int xs.length) h1 := by
  have hs : ∀ s, d ≠ .str s := fun s z => by subst z; cases hi
  rw [ev, e, R.bnd_ok]
  cases d <;> first | exact absurd rfl (hs _) | (simp only [LV.items, hi])
theorem evL_of (e : ev P C a σ h = .ok x h1) : evL P C (.of a) σ h = .ok (.val x) h1 := by
  rw [evL, e, R.bnd_ok]
theorem ev_len {xs : List D} (e : ev P C a σ h = .ok x h1) (hi : items? h1 x = some xs) : ev P C (.len (.of a)) σ h = .ok (.int xs.length) h1 := ev_lenV (evL_of e) hi
theorem cmp_int {o : COp} {i j : Int} : cmpop .eq (.int i) (.int j) h = some (decide (i = j)) ∧ cmpop .ne (.int i) (.int j) h = some (!decide (i = j)) := by
  constructor
  · show (match data h (.int i), data h (.int j) with
      | some d, some e => some (PyData.eqv d e)
      | _, _ => none) = _
    rw [data_int, data_int]
    dsimp only
    rw [eqv_int]
  · show (match data h (.int i), data h (.int j) with
      | some d, some e => some (!PyData.eqv d e)
      | _, _ => none) = _
    rw [data_int, data_int]
    dsimp only
    rw [eqv_int]
theorem eq_int {i j : Int} : cmpop .eq (.int i) (.int j) h = some (decide (i = j)) := (cmp_int (o := .eq)).1
theorem ne_int {i j : Int} : cmpop .ne (.int i) (.int j) h = some (!decide (i = j)) := (cmp_int (o := .eq)).2
end
end PI

set_option maxRecDepth 100000
set_option maxHeartbeats 1000000
/-! QD: rows, tables, checks. -/
namespace PI
open PySem
def c_is_table_by : Fn := ⟨3, 4, false, (.cons (.if_ (.or (.not (.isi (.var 2) .tuple)) (.not (.cmp2 .le .le (.int 1) (.len (.of (.var 2))) (.glo 6)))) (.cons (.ret (.bl false)) .nil) .nil) (.cons (.if_ (.not (.all (.comp (.call 25 (.cons (.var 0) (.cons (.var 1) (.cons (.len (.of (.var 2))) (.cons (.var 3) .nil))))) (.nm 3) (.seq (.of (.var 2))) .none [3]))) (.cons (.ret (.bl false)) .nil) .nil) (.cons (.ret (.and (.cmp .eq (.len (.of (.call 26 (.cons (.var 2) (.cons (.int 0) .nil))))) (.len (.of (.var 2)))) (.cmp .eq (.len (.of (.call 27 (.cons (.var 2) .nil)))) (.len (.of (.var 2)))))) .nil)))⟩
def c_check_many : Fn := ⟨1, 1, false, (.cons (.if_ (.not (.call 1 (.cons (.var 0) (.cons (.int 1) (.cons (.glo 2) .nil))))) (.cons (.raise 53) .nil) .nil) .nil)⟩
def c_check_sides : Fn := ⟨1, 1, false, (.cons (.if_ (.not (.call 1 (.cons (.var 0) (.cons (.glo 3) (.cons (.glo 4) .nil))))) (.cons (.raise 51) .nil) .nil) .nil)⟩
def c_solved : Fn := ⟨3, 15, false, (.cons (.set (.tup (.cons (.nm 3) (.cons (.nm 4) .nil))) (.call 29 (.cons (.var 0) (.cons (.var 1) (.cons (.var 2) .nil))))) (.cons (.for_ (.nm 5) (.rng3 (.bin .sub (.len (.of (.var 2))) (.int 1)) (.neg (.int 1)) (.neg (.int 1))) (.cons (.set (.nm 6) (.idx (.var 3) (.var 5))) (.cons (.if_ (.cmp .in_ (.var 5) (.var 6)) (.cons (.set (.nm 7) (.call 5 (.cons (.glo 1) (.cons (.pop (.var 6) (.var 5)) .nil)))) (.cons (.sub (.var 3) (.var 5) (.dcI (.var 8) (.call 7 (.cons (.var 9) (.cons (.var 7) .nil))) (.tup (.cons (.nm 8) (.cons (.nm 9) .nil))) (.var 6) [8, 9])) (.cons (.sub (.var 4) (.var 5) (.lst (.comp (.call 7 (.cons (.var 9) (.cons (.var 7) .nil))) (.nm 9) (.seq (.of (.idx (.var 4) (.var 5)))) .none [9]))) .nil))) .nil) (.cons (.for_ (.nm 10) (.rng1 (.var 5)) (.cons (.if_ (.cmp .in_ (.var 5) (.idx (.var 3) (.var 10))) (.cons (.sub2 (.var 3) (.var 10) (.var 4) (.var 10) (.call 30 (.cons (.var 3) (.cons (.var 4) (.cons (.var 10) (.cons (.var 5) .nil)))))) .nil) .nil) .nil)) .nil)))) (.cons (.set (.nm 11) (.lst (.lit .nil))) (.cons (.for_ (.nm 5) (.rng1 (.len (.of (.var 2)))) (.cons (.set (.nm 12) (.idx (.var 4) (.var 5))) (.cons (.forI (.tup (.cons (.nm 8) (.cons (.nm 9) .nil))) (.idx (.var 3) (.var 5)) (.cons (.set (.nm 12) (.lst (.comp (.call 4 (.cons (.var 13) (.cons (.call 6 (.cons (.var 9) (.cons (.var 14) .nil))) .nil))) (.tup (.cons (.nm 13) (.cons (.nm 14) .nil))) (.zip (.of (.var 12)) (.of (.idx (.var 11) (.var 8)))) .none [13, 14]))) .nil)) (.cons (.expr (.app (.var 11) (.tupl (.of (.var 12))))) .nil)))) (.cons (.ret (.var 11)) .nil)))))⟩
def c_deciding : Fn := ⟨1, 6, false, (.cons (.set (.nm 1) (.lst (.comp (.var 2) (.tup (.cons (.nm 2) (.cons (.nm 3) .nil))) (.enum (.of (.var 0))) (.some (.not (.isi (.var 3) .tuple))) [2, 3]))) (.cons (.set (.nm 4) (.neg (.int 1))) (.cons (.while_ (.cmp .ne (.var 4) (.len (.of (.var 1)))) (.cons (.set (.nm 4) (.len (.of (.var 1)))) (.cons (.for_ (.tup (.cons (.nm 2) (.cons (.nm 3) .nil))) (.enum (.of (.var 0))) (.cons (.if_ (.and (.cmp .nin (.var 2) (.var 1)) (.any (.comp (.cmp .in_ (.var 5) (.var 1)) (.nm 5) (.seq (.of (.var 3))) .none [5]))) (.cons (.expr (.app (.var 1) (.var 2))) .nil) .nil) .nil)) .nil))) (.cons (.ret (.var 1)) .nil))))⟩
def c_reached_from : Fn := ⟨2, 6, false, (.cons (.set (.nm 2) (.lst (.lit (.cons (.var 1) .nil)))) (.cons (.set (.nm 3) (.int 0)) (.cons (.while_ (.cmp .lt (.var 3) (.len (.of (.var 2)))) (.cons (.set (.nm 4) (.idx (.var 0) (.idx (.var 2) (.var 3)))) (.cons (.for_ (.nm 5) (.seq (.of (.ifx (.isi (.var 4) .tuple) (.var 4) (.tup .nil)))) (.cons (.if_ (.cmp .nin (.var 5) (.var 2)) (.cons (.expr (.app (.var 2) (.var 5))) .nil) .nil) .nil)) (.cons (.aug 3 (.int 1)) .nil)))) (.cons (.ret (.var 2)) .nil))))⟩
def c_is_state : Fn := ⟨4, 5, false, (.cons (.if_ (.not (.isi (.var 3) .tuple)) (.cons (.ret (.call 1 (.cons (.var 3) (.cons (.int 0) (.cons (.bin .sub (.var 1) (.int 1)) .nil))))) .nil) .nil) (.cons (.ret (.and (.cmp .eq (.len (.of (.var 3))) (.var 0)) (.all (.comp (.call 1 (.cons (.var 4) (.cons (.int 0) (.cons (.bin .sub (.var 2) (.int 1)) .nil)))) (.nm 4) (.seq (.of (.var 3))) .none [4])))) .nil))⟩
def c_put_in : Fn := ⟨4, 11, false, (.cons (.set (.nm 4) (.dictOf (.idx (.var 0) (.var 2)))) (.cons (.set (.nm 5) (.pop (.var 4) (.var 3))) (.cons (.forI (.tup (.cons (.nm 6) (.cons (.nm 7) .nil))) (.idx (.var 0) (.var 3)) (.cons (.sub (.var 4) (.var 6) (.call 4 (.cons (.get (.var 4) (.var 6) (.glo 0)) (.cons (.call 6 (.cons (.var 5) (.cons (.var 7) .nil))) .nil)))) .nil)) (.cons (.set (.nm 8) (.lst (.comp (.call 4 (.cons (.var 9) (.cons (.call 6 (.cons (.var 5) (.cons (.var 10) .nil))) .nil))) (.tup (.cons (.nm 9) (.cons (.nm 10) .nil))) (.zip (.of (.idx (.var 1) (.var 2))) (.of (.idx (.var 1) (.var 3)))) .none [9, 10]))) (.cons (.ret (.tup (.cons (.var 4) (.cons (.var 8) .nil)))) .nil)))))⟩
def c_equations : Fn := ⟨3, 10, false, (.cons (.par 3 4 (.lst (.lit .nil)) (.lst (.lit .nil))) (.cons (.for_ (.nm 5) (.seq (.of (.var 2))) (.cons (.set (.nm 6) .dict) (.cons (.set (.nm 7) (.lst (.comp (.glo 0) (.nm 8) (.rng1 (.bin .add (.var 1) (.int 1))) .none [8]))) (.cons (.if_ (.isi (.var 5) .tuple) (.cons (.sub (.var 7) (.var 1) (.glo 1)) (.cons (.for_ (.nm 9) (.seq (.of (.var 5))) (.cons (.sub (.var 6) (.var 9) (.call 4 (.cons (.get (.var 6) (.var 9) (.glo 0)) (.cons (.call 3 (.cons (.int 1) (.cons (.var 0) .nil))) .nil)))) .nil)) .nil)) (.cons (.sub (.var 7) (.var 5) (.glo 1)) .nil)) (.cons (.expr (.app (.var 3) (.var 6))) (.cons (.expr (.app (.var 4) (.var 7))) .nil)))))) (.cons (.ret (.tup (.cons (.var 3) (.cons (.var 4) .nil)))) .nil)))⟩
structure HasT (P : Pg) : Prop extends HasA P where
  f22 : P.fns 22 = some c_check_sides
  f24 : P.fns 24 = some c_check_many
  f25 : P.fns 25 = some c_is_state
  f26 : P.fns 26 = some c_reached_from
  f27 : P.fns 27 = some c_deciding
  f28 : P.fns 28 = some c_is_table_by
  f29 : P.fns 29 = some c_equations
  f30 : P.fns 30 = some c_put_in
  f31 : P.fns 31 = some c_solved
  g0 : P.glo 0 = some (fr 0)
  g1 : P.glo 1 = some (fr 1)
  g2 : P.glo 2 = some (.int 6)
  g3 : P.glo 3 = some (.int 2)
  g4 : P.glo 4 = some (.int 6)
  g6 : P.glo 6 = some (.int 100)
/-- a state's row -/
inductive Row where
  | go (l : List Nat) | out (o : Nat)
def nat (i : Nat) : D := .int (i : Nat)
def Row.d : Row → D
  | .go l => .tup (l.map nat)
  | .out o => nat o
def tabD (t : List Row) : D := .tup (t.map Row.d)
def Row.ok (sides many size : Nat) : Row → Prop
  | .go l => l.length = sides ∧ ∀ x ∈ l, x < size
  | .out o => o < many
section
variable {P : Pg} {C : Nat → List D → Hh → R D} {σ : Sto} {h h1 : Hh} {xs : List D}
theorem at_tup (n i : Nat) (h : Hh) : (LV.val (.tup xs)).at_ xs.length h i = xs[i]? := by
  show (if xs.length = xs.length then xs[i]? else none) = _
  rw [if_pos rfl]
theorem fin_tup : (LV.val (.tup xs)).fin xs.length h = true := by
  show (xs.length == xs.length) = true
  simp
/-- what walks a tuple -/
def ivT (xs : List D) : Iv := ⟨xs.length, fun h i => (LV.val (.tup xs)).at_ xs.length h i, (LV.val (.tup xs)).fin xs.length⟩
theorem seq_tup {x : E} (e : ev P C x σ h = .ok (.tup xs) h1) : evIt P C (.seq (.of x)) σ h = .ok (ivT xs) h1 := by
  simp only [evIt, evL, e, R.bnd_ok]
  rfl
theorem all_ok {l : L} {bs : List Bool} (e : evL P C l σ h = .ok (.new (bs.map .bl)) h1) : ev P C (.all l) σ h = .ok (.bl (bs.all id)) h1 := by
  have hb : ∀ bs : List Bool, bools? (bs.map D.bl) = some bs := by
    intro bs
    induction bs with
    | nil => rfl
    | cons b bs ih =>
      show (bools? (bs.map D.bl)).map (b :: ·) = _
      rw [ih]; rfl
  simp only [ev, e, R.bnd_ok, LV.isT, Bool.false_eq_true, if_false, LV.items, hb]
theorem any_ok {l : L} {bs : List Bool} (e : evL P C l σ h = .ok (.new (bs.map .bl)) h1) : ev P C (.any l) σ h = .ok (.bl (bs.any id)) h1 := by
  have hb : ∀ bs : List Bool, bools? (bs.map D.bl) = some bs := by
    intro bs
    induction bs with
    | nil => rfl
    | cons b bs ih =>
      show (bools? (bs.map D.bl)).map (b :: ·) = _
      rw [ih]; rfl
  simp only [ev, e, R.bnd_ok, LV.isT, Bool.false_eq_true, if_false, LV.items, hb]
/-- [elt for x in a tuple], the heap left alone -/
theorem comp_tup {x : E} {t : Tg} {e : E} {own : List Nat} (v : D → D) (e0 : ev P C x σ h = .ok (.tup xs) h1) (hl : xs.length ≤ LIM) (step : ∀ y ∈ xs, ∃ σ1, asT t y (wipe σ own) = some σ1 ∧ ev P C e σ1 h1 = .ok (v y) h1) :
    evL P C (.comp e t (.seq (.of x)) .none own) σ h = .ok (.new (xs.map v)) h1 := by
  simp only [evL, seq_tup e0, R.bnd_ok]
  rw [if_pos (show (ivT xs).n ≤ LIM from hl)]
  have key := lc_pure (fin := (ivT xs).fin) (get := (ivT xs).get) (bind := fun x => asT t x (wipe σ own)) (test := fun σ1 h => (evC P C .none σ1 h).nox) (elt := fun σ1 h => (ev P C e σ1 h).nox) (h := h1) xs.length (fun i => v (xs.getD i .non)) (fin_tup (h := h1)) (fun i hi => by
    obtain ⟨σ1, q1, q2⟩ := step (xs[i]) (List.getElem_mem _)
    refine ⟨xs[i], σ1, ?_, q1, by simp only [evC, R.nox_ok], ?_⟩
    · show (LV.val (.tup xs)).at_ xs.length h1 i = _
      rw [at_tup 0 i]
      exact List.getElem?_eq_getElem hi
    · rw [q2, R.nox_ok, List.getD_eq_getElem?_getD, List.getElem?_eq_getElem hi]; rfl) xs.length 0 (by omega)
  rw [show (ivT xs).n = xs.length from rfl, key]
  simp only [R.bnd_ok]
  congr 2
  apply List.ext_getElem
  · simp
  · intro i h2 h3
    simp at h2
    simp [List.getD_eq_getElem?_getD, List.getElem?_eq_getElem h2]
end
section
variable {P : Pg} {d : Nat} {h : Hh}
theorem not_ok {C : Nat → List D → Hh → R D} {σ : Sto} {x : E} {b : Bool} {h1 : Hh} (e : ev P C x σ h = .ok (.bl b) h1) : ev P C (.not x) σ h = .ok (.bl (!b)) h1 := by
  simp only [ev, e, R.bnd_ok]
theorem check_sides_ok (a : HasT P) (s : Int) (h1 : 2 ≤ s) (h2 : s ≤ 6) : callN P (d + 3) 22 [.int s] h = .ok .non h := by
  rw [call_eq a.f22 (σ := [some (.int s)]) rfl]
  have b := is_between_int (d := d) (h := h) a.toHasA s 2 6
  rw [decide_eq_true h1, decide_eq_true h2] at b
  have e : ev P (callN P (d + 2)) (.not (.call 1 (.cons (.var 0) (.cons (.glo 3) (.cons (.glo 4) .nil))))) [some (.int s)] h = .ok (.bl false) h := by
    simp only [ev, evs, R.bnd_ok, List.getElem?_cons_zero, a.g3, a.g4, opt_some, b]
    rfl
  unfold c_check_sides
  rw [ex_nx (σ1 := [some (.int s)]) (h1 := h) ((ex_if e).trans (by rw [if_neg Bool.false_ne_true]; rfl))]
  rfl
theorem check_many_ok (a : HasT P) (s : Int) (h1 : 1 ≤ s) (h2 : s ≤ 6) : callN P (d + 3) 24 [.int s] h = .ok .non h := by
  rw [call_eq a.f24 (σ := [some (.int s)]) rfl]
  have b := is_between_int (d := d) (h := h) a.toHasA s 1 6
  rw [decide_eq_true h1, decide_eq_true h2] at b
  have e : ev P (callN P (d + 2)) (.not (.call 1 (.cons (.var 0) (.cons (.int 1) (.cons (.glo 2) .nil))))) [some (.int s)] h = .ok (.bl false) h := by
    simp only [ev, evs, R.bnd_ok, List.getElem?_cons_zero, a.g2, opt_some, b]
    rfl
  unfold c_check_many
  rw [ex_nx (σ1 := [some (.int s)]) (h1 := h) ((ex_if e).trans (by rw [if_neg Bool.false_ne_true]; rfl))]
  rfl
theorem is_state_ok (a : HasT P) (sides many size : Nat) (r : Row) (hr : r.ok sides many size) (hs : sides ≤ 1000) : callN P (d + 3) 25 [nat sides, nat many, nat size, r.d] h = .ok (.bl true) h := by
  rw [call_eq a.f25 (σ := [some (nat sides), some (nat many), some (nat size), some r.d, none]) rfl]
  unfold c_is_state
  cases r with
  | out o =>
    have b := is_between_int (d := d) (h := h) a.toHasA o 0 ((many : Int) - 1)
    have ho : o < many := hr
    rw [decide_eq_true (by omega), decide_eq_true (by omega)] at b
    have e : ev P (callN P (d + 2)) (.not (.isi (.var 3) .tuple)) [some (nat sides), some (nat many), some (nat size), some (Row.out o).d, none] h = .ok (.bl true) h := rfl
    have e2 : ev P (callN P (d + 2)) (.call 1 (.cons (.var 3) (.cons (.int 0) (.cons (.bin .sub (.var 1) (.int 1)) .nil)))) [some (nat sides), some (nat many), some (nat size), some (Row.out o).d, none] h = .ok (.bl true) h := by
      simp only [ev, evs, R.bnd_ok, List.getElem?_cons_zero, List.getElem?_cons_succ, Row.d, nat, binop, b]
      rfl
    rw [ex_rt (v := .bl true) (h1 := h) ((ex_if e).trans (by rw [if_pos rfl, ex_rt (ex_ret e2)]))]
    rfl
  | go l =>
    obtain ⟨hl, hx⟩ := hr
    have e : ev P (callN P (d + 2)) (.not (.isi (.var 3) .tuple)) [some (nat sides), some (nat many), some (nat size), some (Row.go l).d, none] h = .ok (.bl false) h := rfl
    rw [ex_nx (σ1 := [some (nat sides), some (nat many), some (nat size), some (Row.go l).d, none]) (h1 := h) ((ex_if e).trans (by rw [if_neg Bool.false_ne_true]; rfl))]
    have ea := comp_tup (P := P) (C := callN P (d + 2)) (σ := [some (nat sides), some (nat many), some (nat size), some (Row.go l).d, none]) (h := h) (h1 := h) (x := .var 3) (t := .nm 4) (own := [4]) (xs := l.map nat) (e := .call 1 (.cons (.var 4) (.cons (.int 0) (.cons (.bin .sub (.var 2) (.int 1)) .nil)))) (fun _ => .bl true) rfl (by simp [hl, LIM]; omega) (fun y hy => by
      obtain ⟨i, hi, rfl⟩ := List.mem_map.mp hy
      have b := is_between_int (d := d) (h := h) a.toHasA i 0 ((size : Int) - 1)
      have := hx i hi
      rw [decide_eq_true (by omega), decide_eq_true (by omega)] at b
      refine ⟨_, rfl, ?_⟩
      simp only [ev, evs, R.bnd_ok, wipe, List.set_cons_zero, List.set_cons_succ, List.getElem?_cons_zero, List.getElem?_cons_succ, nat, binop, b]
      rfl)
    have ea2 : evL P (callN P (d + 2)) (.comp (.call 1 (.cons (.var 4) (.cons (.int 0) (.cons (.bin .sub (.var 2) (.int 1)) .nil)))) (.nm 4) (.seq (.of (.var 3))) .none [4]) [some (nat sides), some (nat many), some (nat size), some (Row.go l).d, none] h = .ok (.new ((l.map fun _ => true).map .bl)) h := by
      rw [ea]; simp
    have e3 := all_ok ea2
    have hall : (l.map fun _ => true).all id = true := by simp
    rw [hall] at e3
    have e4 : ev P (callN P (d + 2)) (.cmp .eq (.len (.of (.var 3))) (.var 0)) [some (nat sides), some (nat many), some (nat size), some (Row.go l).d, none] h = .ok (.bl true) h := by
      have e5 : ev P (callN P (d + 2)) (.len (.of (.var 3))) [some (nat sides), some (nat many), some (nat size), some (Row.go l).d, none] h = .ok (nat sides) h := by
        show R.ok (D.int ((l.map nat).length : Nat)) h = _
        rw [List.length_map, hl]; rfl
      have z := ev_cmp (o := .eq) e5 (ev_var (C := callN P (d + 2)) (P := P) (i := 0) (σ := [some (nat sides), some (nat many), some (nat size), some (Row.go l).d, none]) (h := h) rfl) (eq_int (i := sides) (j := sides))
      rw [decide_eq_true rfl] at z
      exact z
    have e6 : ev P (callN P (d + 2)) (.and (.cmp .eq (.len (.of (.var 3))) (.var 0)) (.all (.comp (.call 1 (.cons (.var 4) (.cons (.int 0) (.cons (.bin .sub (.var 2) (.int 1)) .nil)))) (.nm 4) (.seq (.of (.var 3))) .none [4]))) [some (nat sides), some (nat many), some (nat size), some (Row.go l).d, none] h = .ok (.bl true) h := by
      rw [ev, e4, R.bnd_ok]
      exact e3
    rw [ex_rt (ex_ret e6)]
    rfl
end
end PI

set_option maxRecDepth 100000
set_option maxHeartbeats 1000000
/-! QE: which states are reached. -/
namespace PI
open PySem
theorem nats_ints (L : List Nat) : L.map nat = (L.map fun i : Nat => (i : Int)).map D.int := by simp [nat]
theorem mem_nats {L : List Nat} {i : Nat} : decide ((i : Int) ∈ L.map fun i : Nat => (i : Int)) = decide (i ∈ L) := by
  rw [decide_eq_decide, List.mem_map]
  constructor
  · rintro ⟨a, ha, e⟩
    have : a = i := by omega
    exact this ▸ ha
  · intro h; exact ⟨i, h, rfl⟩
theorem in_nats {h : Hh} {a : Nat} {L : List Nat} (e : h[a]? = some (.lst (L.map nat))) (i : Nat) : cmpop .in_ (nat i) (.ref a) h = some (decide (i ∈ L)) := by
  rw [nats_ints] at e
  rw [show nat i = .int (i : Int) from rfl, in_ints e i]
  congr 1
  rw [mem_nats]
theorem nin_nats {h : Hh} {a : Nat} {L : List Nat} (e : h[a]? = some (.lst (L.map nat))) (i : Nat) : cmpop .nin (nat i) (.ref a) h = some (!decide (i ∈ L)) := by
  rw [nats_ints] at e
  rw [show nat i = .int (i : Int) from rfl, nin_ints e i]
  congr 1
  rw [mem_nats]
theorem atI_nat {α : Type} {xs : List α} {i : Nat} {x : α} (e : xs[i]? = some x) (hi : i < 1000000) : L2.atI xs (i : Nat) = some x := by
  have hl : i < xs.length := (List.getElem?_eq_some_iff.mp e).1
  unfold L2.atI L2.ixN
  rw [if_pos (by omega), if_pos (by omega)]
  simpa using e
section
variable {P : Pg} {C : Nat → List D → Hh → R D} {σ : Sto} {h h1 h2 : Hh} {a b : E} {x y v : D}
theorem items_tup {xs : List D} : items? h (.tup xs) = some xs := rfl
theorem items_lst {r : Nat} {xs : List D} (e : h[r]? = some (.lst xs)) : items? h (.ref r) = some xs := by
  show (match h[r]? with
    | some (.lst xs) => some xs
    | _ => none) = _
  rw [e]
theorem lstOf_at {r : Nat} {xs : List D} (e : h[r]? = some (.lst xs)) : lstOf h r = some xs := by
  unfold lstOf; rw [e]
theorem ev_app {r : Nat} {xs ys : List D} (ea : ev P C a σ h = .ok (.ref r) h1) (e1 : h1[r]? = some (.lst ys)) (eb : ev P C b σ h1 = .ok y h2) (e2 : h2[r]? = some (.lst xs)) (hl : xs.length < LIM) :
    ev P C (.app a b) σ h = .ok .non (h2.set r (.lst (xs ++ [y]))) := by
  rw [ev, ea, R.bnd_ok]
  simp only [lstOf_at e1, eb, R.bnd_ok, lstOf_at e2, if_pos hl]
end
theorem fin_get {xs : List D} (h : Hh) : (ivT xs).fin h = true := fin_tup (h := h)
theorem get_tup {xs : List D} (h : Hh) (i : Nat) : (ivT xs).get h i = xs[i]? := at_tup 0 i h
theorem last_get {α : Type} (h : List α) (x : α) : (h ++ [x])[h.length]? = some x := by simp
theorem last_set {α : Type} (h : List α) (x y : α) : (h ++ [x]).set h.length y = h ++ [y] := by simp
/-- the successors of a state -/
def Row.succ : Row → List Nat
  | .go l => l
  | .out _ => []
def TabOk (sides many : Nat) (t : List Row) : Prop := ∀ r ∈ t, r.ok sides many t.length
section
variable {P : Pg} {d : Nat} {h : Hh} {sides many : Nat} {t : List Row}
theorem nodup_le {L : List Nat} {n : Nat} (nd : L.Nodup) (hb : ∀ x ∈ L, x < n) : L.length ≤ n := by
  have := List.Nodup.length_le_of_subset (l₂ := List.range n) nd (fun x hx => by simpa using hb x hx)
  simpa using this
theorem reached_ok (a : HasT P) (ht : TabOk sides many t) (hn : 0 < t.length) (hs : t.length ≤ 1000) (hsd : sides ≤ 1000) :
    ∃ L : List Nat, callN P (d + 1) 26 [tabD t, nat 0] h = .ok (.ref h.length) (h ++ [.lst (L.map nat)]) ∧ L.Nodup ∧ (∀ x ∈ L, x < t.length) ∧ 0 ∈ L ∧ ∀ i ∈ L, ∀ r, t[i]? = some r → ∀ j ∈ r.succ, j ∈ L := by
  rw [call_eq a.f26 (σ := [some (tabD t), some (nat 0), none, none, none, none]) rfl]
  unfold c_reached_from
  have e1 : exec P (callN P d) (.set (.nm 2) (.lst (.lit (.cons (.var 1) .nil)))) [some (tabD t), some (nat 0), none, none, none, none] h = .ok (.nx [some (tabD t), some (nat 0), some (.ref h.length), none, none, none]) (h ++ [.lst [nat 0]]) := rfl
  rw [ex_nx e1]
  have e2 : exec P (callN P d) (.set (.nm 3) (.int 0)) [some (tabD t), some (nat 0), some (.ref h.length), none, none, none] (h ++ [.lst [nat 0]]) = .ok (.nx [some (tabD t), some (nat 0), some (.ref h.length), some (nat 0), none, none]) (h ++ [.lst [nat 0]]) := rfl
  rw [ex_nx e2]
  obtain ⟨m', σ', h', q1, ⟨L, k, a4, a5, rfl, rfl, nd, hb, h0, hk, cl, rfl⟩, q3⟩ := while_ok (P := P) (C := callN P d) (c := .cmp .lt (.var 3) (.len (.of (.var 2))))
    (b := (.cons (.set (.nm 4) (.idx (.var 0) (.idx (.var 2) (.var 3)))) (.cons (.for_ (.nm 5) (.seq (.of (.ifx (.isi (.var 4) .tuple) (.var 4) (.tup .nil)))) (.cons (.if_ (.cmp .nin (.var 5) (.var 2)) (.cons (.expr (.app (.var 2) (.var 5))) .nil) .nil) .nil)) (.cons (.aug 3 (.int 1)) .nil))))
    (fun m σ h' => ∃ (L : List Nat) (k : Nat) (a4 a5 : Option D), σ = [some (tabD t), some (nat 0), some (.ref h.length), some (nat k), a4, a5] ∧ h' = h ++ [.lst (L.map nat)] ∧ L.Nodup ∧ (∀ x ∈ L, x < t.length) ∧ 0 ∈ L ∧ k ≤ L.length ∧
      (∀ i < k, ∀ s r, L[i]? = some s → t[s]? = some r → ∀ j ∈ r.succ, j ∈ L) ∧ m = t.length - k)
    (fun m σ h' hi => by
      obtain ⟨L, k, a4, a5, rfl, rfl, nd, hb, h0, hk, cl, rfl⟩ := hi
      have hL := nodup_le nd hb
      have ec : ev P (callN P d) (.cmp .lt (.var 3) (.len (.of (.var 2)))) [some (tabD t), some (nat 0), some (.ref h.length), some (nat k), a4, a5] (h ++ [.lst (L.map nat)]) = .ok (.bl (decide ((k : Int) < (L.length : Nat)))) (h ++ [.lst (L.map nat)]) := by
        refine ev_cmp (ev_var rfl) (ev_len (ev_var rfl) (items_lst (last_get _ _))) ?_
        rw [List.length_map]; rfl
      rw [ec]
      by_cases hlt : k < L.length
      · right
        refine ⟨by rw [decide_eq_true (by omega)], ?_⟩
        have hs' : L[k]? = some L[k] := List.getElem?_eq_getElem hlt
        have hsl : L[k] < t.length := hb _ (List.getElem_mem _)
        have htr : t[L[k]]? = some (t[L[k]]) := List.getElem?_eq_getElem hsl
        generalize L[k] = s at *
        generalize t[s] = r at *
        have hr : r.ok sides many t.length := ht r (List.mem_of_getElem? htr)
        have f1 : exec P (callN P d) (.set (.nm 4) (.idx (.var 0) (.idx (.var 2) (.var 3)))) [some (tabD t), some (nat 0), some (.ref h.length), some (nat k), a4, a5] (h ++ [.lst (L.map nat)]) = .ok (.nx [some (tabD t), some (nat 0), some (.ref h.length), some (nat k), some r.d, a5]) (h ++ [.lst (L.map nat)]) := by
          refine ex_set (v := r.d) (ev_idx (ev_var rfl) (ev_idx (x := .ref h.length) (y := nat k) (z := nat s) (ev_var rfl) (ev_var rfl) ?_) ?_) rfl
          · show (match (h ++ [O.lst (L.map nat)])[h.length]? with
              | some (.lst xs) => L2.atI xs (k : Nat)
              | some (.dct kvs) => dlook kvs (k : Nat)
              | some (.fdc kvs) => dlook kvs (k : Nat)
              | _ => none) = _
            rw [last_get]
            exact atI_nat (by rw [List.getElem?_map, hs']; rfl) (by omega)
          · exact atI_nat (xs := t.map Row.d) (by rw [List.getElem?_map, htr]; rfl) (by omega)
        have hit : evIt P (callN P d) (.seq (.of (.ifx (.isi (.var 4) .tuple) (.var 4) (.tup .nil)))) [some (tabD t), some (nat 0), some (.ref h.length), some (nat k), some r.d, a5] (h ++ [.lst (L.map nat)]) = .ok (ivT (r.succ.map nat)) (h ++ [.lst (L.map nat)]) := by
          refine seq_tup ?_
          cases r with
          | go l => rfl
          | out o => rfl
        obtain ⟨σ2, h2, g1, L2, a5', rfl, rfl, nd2, hb2, pre2, sub2⟩ := for_ok (P := P) (C := callN P d) (t := .nm 5) (b := (.cons (.if_ (.cmp .nin (.var 5) (.var 2)) (.cons (.expr (.app (.var 2) (.var 5))) .nil) .nil) .nil)) hit
          (fun i σ h' => ∃ (L' : List Nat) (a5 : Option D), σ = [some (tabD t), some (nat 0), some (.ref h.length), some (nat k), some r.d, a5] ∧ h' = h ++ [.lst (L'.map nat)] ∧ L'.Nodup ∧ (∀ x ∈ L', x < t.length) ∧ (∃ e, L' = L ++ e) ∧ ∀ j < i, ∀ y, r.succ[j]? = some y → y ∈ L')
          (fun _ h _ => fin_get h) (fun i σ h' hi hI => by
            obtain ⟨L', a5, rfl, rfl, nd', hb', pre', sub'⟩ := hI
            have hi' : i < r.succ.length := by simpa [ivT] using hi
            have hy : r.succ[i]? = some r.succ[i] := List.getElem?_eq_getElem hi'
            have hyl : r.succ[i] < t.length := by
              cases r with
              | go l => exact hr.2 _ (List.getElem_mem _)
              | out o => simp [Row.succ] at hi'
            generalize r.succ[i] = y at *
            have hL' := nodup_le nd' hb'
            refine ⟨nat y, [some (tabD t), some (nat 0), some (.ref h.length), some (nat k), some r.d, some (nat y)], ?_, rfl, ?_⟩
            · rw [get_tup, List.getElem?_map, hy]; rfl
            have et : ev P (callN P d) (.cmp .nin (.var 5) (.var 2)) [some (tabD t), some (nat 0), some (.ref h.length), some (nat k), some r.d, some (nat y)] (h ++ [.lst (L'.map nat)]) = .ok (.bl (!decide (y ∈ L'))) (h ++ [.lst (L'.map nat)]) :=
              ev_cmp (ev_var rfl) (ev_var rfl) (nin_nats (last_get _ _) y)
            by_cases hm : y ∈ L'
            · rw [decide_eq_true hm] at et
              refine ⟨_, _, (ex_nx ((ex_if et).trans (by rw [if_neg (by decide)]; rfl))).trans ex_nil, L', _, rfl, rfl, nd', hb', pre', fun j hj z hz => ?_⟩
              rcases Nat.lt_succ_iff_lt_or_eq.mp hj with hj | hj
              · exact sub' j hj z hz
              · subst hj; rw [hy] at hz; cases hz; exact hm
            · rw [decide_eq_false hm] at et
              have ea := ev_app (P := P) (C := callN P d) (σ := [some (tabD t), some (nat 0), some (.ref h.length), some (nat k), some r.d, some (nat y)]) (h := h ++ [.lst (L'.map nat)]) (a := .var 2) (b := .var 5) (y := nat y) (ev_var rfl) (last_get _ _) (ev_var rfl) (last_get _ _) (by simp [LIM]; omega)
              rw [last_set] at ea
              refine ⟨_, _, (ex_nx ((ex_if et).trans (by rw [if_pos (show (!false) = true from rfl), ex_nx (ex_expr ea)]; rfl))).trans ex_nil, L' ++ [y], _, rfl, by simp, ?_, ?_, ?_, fun j hj z hz => ?_⟩
              · rw [List.nodup_append]
                exact ⟨nd', by simp, fun x hx z hz => by simp at hz; subst hz; exact fun e => hm (e ▸ hx)⟩
              · intro x hx
                rcases List.mem_append.mp hx with hx | hx
                · exact hb' x hx
                · simp at hx; subst hx; exact hyl
              · obtain ⟨e, rfl⟩ := pre'
                exact ⟨e ++ [y], by simp⟩
              · rcases Nat.lt_succ_iff_lt_or_eq.mp hj with hj | hj
                · exact List.mem_append_left _ (sub' j hj z hz)
                · subst hj; rw [hy] at hz; cases hz; simp)
          ⟨L, a5, rfl, rfl, nd, hb, ⟨[], by simp⟩, fun j hj => absurd hj (Nat.not_lt_zero _)⟩
        obtain ⟨e, rfl⟩ := pre2
        refine ⟨[some (tabD t), some (nat 0), some (.ref h.length), some (nat (k + 1)), some r.d, a5'], _, t.length - (k + 1), ?_, by omega, L ++ e, k + 1, some r.d, a5', rfl, rfl, nd2, hb2, List.mem_append_left _ h0, by simp; omega, ?_, rfl⟩
        · rw [ex_nx f1, ex_nx g1]
          refine (ex_nx (σ1 := [some (tabD t), some (nat 0), some (.ref h.length), some (nat (k + 1)), some r.d, a5']) (h1 := h ++ [.lst ((L ++ e).map nat)]) ?_).trans ex_nil
          rfl
        · intro i hi s' r' h1 h2 j hj
          rcases Nat.lt_succ_iff_lt_or_eq.mp hi with hi | hi
          · rw [List.getElem?_append_left (by omega)] at h1
            exact List.mem_append_left _ (cl i hi s' r' h1 h2 j hj)
          · subst hi
            rw [List.getElem?_append_left hlt, hs'] at h1
            cases h1
            rw [htr] at h2
            cases h2
            obtain ⟨q, hq, rfl⟩ := List.getElem_of_mem hj
            exact sub2 q (by simpa [ivT] using hq) _ (List.getElem?_eq_getElem hq)
      · left
        rw [decide_eq_false (by omega)]) (m := t.length - 0)
    ⟨[0], 0, none, none, rfl, rfl, by simp, by simp; omega, by simp, by simp, fun i hi => absurd hi (Nat.not_lt_zero _), rfl⟩ (by rw [big_eq]; omega)
  have hlen : L.length ≤ k := by
    have ec : ev P (callN P d) (.cmp .lt (.var 3) (.len (.of (.var 2)))) [some (tabD t), some (nat 0), some (.ref h.length), some (nat k), a4, a5] (h ++ [.lst (L.map nat)]) = .ok (.bl (decide ((k : Int) < (L.length : Nat)))) (h ++ [.lst (L.map nat)]) := by
      refine ev_cmp (ev_var rfl) (ev_len (ev_var rfl) (items_lst (last_get _ _))) ?_
      rw [List.length_map]; rfl
    rw [ec] at q3
    have := congrArg (fun r => match r with | R.ok (.bl b) _ => b | _ => true) q3
    simp at this
    omega
  refine ⟨L, (congrArg (fun r => R.bnd r outOf) (ex_nx q1)).trans ?_, nd, hb, h0, fun i hi r hr j hj => ?_⟩
  · rw [ex_rt (ex_ret (ev_var rfl))]; rfl
  · obtain ⟨q, hq, e⟩ := List.getElem_of_mem hi
    exact cl q (by omega) i r (by rw [List.getElem?_eq_getElem hq, e]) hr j hj
end
end PI

set_option maxRecDepth 100000
set_option maxHeartbeats 1000000
/-! QF: which states decide; tables. -/
namespace PI
open PySem
/-- what walks a tuple with its places -/
def ivE (xs : List D) : Iv := ⟨xs.length, fun h i => ((LV.val (.tup xs)).at_ xs.length h i).map fun x => .tup [.int (i : Nat), x], (LV.val (.tup xs)).fin xs.length⟩
theorem getE {xs : List D} (h : Hh) (i : Nat) : (ivE xs).get h i = xs[i]?.map fun x => .tup [nat i, x] := by
  show ((LV.val (.tup xs)).at_ xs.length h i).map _ = _
  rw [at_tup 0 i h]; rfl
theorem finE {xs : List D} (h : Hh) : (ivE xs).fin h = true := fin_tup (h := h)
section
variable {P : Pg} {C : Nat → List D → Hh → R D} {σ : Sto} {h h1 h2 : Hh} {xs : List D}
theorem enum_tup {x : E} (e : ev P C x σ h = .ok (.tup xs) h1) : evIt P C (.enum (.of x)) σ h = .ok (ivE xs) h1 := by
  simp only [evIt, evL, e, R.bnd_ok]
  rfl
end
def Row.isGo : Row → Bool
  | .go _ => true
  | .out _ => false
theorem isi_row {P : Pg} {C : Nat → List D → Hh → R D} {σ : Sto} {h : Hh} {i : Nat} {r : Row} (e : σ[i]? = some (some r.d)) : ev P C (.isi (.var i) .tuple) σ h = .ok (.bl r.isGo) h := by
  rw [ev, ev_var e, R.bnd_ok]
  cases r <;> rfl
section
variable {P : Pg} {d : Nat} {h : Hh} {sides many : Nat} {t : List Row}
theorem deciding_ok (a : HasT P) (ht : TabOk sides many t) (hs : t.length ≤ 1000) (hsd : sides ≤ 1000) :
    ∃ L : List Nat, callN P (d + 1) 27 [tabD t] h = .ok (.ref h.length) (h ++ [.lst (L.map nat)]) ∧ L.Nodup ∧ (∀ x ∈ L, x < t.length) ∧ (∀ s o, t[s]? = some (.out o) → s ∈ L) ∧ (∀ s l, t[s]? = some (.go l) → (∃ y ∈ l, y ∈ L) → s ∈ L) ∧
      ∀ (i : Nat) s l, L[i]? = some s → t[s]? = some (.go l) → ∃ j, j < i ∧ ∃ y, L[j]? = some y ∧ y ∈ l := by
  rw [call_eq a.f27 (σ := [some (tabD t), none, none, none, none, none]) rfl]
  unfold c_deciding
  have htl : (t.map Row.d).length = t.length := List.length_map ..
  let b0 : Nat → Bool := fun i => match t[i]? with
    | some r => !r.isGo
    | none => false
  have e0 : evL P (callN P d) (.comp (.var 2) (.tup (.cons (.nm 2) (.cons (.nm 3) .nil))) (.enum (.of (.var 0))) (.some (.not (.isi (.var 3) .tuple))) [2, 3]) [some (tabD t), none, none, none, none, none] h = .ok (.new (((List.range' 0 t.length).filter b0).map nat)) h := by
    simp only [evL, enum_tup (ev_var (P := P) (C := callN P d) (σ := [some (tabD t), none, none, none, none, none]) (h := h) (i := 0) (v := tabD t) rfl), R.bnd_ok]
    rw [if_pos (show (ivE (t.map Row.d)).n ≤ LIM from by show (t.map Row.d).length ≤ LIM; rw [htl]; simp [LIM]; omega)]
    have key := lc_filter (fin := (ivE (t.map Row.d)).fin) (get := (ivE (t.map Row.d)).get) (bind := fun x => asT (.tup (.cons (.nm 2) (.cons (.nm 3) .nil))) x (wipe [some (tabD t), none, none, none, none, none] [2, 3])) (test := fun σ1 h => (evC P (callN P d) (.some (.not (.isi (.var 3) .tuple))) σ1 h).nox) (elt := fun σ1 h => (ev P (callN P d) (.var 2) σ1 h).nox) (h := h) t.length b0 nat (finE h) (fun i hi => by
      have hr : t[i]? = some t[i] := List.getElem?_eq_getElem hi
      refine ⟨.tup [nat i, (t[i]).d], [some (tabD t), none, some (nat i), some (t[i]).d, none, none], ?_, rfl, ?_, fun _ => rfl⟩
      · rw [getE, List.getElem?_map, hr]; rfl
      · have e := ev_not (isi_row (P := P) (C := callN P d) (σ := [some (tabD t), none, some (nat i), some (t[i]).d, none, none]) (h := h) (i := 3) (r := t[i]) rfl)
        simp only [evC, e, R.bnd_ok, R.nox_ok, b0, hr]) t.length 0 (by omega)
    rw [show (ivE (t.map Row.d)).n = t.length from htl, key]
    rfl
  generalize hL0 : (List.range' 0 t.length).filter b0 = L0 at e0
  have n0 : L0.Nodup := by rw [← hL0]; exact List.Pairwise.filter _ List.nodup_range'
  have m0 : ∀ s, s ∈ L0 ↔ ∃ o, t[s]? = some (.out o) := fun s => by
    rw [← hL0, List.mem_filter]
    constructor
    · rintro ⟨_, h2⟩
      simp only [b0] at h2
      cases q : t[s]? with
      | none => rw [q] at h2; cases h2
      | some r =>
        rw [q] at h2
        cases r with
        | go l => cases h2
        | out o => exact ⟨o, rfl⟩
    · rintro ⟨o, q⟩
      refine ⟨by have := (List.getElem?_eq_some_iff.mp q).1; simp [List.mem_range'_1]; omega, ?_⟩
      simp only [b0, q]; rfl
  have hb0 : ∀ x ∈ L0, x < t.length := fun x hx => by
    obtain ⟨o, q⟩ := (m0 x).mp hx
    exact (List.getElem?_eq_some_iff.mp q).1
  have e1 : exec P (callN P d) (.set (.nm 1) (.lst (.comp (.var 2) (.tup (.cons (.nm 2) (.cons (.nm 3) .nil))) (.enum (.of (.var 0))) (.some (.not (.isi (.var 3) .tuple))) [2, 3]))) [some (tabD t), none, none, none, none, none] h = .ok (.nx [some (tabD t), some (.ref h.length), none, none, none, none]) (h ++ [.lst (L0.map nat)]) := by
    refine ex_set (v := .ref h.length) ?_ rfl
    rw [ev, e0, R.bnd_ok]; rfl
  rw [ex_nx e1]
  have e2 : exec P (callN P d) (.set (.nm 4) (.neg (.int 1))) [some (tabD t), some (.ref h.length), none, none, none, none] (h ++ [.lst (L0.map nat)]) = .ok (.nx [some (tabD t), some (.ref h.length), none, none, some (.int (-1)), none]) (h ++ [.lst (L0.map nat)]) := rfl
  rw [ex_nx e2]
  let Q : List Nat → Prop := fun L => L.Nodup ∧ (∀ x ∈ L, x < t.length) ∧ (∀ s o, t[s]? = some (.out o) → s ∈ L) ∧ ∀ (i : Nat) s l, L[i]? = some s → t[s]? = some (.go l) → ∃ j, j < i ∧ ∃ y, L[j]? = some y ∧ y ∈ l
  let Cl : List Nat → Prop := fun L => ∀ s l, t[s]? = some (.go l) → (∃ y ∈ l, y ∈ L) → s ∈ L
  have ecw : ∀ (L : List Nat) (k : Int) (a2 a3 a5 : Option D), ev P (callN P d) (.cmp .ne (.var 4) (.len (.of (.var 1)))) [some (tabD t), some (.ref h.length), a2, a3, some (.int k), a5] (h ++ [.lst (L.map nat)]) = .ok (.bl (!decide (k = (L.length : Nat)))) (h ++ [.lst (L.map nat)]) := fun L k a2 a3 a5 => by
    have z := ev_len (P := P) (C := callN P d) (σ := [some (tabD t), some (.ref h.length), a2, a3, some (.int k), a5]) (ev_var (i := 1) (h := h ++ [.lst (L.map nat)]) rfl) (items_lst (last_get _ _))
    rw [List.length_map] at z
    exact ev_cmp (ev_var rfl) z ne_int
  obtain ⟨m', σ', h', q1, ⟨L, k, a2, a3, a5, rfl, rfl, hq, hc, rfl⟩, q3⟩ := while_ok (P := P) (C := callN P d) (c := .cmp .ne (.var 4) (.len (.of (.var 1))))
    (b := (.cons (.set (.nm 4) (.len (.of (.var 1)))) (.cons (.for_ (.tup (.cons (.nm 2) (.cons (.nm 3) .nil))) (.enum (.of (.var 0))) (.cons (.if_ (.and (.cmp .nin (.var 2) (.var 1)) (.any (.comp (.cmp .in_ (.var 5) (.var 1)) (.nm 5) (.seq (.of (.var 3))) .none [5]))) (.cons (.expr (.app (.var 1) (.var 2))) .nil) .nil) .nil)) .nil)))
    (fun m σ h' => ∃ (L : List Nat) (k : Int) (a2 a3 a5 : Option D), σ = [some (tabD t), some (.ref h.length), a2, a3, some (.int k), a5] ∧ h' = h ++ [.lst (L.map nat)] ∧ Q L ∧ (k = (L.length : Nat) → Cl L) ∧ m = 2 * (t.length - L.length) + (if k = (L.length : Nat) then 0 else 1))
    (fun m σ h' hi => by
      obtain ⟨L, k, a2, a3, a5, rfl, rfl, hq, hc, rfl⟩ := hi
      rw [ecw]
      by_cases hk : k = (L.length : Nat)
      · left; rw [decide_eq_true hk]; rfl
      · right
        refine ⟨by rw [decide_eq_false hk]; rfl, ?_⟩
        have f1 : exec P (callN P d) (.set (.nm 4) (.len (.of (.var 1)))) [some (tabD t), some (.ref h.length), a2, a3, some (.int k), a5] (h ++ [.lst (L.map nat)]) = .ok (.nx [some (tabD t), some (.ref h.length), a2, a3, some (nat L.length), a5]) (h ++ [.lst (L.map nat)]) := by
          have z := ev_len (P := P) (C := callN P d) (σ := [some (tabD t), some (.ref h.length), a2, a3, some (.int k), a5]) (ev_var (i := 1) (h := h ++ [.lst (L.map nat)]) rfl) (items_lst (last_get _ _))
          rw [List.length_map] at z
          exact ex_set z rfl
        have hit := enum_tup (P := P) (C := callN P d) (σ := [some (tabD t), some (.ref h.length), a2, a3, some (nat L.length), a5]) (ev_var (i := 0) (h := h ++ [.lst (L.map nat)]) (v := tabD t) rfl)
        obtain ⟨σ2, h2, g1, L2, b2, b3, b5, rfl, rfl, hq2, ⟨e, rfl⟩, hcl⟩ := for_ok (P := P) (C := callN P d) (t := .tup (.cons (.nm 2) (.cons (.nm 3) .nil))) (b := (.cons (.if_ (.and (.cmp .nin (.var 2) (.var 1)) (.any (.comp (.cmp .in_ (.var 5) (.var 1)) (.nm 5) (.seq (.of (.var 3))) .none [5]))) (.cons (.expr (.app (.var 1) (.var 2))) .nil) .nil) .nil)) hit
          (fun i σ h' => ∃ (L' : List Nat) (b2 b3 b5 : Option D), σ = [some (tabD t), some (.ref h.length), b2, b3, some (nat L.length), b5] ∧ h' = h ++ [.lst (L'.map nat)] ∧ Q L' ∧ (∃ e, L' = L ++ e) ∧ (L' = L → ∀ s, s < i → ∀ l, t[s]? = some (.go l) → (∃ y ∈ l, y ∈ L) → s ∈ L))
          (fun _ h _ => finE h) (fun i σ h' hi hI => by
            obtain ⟨L', b2, b3, b5, rfl, rfl, hq', ⟨e, rfl⟩, hcl⟩ := hI
            have hi' : i < t.length := by simpa [ivE] using hi
            have hr : t[i]? = some t[i] := List.getElem?_eq_getElem hi'
            generalize t[i] = r at *
            have hrow : r.ok sides many t.length := ht r (List.mem_of_getElem? hr)
            have hL' := nodup_le hq'.1 hq'.2.1
            generalize hσ : [some (tabD t), some (.ref h.length), some (nat i), some r.d, some (nat L.length), b5] = σ1
            refine ⟨.tup [nat i, r.d], σ1, by rw [getE, List.getElem?_map, hr]; rfl, by rw [← hσ]; rfl, ?_⟩
            have et : ev P (callN P d) (.cmp .nin (.var 2) (.var 1)) σ1 (h ++ [.lst ((L ++ e).map nat)]) = .ok (.bl (!decide (i ∈ L ++ e))) (h ++ [.lst ((L ++ e).map nat)]) := by
              rw [← hσ]; exact ev_cmp (ev_var rfl) (ev_var rfl) (nin_nats (last_get _ _) i)
            by_cases hm : i ∈ L ++ e
            · rw [decide_eq_true hm] at et
              refine ⟨_, _, (ex_nx ((ex_if (ev_andF et)).trans (by rw [if_neg (by decide)]; rfl))).trans ex_nil, L ++ e, some (nat i), some r.d, b5, hσ.symm, rfl, hq', ⟨e, rfl⟩, fun eq s hs' l hl hy => ?_⟩
              rcases Nat.lt_succ_iff_lt_or_eq.mp hs' with hs' | hs'
              · exact hcl eq s hs' l hl hy
              · subst hs'; rw [← eq]; exact hm
            · rw [decide_eq_false hm] at et
              cases r with
              | out o => exact absurd (hq'.2.2.1 i o hr) hm
              | go l =>
                have ea := comp_tup (P := P) (C := callN P d) (σ := σ1) (h := h ++ [.lst ((L ++ e).map nat)]) (h1 := h ++ [.lst ((L ++ e).map nat)]) (x := .var 3) (t := .nm 5) (own := [5]) (xs := l.map nat) (e := .cmp .in_ (.var 5) (.var 1)) (fun y => match y with
                  | .int k => .bl (decide (k.toNat ∈ L ++ e))
                  | _ => .non) (by rw [← hσ]; exact ev_var rfl) (by rw [List.length_map, hrow.1]; simp [LIM]; omega) (fun y hy => by
                    obtain ⟨q, hq, rfl⟩ := List.mem_map.mp hy
                    refine ⟨[some (tabD t), some (.ref h.length), some (nat i), some (Row.go l).d, some (nat L.length), some (nat q)], by rw [← hσ]; rfl, ?_⟩
                    exact ev_cmp (ev_var rfl) (ev_var rfl) (in_nats (last_get _ _) q))
                have ea2 : evL P (callN P d) (.comp (.cmp .in_ (.var 5) (.var 1)) (.nm 5) (.seq (.of (.var 3))) .none [5]) σ1 (h ++ [.lst ((L ++ e).map nat)]) = .ok (.new ((l.map fun y => decide (y ∈ L ++ e)).map .bl)) (h ++ [.lst ((L ++ e).map nat)]) := by
                  rw [ea]
                  congr 2
                  rw [List.map_map, List.map_map]
                  exact List.map_congr_left fun y _ => rfl
                have e3 := any_ok ea2
                have hand : ev P (callN P d) (.and (.cmp .nin (.var 2) (.var 1)) (.any (.comp (.cmp .in_ (.var 5) (.var 1)) (.nm 5) (.seq (.of (.var 3))) .none [5]))) σ1 (h ++ [.lst ((L ++ e).map nat)]) = .ok (.bl ((l.map fun y => decide (y ∈ L ++ e)).any id)) (h ++ [.lst ((L ++ e).map nat)]) := (ev_andT et).trans e3
                cases hany : (l.map fun y => decide (y ∈ L ++ e)).any id with
                | false =>
                  rw [hany] at hand
                  refine ⟨_, _, (ex_nx ((ex_if hand).trans (by rw [if_neg (by decide)]; rfl))).trans ex_nil, L ++ e, some (nat i), some (Row.go l).d, b5, hσ.symm, rfl, hq', ⟨e, rfl⟩, fun eq s hs' l' hl hy => ?_⟩
                  rcases Nat.lt_succ_iff_lt_or_eq.mp hs' with hs' | hs'
                  · exact hcl eq s hs' l' hl hy
                  · subst hs'
                    rw [hr] at hl
                    cases hl
                    obtain ⟨y, hy1, hy2⟩ := hy
                    rw [List.any_eq_false] at hany
                    exact absurd (hany (decide (y ∈ L ++ e)) (List.mem_map_of_mem hy1)) (by rw [decide_eq_true (by rw [eq]; exact hy2)]; simp)
                | true =>
                  rw [hany] at hand
                  obtain ⟨z, hz, hz2⟩ := List.any_eq_true.mp hany
                  obtain ⟨y, hy, rfl⟩ := List.mem_map.mp hz
                  have hy2 : y ∈ L ++ e := of_decide_eq_true hz2
                  have eap := ev_app (P := P) (C := callN P d) (σ := σ1) (h := h ++ [.lst ((L ++ e).map nat)]) (a := .var 1) (b := .var 2) (y := nat i) (by rw [← hσ]; exact ev_var rfl) (last_get _ _) (by rw [← hσ]; exact ev_var rfl) (last_get _ _) (by rw [List.length_map]; simp only [LIM]; omega)
                  rw [last_set] at eap
                  refine ⟨_, _, (ex_nx ((ex_if hand).trans (by rw [if_pos rfl, ex_nx (ex_expr eap)]; rfl))).trans ex_nil, (L ++ e) ++ [i], some (nat i), some (Row.go l).d, b5, hσ.symm, by simp, ⟨?_, ?_, ?_, ?_⟩, ⟨e ++ [i], by simp⟩, fun eq => ?_⟩
                  · rw [List.nodup_append]
                    exact ⟨hq'.1, by simp, fun x hx w hw => by simp at hw; subst hw; exact fun eq => hm (eq ▸ hx)⟩
                  · intro x hx
                    rcases List.mem_append.mp hx with hx | hx
                    · exact hq'.2.1 x hx
                    · simp at hx; subst hx; exact hi'
                  · exact fun s o hso => List.mem_append_left _ (hq'.2.2.1 s o hso)
                  · intro j s l' hj hl
                    by_cases hjl : j < (L ++ e).length
                    · rw [List.getElem?_append_left hjl] at hj
                      obtain ⟨j2, h1, y2, h2, h3⟩ := hq'.2.2.2 j s l' hj hl
                      exact ⟨j2, h1, y2, by rw [List.getElem?_append_left (by omega)]; exact h2, h3⟩
                    · have hje : j = (L ++ e).length := by
                        have := (List.getElem?_eq_some_iff.mp hj).1
                        simp at this hjl ⊢; omega
                      subst hje
                      rw [last_get] at hj
                      cases hj
                      rw [hr] at hl
                      cases hl
                      obtain ⟨j2, hj2, ey⟩ := List.getElem_of_mem hy2
                      exact ⟨j2, hj2, y, by rw [List.getElem?_append_left hj2, List.getElem?_eq_getElem hj2, ey], hy⟩
                  · have := congrArg List.length eq
                    simp at this)
          ⟨L, a2, a3, a5, rfl, rfl, hq, ⟨[], by simp⟩, fun _ s hs' => absurd hs' (Nat.not_lt_zero _)⟩
        have hq3 := nodup_le hq2.1 hq2.2.1
        refine ⟨_, _, 2 * (t.length - (L ++ e).length) + (if (L.length : Int) = ((L ++ e).length : Nat) then 0 else 1), (ex_nx f1).trans ((ex_nx g1).trans ex_nil), ?_, L ++ e, L.length, b2, b3, b5, rfl, rfl, hq2, fun eq => ?_, rfl⟩
        · rw [if_neg hk]
          have : (L ++ e).length = L.length + e.length := List.length_append
          split <;> omega
        · have hee : e = [] := by
            have : (L ++ e).length = L.length + e.length := List.length_append
            have h0 : e.length = 0 := by omega
            exact List.length_eq_zero_iff.mp h0
          subst hee
          rw [List.append_nil] at hcl ⊢
          exact fun s l hl hy => hcl rfl s (by simpa [ivE] using (List.getElem?_eq_some_iff.mp hl).1) l hl hy)
    ⟨L0, -1, none, none, none, rfl, rfl, ⟨n0, hb0, fun s o hso => (m0 s).mpr ⟨o, hso⟩, fun i s l hi hl => by
      obtain ⟨o, ho⟩ := (m0 s).mp (List.mem_of_getElem? hi)
      rw [hl] at ho; cases ho⟩, fun z => by omega, rfl⟩ (by rw [big_eq]; split <;> omega)
  have hk : k = (L.length : Nat) := by
    rw [ecw] at q3
    have := congrArg (fun r => match r with | R.ok (.bl b) _ => b | _ => true) q3
    simpa using this
  refine ⟨L, (congrArg (fun r => R.bnd r outOf) (ex_nx q1)).trans ?_, hq.1, hq.2.1, hq.2.2.1, hc hk, hq.2.2.2⟩
  rw [ex_rt (ex_ret (ev_var rfl))]; rfl
end
end PI

set_option maxRecDepth 100000
set_option maxHeartbeats 1000000
/-! QG: a table is a table. -/
namespace PI
open PySem
theorem full_length {L : List Nat} {n : Nat} (nd : L.Nodup) (hb : ∀ x ∈ L, x < n) (hf : ∀ s, s < n → s ∈ L) : L.length = n := by
  have h1 := nodup_le nd hb
  have h2 := List.Nodup.length_le_of_subset (l₁ := List.range n) (l₂ := L) List.nodup_range (fun x hx => hf x (by simpa using hx))
  simp at h2
  omega
/-- every state is reached, every state decides -/
structure TabFull (t : List Row) : Prop where
  reach : ∀ L : List Nat, 0 ∈ L → (∀ i ∈ L, ∀ r, t[i]? = some r → ∀ j ∈ r.succ, j ∈ L) → ∀ s, s < t.length → s ∈ L
  dec : ∀ L : List Nat, (∀ s o, t[s]? = some (.out o) → s ∈ L) → (∀ s l, t[s]? = some (.go l) → (∃ y ∈ l, y ∈ L) → s ∈ L) → ∀ s, s < t.length → s ∈ L
section
variable {P : Pg} {d : Nat} {h : Hh} {sides many : Nat} {t : List Row}
theorem is_table_ok (a : HasT P) (ht : TabOk sides many t) (hf : TabFull t) (hn : 0 < t.length) (hs : t.length ≤ 100) (hsd : sides ≤ 1000) :
    ∃ g, callN P (d + 4) 28 [nat sides, nat many, tabD t] h = .ok (.bl true) (h ++ g) := by
  obtain ⟨L, r1, nd, hb, h0, cl⟩ := reached_ok (d := d + 2) (h := h) a ht hn (by omega) hsd
  have lL := full_length nd hb (hf.reach L h0 cl)
  obtain ⟨L2, r2, nd2, hb2, o2, cl2, _⟩ := deciding_ok (d := d + 2) (h := h ++ [.lst (L.map nat)]) a ht (by omega) hsd
  have lL2 := full_length nd2 hb2 (hf.dec L2 o2 cl2)
  refine ⟨[.lst (L.map nat), .lst (L2.map nat)], ?_⟩
  rw [call_eq a.f28 (σ := [some (nat sides), some (nat many), some (tabD t), none]) rfl]
  unfold c_is_table_by
  generalize hσ : [some (nat sides), some (nat many), some (tabD t), none] = σ
  have v0 : ∀ h, ev P (callN P (d + 3)) (.var 0) σ h = .ok (nat sides) h := fun h => by rw [← hσ]; exact ev_var rfl
  have v1 : ∀ h, ev P (callN P (d + 3)) (.var 1) σ h = .ok (nat many) h := fun h => by rw [← hσ]; exact ev_var rfl
  have v2 : ∀ h, ev P (callN P (d + 3)) (.var 2) σ h = .ok (tabD t) h := fun h => by rw [← hσ]; exact ev_var rfl
  have vl : ∀ h, ev P (callN P (d + 3)) (.len (.of (.var 2))) σ h = .ok (nat t.length) h := fun h => by
    have z := ev_len (xs := t.map Row.d) (v2 h) rfl
    rw [List.length_map] at z
    exact z
  have e1 : ev P (callN P (d + 3)) (.or (.not (.isi (.var 2) .tuple)) (.not (.cmp2 .le .le (.int 1) (.len (.of (.var 2))) (.glo 6)))) σ h = .ok (.bl false) h := by
    have z : ev P (callN P (d + 3)) (.isi (.var 2) .tuple) σ h = .ok (.bl true) h := by
      rw [ev, v2, R.bnd_ok]; rfl
    have z2 := ev_not z
    rw [ev_orF z2]
    have z3 : ev P (callN P (d + 3)) (.cmp2 .le .le (.int 1) (.len (.of (.var 2))) (.glo 6)) σ h = .ok (.bl true) h := by
      rw [ev]
      simp only [vl, R.bnd_ok]
      rw [show ev P (callN P (d + 3)) (.int 1) σ h = .ok (.int 1) h from rfl, R.bnd_ok]
      rw [show cmpop .le (.int 1) (nat t.length) h = some (decide ((1 : Int) ≤ (t.length : Nat))) from rfl, decide_eq_true (by omega)]
      dsimp only
      rw [show ev P (callN P (d + 3)) (.glo 6) σ h = .ok (.int 100) h from by rw [ev, a.g6]; rfl, R.bnd_ok]
      rw [show cmpop .le (nat t.length) (.int 100) h = some (decide (((t.length : Nat) : Int) ≤ 100)) from rfl, decide_eq_true (by omega)]
      rfl
    exact ev_not z3
  rw [ex_nx (σ1 := σ) (h1 := h) ((ex_if e1).trans (by rw [if_neg (by decide)]; rfl))]
  have e2 : ev P (callN P (d + 3)) (.not (.all (.comp (.call 25 (.cons (.var 0) (.cons (.var 1) (.cons (.len (.of (.var 2))) (.cons (.var 3) .nil))))) (.nm 3) (.seq (.of (.var 2))) .none [3]))) σ h = .ok (.bl false) h := by
    have ea := comp_tup (P := P) (C := callN P (d + 3)) (σ := σ) (h := h) (h1 := h) (x := .var 2) (t := .nm 3) (own := [3]) (xs := t.map Row.d) (e := .call 25 (.cons (.var 0) (.cons (.var 1) (.cons (.len (.of (.var 2))) (.cons (.var 3) .nil))))) (fun _ => .bl true) (v2 h) (by rw [List.length_map]; simp only [LIM]; omega) (fun y hy => by
      obtain ⟨r, hr, rfl⟩ := List.mem_map.mp hy
      refine ⟨[some (nat sides), some (nat many), some (tabD t), some r.d], by rw [← hσ]; rfl, ?_⟩
      rw [ev_call (vs := [nat sides, nat many, nat t.length, r.d]) (h1 := h)]
      · exact is_state_ok a sides many t.length r (ht r hr) hsd
      · refine evs_cons (ev_var rfl) (evs_cons (ev_var rfl) (evs_cons ?_ (evs_cons (ev_var rfl) evs_nil)))
        have z := ev_len (P := P) (C := callN P (d + 3)) (σ := [some (nat sides), some (nat many), some (tabD t), some r.d]) (h := h) (xs := t.map Row.d) (ev_var (i := 2) rfl) rfl
        rw [List.length_map] at z
        exact z)
    have ea2 : evL P (callN P (d + 3)) (.comp (.call 25 (.cons (.var 0) (.cons (.var 1) (.cons (.len (.of (.var 2))) (.cons (.var 3) .nil))))) (.nm 3) (.seq (.of (.var 2))) .none [3]) σ h = .ok (.new ((t.map fun _ => true).map .bl)) h := by
      rw [ea, List.map_map, List.map_map]; rfl
    have e3 := all_ok ea2
    have hall : (t.map fun _ => true).all id = true := by simp
    rw [hall] at e3
    exact ev_not e3
  rw [ex_nx (σ1 := σ) (h1 := h) ((ex_if e2).trans (by rw [if_neg (by decide)]; rfl))]
  have c1 : ev P (callN P (d + 3)) (.cmp .eq (.len (.of (.call 26 (.cons (.var 2) (.cons (.int 0) .nil))))) (.len (.of (.var 2)))) σ h = .ok (.bl true) (h ++ [.lst (L.map nat)]) := by
    have k1 : ev P (callN P (d + 3)) (.call 26 (.cons (.var 2) (.cons (.int 0) .nil))) σ h = .ok (.ref h.length) (h ++ [.lst (L.map nat)]) := by
      rw [ev_call (vs := [tabD t, nat 0]) (h1 := h) (evs_cons (v2 h) (evs_cons rfl evs_nil))]
      exact r1
    have k2 := ev_len k1 (items_lst (last_get _ _))
    rw [List.length_map, lL] at k2
    have k3 := ev_cmp (o := .eq) k2 (vl _) (eq_int (i := (t.length : Nat)) (j := (t.length : Nat)))
    rw [decide_eq_true rfl] at k3
    exact k3
  have c2 : ev P (callN P (d + 3)) (.cmp .eq (.len (.of (.call 27 (.cons (.var 2) .nil)))) (.len (.of (.var 2)))) σ (h ++ [.lst (L.map nat)]) = .ok (.bl true) (h ++ [.lst (L.map nat), .lst (L2.map nat)]) := by
    have k1 : ev P (callN P (d + 3)) (.call 27 (.cons (.var 2) .nil)) σ (h ++ [.lst (L.map nat)]) = .ok (.ref (h ++ [O.lst (L.map nat)]).length) ((h ++ [.lst (L.map nat)]) ++ [.lst (L2.map nat)]) := by
      exact (ev_call (evs_cons (v2 _) evs_nil)).trans r2
    have k2 := ev_len k1 (items_lst (last_get _ _))
    rw [List.length_map, lL2] at k2
    have k3 := ev_cmp (o := .eq) k2 (vl _) (eq_int (i := (t.length : Nat)) (j := (t.length : Nat)))
    rw [decide_eq_true rfl] at k3
    refine k3.trans ?_
    rw [List.append_assoc]; rfl
  rw [ex_rt (ex_ret ((ev_andT c1).trans c2))]
  rfl
end
end PI

set_option maxRecDepth 100000
set_option maxHeartbeats 1000000
/-! QH: shares as lists of fractions: the algebra of an elimination. -/
namespace PI
open PySem
abbrev Mp := List (Nat × Rat)
def mlook (m : Mp) (k : Nat) : Option Rat := (m.find? fun kv => decide (kv.1 = k)).map (·.2)
def mput (m : Mp) (k : Nat) (q : Rat) : Mp := if (m.any fun kv => decide (kv.1 = k)) = true then m.map (fun kv => if kv.1 = k then (kv.1, q) else kv) else m ++ [(k, q)]
def mdrop (m : Mp) (k : Nat) : Mp := m.filter fun kv => decide (kv.1 ≠ k)
def madd (m : Mp) (k : Nat) (q : Rat) : Mp := mput m k ((mlook m k).getD 0 + q)
def keys (m : Mp) : List Nat := m.map (·.1)
def msum (v : Nat → Rat) (m : Mp) : Rat := (m.map fun kv => kv.2 * v kv.1).sum
/-- as the interpreter's dict -/
def dctM (m : Mp) : List (Int × D) := m.map fun kv => ((kv.1 : Int), fr kv.2)
theorem dlook_M (m : Mp) (k : Nat) : dlook (dctM m) k = (mlook m k).map fr := by
  induction m with
  | nil => rfl
  | cons a m ih =>
    unfold dlook mlook dctM at *
    simp only [List.map_cons, List.find?_cons]
    by_cases h : a.1 = k
    · have : ((a.1 : Int) = (k : Int)) := by omega
      simp [h]
    · have h2 : ¬ ((a.1 : Int) = (k : Int)) := by omega
      simp only [decide_eq_false h, decide_eq_false h2]
      exact ih
theorem any_M (m : Mp) (k : Nat) : ((dctM m).any fun kv => decide (kv.1 = (k : Int))) = (m.any fun kv => decide (kv.1 = k)) := by
  unfold dctM
  rw [List.any_map]
  congr 1
  funext kv
  simp only [Function.comp]
  rw [decide_eq_decide]
  omega
theorem dput_M (m : Mp) (k : Nat) (q : Rat) : dput (dctM m) k (fr q) = dctM (mput m k q) := by
  unfold dput mput
  rw [any_M]
  split
  · unfold dctM
    rw [List.map_map, List.map_map]
    refine List.map_congr_left fun kv _ => ?_
    simp only [Function.comp]
    by_cases h : kv.1 = k
    · rw [if_pos h, if_pos (show (kv.1 : Int) = k by omega)]
    · rw [if_neg h, if_neg (show ¬ (kv.1 : Int) = k by omega)]
  · unfold dctM
    rw [List.map_append]; rfl
theorem ddrop_M (m : Mp) (k : Nat) : ddrop (dctM m) k = dctM (mdrop m k) := by
  unfold ddrop mdrop dctM
  rw [List.filter_map]
  congr 1
  refine List.filter_congr fun kv _ => ?_
  simp only [Function.comp]
  rw [decide_eq_decide]
  omega
theorem keys_put (m : Mp) (k : Nat) (q : Rat) : keys (mput m k q) = if k ∈ keys m then keys m else keys m ++ [k] := by
  unfold mput keys
  by_cases h : (m.any fun kv => decide (kv.1 = k)) = true
  · rw [if_pos h, if_pos]
    · rw [List.map_map]
      refine List.map_congr_left fun kv _ => ?_
      simp only [Function.comp]
      split <;> rfl
    · obtain ⟨kv, h1, h2⟩ := List.any_eq_true.mp h
      exact List.mem_map.mpr ⟨kv, h1, of_decide_eq_true h2⟩
  · rw [if_neg h, if_neg]
    · simp
    · intro hm
      obtain ⟨kv, h1, h2⟩ := List.mem_map.mp hm
      exact h (List.any_eq_true.mpr ⟨kv, h1, decide_eq_true h2⟩)
theorem nodup_put {m : Mp} {k : Nat} {q : Rat} (h : (keys m).Nodup) : (keys (mput m k q)).Nodup := by
  rw [keys_put]
  split
  · exact h
  · rename_i hk
    rw [List.nodup_append]
    exact ⟨h, by simp, fun a ha b hb => by simp at hb; subst hb; exact fun e => hk (e ▸ ha)⟩
theorem mlook_mem {m : Mp} {k : Nat} {q : Rat} (h : mlook m k = some q) : (k, q) ∈ m := by
  unfold mlook at h
  obtain ⟨kv, h1, h2⟩ := Option.map_eq_some_iff.mp h
  have e := List.find?_some h1
  have e : kv.1 = k := by simpa using e
  have := List.mem_of_find?_eq_some h1
  obtain ⟨a, b⟩ := kv
  simp at e h2
  subst e h2
  exact this
theorem mlook_none {m : Mp} {k : Nat} : mlook m k = none ↔ k ∉ keys m := by
  unfold mlook keys
  rw [Option.map_eq_none_iff, List.find?_eq_none]
  constructor
  · intro h hm
    obtain ⟨kv, h1, h2⟩ := List.mem_map.mp hm
    exact h kv h1 (by simpa using h2)
  · intro h kv hkv e
    exact h (List.mem_map.mpr ⟨kv, hkv, by simpa using e⟩)
theorem msum_nil (v : Nat → Rat) : msum v [] = 0 := rfl
theorem msum_cons (v : Nat → Rat) (a : Nat × Rat) (m : Mp) : msum v (a :: m) = a.2 * v a.1 + msum v m := by
  unfold msum; rw [List.map_cons, List.sum_cons]
theorem msum_append (v : Nat → Rat) (m n : Mp) : msum v (m ++ n) = msum v m + msum v n := by
  induction m with
  | nil => rw [List.nil_append, msum_nil]; grind
  | cons a m ih => rw [List.cons_append, msum_cons, msum_cons, ih]; grind
/-- the sum when one key's part is replaced -/
theorem msum_put (v : Nat → Rat) {m : Mp} (h : (keys m).Nodup) (k : Nat) (q : Rat) : msum v (mput m k q) + (mlook m k).getD 0 * v k = msum v m + q * v k := by
  induction m with
  | nil => simp [mput, mlook, msum]; grind
  | cons a m ih =>
    obtain ⟨h1, h2⟩ := List.nodup_cons.mp (show (a.1 :: keys m).Nodup from h)
    by_cases e : a.1 = k
    · have hnot : ∀ kv ∈ m, kv.1 ≠ k := fun kv hkv z => h1 (e ▸ z ▸ List.mem_map_of_mem (f := (·.1)) hkv)
      have e1 : mput (a :: m) k q = (a.1, q) :: m := by
        unfold mput
        rw [if_pos (by simp [e]), List.map_cons, if_pos e]
        congr 1
        have : m.map (fun kv => if kv.1 = k then (kv.1, q) else kv) = m.map id := List.map_congr_left fun kv hkv => if_neg (hnot kv hkv)
        rw [this, List.map_id]
      have e2 : mlook (a :: m) k = some a.2 := by unfold mlook; rw [List.find?_cons]; simp [e]
      rw [e1, e2, msum_cons, msum_cons, e]
      simp only [Option.getD_some]
      grind
    · have e2 : mlook (a :: m) k = mlook m k := by unfold mlook; rw [List.find?_cons]; simp [e]
      have e1 : mput (a :: m) k q = a :: mput m k q := by
        unfold mput
        by_cases hh : (m.any fun kv => decide (kv.1 = k)) = true
        · rw [if_pos hh, if_pos (by rw [List.any_cons, hh]; simp), List.map_cons, if_neg e]
        · rw [if_neg hh, if_neg (by rw [List.any_cons]; simp [e, hh])]; rfl
      have := ih h2
      rw [e1, e2, msum_cons, msum_cons]
      grind
theorem msum_add (v : Nat → Rat) {m : Mp} (h : (keys m).Nodup) (k : Nat) (q : Rat) : msum v (madd m k q) = msum v m + q * v k := by
  have := msum_put v h k ((mlook m k).getD 0 + q)
  unfold madd
  grind
theorem msum_drop (v : Nat → Rat) {m : Mp} (h : (keys m).Nodup) (k : Nat) : msum v (mdrop m k) + (mlook m k).getD 0 * v k = msum v m := by
  induction m with
  | nil => simp [mdrop, mlook, msum]; grind
  | cons a m ih =>
    obtain ⟨h1, h2⟩ := List.nodup_cons.mp (show (a.1 :: keys m).Nodup from h)
    have := ih h2
    by_cases e : a.1 = k
    · have hnone : mlook m k = none := mlook_none.mpr (e ▸ h1)
      have e2 : mlook (a :: m) k = some a.2 := by unfold mlook; rw [List.find?_cons]; simp [e]
      have e1 : mdrop (a :: m) k = mdrop m k := by unfold mdrop; rw [List.filter_cons]; simp [e]
      rw [hnone] at this
      rw [e1, e2, msum_cons, e]
      simp only [Option.getD_some, Option.getD_none] at *
      grind
    · have e2 : mlook (a :: m) k = mlook m k := by unfold mlook; rw [List.find?_cons]; simp [e]
      have e1 : mdrop (a :: m) k = a :: mdrop m k := by unfold mdrop; rw [List.filter_cons]; simp [e]
      rw [e1, e2, msum_cons, msum_cons]
      grind
theorem nodup_drop {m : Mp} {k : Nat} (h : (keys m).Nodup) : (keys (mdrop m k)).Nodup := by
  unfold keys mdrop
  exact h.sublist (List.Sublist.map _ List.filter_sublist)
/-- a row put into another -/
def mmix (m : Mp) (share : Rat) (m2 : Mp) : Mp := m2.foldl (fun a kv => madd a kv.1 (share * kv.2)) m
theorem nodup_mix {m m2 : Mp} {s : Rat} (h : (keys m).Nodup) : (keys (mmix m s m2)).Nodup := by
  unfold mmix
  induction m2 generalizing m with
  | nil => exact h
  | cons a m2 ih => exact ih (nodup_put h)
theorem msum_mix (v : Nat → Rat) {m m2 : Mp} {s : Rat} (h : (keys m).Nodup) : msum v (mmix m s m2) = msum v m + s * msum v m2 := by
  unfold mmix
  induction m2 generalizing m with
  | nil => rw [List.foldl_nil, msum_nil]; grind
  | cons a m2 ih =>
    rw [List.foldl_cons, ih (m := madd m a.1 (s * a.2)) (nodup_put h), msum_add v h, msum_cons]
    grind
def mscale (m : Mp) (r : Rat) : Mp := m.map fun kv => (kv.1, kv.2 / r)
theorem keys_scale (m : Mp) (r : Rat) : keys (mscale m r) = keys m := by
  unfold keys mscale
  rw [List.map_map]; rfl
theorem msum_scale (v : Nat → Rat) (m : Mp) (r : Rat) : msum v (mscale m r) = msum v m / r := by
  unfold mscale
  induction m with
  | nil => rw [List.map_nil, msum_nil]; grind
  | cons a m ih => rw [List.map_cons, msum_cons, msum_cons, ih]; grind
/-- all parts satisfy p -/
def MAll (p : Rat → Prop) (m : Mp) : Prop := ∀ kv ∈ m, p kv.2
theorem mem_put {m : Mp} {k : Nat} {q : Rat} {kv : Nat × Rat} (h : kv ∈ mput m k q) : kv ∈ m ∨ kv = (k, q) := by
  unfold mput at h
  split at h
  · obtain ⟨a, h1, h2⟩ := List.mem_map.mp h
    split at h2
    · rename_i e; right; rw [← h2, e]
    · left; exact h2 ▸ h1
  · rcases List.mem_append.mp h with h | h
    · exact .inl h
    · exact .inr (by simpa using h)
end PI

set_option maxRecDepth 100000
set_option maxHeartbeats 1000000
/-! QI: common denominators, bounds. -/
namespace PI
open PySem
/-- D is a denominator of x -/
def Di (D : Nat) (x : Rat) : Prop := ∃ z : Int, x * (D : Rat) = (z : Rat)
theorem num_den (x : Rat) : (x.num : Rat) / (x.den : Rat) = x := by
  rw [show ((x.den : Rat)) = ((x.den : Int) : Rat) from rfl, ← Rat.divInt_eq_div]; exact Rat.num_divInt_den x
theorem den_pos (x : Rat) : (0 : Rat) < (x.den : Rat) := by
  have := x.den_pos
  exact Rat.natCast_pos.mpr this
theorem Di.dvd {D : Nat} {x : Rat} (h : Di D x) : x.den ∣ D := by
  obtain ⟨z, e⟩ := h
  have hx := num_den x
  have hp := den_pos x
  have e2 : (x.num : Rat) * (D : Rat) = (z : Rat) * (x.den : Rat) := by
    rw [← e]
    have : (x.num : Rat) = x * (x.den : Rat) := by
      have hne : (x.den : Rat) ≠ 0 := by grind
      have h3 : (x.num : Rat) / (x.den : Rat) * (x.den : Rat) = (x.num : Rat) := by grind
      rw [← h3, hx]
    rw [this]; grind
  have e3 : x.num * (D : Int) = z * (x.den : Int) := by
    have : ((x.num * (D : Int) : Int) : Rat) = ((z * (x.den : Int) : Int) : Rat) := by
      rw [Rat.intCast_mul, Rat.intCast_mul]
      exact e2
    exact Rat.intCast_inj.mp this
  have e4 : x.den ∣ x.num.natAbs * D := by
    have := congrArg Int.natAbs e3
    rw [Int.natAbs_mul, Int.natAbs_mul] at this
    simp only [Int.natAbs_natCast] at this
    exact ⟨z.natAbs, by rw [this, Nat.mul_comm]⟩
  exact (Nat.Coprime.dvd_of_dvd_mul_left x.reduced.symm e4)
theorem Di.add {D : Nat} {x y : Rat} (h1 : Di D x) (h2 : Di D y) : Di D (x + y) := by
  obtain ⟨a, e1⟩ := h1
  obtain ⟨b, e2⟩ := h2
  exact ⟨a + b, by rw [Rat.intCast_add, ← e1, ← e2]; grind⟩
theorem Di.sub {D : Nat} {x y : Rat} (h1 : Di D x) (h2 : Di D y) : Di D (x - y) := by
  obtain ⟨a, e1⟩ := h1
  obtain ⟨b, e2⟩ := h2
  exact ⟨a - b, by rw [Rat.intCast_sub, ← e1, ← e2]; grind⟩
theorem Di.mul {D E : Nat} {x y : Rat} (h1 : Di D x) (h2 : Di E y) : Di (D * E) (x * y) := by
  obtain ⟨a, e1⟩ := h1
  obtain ⟨b, e2⟩ := h2
  exact ⟨a * b, by rw [Rat.intCast_mul, ← e1, ← e2, Rat.natCast_mul]; grind⟩
theorem Di.up {D : Nat} {x : Rat} (h1 : Di D x) (E : Nat) : Di (D * E) x := by
  obtain ⟨a, e1⟩ := h1
  exact ⟨a * E, by rw [Rat.intCast_mul, ← e1, Rat.natCast_mul]; show _ = x * ↑D * ((E : Int) : Rat); rw [show ((E : Int) : Rat) = (E : Rat) from rfl]; grind⟩
theorem Di.int (D : Nat) (z : Int) : Di D (z : Rat) := ⟨z * D, by rw [Rat.intCast_mul]; rfl⟩
theorem Di.zero (D : Nat) : Di D 0 := ⟨0, by grind⟩
theorem Di.one (D : Nat) : Di D 1 := ⟨D, by show 1 * (D : Rat) = ((D : Int) : Rat); rw [show ((D : Int) : Rat) = (D : Rat) from rfl]; grind⟩
/-- what is divided by the rest -/
theorem Di.div {D D' : Nat} {x r : Rat} (h1 : Di D x) (hr : r * (D : Rat) = (D' : Rat)) (h0 : r ≠ 0) : Di D' (x / r) := by
  obtain ⟨a, e1⟩ := h1
  exact ⟨a, by rw [← e1, ← hr]; grind⟩
theorem Di.rest {D : Nat} {p : Rat} (h : Di D p) (hD : 0 < D) (hp : 0 ≤ p) (h1 : p < 1) : ∃ D' : Nat, (1 - p) * (D : Rat) = (D' : Rat) ∧ 0 < D' ∧ D' ≤ D := by
  obtain ⟨z, e⟩ := h
  have hDr : (0 : Rat) < (D : Rat) := Rat.natCast_pos.mpr hD
  have hz0 : (0 : Rat) ≤ (z : Rat) := by rw [← e]; exact Rat.mul_nonneg hp (Rat.le_of_lt hDr)
  have hz1 : (z : Rat) < (D : Rat) := by
    rw [← e]
    have := Rat.mul_lt_mul_of_pos_right h1 hDr
    grind
  have hz0' : 0 ≤ z := Rat.intCast_nonneg.mp hz0
  have hz1' : z < (D : Int) := Rat.intCast_lt_intCast.mp (show (z : Rat) < ((D : Int) : Rat) from hz1)
  refine ⟨D - z.toNat, ?_, by omega, by omega⟩
  have ez : ((D - z.toNat : Nat) : Rat) = (D : Rat) - (z : Rat) := by
    have h : ((D - z.toNat : Nat) : Int) = (D : Int) - z := by omega
    calc ((D - z.toNat : Nat) : Rat) = (((D - z.toNat : Nat) : Int) : Rat) := rfl
      _ = (((D : Int) - z : Int) : Rat) := by rw [h]
      _ = ((D : Int) : Rat) - (z : Rat) := Rat.intCast_sub ..
      _ = (D : Rat) - (z : Rat) := rfl
  rw [ez, ← e]
  grind
theorem okF_of {D M : Nat} {x : Rat} (h : Di D x) (hD : 0 < D) (h1 : D.log2 < 4400) (h0 : 0 ≤ x) (hM : x ≤ (M : Rat)) (h2 : M.log2 < 50000) : okF x ∧ x.den ≤ D ∧ x.num.natAbs ≤ M * D := by
  have hd : x.den ≤ D := Nat.le_of_dvd hD h.dvd
  have hp := den_pos x
  have hx := num_den x
  have hn0 : 0 ≤ x.num := Rat.num_nonneg.mpr h0
  have hnum : (x.num : Rat) ≤ (M : Rat) * (x.den : Rat) := by
    have e : (x.num : Rat) = x * (x.den : Rat) := by
      have hne : (x.den : Rat) ≠ 0 := by grind
      have h3 : (x.num : Rat) / (x.den : Rat) * (x.den : Rat) = (x.num : Rat) := by grind
      rw [← h3, hx]
    rw [e]
    exact Rat.mul_le_mul_of_nonneg_right hM (Rat.le_of_lt hp)
  have hnum2 : x.num ≤ (M * x.den : Nat) := by
    have : (x.num : Rat) ≤ (((M * x.den : Nat) : Int) : Rat) := by
      refine Rat.le_trans hnum ?_
      rw [show (((M * x.den : Nat) : Int) : Rat) = ((M * x.den : Nat) : Rat) from rfl, Rat.natCast_mul]
      exact Rat.le_refl
    exact Rat.intCast_le_intCast.mp this
  have hb : x.num.natAbs ≤ M * D := by
    have h5 : x.num.natAbs ≤ M * x.den := by omega
    exact Nat.le_trans h5 (Nat.mul_le_mul_left _ hd)
  refine ⟨⟨Nat.lt_of_le_of_lt (log2_mono hd) h1, ?_⟩, hd, hb⟩
  have h6 := log2_mono hb
  have h7 := log2_mul_le M D
  omega
end PI

set_option maxRecDepth 100000
set_option maxHeartbeats 1000000
/-! QJ: a row put into another, on the interpreter. -/
namespace PI
open PySem
section
variable {P : Pg} {C : Nat → List D → Hh → R D} {σ : Sto} {h : Hh}
theorem forI_ok {t : Tg} {e : E} {b : Ss} {a : Nat} {kvs : List (Int × D)} (hk : h[a]? = some (.dct kvs)) (e1 : ∃ h', ev P C e σ h = .ok (.ref a) h') (e2 : ev P C e σ (h.set a (.fdc kvs)) = .ok (.ref a) (h.set a (.fdc kvs)))
    (I : Nat → Sto → Hh → Prop) (hl : ∀ σ h', I kvs.length σ h' → h'[a]? = some (.fdc kvs))
    (step : ∀ i σ h', i < kvs.length → I i σ h' → ∃ kv σ1, kvs[i]? = some kv ∧ asT t (.tup [.int kv.1, kv.2]) σ = some σ1 ∧ ∃ σ2 h2, execs P C b σ1 h' = .ok (.nx σ2) h2 ∧ I (i + 1) σ2 h2) (hi : I 0 σ (h.set a (.fdc kvs))) :
    ∃ σ' h', exec P C (.forI t e b) σ h = .ok (.nx σ') (h'.set a (.dct kvs)) ∧ I kvs.length σ' h' := by
  obtain ⟨h0, e1⟩ := e1
  obtain ⟨σ', h', q1, q2⟩ := for_rule (fin := fun _ => true) (get := fun _ => kvAt kvs) (t := t) (body := fun σ h => execs P C b σ h) kvs.length I (fun _ _ _ => rfl) (fun i σ h' hi hI => by
    obtain ⟨kv, σ1, k1, k2, k3⟩ := step i σ h' hi hI
    exact ⟨_, σ1, by unfold kvAt; rw [k1]; rfl, k2, k3⟩) kvs.length 0 σ (h.set a (.fdc kvs)) (by omega) hi
  refine ⟨σ', h', ?_, q2⟩
  have hlk : lock a h = some (kvs, h.set a (.fdc kvs)) := by unfold lock; rw [hk]
  have hth : thaw a h' = some (h'.set a (.dct kvs)) := by unfold thaw; rw [hl σ' h' q2]
  rw [exec]
  simp only [e1, hlk, e2, R.bnd_ok]
  rw [if_pos (show isRef a (.ref a) = true by simp [isRef])]
  rw [show forGo (fun _ => true) (fun _ => kvAt kvs) t (fun σ h => execs P C b σ h) kvs.length 0 σ (h.set a (.fdc kvs)) = _ from q1]
  simp only [R.bnd_ok, hth]
theorem ev_dictOf {a : E} {r : Nat} {kvs : List (Int × D)} {h1 : Hh} (e : ev P C a σ h = .ok (.ref r) h1) (hk : h1[r]? = some (.dct kvs)) : ev P C (.dictOf a) σ h = .ok (.ref h1.length) (h1 ++ [.dct kvs]) := by
  rw [ev, e, R.bnd_ok]
  have : dctOf h1 r = some kvs := by unfold dctOf; rw [hk]
  simp only [this]; rfl
theorem ev_pop {a b : E} {r : Nat} {kvs : List (Int × D)} {k : Int} {v : D} {h1 h2 : Hh} (e : ev P C a σ h = .ok (.ref r) h1) (h0 : ∃ kv, dctOf h1 r = some kv) (eb : ev P C b σ h1 = .ok (.int k) h2) (hk : h2[r]? = some (.dct kvs)) (hv : dlook kvs k = some v) :
    ev P C (.pop a b) σ h = .ok v (h2.set r (.dct (ddrop kvs k))) := by
  obtain ⟨kv, h0⟩ := h0
  rw [ev, e, R.bnd_ok]
  simp only [h0, eb, R.bnd_ok, hk, hv]
theorem ev_get {a b c : E} {r : Nat} {kvs kv0 : List (Int × D)} {k : Int} {z : D} {h1 h2 h3 : Hh} (e : ev P C a σ h = .ok (.ref r) h1) (h0 : dctOf h1 r = some kv0) (eb : ev P C b σ h1 = .ok (.int k) h2) (ec : ev P C c σ h2 = .ok z h3) (hk : dctOf h3 r = some kvs) :
    ev P C (.get a b c) σ h = .ok ((dlook kvs k).getD z) h3 := by
  rw [ev, e, R.bnd_ok]
  simp only [h0, eb, ec, R.bnd_ok, hk]
theorem dctOf_at {r : Nat} {kvs : List (Int × D)} (e : h[r]? = some (.dct kvs)) : dctOf h r = some kvs := by unfold dctOf; rw [e]
theorem ex_sub {o i x : E} {r : Nat} {k : Int} {v : D} {kvs : List (Int × D)} {h1 h2 h3 : Hh} (ev1 : ev P C x σ h = .ok v h1) (eo : ev P C o σ h1 = .ok (.ref r) h2) (ei : ev P C i σ h2 = .ok (.int k) h3) (hk : h3[r]? = some (.dct kvs)) (hl : kvs.length < LIM) :
    exec P C (.sub o i x) σ h = .ok (.nx σ) (h3.set r (.dct (dput kvs k v))) := by
  rw [exec, ev1, R.bnd_ok, eo, R.bnd_ok, ei, R.bnd_ok]
  have : setop (.ref r) (.int k) v h3 = some (h3.set r (.dct (dput kvs k v))) := by
    unfold setop
    simp only [hk, if_pos hl]
  rw [this]
theorem idx_lst {r : Nat} {xs : List D} {i : Nat} {x : D} (hr : h[r]? = some (.lst xs)) (hx : xs[i]? = some x) (hi : i < 1000000) : idxop (.ref r) (nat i) h = some x := by
  show (match h[r]? with
    | some (.lst xs) => L2.atI xs (i : Nat)
    | some (.dct kvs) => dlook kvs (i : Nat)
    | some (.fdc kvs) => dlook kvs (i : Nat)
    | _ => none) = _
  rw [hr]
  exact atI_nat hx hi
/-- what walks two lists -/
theorem zip_lst {x y : E} {r s : Nat} {xs ys : List D} (ex : ev P C x σ h = .ok (.ref r) h) (ey : ev P C y σ h = .ok (.ref s) h) (hr : h[r]? = some (.lst xs)) (hs : h[s]? = some (.lst ys)) : ∃ iv, evIt P C (.zip (.of x) (.of y)) σ h = .ok iv h ∧ iv.n = min xs.length ys.length ∧ iv.fin h = true ∧
    ∀ i (u w : D), xs[i]? = some u → ys[i]? = some w → iv.get h i = some (.tup [u, w]) := by
  simp only [evIt, evL, ex, ey, R.bnd_ok]
  have i1 : (LV.val (.ref r)).items h = some xs := items_lst hr
  have i2 : (LV.val (.ref s)).items h = some ys := items_lst hs
  simp only [i1, i2]
  refine ⟨_, rfl, rfl, ?_, fun i u w hu hw => ?_⟩
  · show (LV.fin (.val (.ref r)) xs.length h && LV.fin (.val (.ref s)) ys.length h) = true
    unfold LV.fin
    rw [i1, i2]
    simp
  · have a1 : (LV.val (.ref r)).at_ xs.length h i = some u := by unfold LV.at_; rw [i1]; simp [hu]
    have a2 : (LV.val (.ref s)).at_ ys.length h i = some w := by unfold LV.at_; rw [i2]; simp [hw]
    simp only [a1, a2]
theorem comp_zip {x y : E} {t : Tg} {e : E} {own : List Nat} {r s : Nat} {xs ys : List D} (ex : ev P C x σ h = .ok (.ref r) h) (ey : ev P C y σ h = .ok (.ref s) h) (hr : h[r]? = some (.lst xs)) (hs : h[s]? = some (.lst ys)) (hlen : xs.length = ys.length) (hl : xs.length ≤ LIM) (v : Nat → D)
    (step : ∀ i (u w : D), xs[i]? = some u → ys[i]? = some w → ∃ σ1, asT t (.tup [u, w]) (wipe σ own) = some σ1 ∧ ev P C e σ1 h = .ok (v i) h) :
    evL P C (.comp e t (.zip (.of x) (.of y)) .none own) σ h = .ok (.new ((List.range' 0 xs.length).map v)) h := by
  obtain ⟨iv, q1, q2, q3, q4⟩ := zip_lst ex ey hr hs
  have qn : iv.n = xs.length := by rw [q2, ← hlen]; simp
  rw [evL, q1, R.bnd_ok, if_pos (by rw [qn]; exact hl), qn]
  have key := lc_pure (fin := iv.fin) (get := iv.get) (bind := fun x => asT t x (wipe σ own)) (test := fun σ1 h => (evC P C .none σ1 h).nox) (elt := fun σ1 h => (ev P C e σ1 h).nox) (h := h) xs.length v q3 (fun i hi => by
    have h1 : xs[i]? = some xs[i] := List.getElem?_eq_getElem hi
    have h2 : ys[i]? = some (ys[i]'(by omega)) := List.getElem?_eq_getElem (by omega)
    obtain ⟨σ1, k1, k2⟩ := step i _ _ h1 h2
    exact ⟨_, σ1, q4 i _ _ h1 h2, k1, by simp only [evC, R.nox_ok], by rw [k2, R.nox_ok]⟩) xs.length 0 (by omega)
  rw [key]; rfl
end
theorem set_app {h : Hh} {g : List O} {a : Nat} {o : O} (ha : a < h.length) : (h ++ g).set a o = h.set a o ++ g := List.set_append_left _ _ ha
theorem get_app {h : Hh} {g : List O} {a : Nat} {o : O} (e : h[a]? = some o) : (h ++ g)[a]? = some o := by
  rw [List.getElem?_append_left (List.getElem?_eq_some_iff.mp e).1]; exact e
theorem set_back {h : Hh} {a : Nat} {o o' : O} (e : h[a]? = some o) : (h.set a o').set a o = h := by
  rw [List.set_set]
  obtain ⟨h1, h2⟩ := List.getElem?_eq_some_iff.mp e
  rw [← h2]
  exact List.set_getElem_self h1
theorem getD_fr (o : Option Rat) : (o.map fr).getD (fr 0) = fr (o.getD 0) := by cases o <;> rfl
section
variable {P : Pg} {d : Nat} {h : Hh}
theorem put_in_ok (a : HasT P) {aS aC p o sp so cp co : Nat} {S C : List Nat} {m m2 : Mp} {c c2 : List Rat} {share : Rat} (hS : h[aS]? = some (.lst (S.map .ref))) (hC : h[aC]? = some (.lst (C.map .ref)))
    (h1 : S[p]? = some sp) (h2 : S[o]? = some so) (h3 : C[p]? = some cp) (h4 : C[o]? = some co) (h5 : h[sp]? = some (.dct (dctM m))) (h6 : h[so]? = some (.dct (dctM m2))) (h7 : h[cp]? = some (.lst (c.map fr))) (h8 : h[co]? = some (.lst (c2.map fr)))
    (hlen : c.length = c2.length) (hcl : c.length ≤ 1000) (hm : mlook m o = some share) (hpo : p < 1000 ∧ o < 1000) (hne : so ≠ aS ∧ so ≠ aC) (oks : okF share)
    (okm : ∀ (i k : Nat) (x : Rat), m2[i]? = some (k, x) → okF x ∧ okF (share * x) ∧ okF ((mlook (mmix (mdrop m o) share (m2.take i)) k).getD 0) ∧ (mmix (mdrop m o) share (m2.take i)).length < 1000)
    (okc : ∀ (i : Nat) (x y : Rat), c[i]? = some x → c2[i]? = some y → okF x ∧ okF y ∧ okF (share * y)) :
    callN P (d + 4) 30 [.ref aS, .ref aC, nat p, nat o] h = .ok (.tup [.ref h.length, .ref (h.length + 1)]) (h ++ [.dct (dctM (mmix (mdrop m o) share m2)), .lst ((List.zipWith (fun x y => x + share * y) c c2).map fr)]) := by
  rw [call_eq a.f30 (σ := [some (.ref aS), some (.ref aC), some (nat p), some (nat o), none, none, none, none, none, none, none]) rfl]
  unfold c_put_in
  have hsoL : so < h.length := (List.getElem?_eq_some_iff.mp h6).1
  have iS : ∀ (i r : Nat), S[i]? = some r → i < 1000 → ∀ h' : Hh, h'[aS]? = some (.lst (S.map .ref)) → idxop (.ref aS) (nat i) h' = some (.ref r) := fun i r e hi h' e' => idx_lst e' (by rw [List.getElem?_map, e]; rfl) (by omega)
  have iC : ∀ (i r : Nat), C[i]? = some r → i < 1000 → ∀ h' : Hh, h'[aC]? = some (.lst (C.map .ref)) → idxop (.ref aC) (nat i) h' = some (.ref r) := fun i r e hi h' e' => idx_lst e' (by rw [List.getElem?_map, e]; rfl) (by omega)
  -- own = dict(shares[place])
  have e1 : exec P (callN P (d + 3)) (.set (.nm 4) (.dictOf (.idx (.var 0) (.var 2)))) [some (.ref aS), some (.ref aC), some (nat p), some (nat o), none, none, none, none, none, none, none] h = .ok (.nx [some (.ref aS), some (.ref aC), some (nat p), some (nat o), some (.ref h.length), none, none, none, none, none, none]) (h ++ [.dct (dctM m)]) :=
    ex_set (ev_dictOf (ev_idx (ev_var rfl) (ev_var rfl) (iS p sp h1 hpo.1 h hS)) h5) rfl
  rw [ex_nx e1]
  -- share = own.pop(other)
  have e2 : exec P (callN P (d + 3)) (.set (.nm 5) (.pop (.var 4) (.var 3))) [some (.ref aS), some (.ref aC), some (nat p), some (nat o), some (.ref h.length), none, none, none, none, none, none] (h ++ [.dct (dctM m)]) = .ok (.nx [some (.ref aS), some (.ref aC), some (nat p), some (nat o), some (.ref h.length), some (fr share), none, none, none, none, none]) (h ++ [.dct (dctM (mdrop m o))]) := by
    have z := ev_pop (P := P) (C := callN P (d + 3)) (σ := [some (.ref aS), some (.ref aC), some (nat p), some (nat o), some (.ref h.length), none, none, none, none, none, none]) (h := h ++ [.dct (dctM m)]) (a := .var 4) (b := .var 3) (k := o) (v := fr share) (ev_var rfl) ⟨_, dctOf_at (last_get _ _)⟩ (ev_var rfl) (last_get _ _) (by rw [dlook_M, hm]; rfl)
    rw [last_set, ddrop_M] at z
    exact ex_set z rfl
  rw [ex_nx e2]
  -- the loop
  obtain ⟨σ3, h3', q1, a6, a7, rfl, rfl⟩ := forI_ok (P := P) (C := callN P (d + 3)) (σ := [some (.ref aS), some (.ref aC), some (nat p), some (nat o), some (.ref h.length), some (fr share), none, none, none, none, none]) (h := h ++ [.dct (dctM (mdrop m o))])
    (t := .tup (.cons (.nm 6) (.cons (.nm 7) .nil))) (e := .idx (.var 0) (.var 3)) (b := .cons (.sub (.var 4) (.var 6) (.call 4 (.cons (.get (.var 4) (.var 6) (.glo 0)) (.cons (.call 6 (.cons (.var 5) (.cons (.var 7) .nil))) .nil)))) .nil) (a := so) (kvs := dctM m2) (get_app h6)
    ⟨_, ev_idx (ev_var rfl) (ev_var rfl) (iS o so h2 hpo.2 _ (get_app hS))⟩
    (ev_idx (ev_var rfl) (ev_var rfl) (iS o so h2 hpo.2 _ (by rw [List.getElem?_set_ne hne.1]; exact get_app hS)))
    (fun i σ h' => ∃ a6 a7 : Option D, σ = [some (.ref aS), some (.ref aC), some (nat p), some (nat o), some (.ref h.length), some (fr share), a6, a7, none, none, none] ∧ h' = h.set so (.fdc (dctM m2)) ++ [.dct (dctM (mmix (mdrop m o) share (m2.take i)))])
    (fun σ h' hI => by
      obtain ⟨a6, a7, rfl, rfl⟩ := hI
      exact get_app (List.getElem?_set_self hsoL))
    (fun i σ h' hi hI => by
      obtain ⟨a6, a7, rfl, rfl⟩ := hI
      have hi' : i < m2.length := by simpa [dctM] using hi
      have hk : m2[i]? = some m2[i] := List.getElem?_eq_getElem hi'
      generalize m2[i] = kx at *
      obtain ⟨k, x⟩ := kx
      obtain ⟨o1, o2, o3, o4⟩ := okm i k x hk
      generalize hA : mmix (mdrop m o) share (m2.take i) = A at *
      have hlen' : h.length = (h.set so (.fdc (dctM m2))).length := (List.length_set ..).symm
      have hr : (h.set so (O.fdc (dctM m2)) ++ [O.dct (dctM A)])[h.length]? = some (.dct (dctM A)) := by rw [hlen']; exact last_get _ _
      generalize hσ : [some (D.ref aS), some (.ref aC), some (nat p), some (nat o), some (.ref h.length), some (fr share), some (nat k), some (fr x), none, none, none] = σ1
      refine ⟨((k : Int), fr x), σ1, by unfold dctM; rw [List.getElem?_map, hk]; rfl, by rw [← hσ]; rfl, ?_⟩
      generalize hH : h.set so (O.fdc (dctM m2)) ++ [O.dct (dctM A)] = H at *
      have v4 : ev P (callN P (d + 3)) (.var 4) σ1 H = .ok (.ref h.length) H := by rw [← hσ]; exact ev_var rfl
      have v5 : ev P (callN P (d + 3)) (.var 5) σ1 H = .ok (fr share) H := by rw [← hσ]; exact ev_var rfl
      have v6 : ev P (callN P (d + 3)) (.var 6) σ1 H = .ok (nat k) H := by rw [← hσ]; exact ev_var rfl
      have v7 : ev P (callN P (d + 3)) (.var 7) σ1 H = .ok (fr x) H := by rw [← hσ]; exact ev_var rfl
      have g := ev_get (k := k) v4 (dctOf_at hr) v6 (show ev P (callN P (d + 3)) (.glo 0) σ1 H = .ok (fr 0) H by rw [ev, a.g0]; rfl) (dctOf_at hr)
      rw [dlook_M, getD_fr] at g
      have tm : ev P (callN P (d + 3)) (.call 6 (.cons (.var 5) (.cons (.var 7) .nil))) σ1 H = .ok (fr (share * x)) H := (ev_call (evs_cons v5 (evs_cons v7 evs_nil))).trans (times_ok a.toHasA share x oks o1)
      have pl : ev P (callN P (d + 3)) (.call 4 (.cons (.get (.var 4) (.var 6) (.glo 0)) (.cons (.call 6 (.cons (.var 5) (.cons (.var 7) .nil))) .nil))) σ1 H = .ok (fr ((mlook A k).getD 0 + share * x)) H := (ev_call (evs_cons g (evs_cons tm evs_nil))).trans (plus_ok a.toHasA _ _ o3 o2)
      have sb := ex_sub (k := k) pl v4 v6 hr (by unfold dctM; rw [List.length_map]; simp only [LIM]; omega)
      rw [dput_M] at sb
      refine ⟨_, _, (ex_nx sb).trans ex_nil, some (nat k), some (fr x), hσ.symm, ?_⟩
      rw [← hH, hlen', last_set]
      have : mmix (mdrop m o) share (m2.take (i + 1)) = madd A k (share * x) := by
        rw [List.take_add_one, hk]
        unfold mmix at hA ⊢
        rw [List.foldl_append, hA]; rfl
      rw [this]; rfl)
    ⟨none, none, rfl, by rw [set_app hsoL]; rfl⟩
  rw [ex_nx q1]
  have eh : (h.set so (.fdc (dctM m2)) ++ [O.dct (dctM (mmix (mdrop m o) share (m2.take (dctM m2).length)))]).set so (.dct (dctM m2)) = h ++ [.dct (dctM (mmix (mdrop m o) share m2))] := by
    rw [set_app (by rw [List.length_set]; exact hsoL), set_back h6]
    have : m2.take (dctM m2).length = m2 := by unfold dctM; rw [List.length_map]; exact List.take_length
    rw [this]
  rw [eh]
  generalize hG : h ++ [O.dct (dctM (mmix (mdrop m o) share m2))] = G
  have gG : ∀ (r : Nat) (x : O), h[r]? = some x → G[r]? = some x := fun r x e => by rw [← hG]; exact get_app e
  -- known
  have hz := comp_zip (P := P) (C := callN P (d + 3)) (σ := [some (.ref aS), some (.ref aC), some (nat p), some (nat o), some (.ref h.length), some (fr share), a6, a7, none, none, none]) (h := G) (x := .idx (.var 1) (.var 2)) (y := .idx (.var 1) (.var 3))
    (t := .tup (.cons (.nm 9) (.cons (.nm 10) .nil))) (e := .call 4 (.cons (.var 9) (.cons (.call 6 (.cons (.var 5) (.cons (.var 10) .nil))) .nil))) (own := [9, 10]) (xs := c.map fr) (ys := c2.map fr)
    (ev_idx (ev_var rfl) (ev_var rfl) (iC p cp h3 hpo.1 _ (gG _ _ hC))) (ev_idx (ev_var rfl) (ev_var rfl) (iC o co h4 hpo.2 _ (gG _ _ hC))) (gG _ _ h7) (gG _ _ h8) (by simp [hlen]) (by rw [List.length_map]; simp only [LIM]; omega)
    (fun i => fr (c.getD i 0 + share * c2.getD i 0)) (fun i u w hu hw => by
      rw [List.getElem?_map] at hu hw
      obtain ⟨x, hx, rfl⟩ := Option.map_eq_some_iff.mp hu
      obtain ⟨y, hy, rfl⟩ := Option.map_eq_some_iff.mp hw
      obtain ⟨o1, o2, o3⟩ := okc i x y hx hy
      refine ⟨[some (.ref aS), some (.ref aC), some (nat p), some (nat o), some (.ref h.length), some (fr share), a6, a7, none, some (fr x), some (fr y)], rfl, ?_⟩
      have tm : ev P (callN P (d + 3)) (.call 6 (.cons (.var 5) (.cons (.var 10) .nil))) [some (.ref aS), some (.ref aC), some (nat p), some (nat o), some (.ref h.length), some (fr share), a6, a7, none, some (fr x), some (fr y)] G = .ok (fr (share * y)) G := (ev_call (evs_cons (ev_var rfl) (evs_cons (ev_var rfl) evs_nil))).trans (times_ok a.toHasA share y oks o2)
      have pl : ev P (callN P (d + 3)) (.call 4 (.cons (.var 9) (.cons (.call 6 (.cons (.var 5) (.cons (.var 10) .nil))) .nil))) [some (.ref aS), some (.ref aC), some (nat p), some (nat o), some (.ref h.length), some (fr share), a6, a7, none, some (fr x), some (fr y)] G = .ok (fr (x + share * y)) G := (ev_call (evs_cons (ev_var rfl) (evs_cons tm evs_nil))).trans (plus_ok a.toHasA _ _ o1 o3)
      rw [pl, List.getD_eq_getElem?_getD, List.getD_eq_getElem?_getD, hx, hy]; rfl)
  have hlist : (List.range' 0 (c.map fr).length).map (fun i => fr (c.getD i 0 + share * c2.getD i 0)) = (List.zipWith (fun x y => x + share * y) c c2).map fr := by
    apply List.ext_getElem
    · simp [hlen]
    · intro i h1 h2
      simp at h1 h2
      simp [List.getD_eq_getElem?_getD, List.getElem?_eq_getElem h1, List.getElem?_eq_getElem (show i < c2.length by omega)]
  rw [hlist] at hz
  have e4 : exec P (callN P (d + 3)) (.set (.nm 8) (.lst (.comp (.call 4 (.cons (.var 9) (.cons (.call 6 (.cons (.var 5) (.cons (.var 10) .nil))) .nil))) (.tup (.cons (.nm 9) (.cons (.nm 10) .nil))) (.zip (.of (.idx (.var 1) (.var 2))) (.of (.idx (.var 1) (.var 3)))) .none [9, 10]))) [some (.ref aS), some (.ref aC), some (nat p), some (nat o), some (.ref h.length), some (fr share), a6, a7, none, none, none] G = .ok (.nx [some (.ref aS), some (.ref aC), some (nat p), some (nat o), some (.ref h.length), some (fr share), a6, a7, some (.ref G.length), none, none]) (G ++ [.lst ((List.zipWith (fun x y => x + share * y) c c2).map fr)]) := by
    refine ex_set (v := .ref G.length) ?_ rfl
    rw [ev, hz, R.bnd_ok]; rfl
  rw [ex_nx e4, ex_rt (ex_ret (ev_tup (vs := [.ref h.length, .ref G.length]) (evs_cons (ev_var rfl) (evs_cons (ev_var rfl) evs_nil)) (by simp [LIM])))]
  rw [← hG]
  show R.ok _ _ = _
  rw [List.append_assoc, List.length_append]
  rfl
end
end PI

set_option maxRecDepth 100000
set_option maxHeartbeats 1000000
/-! QK: rows of shares; the equations. -/
namespace PI
open PySem
def one_ : Nat → Rat := fun _ => 1
/-- a row of shares: no key twice, parts not negative, a common denominator, their sum at most 1 -/
structure MI (D : Nat) (m : Mp) : Prop where
  nd : (keys m).Nodup
  nn : ∀ kv ∈ m, 0 ≤ kv.2
  di : ∀ kv ∈ m, Di D kv.2
  le : msum one_ m ≤ 1
theorem nn_sum {m : Mp} {v : Nat → Rat} (h : ∀ kv ∈ m, 0 ≤ kv.2) (hv : ∀ k, 0 ≤ v k) : 0 ≤ msum v m := by
  induction m with
  | nil => rw [msum_nil]; exact Rat.le_refl
  | cons a m ih =>
    rw [msum_cons]
    have h1 := ih fun kv hkv => h kv (List.mem_cons_of_mem _ hkv)
    have h2 := Rat.mul_nonneg (h a List.mem_cons_self) (hv a.1)
    grind
theorem part_le {m : Mp} {v : Nat → Rat} (h : ∀ kv ∈ m, 0 ≤ kv.2) (hv : ∀ k, 0 ≤ v k) {kv : Nat × Rat} (hk : kv ∈ m) : kv.2 * v kv.1 ≤ msum v m := by
  induction m with
  | nil => cases hk
  | cons a m ih =>
    rw [msum_cons]
    have h0 : ∀ kv ∈ m, 0 ≤ kv.2 := fun kv hkv => h kv (List.mem_cons_of_mem _ hkv)
    rcases List.mem_cons.mp hk with e | e
    · subst e
      have := nn_sum h0 hv
      grind
    · have h1 := ih h0 e
      have h2 := Rat.mul_nonneg (h a List.mem_cons_self) (hv a.1)
      grind
theorem one_nn : ∀ k, (0 : Rat) ≤ one_ k := fun _ => by unfold one_; decide
section
variable {D : Nat} {m : Mp}
theorem MI.part (h : MI D m) {kv : Nat × Rat} (hk : kv ∈ m) : kv.2 ≤ 1 := by
  have h1 := part_le h.nn one_nn hk
  have h2 := h.le
  unfold one_ at h1
  unfold one_ at h2
  grind
theorem MI.look (h : MI D m) (k : Nat) : 0 ≤ (mlook m k).getD 0 ∧ (mlook m k).getD 0 ≤ 1 ∧ Di D ((mlook m k).getD 0) := by
  cases q : mlook m k with
  | none => exact ⟨Rat.le_refl, by decide, Di.zero D⟩
  | some x =>
    have hm := mlook_mem q
    exact ⟨h.nn _ hm, h.part hm, h.di _ hm⟩
theorem MI.ok (h : MI D m) (hD : 0 < D) (hb : D.log2 < 4400) (k : Nat) : okF ((mlook m k).getD 0) := by
  obtain ⟨h1, h2, h3⟩ := h.look k
  exact (okF_of (M := 1) h3 hD hb h1 (by exact_mod_cast h2) (by decide)).1
theorem MI.okp (h : MI D m) (hD : 0 < D) (hb : D.log2 < 4400) {kv : Nat × Rat} (hk : kv ∈ m) : okF kv.2 :=
  (okF_of (M := 1) (h.di _ hk) hD hb (h.nn _ hk) (by exact_mod_cast h.part hk) (by decide)).1
theorem MI.add (h : MI D m) {k : Nat} {q : Rat} (h0 : 0 ≤ q) (hq : Di D q) (hs : msum one_ m + q ≤ 1) : MI D (madd m k q) where
  nd := nodup_put h.nd
  nn := fun kv hkv => by
    rcases mem_put hkv with e | e
    · exact h.nn _ e
    · subst e
      have := (h.look k).1
      show 0 ≤ (mlook m k).getD 0 + q
      grind
  di := fun kv hkv => by
    rcases mem_put hkv with e | e
    · exact h.di _ e
    · subst e
      exact (h.look k).2.2.add hq
  le := by
    rw [msum_add _ h.nd]
    unfold one_ at *
    grind
theorem MI.up (h : MI D m) (E : Nat) : MI (D * E) m := ⟨h.nd, h.nn, fun kv hkv => (h.di kv hkv).up E, h.le⟩
theorem MI.nil : MI D [] := ⟨by simp [keys], by simp, by simp, by rw [msum_nil]; decide⟩
theorem MI.drop (h : MI D m) (k : Nat) : MI D (mdrop m k) := by
  refine ⟨nodup_drop h.nd, fun kv hkv => h.nn kv ((List.mem_filter.mp hkv).1), fun kv hkv => h.di kv ((List.mem_filter.mp hkv).1), ?_⟩
  have h1 := msum_drop one_ h.nd k
  have h2 := (h.look k).1
  have h3 := h.le
  unfold one_ at *
  grind
/-- a row put into another: every step of it -/
theorem MI.mix {E : Nat} {m2 : Mp} {s : Rat} (h : MI D m) (h2 : MI E m2) (hs0 : 0 ≤ s) (hs : Di D s) (hsum : msum one_ m + s ≤ 1) : ∀ i, MI (D * E) (mmix m s (m2.take i)) ∧ msum one_ (mmix m s (m2.take i)) = msum one_ m + s * msum one_ (m2.take i) := by
  have sumle : ∀ i, msum one_ (m2.take i) ≤ 1 := fun i => by
    have e : msum one_ m2 = msum one_ (m2.take i) + msum one_ (m2.drop i) := by rw [← msum_append, List.take_append_drop]
    have h3 := nn_sum (m := m2.drop i) (v := one_) (fun kv hkv => h2.nn kv (List.mem_of_mem_drop hkv)) one_nn
    have h4 := h2.le
    grind
  intro i
  have hm := msum_mix one_ (m2 := m2.take i) (s := s) h.nd
  refine ⟨?_, hm⟩
  induction i with
  | zero => rw [List.take_zero]; exact h.up E
  | succ i ih =>
    have ih := ih (msum_mix one_ h.nd)
    cases q : m2[i]? with
    | none =>
      have : m2.take (i + 1) = m2.take i := by rw [List.take_add_one, q]; simp
      rw [this]; exact ih
    | some kx =>
      have e : mmix m s (m2.take (i + 1)) = madd (mmix m s (m2.take i)) kx.1 (s * kx.2) := by
        rw [List.take_add_one, q]
        unfold mmix
        rw [List.foldl_append]; rfl
      have hkx := List.mem_of_getElem? q
      rw [e]
      refine ih.add (Rat.mul_nonneg hs0 (h2.nn _ hkx)) (hs.mul (h2.di _ hkx)) ?_
      have e2 : msum one_ (m2.take (i + 1)) = msum one_ (m2.take i) + kx.2 := by
        rw [List.take_add_one, q, msum_append]
        show msum one_ (m2.take i) + msum one_ [kx] = _
        rw [msum_cons, msum_nil]
        unfold one_
        grind
      have h3 := sumle (i + 1)
      rw [msum_mix one_ h.nd]
      have h5 : s * msum one_ (m2.take (i + 1)) ≤ s * 1 := Rat.mul_le_mul_of_nonneg_left h3 hs0
      rw [e2] at h5
      grind
/-- a row freed of its own part -/
theorem MI.scale (h : MI D m) {r : Rat} {D' : Nat} (hr : r * (D : Rat) = (D' : Rat)) (h0 : 0 < r) (hs : msum one_ m ≤ r) : MI D' (mscale m r) := by
  have hinv : ∀ x : Rat, 0 ≤ x → 0 ≤ x / r := fun x hx => by
    rw [Rat.div_def]
    exact Rat.mul_nonneg hx (Rat.le_of_lt (Rat.inv_pos.mpr h0))
  refine ⟨by rw [keys_scale]; exact h.nd, fun kv hkv => ?_, fun kv hkv => ?_, ?_⟩
  · obtain ⟨a, ha, rfl⟩ := List.mem_map.mp hkv
    exact hinv _ (h.nn a ha)
  · obtain ⟨a, ha, rfl⟩ := List.mem_map.mp hkv
    exact (h.di a ha).div hr (by grind)
  · rw [msum_scale]
    have h1 := Rat.mul_le_mul_of_nonneg_right hs (Rat.le_of_lt (Rat.inv_pos.mpr h0))
    rw [Rat.div_def]
    have h2 : r * r⁻¹ = 1 := Rat.mul_inv_cancel r (by grind)
    grind
end
end PI

set_option maxRecDepth 100000
set_option maxHeartbeats 2000000
/-! QL: the equations. -/
namespace PI
open PySem
def rowT (q : Rat) (l : List Nat) : Mp := l.foldl (fun a j => madd a j q) []
def row0 (q : Rat) : Row → Mp
  | .go l => rowT q l
  | .out _ => []
def con0 (many : Nat) : Row → List Rat
  | .go _ => (List.replicate (many + 1) 0).set many 1
  | .out o => (List.replicate (many + 1) 0).set o 1
def objs0 (q : Rat) (many : Nat) (ts : List Row) : List O := ts.flatMap fun r => [.dct (dctM (row0 q r)), .lst ((con0 many r).map fr)]
def refs (b n : Nat) : List D := (List.range n).map fun i => .ref (b + 2 * i)
theorem objs0_len (q : Rat) (many : Nat) (ts : List Row) : (objs0 q many ts).length = 2 * ts.length := by
  unfold objs0
  induction ts with
  | nil => rfl
  | cons a ts ih => rw [List.flatMap_cons, List.length_append, ih, List.length_cons]; simp; omega
theorem objs0_snoc (q : Rat) (many : Nat) (ts : List Row) (r : Row) : objs0 q many (ts ++ [r]) = objs0 q many ts ++ [.dct (dctM (row0 q r)), .lst ((con0 many r).map fr)] := by
  unfold objs0
  rw [List.flatMap_append, List.flatMap_cons, List.flatMap_nil, List.append_nil]
theorem refs_succ (b n : Nat) : refs b (n + 1) = refs b n ++ [.ref (b + 2 * n)] := by
  unfold refs
  rw [List.range_succ, List.map_append]; rfl
theorem set_at0 {H r : List O} {x y : O} : (H ++ x :: r).set H.length y = H ++ y :: r := by simp
theorem set_at1 {H r : List O} {x z y : O} : (H ++ x :: z :: r).set (H.length + 1) y = H ++ x :: y :: r := by
  rw [List.set_append_right _ _ (by omega)]; simp
theorem get_at0 {H r : List O} {x : O} : (H ++ x :: r)[H.length]? = some x := by simp
theorem get_at1 {H r : List O} {x z : O} : (H ++ x :: z :: r)[H.length + 1]? = some z := by
  rw [List.getElem?_append_right (by omega)]; simp
theorem rowT_step (q : Rat) (l : List Nat) (i k : Nat) (h : l[i]? = some k) : rowT q (l.take (i + 1)) = madd (rowT q (l.take i)) k q := by
  unfold rowT
  rw [List.take_add_one, h, List.foldl_append]; rfl
theorem rowT_MI {q : Rat} {D : Nat} (h0 : 0 ≤ q) (hq : Di D q) (l : List Nat) (hl : (l.length : Rat) * q ≤ 1) : ∀ i, MI D (rowT q (l.take i)) ∧ msum one_ (rowT q (l.take i)) = ((l.take i).length : Rat) * q := by
  intro i
  induction i with
  | zero => exact ⟨MI.nil, by rw [List.take_zero]; show msum one_ [] = _; rw [msum_nil]; simp⟩
  | succ i ih =>
    obtain ⟨h1, h2⟩ := ih
    cases e : l[i]? with
    | none =>
      have : l.take (i + 1) = l.take i := by rw [List.take_add_one, e]; simp
      rw [this]; exact ⟨h1, h2⟩
    | some k =>
      have hi := (List.getElem?_eq_some_iff.mp e).1
      have len1 : (l.take i).length = i := by rw [List.length_take]; omega
      have len2 : (l.take (i + 1)).length = i + 1 := by rw [List.length_take]; omega
      have c : ((i + 1 : Nat) : Rat) = (i : Rat) + 1 := by rw [Rat.natCast_add]; rfl
      have hs : msum one_ (rowT q (l.take i)) + q = ((i + 1 : Nat) : Rat) * q := by rw [h2, len1, c]; grind
      have hle : ((i + 1 : Nat) : Rat) * q ≤ 1 := by
        refine Rat.le_trans (Rat.mul_le_mul_of_nonneg_right ?_ h0) hl
        exact Rat.natCast_le_natCast.mpr (by omega)
      rw [rowT_step q l i k e]
      refine ⟨h1.add h0 hq (by rw [hs]; exact hle), ?_⟩
      rw [msum_add _ h1.nd, len2, ← hs]
      unfold one_
      grind
theorem setL {h : Hh} {r j : Nat} {xs : List D} {v : D} (hr : h[r]? = some (.lst xs)) (hj : j < xs.length) : setop (.ref r) (nat j) v h = some (h.set r (.lst (xs.set j v))) := by
  have : L2.ixN xs.length (j : Nat) = some j := by unfold L2.ixN; rw [if_pos (by omega), if_pos (by omega)]; simp
  show (match h[r]? with
    | some (.lst xs) => match L2.ixN xs.length (j : Nat) with
      | some i => some (h.set r (.lst (xs.set i v)))
      | none => none
    | some (.dct kvs) => if kvs.length < LIM then some (h.set r (.dct (dput kvs (j : Nat) v))) else none
    | _ => none) = _
  rw [hr]
  dsimp only
  rw [this]
theorem ex_subL {P : Pg} {C : Nat → List D → Hh → R D} {σ : Sto} {h h1 h2 h3 : Hh} {o i x : E} {r k : Nat} {v : D} {xs : List D} (ev1 : ev P C x σ h = .ok v h1) (eo : ev P C o σ h1 = .ok (.ref r) h2) (ei : ev P C i σ h2 = .ok (nat k) h3) (hr : h3[r]? = some (.lst xs)) (hk : k < xs.length) :
    exec P C (.sub o i x) σ h = .ok (.nx σ) (h3.set r (.lst (xs.set k v))) := by
  rw [exec, ev1, R.bnd_ok, eo, R.bnd_ok, ei, R.bnd_ok, setL hr hk]
theorem comp_rng {P : Pg} {C : Nat → List D → Hh → R D} {σ : Sto} {h h1 : Hh} {x e : E} {t : Tg} {own : List Nat} {n : Nat} (ex : ev P C x σ h = .ok (nat n) h1) (hn : n ≤ 1000000) (v : Nat → D) (step : ∀ i, i < n → ∃ σ1, asT t (nat i) (wipe σ own) = some σ1 ∧ ev P C e σ1 h1 = .ok (v i) h1) :
    evL P C (.comp e t (.rng1 x) .none own) σ h = .ok (.new ((List.range' 0 n).map v)) h1 := by
  have ei : evIt P C (.rng1 x) σ h = .ok ⟨n, fun _ i => some (.int (i : Nat)), fun _ => true⟩ h1 := by
    rw [evIt, ex, R.bnd_ok]
    show (if -4611686018427387904 ≤ ((n : Nat) : Int) ∧ ((n : Nat) : Int) < 4611686018427387904 then _ else _) = _
    rw [if_pos (by omega)]; rfl
  rw [evL, ei, R.bnd_ok, if_pos (show n ≤ LIM from hn)]
  have key := lc_pure (fin := fun _ => true) (get := fun _ i => some (.int (i : Nat))) (bind := fun x => asT t x (wipe σ own)) (test := fun σ1 h => (evC P C .none σ1 h).nox) (elt := fun σ1 h => (ev P C e σ1 h).nox) (h := h1) n v rfl (fun i hi => by
    obtain ⟨σ1, k1, k2⟩ := step i hi
    exact ⟨_, σ1, rfl, k1, by simp only [evC, R.nox_ok], by rw [k2, R.nox_ok]⟩) n 0 (by omega)
  show (lcGo (fun _ => true) (fun _ i => some (.int (i : Nat))) (fun x => asT t x (wipe σ own)) (fun σ1 h => (evC P C .none σ1 h).nox) (fun σ1 h => (ev P C e σ1 h).nox) n 0 h1).bnd _ = _
  rw [key]; rfl
end PI

set_option maxRecDepth 100000
set_option maxHeartbeats 2000000
/-! QM: equations, on the interpreter. -/
namespace PI
open PySem
section
variable {P : Pg} {d : Nat} {h : Hh} {sides many : Nat} {t : List Row}
theorem q_facts {sides : Nat} (h2 : 0 < sides) : 0 ≤ mkRat 1 sides ∧ Di sides (mkRat 1 sides) ∧ (sides : Rat) * mkRat 1 sides = 1 := by
  have hp : (0 : Rat) < (sides : Rat) := Rat.natCast_pos.mpr h2
  have e : (sides : Rat) * mkRat 1 sides = 1 := by
    rw [Rat.mkRat_eq_div]
    have : ((1 : Int) : Rat) = 1 := rfl
    rw [this]
    have hne : (sides : Rat) ≠ 0 := by grind
    grind
  refine ⟨?_, ⟨1, by rw [Rat.mul_comm, e]; rfl⟩, e⟩
  rw [Rat.mkRat_eq_div]
  have : ((1 : Int) : Rat) = 1 := rfl
  rw [this, Rat.div_def]
  exact Rat.mul_nonneg (by decide) (Rat.le_of_lt (Rat.inv_pos.mpr hp))
/-- the inner loop: a row's shares -/
theorem row_loop (a : HasT P) (h2 : 0 < sides) (hs6 : sides ≤ 6) {l : List Nat} (hl : l.length = sides) {H : List O} {K : O} {s1 s2 s3 s4 s7 s8 s9 : Option D} : ∃ s9', exec P (callN P (d + 3)) (.for_ (.nm 9) (.seq (.of (.var 5))) (.cons (.sub (.var 6) (.var 9) (.call 4 (.cons (.get (.var 6) (.var 9) (.glo 0)) (.cons (.call 3 (.cons (.int 1) (.cons (.var 0) .nil))) .nil)))) .nil)) [some (nat sides), s1, s2, s3, s4, some (Row.go l).d, some (.ref H.length), s7, s8, s9] (H ++ [.dct (dctM []), K]) =
    .ok (.nx [some (nat sides), s1, s2, s3, s4, some (Row.go l).d, some (.ref H.length), s7, s8, s9']) (H ++ [.dct (dctM (rowT (mkRat 1 sides) l)), K]) := by
  obtain ⟨q0, q1, q2⟩ := q_facts h2
  have hlog : sides.log2 < 4400 := Nat.lt_of_le_of_lt (log2_mono hs6) (by decide)
  have MIi := rowT_MI q0 q1 l (by rw [hl, q2]; exact Rat.le_refl)
  generalize hq : mkRat 1 sides = q at *
  obtain ⟨σ', h', e1, s9', rfl, rfl⟩ := for_ok (P := P) (C := callN P (d + 3)) (t := .nm 9) (b := (.cons (.sub (.var 6) (.var 9) (.call 4 (.cons (.get (.var 6) (.var 9) (.glo 0)) (.cons (.call 3 (.cons (.int 1) (.cons (.var 0) .nil))) .nil)))) .nil))
    (seq_tup (P := P) (C := callN P (d + 3)) (σ := [some (nat sides), s1, s2, s3, s4, some (Row.go l).d, some (.ref H.length), s7, s8, s9]) (h := H ++ [.dct (dctM []), K]) (xs := l.map nat) (ev_var (i := 5) rfl))
    (fun i σ h' => ∃ s9, σ = [some (nat sides), s1, s2, s3, s4, some (Row.go l).d, some (.ref H.length), s7, s8, s9] ∧ h' = H ++ [.dct (dctM (rowT q (l.take i))), K]) (fun _ h _ => fin_get h)
    (fun i σ h' hi hI => by
      obtain ⟨s9, rfl, rfl⟩ := hI
      have hi' : i < l.length := by simpa [ivT] using hi
      have hk : l[i]? = some l[i] := List.getElem?_eq_getElem hi'
      generalize l[i] = k at *
      obtain ⟨mi, _⟩ := MIi i
      generalize hσ : [some (nat sides), s1, s2, s3, s4, some (Row.go l).d, some (.ref H.length), s7, s8, some (nat k)] = σ1
      refine ⟨nat k, σ1, by rw [get_tup, List.getElem?_map, hk]; rfl, by rw [← hσ]; rfl, ?_⟩
      have v6 : ∀ h, ev P (callN P (d + 3)) (.var 6) σ1 h = .ok (.ref H.length) h := fun h => by rw [← hσ]; exact ev_var rfl
      have v9 : ∀ h, ev P (callN P (d + 3)) (.var 9) σ1 h = .ok (nat k) h := fun h => by rw [← hσ]; exact ev_var rfl
      have v0 : ∀ h, ev P (callN P (d + 3)) (.var 0) σ1 h = .ok (nat sides) h := fun h => by rw [← hσ]; exact ev_var rfl
      generalize hA : rowT q (l.take i) = A at *
      have hr : (H ++ [O.dct (dctM A), K])[H.length]? = some (.dct (dctM A)) := get_at0
      have g := ev_get (k := k) (v6 _) (dctOf_at hr) (v9 _) (show ev P (callN P (d + 3)) (.glo 0) σ1 _ = .ok (fr 0) _ by rw [ev, a.g0]; rfl) (dctOf_at hr)
      rw [dlook_M, getD_fr] at g
      have rt : ev P (callN P (d + 3)) (.call 3 (.cons (.int 1) (.cons (.var 0) .nil))) σ1 (H ++ [.dct (dctM A), K]) = .ok (fr q) (H ++ [.dct (dctM A), K]) := by
        rw [ev_call (vs := [.int 1, nat sides]) (h1 := H ++ [.dct (dctM A), K]) (evs_cons rfl (evs_cons (v0 _) evs_nil)), ← hq]
        exact ratio_ok a.toHasA 1 sides (by omega) (by omega) (by simp; omega)
      have okq : okF q := (okF_of (M := 1) q1 h2 hlog q0 (by
        have hp : (1 : Rat) ≤ (sides : Rat) := by
          have : ((1 : Nat) : Rat) ≤ (sides : Rat) := Rat.natCast_le_natCast.mpr h2
          exact this
        have := Rat.mul_le_mul_of_nonneg_right hp q0
        show q ≤ ((1 : Nat) : Rat)
        have e1 : ((1 : Nat) : Rat) = 1 := rfl
        rw [e1]
        grind) (by decide)).1
      have pl : ev P (callN P (d + 3)) (.call 4 (.cons (.get (.var 6) (.var 9) (.glo 0)) (.cons (.call 3 (.cons (.int 1) (.cons (.var 0) .nil))) .nil))) σ1 (H ++ [.dct (dctM A), K]) = .ok (fr ((mlook A k).getD 0 + q)) (H ++ [.dct (dctM A), K]) :=
        (ev_call (evs_cons g (evs_cons rt evs_nil))).trans (plus_ok a.toHasA _ _ (mi.ok h2 hlog k) okq)
      have keysle : A.length ≤ i := by
        have : ∀ (m : Mp) (k : Nat) (x : Rat), (mput m k x).length ≤ m.length + 1 := fun m k x => by unfold mput; split <;> simp
        have h3 : ∀ (l : List Nat) (m : Mp), (l.foldl (fun a j => madd a j q) m).length ≤ m.length + l.length := by
          intro l
          induction l with
          | nil => intro m; simp
          | cons b l ih =>
            intro m
            rw [List.foldl_cons, List.length_cons]
            have h4 := ih (madd m b q)
            have h5 := this m b ((mlook m b).getD 0 + q)
            unfold madd at h4 ⊢
            omega
        have h6 := h3 (l.take i) []
        rw [← hA]
        unfold rowT
        have h7 : (l.take i).length ≤ i := by rw [List.length_take]; omega
        simp at h6
        omega
      have sb := ex_sub (k := k) pl (v6 _) (v9 _) hr (by unfold dctM; rw [List.length_map]; simp only [LIM]; omega)
      rw [dput_M, set_at0] at sb
      refine ⟨_, _, (ex_nx sb).trans ex_nil, some (nat k), hσ.symm, ?_⟩
      rw [rowT_step q l i k hk, hA]; rfl)
    ⟨s9, rfl, rfl⟩
  refine ⟨s9', e1.trans ?_⟩
  have : l.take (ivT (l.map nat)).n = l := by
    show l.take (l.map nat).length = l
    rw [List.length_map]; exact List.take_length
  rw [this]
end
end PI

set_option maxRecDepth 100000
set_option maxHeartbeats 2000000
/-! QN: equations, whole. -/
namespace PI
open PySem
section
variable {P : Pg} {d : Nat} {h : Hh} {sides many : Nat} {t : List Row}
/-- the heap behind the first i rows -/
def eqH (h : Hh) (q : Rat) (many : Nat) (ts : List Row) : Hh := h ++ (.lst (refs (h.length + 2) ts.length) :: .lst (refs (h.length + 3) ts.length) :: objs0 q many ts)
theorem eqH_len (h : Hh) (q : Rat) (many : Nat) (ts : List Row) : (eqH h q many ts).length = h.length + 2 + 2 * ts.length := by
  unfold eqH
  rw [List.length_append, List.length_cons, List.length_cons, objs0_len]; omega
theorem con0_len (many : Nat) (r : Row) : (con0 many r).length = many + 1 := by cases r <;> simp [con0]
/-- one row's turn -/
theorem eq_turn (a : HasT P) (h2 : 0 < sides) (hs6 : sides ≤ 6) (hm : many ≤ 6) {r : Row} (hr : r.ok sides many t.length) {ts : List Row} (hts : ts.length < 1000) {s6 s7 s8 s9 : Option D} : ∃ s6' s7' s8' s9', execs P (callN P (d + 3)) (.cons (.set (.nm 6) .dict) (.cons (.set (.nm 7) (.lst (.comp (.glo 0) (.nm 8) (.rng1 (.bin .add (.var 1) (.int 1))) .none [8]))) (.cons (.if_ (.isi (.var 5) .tuple) (.cons (.sub (.var 7) (.var 1) (.glo 1)) (.cons (.for_ (.nm 9) (.seq (.of (.var 5))) (.cons (.sub (.var 6) (.var 9) (.call 4 (.cons (.get (.var 6) (.var 9) (.glo 0)) (.cons (.call 3 (.cons (.int 1) (.cons (.var 0) .nil))) .nil)))) .nil)) .nil)) (.cons (.sub (.var 7) (.var 5) (.glo 1)) .nil)) (.cons (.expr (.app (.var 3) (.var 6))) (.cons (.expr (.app (.var 4) (.var 7))) .nil))))) [some (nat sides), some (nat many), some (tabD t), some (.ref h.length), some (.ref (h.length + 1)), some r.d, s6, s7, s8, s9] (eqH h (mkRat 1 sides) many ts) =
    .ok (.nx [some (nat sides), some (nat many), some (tabD t), some (.ref h.length), some (.ref (h.length + 1)), some r.d, s6', s7', s8', s9']) (eqH h (mkRat 1 sides) many (ts ++ [r])) := by
  have hlen := eqH_len h (mkRat 1 sides) many ts
  generalize hH : eqH h (mkRat 1 sides) many ts = H at *
  have e1 : exec P (callN P (d + 3)) (.set (.nm 6) .dict) [some (nat sides), some (nat many), some (tabD t), some (.ref h.length), some (.ref (h.length + 1)), some r.d, s6, s7, s8, s9] H = .ok (.nx [some (nat sides), some (nat many), some (tabD t), some (.ref h.length), some (.ref (h.length + 1)), some r.d, some (.ref H.length), s7, s8, s9]) (H ++ [.dct []]) := rfl
  rw [ex_nx e1]
  have hb : ev P (callN P (d + 3)) (.bin .add (.var 1) (.int 1)) [some (nat sides), some (nat many), some (tabD t), some (.ref h.length), some (.ref (h.length + 1)), some r.d, some (.ref H.length), s7, s8, s9] (H ++ [.dct []]) = .ok (nat (many + 1)) (H ++ [.dct []]) := rfl
  have ec := comp_rng (P := P) (C := callN P (d + 3)) (e := .glo 0) (t := .nm 8) (own := [8]) hb (by omega) (fun _ => fr 0) (fun i hi => ⟨_, rfl, by rw [ev, a.g0]; rfl⟩)
  have hrep : (List.range' 0 (many + 1)).map (fun _ => fr 0) = (List.replicate (many + 1) (0 : Rat)).map fr := by
    apply List.ext_getElem
    · simp
    · intro i h1 h2; simp
  rw [hrep] at ec
  have e2 : exec P (callN P (d + 3)) (.set (.nm 7) (.lst (.comp (.glo 0) (.nm 8) (.rng1 (.bin .add (.var 1) (.int 1))) .none [8]))) [some (nat sides), some (nat many), some (tabD t), some (.ref h.length), some (.ref (h.length + 1)), some r.d, some (.ref H.length), s7, s8, s9] (H ++ [.dct []]) = .ok (.nx [some (nat sides), some (nat many), some (tabD t), some (.ref h.length), some (.ref (h.length + 1)), some r.d, some (.ref H.length), some (.ref (H.length + 1)), s8, s9]) (H ++ [.dct (dctM []), .lst ((List.replicate (many + 1) (0 : Rat)).map fr)]) := by
    refine ex_set (v := .ref (H.length + 1)) ?_ rfl
    rw [ev, ec, R.bnd_ok]
    show R.ok (D.ref (H ++ [O.dct []]).length) _ = _
    rw [List.length_append]
    show R.ok _ ((H ++ [O.dct []]) ++ [O.lst _]) = _
    rw [List.append_assoc]; rfl
  rw [ex_nx e2]
  -- the row's parts
  have e3 : ∃ s9', exec P (callN P (d + 3)) (.if_ (.isi (.var 5) .tuple) (.cons (.sub (.var 7) (.var 1) (.glo 1)) (.cons (.for_ (.nm 9) (.seq (.of (.var 5))) (.cons (.sub (.var 6) (.var 9) (.call 4 (.cons (.get (.var 6) (.var 9) (.glo 0)) (.cons (.call 3 (.cons (.int 1) (.cons (.var 0) .nil))) .nil)))) .nil)) .nil)) (.cons (.sub (.var 7) (.var 5) (.glo 1)) .nil)) [some (nat sides), some (nat many), some (tabD t), some (.ref h.length), some (.ref (h.length + 1)), some r.d, some (.ref H.length), some (.ref (H.length + 1)), s8, s9] (H ++ [.dct (dctM []), .lst ((List.replicate (many + 1) (0 : Rat)).map fr)]) =
      .ok (.nx [some (nat sides), some (nat many), some (tabD t), some (.ref h.length), some (.ref (h.length + 1)), some r.d, some (.ref H.length), some (.ref (H.length + 1)), s8, s9']) (H ++ [.dct (dctM (row0 (mkRat 1 sides) r)), .lst ((con0 many r).map fr)]) := by
    have ei := isi_row (P := P) (C := callN P (d + 3)) (σ := [some (nat sides), some (nat many), some (tabD t), some (.ref h.length), some (.ref (h.length + 1)), some r.d, some (.ref H.length), some (.ref (H.length + 1)), s8, s9]) (h := H ++ [.dct (dctM []), .lst ((List.replicate (many + 1) (0 : Rat)).map fr)]) (i := 5) (r := r) rfl
    have g1 : ∀ (σ : Sto) (h : Hh), ev P (callN P (d + 3)) (.glo 1) σ h = .ok (fr 1) h := fun σ h => by rw [ev, a.g1]; rfl
    have setfr : ∀ (l : List Rat) (k : Nat), (l.map fr).set k (fr 1) = (l.set k 1).map fr := fun l k => by rw [List.map_set]
    cases r with
    | go l =>
      obtain ⟨s9', q⟩ := row_loop (d := d) a h2 hs6 hr.1 (H := H) (K := .lst ((con0 many (.go l)).map fr)) (s1 := some (nat many)) (s2 := some (tabD t)) (s3 := some (.ref h.length)) (s4 := some (.ref (h.length + 1))) (s7 := some (.ref (H.length + 1))) (s8 := s8) (s9 := s9)
      refine ⟨s9', (ex_if ei).trans ?_⟩
      rw [if_pos (show (Row.go l).isGo = true from rfl)]
      have sb := ex_subL (P := P) (C := callN P (d + 3)) (σ := [some (nat sides), some (nat many), some (tabD t), some (.ref h.length), some (.ref (h.length + 1)), some (Row.go l).d, some (.ref H.length), some (.ref (H.length + 1)), s8, s9]) (o := .var 7) (i := .var 1) (x := .glo 1) (k := many) (g1 _ (H ++ [.dct (dctM []), .lst ((List.replicate (many + 1) (0 : Rat)).map fr)])) (ev_var rfl) (ev_var rfl) get_at1 (by simp)
      rw [set_at1, setfr] at sb
      rw [ex_nx sb]
      exact (ex_nx q).trans ex_nil
    | out o =>
      refine ⟨s9, (ex_if ei).trans ?_⟩
      rw [if_neg (show ¬ (Row.out o).isGo = true from Bool.false_ne_true)]
      have sb := ex_subL (P := P) (C := callN P (d + 3)) (σ := [some (nat sides), some (nat many), some (tabD t), some (.ref h.length), some (.ref (h.length + 1)), some (Row.out o).d, some (.ref H.length), some (.ref (H.length + 1)), s8, s9]) (o := .var 7) (i := .var 5) (x := .glo 1) (k := o) (g1 _ (H ++ [.dct (dctM []), .lst ((List.replicate (many + 1) (0 : Rat)).map fr)])) (ev_var rfl) (ev_var rfl) get_at1 (by simp; have : o < many := hr; omega)
      rw [set_at1, setfr] at sb
      exact (ex_nx sb).trans ex_nil
  obtain ⟨s9', e3⟩ := e3
  rw [ex_nx e3]
  refine ⟨some (.ref H.length), some (.ref (H.length + 1)), s8, s9', ?_⟩
  -- the appends
  have hx : H ++ [.dct (dctM (row0 (mkRat 1 sides) r)), .lst ((con0 many r).map fr)] = h ++ (.lst (refs (h.length + 2) ts.length) :: .lst (refs (h.length + 3) ts.length) :: objs0 (mkRat 1 sides) many (ts ++ [r])) := by
    rw [← hH, objs0_snoc]
    unfold eqH
    rw [List.append_assoc]; rfl
  rw [hx]
  have hrl : ∀ b, (refs b ts.length).length = ts.length := fun b => by unfold refs; simp
  have a1 := ev_app (P := P) (C := callN P (d + 3)) (σ := [some (nat sides), some (nat many), some (tabD t), some (.ref h.length), some (.ref (h.length + 1)), some r.d, some (.ref H.length), some (.ref (H.length + 1)), s8, s9']) (h := h ++ (.lst (refs (h.length + 2) ts.length) :: .lst (refs (h.length + 3) ts.length) :: objs0 (mkRat 1 sides) many (ts ++ [r]))) (a := .var 3) (b := .var 6) (y := .ref H.length) (ev_var rfl) get_at0 (ev_var rfl) get_at0 (by rw [hrl]; simp only [LIM]; omega)
  rw [set_at0] at a1
  rw [ex_nx (ex_expr a1)]
  have a2 := ev_app (P := P) (C := callN P (d + 3)) (σ := [some (nat sides), some (nat many), some (tabD t), some (.ref h.length), some (.ref (h.length + 1)), some r.d, some (.ref H.length), some (.ref (H.length + 1)), s8, s9']) (h := h ++ (.lst (refs (h.length + 2) ts.length ++ [.ref H.length]) :: .lst (refs (h.length + 3) ts.length) :: objs0 (mkRat 1 sides) many (ts ++ [r]))) (a := .var 4) (b := .var 7) (y := .ref (H.length + 1)) (ev_var rfl) get_at1 (ev_var rfl) get_at1 (by rw [hrl]; simp only [LIM]; omega)
  rw [set_at1] at a2
  rw [ex_nx (ex_expr a2), ex_nil]
  unfold eqH
  have l1 : (ts ++ [r]).length = ts.length + 1 := by simp
  rw [l1, refs_succ, refs_succ, hlen]
  have l2 : h.length + 2 + 2 * ts.length + 1 = h.length + 3 + 2 * ts.length := by omega
  rw [l2]
theorem equations_ok (a : HasT P) (ht : TabOk sides many t) (hs : t.length ≤ 1000) (h2 : 0 < sides) (hs6 : sides ≤ 6) (hm : many ≤ 6) :
    callN P (d + 4) 29 [nat sides, nat many, tabD t] h = .ok (.tup [.ref h.length, .ref (h.length + 1)]) (eqH h (mkRat 1 sides) many t) := by
  rw [call_eq a.f29 (σ := [some (nat sides), some (nat many), some (tabD t), none, none, none, none, none, none, none]) rfl]
  unfold c_equations
  have e1 : exec P (callN P (d + 3)) (.par 3 4 (.lst (.lit .nil)) (.lst (.lit .nil))) [some (nat sides), some (nat many), some (tabD t), none, none, none, none, none, none, none] h = .ok (.nx [some (nat sides), some (nat many), some (tabD t), some (.ref h.length), some (.ref (h.length + 1)), none, none, none, none, none]) (eqH h (mkRat 1 sides) many []) := by
    show R.ok (Fl.nx [some (nat sides), some (nat many), some (tabD t), some (.ref h.length), some (.ref (h ++ [O.lst []]).length), none, none, none, none, none]) ((h ++ [O.lst []]) ++ [O.lst []]) = _
    rw [List.length_append, List.append_assoc]; rfl
  rw [ex_nx e1]
  obtain ⟨σ', h', q1, s5, s6, s7, s8, s9, rfl, rfl⟩ := for_ok (P := P) (C := callN P (d + 3)) (t := .nm 5) (b := (.cons (.set (.nm 6) .dict) (.cons (.set (.nm 7) (.lst (.comp (.glo 0) (.nm 8) (.rng1 (.bin .add (.var 1) (.int 1))) .none [8]))) (.cons (.if_ (.isi (.var 5) .tuple) (.cons (.sub (.var 7) (.var 1) (.glo 1)) (.cons (.for_ (.nm 9) (.seq (.of (.var 5))) (.cons (.sub (.var 6) (.var 9) (.call 4 (.cons (.get (.var 6) (.var 9) (.glo 0)) (.cons (.call 3 (.cons (.int 1) (.cons (.var 0) .nil))) .nil)))) .nil)) .nil)) (.cons (.sub (.var 7) (.var 5) (.glo 1)) .nil)) (.cons (.expr (.app (.var 3) (.var 6))) (.cons (.expr (.app (.var 4) (.var 7))) .nil))))))
    (seq_tup (P := P) (C := callN P (d + 3)) (σ := [some (nat sides), some (nat many), some (tabD t), some (.ref h.length), some (.ref (h.length + 1)), none, none, none, none, none]) (h := eqH h (mkRat 1 sides) many []) (xs := t.map Row.d) (ev_var (i := 2) rfl))
    (fun i σ h' => ∃ s5 s6 s7 s8 s9 : Option D, σ = [some (nat sides), some (nat many), some (tabD t), some (.ref h.length), some (.ref (h.length + 1)), s5, s6, s7, s8, s9] ∧ h' = eqH h (mkRat 1 sides) many (t.take i)) (fun _ h _ => fin_get h)
    (fun i σ h' hi hI => by
      obtain ⟨s5, s6, s7, s8, s9, rfl, rfl⟩ := hI
      have hi' : i < t.length := by simpa [ivT] using hi
      have hk : t[i]? = some t[i] := List.getElem?_eq_getElem hi'
      generalize t[i] = r at *
      obtain ⟨s6', s7', s8', s9', e⟩ := eq_turn (d := d) (h := h) (t := t) (ts := t.take i) a h2 hs6 hm (ht r (List.mem_of_getElem? hk)) (by rw [List.length_take]; omega) (s6 := s6) (s7 := s7) (s8 := s8) (s9 := s9)
      refine ⟨r.d, _, by rw [get_tup, List.getElem?_map, hk]; rfl, rfl, _, _, e, some r.d, s6', s7', s8', s9', rfl, ?_⟩
      rw [List.take_add_one, hk]; rfl)
    ⟨none, none, none, none, none, rfl, rfl⟩
  rw [ex_nx q1, ex_rt (ex_ret (ev_tup (vs := [.ref h.length, .ref (h.length + 1)]) (evs_cons (ev_var rfl) (evs_cons (ev_var rfl) evs_nil)) (by simp [LIM])))]
  have : t.take (ivT (t.map Row.d)).n = t := by
    show t.take (t.map Row.d).length = t
    rw [List.length_map]; exact List.take_length
  rw [this]; rfl
end
end PI

set_option maxRecDepth 100000
set_option maxHeartbeats 1000000
/-! QO: one elimination, the algebra. -/
namespace PI
open PySem
section
variable {v : Nat → Rat} {D E M : Nat} {m m2 : Mp} {p b : Nat} {x s : Rat}
theorem drop_sum (h : MI D m) (e : mlook m p = some x) (u : Nat → Rat) : msum u (mdrop m p) + x * u p = msum u m := by
  have := msum_drop u h.nd p
  rw [e] at this
  exact this
theorem div_le {y r : Rat} {M : Rat} (h0 : 0 < r) (h : y ≤ M * r) : y / r ≤ M := by
  have h1 := Rat.mul_le_mul_of_nonneg_right h (Rat.le_of_lt (Rat.inv_pos.mpr h0))
  rw [Rat.div_def]
  have h2 : r * r⁻¹ = 1 := Rat.mul_inv_cancel r (by grind)
  rw [Rat.mul_assoc, h2, Rat.mul_one] at h1
  exact h1
theorem div_lt {y r : Rat} {M : Rat} (h0 : 0 < r) (h : y < M * r) : y / r < M := by
  have h1 := Rat.mul_lt_mul_of_pos_right h (Rat.inv_pos.mpr h0)
  rw [Rat.div_def]
  have h2 : r * r⁻¹ = 1 := Rat.mul_inv_cancel r (by grind)
  rw [Rat.mul_assoc, h2, Rat.mul_one] at h1
  exact h1
theorem self_elim (hv : ∀ k, 0 < v k) (h : MI D m) (hD : 0 < D) (st : msum v m < v p) (e : mlook m p = some x) :
    0 ≤ x ∧ x < 1 ∧ ∃ D' : Nat, (1 - x) * (D : Rat) = (D' : Rat) ∧ 0 < D' ∧ D' ≤ D ∧ MI D' (mscale (mdrop m p) (1 - x)) ∧ msum v (mscale (mdrop m p) (1 - x)) < v p ∧
      ∀ y : Rat, 0 ≤ y → y ≤ (M : Rat) → 0 ≤ y / (1 - x) ∧ y / (1 - x) ≤ ((M * D : Nat) : Rat) := by
  have hm := mlook_mem e
  have x0 : 0 ≤ x := h.nn _ hm
  have hp := hv p
  have dv := drop_sum h e v
  have d1 := drop_sum h e one_
  have dn := h.drop p
  have s0 : 0 ≤ msum v (mdrop m p) := nn_sum dn.nn fun k => Rat.le_of_lt (hv k)
  have x1 : x < 1 := by
    have h1 : x * v p < 1 * v p := by grind
    by_cases hx : x < 1
    · exact hx
    · have h2 : 1 ≤ x := by grind
      have h3 := Rat.mul_le_mul_of_nonneg_right h2 (Rat.le_of_lt hp)
      grind
  obtain ⟨D', r1, r2, r3⟩ := (h.di _ hm).rest hD x0 x1
  have r0 : (0 : Rat) < 1 - x := by grind
  refine ⟨x0, x1, D', r1, r2, r3, dn.scale r1 r0 ?_, ?_, fun y y0 y1 => ⟨?_, ?_⟩⟩
  · have := h.le
    unfold one_ at *
    grind
  · rw [msum_scale]
    exact div_lt r0 (by grind)
  · rw [Rat.div_def]
    exact Rat.mul_nonneg y0 (Rat.le_of_lt (Rat.inv_pos.mpr r0))
  · refine div_le r0 ?_
    have h1 : (1 : Rat) ≤ (D' : Rat) := by
      have : ((1 : Nat) : Rat) ≤ (D' : Rat) := Rat.natCast_le_natCast.mpr r2
      exact this
    have h2 : (0 : Rat) ≤ (M : Rat) := Rat.natCast_nonneg
    have h3 := Rat.mul_le_mul_of_nonneg_left h1 h2
    rw [Rat.natCast_mul]
    have h4 : (M : Rat) * (D : Rat) * (1 - x) = (M : Rat) * (D' : Rat) := by rw [← r1]; grind
    rw [h4]
    grind
theorem mix_elim (hv : ∀ k, 0 < v k) (h : MI D m) (h2 : MI E m2) (st : msum v m < v b) (st2 : msum v m2 < v p) (e : mlook m p = some s) :
    0 ≤ s ∧ s ≤ 1 ∧ Di D s ∧ (∀ i, MI (D * E) (mmix (mdrop m p) s (m2.take i))) ∧ MI (D * E) (mmix (mdrop m p) s m2) ∧ msum v (mmix (mdrop m p) s m2) < v b := by
  have hm := mlook_mem e
  have s0 : 0 ≤ s := h.nn _ hm
  have dv := drop_sum h e v
  have d1 := drop_sum h e one_
  have hs : msum one_ (mdrop m p) + s ≤ 1 := by
    have := h.le
    unfold one_ at *
    grind
  have mx := (h.drop p).mix h2 s0 (h.di _ hm) hs
  refine ⟨s0, h.part hm, h.di _ hm, fun i => (mx i).1, ?_, ?_⟩
  · have := (mx m2.length).1
    rwa [List.take_length] at this
  · rw [msum_mix v (nodup_drop h.nd)]
    have h3 := Rat.mul_le_mul_of_nonneg_left (Rat.le_of_lt st2) s0
    grind
theorem keys_drop {k : Nat} (hk : k ∈ keys (mdrop m p)) : k ∈ keys m ∧ k ≠ p := by
  obtain ⟨kv, h1, rfl⟩ := List.mem_map.mp hk
  obtain ⟨h2, h3⟩ := List.mem_filter.mp h1
  exact ⟨List.mem_map_of_mem h2, by simpa using h3⟩
theorem keys_mix {k : Nat} (hk : k ∈ keys (mmix m s m2)) : k ∈ keys m ∨ k ∈ keys m2 := by
  unfold mmix at hk
  induction m2 generalizing m with
  | nil => exact .inl hk
  | cons a m2 ih =>
    rw [List.foldl_cons] at hk
    rcases ih hk with h | h
    · unfold madd at h
      rw [keys_put] at h
      split at h
      · exact .inl h
      · rcases List.mem_append.mp h with h | h
        · exact .inl h
        · right; simp at h; subst h; simp [keys]
    · right; unfold keys at *; rw [List.map_cons]; exact List.mem_cons_of_mem _ h
theorem con_mix {c c2 : List Rat} {M2 : Nat} (h0 : ∀ y ∈ c, 0 ≤ y ∧ y ≤ (M : Rat) ∧ Di D y) (h2 : ∀ y ∈ c2, 0 ≤ y ∧ y ≤ (M2 : Rat) ∧ Di E y) (s0 : 0 ≤ s) (s1 : s ≤ 1) (sd : Di D s) :
    ∀ y ∈ List.zipWith (fun x y => x + s * y) c c2, 0 ≤ y ∧ y ≤ ((M + M2 : Nat) : Rat) ∧ Di (D * E) y := by
  intro y hy
  obtain ⟨i, hi, e⟩ := List.getElem_of_mem hy
  simp at hi
  rw [List.getElem_zipWith] at e
  have q1 := h0 (c[i]'(by omega)) (List.getElem_mem _)
  have q2 := h2 (c2[i]'(by omega)) (List.getElem_mem _)
  generalize c[i]'(by omega) = u at *
  generalize c2[i]'(by omega) = w at *
  obtain ⟨u0, u1, u2⟩ := q1
  obtain ⟨w0, w1, w2⟩ := q2
  have sw0 := Rat.mul_nonneg s0 w0
  have sw1 : s * w ≤ 1 * w := Rat.mul_le_mul_of_nonneg_right s1 w0
  subst e
  refine ⟨by grind, ?_, (u2.up E).add (sd.mul w2)⟩
  rw [Rat.natCast_add]
  grind
end
end PI

set_option maxRecDepth 100000
set_option maxHeartbeats 1000000
/-! QP: the system of rows in the heap. -/
namespace PI
open PySem
def upd {α : Type} (f : Nat → α) (p : Nat) (x : α) : Nat → α := fun i => if i = p then x else f i
theorem upd_at {α : Type} {f : Nat → α} {p : Nat} {x : α} : upd f p x p = x := if_pos rfl
theorem upd_off {α : Type} {f : Nat → α} {p i : Nat} {x : α} (h : i ≠ p) : upd f p x i = f i := if_neg h
structure Sys where
  ms : Nat → Mp
  cs : Nat → List Rat
  S : Nat → Nat
  C : Nat → Nat
def refL (f : Nat → Nat) (n : Nat) : List D := ((List.range n).map f).map .ref
/-- g: the heap ahead, which stays -/
structure Rep (g h : Hh) (aS aC n : Nat) (y : Sys) : Prop where
  hS : h[aS]? = some (.lst (refL y.S n))
  hC : h[aC]? = some (.lst (refL y.C n))
  rows : ∀ i, i < n → h[y.S i]? = some (.dct (dctM (y.ms i)))
  cons : ∀ i, i < n → h[y.C i]? = some (.lst ((y.cs i).map fr))
  inj : ∀ i j, i < n → j < n → y.S i = y.S j → i = j
  apart : ∀ i j, i < n → j < n → y.S i ≠ y.C j
  aps : ∀ i, i < n → y.S i ≠ aS ∧ y.S i ≠ aC ∧ y.C i ≠ aS ∧ y.C i ≠ aC
  ne : aS ≠ aC
  keep : ∀ a, a < g.length → h[a]? = g[a]?
  lo : g.length ≤ aS ∧ g.length ≤ aC ∧ ∀ i, i < n → g.length ≤ y.S i ∧ g.length ≤ y.C i
theorem get_lt {h : Hh} {a : Nat} {o : O} (e : h[a]? = some o) : a < h.length := (List.getElem?_eq_some_iff.mp e).1
theorem refL_get {f : Nat → Nat} {n i : Nat} (hi : i < n) : ((List.range n).map f)[i]? = some (f i) := by
  rw [List.getElem?_map, List.getElem?_range hi]; rfl
theorem refL_set {f : Nat → Nat} {n p r : Nat} : (refL f n).set p (.ref r) = refL (upd f p r) n := by
  unfold refL
  apply List.ext_getElem
  · simp
  · intro i h1 h2
    simp at h1 h2
    rw [List.getElem_set]
    by_cases e : p = i
    · subst e; simp [upd]
    · rw [if_neg e]; simp [upd, Ne.symm e]
section
variable {g h : Hh} {aS aC n : Nat} {y : Sys}
theorem Rep.keep_set (r : Rep g h aS aC n y) {b : Nat} (hb : g.length ≤ b) (o : O) : ∀ a, a < g.length → (h.set b o)[a]? = g[a]? := fun a ha => by
  rw [List.getElem?_set_ne (by omega)]
  exact r.keep a ha
theorem Rep.app (r : Rep g h aS aC n y) (f : List O) : Rep g (h ++ f) aS aC n y :=
  ⟨get_app r.hS, get_app r.hC, fun i hi => get_app (r.rows i hi), fun i hi => get_app (r.cons i hi), r.inj, r.apart, r.aps, r.ne, fun a ha => by
    rw [List.getElem?_append_left (by have := get_lt r.hS; have := r.lo.1; omega)]
    exact r.keep a ha, r.lo⟩
/-- a row's dict is changed in place -/
theorem Rep.mut (r : Rep g h aS aC n y) {p : Nat} (hp : p < n) (m : Mp) : Rep g (h.set (y.S p) (.dct (dctM m))) aS aC n { y with ms := upd y.ms p m } := by
  have ne : ∀ {a : Nat}, a ≠ y.S p → (h.set (y.S p) (O.dct (dctM m)))[a]? = h[a]? := fun hne => List.getElem?_set_ne (Ne.symm hne)
  refine ⟨(ne (Ne.symm (r.aps p hp).1)).trans r.hS, (ne (Ne.symm (r.aps p hp).2.1)).trans r.hC, fun i hi => ?_, fun i hi => (ne (Ne.symm (r.apart p i hp hi))).trans (r.cons i hi), r.inj, r.apart, r.aps, r.ne, r.keep_set (r.lo.2.2 p hp).1 _, r.lo⟩
  show (h.set (y.S p) (O.dct (dctM m)))[y.S i]? = some (.dct (dctM (upd y.ms p m i)))
  by_cases e : i = p
  · subst e
    rw [upd_at, List.getElem?_set_self (get_lt (r.rows i hp))]
  · rw [upd_off e, ne fun z => e (r.inj i p hi hp z)]
    exact r.rows i hi
/-- shares[p] is another dict -/
theorem Rep.setS (r : Rep g h aS aC n y) {p a : Nat} (hp : p < n) {m : Mp} (ha : h[a]? = some (.dct (dctM m))) (hne : (∀ i, i < n → a ≠ y.S i ∧ a ≠ y.C i) ∧ a ≠ aS ∧ a ≠ aC ∧ g.length ≤ a) :
    Rep g (h.set aS (.lst (refL (upd y.S p a) n))) aS aC n { y with ms := upd y.ms p m, S := upd y.S p a } := by
  have ne : ∀ {b : Nat}, b ≠ aS → (h.set aS (O.lst (refL (upd y.S p a) n)))[b]? = h[b]? := fun hne => List.getElem?_set_ne (Ne.symm hne)
  refine ⟨List.getElem?_set_self (get_lt r.hS), (ne (Ne.symm r.ne)).trans r.hC, fun i hi => ?_, fun i hi => (ne (r.aps i hi).2.2.1).trans (r.cons i hi), fun i j hi hj e => ?_, fun i j hi hj => ?_, fun i hi => ?_, r.ne, r.keep_set r.lo.1 _, ⟨r.lo.1, r.lo.2.1, fun i hi => ?_⟩⟩
  · show (h.set aS _)[upd y.S p a i]? = some (.dct (dctM (upd y.ms p m i)))
    by_cases e : i = p
    · subst e; rw [upd_at, upd_at, ne hne.2.1]; exact ha
    · rw [upd_off e, upd_off e, ne (r.aps i hi).1]; exact r.rows i hi
  · have e : upd y.S p a i = upd y.S p a j := e
    by_cases e1 : i = p <;> by_cases e2 : j = p
    · rw [e1, e2]
    · rw [e1, upd_at, upd_off e2] at e; exact absurd e (hne.1 j hj).1
    · rw [e2, upd_at, upd_off e1] at e; exact absurd e.symm (hne.1 i hi).1
    · rw [upd_off e1, upd_off e2] at e; exact r.inj i j hi hj e
  · show upd y.S p a i ≠ y.C j
    by_cases e1 : i = p
    · rw [e1, upd_at]; exact (hne.1 j hj).2
    · rw [upd_off e1]; exact r.apart i j hi hj
  · show upd y.S p a i ≠ aS ∧ upd y.S p a i ≠ aC ∧ _
    by_cases e1 : i = p
    · rw [e1, upd_at]; exact ⟨hne.2.1, hne.2.2.1, (r.aps p hp).2.2⟩
    · rw [upd_off e1]; exact r.aps i hi
  · show g.length ≤ upd y.S p a i ∧ g.length ≤ y.C i
    by_cases e1 : i = p
    · rw [e1, upd_at]; exact ⟨hne.2.2.2, (r.lo.2.2 p hp).2⟩
    · rw [upd_off e1]; exact r.lo.2.2 i hi
/-- constants[p] is another list -/
theorem Rep.setC (r : Rep g h aS aC n y) {p a : Nat} (hp : p < n) {c : List Rat} (ha : h[a]? = some (.lst (c.map fr))) (hne : (∀ i, i < n → a ≠ y.S i) ∧ a ≠ aS ∧ a ≠ aC ∧ g.length ≤ a) :
    Rep g (h.set aC (.lst (refL (upd y.C p a) n))) aS aC n { y with cs := upd y.cs p c, C := upd y.C p a } := by
  have ne : ∀ {b : Nat}, b ≠ aC → (h.set aC (O.lst (refL (upd y.C p a) n)))[b]? = h[b]? := fun hne => List.getElem?_set_ne (Ne.symm hne)
  refine ⟨(ne r.ne).trans r.hS, List.getElem?_set_self (get_lt r.hC), fun i hi => (ne (r.aps i hi).2.1).trans (r.rows i hi), fun i hi => ?_, r.inj, fun i j hi hj => ?_, fun i hi => ?_, r.ne, r.keep_set r.lo.2.1 _, ⟨r.lo.1, r.lo.2.1, fun i hi => ?_⟩⟩
  · show (h.set aC _)[upd y.C p a i]? = some (.lst ((upd y.cs p c i).map fr))
    by_cases e : i = p
    · subst e; rw [upd_at, upd_at, ne hne.2.2.1]; exact ha
    · rw [upd_off e, upd_off e, ne (r.aps i hi).2.2.2]; exact r.cons i hi
  · show y.S i ≠ upd y.C p a j
    by_cases e1 : j = p
    · rw [e1, upd_at]; exact Ne.symm (hne.1 i hi)
    · rw [upd_off e1]; exact r.apart i j hi hj
  · show y.S i ≠ aS ∧ y.S i ≠ aC ∧ upd y.C p a i ≠ aS ∧ upd y.C p a i ≠ aC
    by_cases e1 : i = p
    · rw [e1, upd_at]; exact ⟨(r.aps p hp).1, (r.aps p hp).2.1, hne.2.1, hne.2.2.1⟩
    · rw [upd_off e1]; exact r.aps i hi
  · show g.length ≤ y.S i ∧ g.length ≤ upd y.C p a i
    by_cases e1 : i = p
    · rw [e1, upd_at]; exact ⟨(r.lo.2.2 p hp).1, hne.2.2.2⟩
    · rw [upd_off e1]; exact r.lo.2.2 i hi
/-- an address behind the heap is apart from all -/
theorem Rep.fresh (r : Rep g h aS aC n y) {a : Nat} (ha : h.length ≤ a) : (∀ i, i < n → a ≠ y.S i ∧ a ≠ y.C i) ∧ a ≠ aS ∧ a ≠ aC ∧ g.length ≤ a := by
  have f : ∀ {b : Nat} {o : O}, h[b]? = some o → a ≠ b := fun e z => by have := get_lt e; omega
  exact ⟨fun i hi => ⟨f (r.rows i hi), f (r.cons i hi)⟩, f r.hS, f r.hC, by have := get_lt r.hS; have := r.lo.1; omega⟩
end
section
variable {P : Pg} {C : Nat → List D → Hh → R D} {σ : Sto} {h : Hh}
/-- {later: f(part) for later, part in d.items()}, the heap left alone by f -/
theorem ev_dcI {k v e : E} {t : Tg} {own : List Nat} {a : Nat} {m : Mp} (g : Rat → Rat) (hk : h[a]? = some (.dct (dctM m))) (e1 : ∀ h', ev P C e σ h' = .ok (.ref a) h') (hl : m.length ≤ LIM)
    (step : ∀ (j : Nat) (q : Rat), (j, q) ∈ m → ∃ σ1, asT t (.tup [nat j, fr q]) (wipe σ own) = some σ1 ∧ ∀ h', ev P C k σ1 h' = .ok (nat j) h' ∧ ev P C v σ1 h' = .ok (fr (g q)) h') (nd : (keys m).Nodup) :
    ev P C (.dcI k v t e own) σ h = .ok (.ref h.length) (h ++ [.dct (dctM (m.map fun kv => (kv.1, g kv.2)))]) := by
  have hlk : lock a h = some (dctM m, h.set a (.fdc (dctM m))) := by unfold lock; rw [hk]
  have hal : a < h.length := get_lt hk
  have hth : thaw a (h.set a (.fdc (dctM m))) = some h := by
    unfold thaw
    rw [List.getElem?_set_self hal]
    show some ((h.set a (.fdc (dctM m))).set a (.dct (dctM m))) = some h
    rw [set_back hk]
  have hlen : (dctM m).length = m.length := by unfold dctM; exact List.length_map ..
  have key := dc_pure (fin := fun _ => true) (get := fun _ => kvAt (dctM m)) (bind := fun x => asT t x (wipe σ own)) (key := fun σ1 h => (ev P C k σ1 h).nox) (val := fun σ1 h => (ev P C v σ1 h).nox) (h := h.set a (.fdc (dctM m))) m.length
    (fun i => ((m.getD i (0, 0)).1 : Int)) (fun i => fr (g (m.getD i (0, 0)).2)) rfl (fun i hi => by
      have hm : m[i]? = some m[i] := List.getElem?_eq_getElem hi
      obtain ⟨σ1, q1, q2⟩ := step (m[i]).1 (m[i]).2 (List.getElem_mem _)
      obtain ⟨q2, q3⟩ := q2 (h.set a (.fdc (dctM m)))
      refine ⟨.tup [nat (m[i]).1, fr (m[i]).2], σ1, ?_, q1, ?_, ?_⟩
      · unfold kvAt dctM; rw [List.getElem?_map, hm]; rfl
      · rw [q2, List.getD_eq_getElem?_getD, hm]; rfl
      · rw [q3, List.getD_eq_getElem?_getD, hm]; rfl) m.length 0 [] (by omega)
  have fold : ∀ (l : Mp) (acc : Mp), (keys (acc ++ l)).Nodup → l.foldl (fun a kv => dput a (kv.1 : Int) (fr (g kv.2))) (dctM (acc.map fun kv => (kv.1, g kv.2))) = dctM ((acc ++ l).map fun kv => (kv.1, g kv.2)) := by
    intro l
    induction l with
    | nil => intro acc _; simp
    | cons b l ih =>
      intro acc hnd
      rw [List.foldl_cons, dput_M]
      have hb : mput (acc.map fun kv => (kv.1, g kv.2)) b.1 (g b.2) = (acc ++ [b]).map fun kv => (kv.1, g kv.2) := by
        unfold mput
        rw [if_neg]
        · rw [List.map_append]; rfl
        · intro hany
          obtain ⟨kv, h1, h2⟩ := List.any_eq_true.mp hany
          obtain ⟨kv0, h3, rfl⟩ := List.mem_map.mp h1
          have h2 : kv0.1 = b.1 := by simpa using h2
          unfold keys at hnd
          rw [List.map_append, List.nodup_append] at hnd
          exact hnd.2.2 kv0.1 (List.mem_map_of_mem h3) b.1 (by simp) h2
      rw [hb, ih (acc ++ [b]) (by rw [List.append_assoc]; exact hnd), List.append_assoc]; rfl
  have conv : (List.range' 0 m.length).foldl (fun a j => dput a ((m.getD j (0, 0)).1 : Int) (fr (g (m.getD j (0, 0)).2))) [] = dctM (m.map fun kv => (kv.1, g kv.2)) := by
    have h1 := fold m [] (by simpa using nd)
    rw [List.nil_append] at h1
    rw [← h1]
    have h2 : m = (List.range' 0 m.length).map fun j => m.getD j (0, 0) := by
      apply List.ext_getElem
      · simp
      · intro i h3 h4
        simp [List.getD_eq_getElem?_getD, List.getElem?_eq_getElem h3]
    conv => rhs; rw [h2]
    rw [List.foldl_map]; rfl
  rw [conv] at key
  rw [ev]
  simp only [e1, hlk, R.bnd_ok]
  rw [if_pos ⟨by simp [isRef], by rw [hlen]; exact hl⟩, hlen]
  rw [show dcGo (fun _ => true) (fun _ => kvAt (dctM m)) (fun x => asT t x (wipe σ own)) (fun σ1 h => (ev P C k σ1 h).nox) (fun σ1 h => (ev P C v σ1 h).nox) m.length 0 [] (h.set a (.fdc (dctM m))) = _ from key]
  simp only [R.bnd_ok, hth]
  rfl
/-- [f(x) for x in a list] -/
theorem comp_lst {x : E} {t : Tg} {e : E} {own : List Nat} {a : Nat} {xs : List D} (v : D → D) (e0 : ev P C x σ h = .ok (.ref a) h) (ha : h[a]? = some (.lst xs)) (hl : xs.length ≤ LIM) (step : ∀ y ∈ xs, ∃ σ1, asT t y (wipe σ own) = some σ1 ∧ ev P C e σ1 h = .ok (v y) h) :
    evL P C (.comp e t (.seq (.of x)) .none own) σ h = .ok (.new (xs.map v)) h := by
  have hi : (LV.val (.ref a)).items h = some xs := items_lst ha
  have ei : evIt P C (.seq (.of x)) σ h = .ok ⟨xs.length, fun h i => (LV.val (.ref a)).at_ xs.length h i, (LV.val (.ref a)).fin xs.length⟩ h := by
    simp only [evIt, evL, e0, R.bnd_ok, hi]
  rw [evL, ei, R.bnd_ok, if_pos (show xs.length ≤ LIM from hl)]
  have key := lc_pure (fin := (LV.val (.ref a)).fin xs.length) (get := fun h i => (LV.val (.ref a)).at_ xs.length h i) (bind := fun x => asT t x (wipe σ own)) (test := fun σ1 h => (evC P C .none σ1 h).nox) (elt := fun σ1 h => (ev P C e σ1 h).nox) (h := h) xs.length (fun i => v (xs.getD i .non)) (by unfold LV.fin; rw [hi]; simp) (fun i hi2 => by
    obtain ⟨σ1, q1, q2⟩ := step (xs[i]) (List.getElem_mem _)
    refine ⟨xs[i], σ1, ?_, q1, by simp only [evC, R.nox_ok], ?_⟩
    · unfold LV.at_
      rw [hi]
      simp [List.getElem?_eq_getElem hi2]
    · rw [q2, R.nox_ok, List.getD_eq_getElem?_getD, List.getElem?_eq_getElem hi2]; rfl) xs.length 0 (by omega)
  show (lcGo ((LV.val (.ref a)).fin xs.length) (fun h i => (LV.val (.ref a)).at_ xs.length h i) (fun x => asT t x (wipe σ own)) (fun σ1 h => (evC P C .none σ1 h).nox) (fun σ1 h => (ev P C e σ1 h).nox) xs.length 0 h).bnd _ = _
  rw [key]
  simp only [R.bnd_ok]
  congr 2
  apply List.ext_getElem
  · simp
  · intro i h2 h3
    simp at h2
    simp [List.getD_eq_getElem?_getD, List.getElem?_eq_getElem h2]
end
end PI

set_option maxRecDepth 100000
set_option maxHeartbeats 2000000
/-! QQ: a place freed of its own part, on the interpreter. -/
namespace PI
open PySem
/-- a list of constants: how many, not negative, bounded, a common denominator -/
structure CI (D M k : Nat) (c : List Rat) : Prop where
  len : c.length = k
  all : ∀ x ∈ c, 0 ≤ x ∧ x ≤ (M : Rat) ∧ Di D x
theorem CI.ok {D M k : Nat} {c : List Rat} (h : CI D M k c) (hD : 0 < D) (hb : D.log2 < 4400) (hM : M.log2 < 50000) {x : Rat} (hx : x ∈ c) : okF x := by
  obtain ⟨h1, h2, h3⟩ := h.all x hx
  exact (okF_of h3 hD hb h1 h2 hM).1
/-- a row freed of its own part -/
def selfF (p : Nat) (m : Mp) : Mp := match mlook m p with
  | none => m
  | some x => mscale (mdrop m p) (1 - x)
def selfC (p : Nat) (m : Mp) (c : List Rat) : List Rat := match mlook m p with
  | none => c
  | some x => c.map fun q => q / (1 - x)
theorem ev_in_dct {P : Pg} {C : Nat → List D → Hh → R D} {σ : Sto} {h : Hh} {a b : E} {r k : Nat} {m : Mp} (ea : ev P C a σ h = .ok (nat k) h) (eb : ev P C b σ h = .ok (.ref r) h) (hr : h[r]? = some (.dct (dctM m))) : ev P C (.cmp .in_ a b) σ h = .ok (.bl (mlook m k).isSome) h := by
  refine ev_cmp ea eb ?_
  show inop (nat k) (.ref r) h = _
  unfold inop
  simp only [dctOf_at hr]
  show some (dlook (dctM m) (k : Nat)).isSome = _
  rw [dlook_M]
  cases mlook m k <;> rfl
section
variable {P : Pg} {d : Nat} {g h : Hh} {aS aC n : Nat} {y : Sys} {v : Nat → Rat}
theorem self_turn (a : HasT P) (r : Rep g h aS aC n y) (hn : n ≤ 1000) {p : Nat} (hp : p < n) (hv : ∀ k, 0 < v k) {De M k : Nat} (mi : MI De (y.ms p)) (hD : 0 < De) (hb : De.log2 < 4400) (st : msum v (y.ms p) < v p) (hkl : (y.ms p).length ≤ 1000) (ci : CI De M k (y.cs p)) (hM : M.log2 < 50000) (hk : k ≤ 1000)
    {s0 s1 s2 s6 s7 s8 s9 s10 s11 s12 s13 s14 : Option D} {rest : Ss} : ∃ s6' s7' h' y' D', execs P (callN P (d + 3)) (.cons (.set (.nm 6) (.idx (.var 3) (.var 5))) (.cons (.if_ (.cmp .in_ (.var 5) (.var 6)) (.cons (.set (.nm 7) (.call 5 (.cons (.glo 1) (.cons (.pop (.var 6) (.var 5)) .nil)))) (.cons (.sub (.var 3) (.var 5) (.dcI (.var 8) (.call 7 (.cons (.var 9) (.cons (.var 7) .nil))) (.tup (.cons (.nm 8) (.cons (.nm 9) .nil))) (.var 6) [8, 9])) (.cons (.sub (.var 4) (.var 5) (.lst (.comp (.call 7 (.cons (.var 9) (.cons (.var 7) .nil))) (.nm 9) (.seq (.of (.idx (.var 4) (.var 5)))) .none [9]))) .nil))) .nil) rest)) [s0, s1, s2, some (.ref aS), some (.ref aC), some (nat p), s6, s7, s8, s9, s10, s11, s12, s13, s14] h =
      execs P (callN P (d + 3)) rest [s0, s1, s2, some (.ref aS), some (.ref aC), some (nat p), s6', s7', s8, s9, s10, s11, s12, s13, s14] h' ∧ Rep g h' aS aC n y' ∧ h.length ≤ h'.length ∧ (∀ i, i ≠ p → y'.ms i = y.ms i ∧ y'.cs i = y.cs i) ∧ 0 < D' ∧ D' ≤ De ∧ MI D' (y'.ms p) ∧ CI D' (M * De) k (y'.cs p) ∧ msum v (y'.ms p) < v p ∧ (∀ j ∈ keys (y'.ms p), j ∈ keys (y.ms p) ∧ j ≠ p) ∧ (y'.ms p).length ≤ (y.ms p).length ∧ y'.ms p = selfF p (y.ms p) ∧ y'.cs p = selfC p (y.ms p) (y.cs p) := by
  have iS : idxop (.ref aS) (nat p) h = some (.ref (y.S p)) := idx_lst r.hS (by unfold refL; rw [List.getElem?_map, refL_get hp]; rfl) (by omega)
  have e1 : exec P (callN P (d + 3)) (.set (.nm 6) (.idx (.var 3) (.var 5))) [s0, s1, s2, some (.ref aS), some (.ref aC), some (nat p), s6, s7, s8, s9, s10, s11, s12, s13, s14] h = .ok (.nx [s0, s1, s2, some (.ref aS), some (.ref aC), some (nat p), some (.ref (y.S p)), s7, s8, s9, s10, s11, s12, s13, s14]) h :=
    ex_set (ev_idx (ev_var rfl) (ev_var rfl) iS) rfl
  rw [ex_nx e1]
  have ei := ev_in_dct (P := P) (C := callN P (d + 3)) (σ := [s0, s1, s2, some (.ref aS), some (.ref aC), some (nat p), some (.ref (y.S p)), s7, s8, s9, s10, s11, s12, s13, s14]) (a := .var 5) (b := .var 6) (k := p) (ev_var rfl) (ev_var rfl) (r.rows p hp)
  cases hx : mlook (y.ms p) p with
  | none =>
    rw [hx] at ei
    refine ⟨some (.ref (y.S p)), s7, h, y, De, ex_nx ((ex_if ei).trans (by rw [if_neg (by decide)]; rfl)), r, Nat.le_refl _, fun i _ => ⟨rfl, rfl⟩, hD, Nat.le_refl _, mi, ⟨ci.len, fun x hx => ?_⟩, st, fun j hj => ⟨hj, fun z => ?_⟩, Nat.le_refl _, by unfold selfF; rw [hx], by unfold selfC; rw [hx]⟩
    · obtain ⟨h1, h2, h3⟩ := ci.all x hx
      refine ⟨h1, Rat.le_trans h2 ?_, h3⟩
      exact Rat.natCast_le_natCast.mpr (Nat.le_mul_of_pos_right _ hD)
    · subst z
      exact mlook_none.mp hx hj
  | some x =>
    rw [hx] at ei
    obtain ⟨x0, x1, D', r1, r2, r3, mi', st', cb⟩ := self_elim (M := M) hv mi hD st hx
    have xm := mlook_mem hx
    have dix : Di De x := mi.di _ xm
    have okx : okF x := mi.okp hD hb xm
    have hr0 : (0 : Rat) < 1 - x := by grind
    have okr3 := okF_of (M := 1) ((Di.one De).sub dix) hD hb (Rat.le_of_lt hr0) (by show 1 - x ≤ ((1 : Nat) : Rat); have e1 : ((1 : Nat) : Rat) = 1 := rfl; rw [e1]; have x0' : 0 ≤ x := x0; grind) (by decide)
    obtain ⟨okr, _, okn⟩ := okr3
    have hnum : 0 < (1 - x).num := by
      have h1 := Rat.num_nonneg.mpr (Rat.le_of_lt hr0)
      have h2 : (1 - x).num ≠ 0 := fun z => by
        have := Rat.num_eq_zero.mp z
        rw [this] at hr0
        exact absurd hr0 (by decide)
      omega
    have hnl : (1 - x).num.natAbs.log2 < 4400 := Nat.lt_of_le_of_lt (log2_mono (by omega)) hb
    -- rest
    generalize hσ0 : [s0, s1, s2, some (D.ref aS), some (.ref aC), some (nat p), some (.ref (y.S p)), s7, s8, s9, s10, s11, s12, s13, s14] = σ0 at ei
    have w5 : ∀ h, ev P (callN P (d + 3)) (.var 5) σ0 h = .ok (nat p) h := fun h => by rw [← hσ0]; exact ev_var rfl
    have w6 : ∀ h, ev P (callN P (d + 3)) (.var 6) σ0 h = .ok (.ref (y.S p)) h := fun h => by rw [← hσ0]; exact ev_var rfl
    have pop := ev_pop (k := p) (v := fr x) (w6 h) ⟨_, dctOf_at (r.rows p hp)⟩ (w5 h) (r.rows p hp) (by rw [dlook_M, hx]; rfl)
    rw [ddrop_M] at pop
    have R1 := r.mut hp (mdrop (y.ms p) p)
    generalize hh1 : h.set (y.S p) (O.dct (dctM (mdrop (y.ms p) p))) = h1 at pop R1
    have len1 : h1.length = h.length := by rw [← hh1]; exact List.length_set ..
    have one : okF 1 := ⟨by decide, by decide⟩
    have e2 : exec P (callN P (d + 3)) (.set (.nm 7) (.call 5 (.cons (.glo 1) (.cons (.pop (.var 6) (.var 5)) .nil)))) σ0 h = .ok (.nx [s0, s1, s2, some (.ref aS), some (.ref aC), some (nat p), some (.ref (y.S p)), some (fr (1 - x)), s8, s9, s10, s11, s12, s13, s14]) h1 := by
      refine ex_set (v := fr (1 - x)) ?_ (by rw [← hσ0]; rfl)
      exact (ev_call (evs_cons (show ev P (callN P (d + 3)) (.glo 1) σ0 h = .ok (fr 1) h by rw [ev, a.g1]; rfl) (evs_cons pop evs_nil))).trans (minus_ok a.toHasA 1 x one okx)
    have om : ∀ kv ∈ mdrop (y.ms p) p, okF kv.2 := fun kv hkv => (mi.drop p).okp hD hb hkv
    generalize hσ2 : [s0, s1, s2, some (D.ref aS), some (.ref aC), some (nat p), some (.ref (y.S p)), some (fr (1 - x)), s8, s9, s10, s11, s12, s13, s14] = σ2 at e2
    have w3 : ∀ h, ev P (callN P (d + 3)) (.var 3) σ2 h = .ok (.ref aS) h := fun h => by rw [← hσ2]; exact ev_var rfl
    have w4 : ∀ h, ev P (callN P (d + 3)) (.var 4) σ2 h = .ok (.ref aC) h := fun h => by rw [← hσ2]; exact ev_var rfl
    have w5' : ∀ h, ev P (callN P (d + 3)) (.var 5) σ2 h = .ok (nat p) h := fun h => by rw [← hσ2]; exact ev_var rfl
    have w6' : ∀ h, ev P (callN P (d + 3)) (.var 6) σ2 h = .ok (.ref (y.S p)) h := fun h => by rw [← hσ2]; exact ev_var rfl
    have row1 : h1[y.S p]? = some (.dct (dctM (mdrop (y.ms p) p))) := by
      refine (R1.rows p hp).trans ?_
      show some (O.dct (dctM (upd y.ms p (mdrop (y.ms p) p) p))) = _
      rw [upd_at]
    have dc := ev_dcI (P := P) (C := callN P (d + 3)) (σ := σ2) (h := h1) (k := .var 8) (v := .call 7 (.cons (.var 9) (.cons (.var 7) .nil))) (e := .var 6) (t := .tup (.cons (.nm 8) (.cons (.nm 9) .nil))) (own := [8, 9]) (fun q => q / (1 - x)) row1 w6' (by
        have : (mdrop (y.ms p) p).length ≤ (y.ms p).length := List.length_filter_le ..
        simp only [LIM]; omega) (fun j q hjq => by
        refine ⟨[s0, s1, s2, some (.ref aS), some (.ref aC), some (nat p), some (.ref (y.S p)), some (fr (1 - x)), some (nat j), some (fr q), s10, s11, s12, s13, s14], by rw [← hσ2]; rfl, fun h' => ⟨ev_var rfl, ?_⟩⟩
        exact (ev_call (evs_cons (ev_var rfl) (evs_cons (ev_var rfl) evs_nil))).trans (over_ok a.toHasA q (1 - x) (om _ hjq) okr hnum hnl)) (nodup_drop mi.nd)
    have hsc : (mdrop (y.ms p) p).map (fun kv => (kv.1, kv.2 / (1 - x))) = mscale (mdrop (y.ms p) p) (1 - x) := rfl
    rw [hsc] at dc
    generalize hm' : mscale (mdrop (y.ms p) p) (1 - x) = m' at dc mi' st'
    have hrl : ∀ f : Nat → Nat, (refL f n).length = n := fun f => by unfold refL; simp
    have R1a := R1.app [.dct (dctM m')]
    have fr1 := R1.fresh (a := h1.length) (Nat.le_refl _)
    have e3 := ex_subL (P := P) (C := callN P (d + 3)) (σ := σ2) (o := .var 3) (i := .var 5) dc (w3 _) (w5' _) R1a.hS (by rw [hrl]; exact hp)
    rw [refL_set] at e3
    have R2 := R1a.setS hp (m := m') (last_get h1 _) fr1
    generalize hh2 : (h1 ++ [O.dct (dctM m')]).set aS (.lst (refL (upd y.S p h1.length) n)) = h2 at e3 R2
    have len2 : h2.length = h.length + 1 := by rw [← hh2, List.length_set, List.length_append, len1]; rfl
    have iC : idxop (.ref aC) (nat p) h2 = some (.ref (y.C p)) := idx_lst R2.hC (by unfold refL; rw [List.getElem?_map, refL_get hp]; rfl) (by omega)
    have ccons : h2[y.C p]? = some (.lst ((y.cs p).map fr)) := R2.cons p hp
    have vfr : ∀ q : Rat, (match fr q with
      | .tup [.int n, .int m] => fr (mkRat n m.toNat / (1 - x))
      | _ => D.non) = fr (q / (1 - x)) := fun q => by
      show fr (mkRat q.num ((q.den : Int).toNat) / (1 - x)) = _
      rw [Int.toNat_natCast, Rat.mkRat_self]
    have cl := comp_lst (P := P) (C := callN P (d + 3)) (σ := σ2) (h := h2) (x := .idx (.var 4) (.var 5)) (t := .nm 9) (own := [9]) (e := .call 7 (.cons (.var 9) (.cons (.var 7) .nil))) (fun d => match d with
      | .tup [.int n, .int m] => fr (mkRat n m.toNat / (1 - x))
      | _ => .non) (ev_idx (w4 _) (w5' _) iC) ccons (by rw [List.length_map, ci.len]; simp only [LIM]; omega) (fun z hz => by
        obtain ⟨q, hq, rfl⟩ := List.mem_map.mp hz
        refine ⟨[s0, s1, s2, some (.ref aS), some (.ref aC), some (nat p), some (.ref (y.S p)), some (fr (1 - x)), s8, some (fr q), s10, s11, s12, s13, s14], by rw [← hσ2]; rfl, ?_⟩
        rw [vfr]
        exact (ev_call (evs_cons (ev_var rfl) (evs_cons (ev_var rfl) evs_nil))).trans (over_ok a.toHasA q (1 - x) (ci.ok hD hb hM hq) okr hnum hnl))
    have hcl : ((y.cs p).map fr).map (fun d => match d with
      | .tup [.int n, .int m] => fr (mkRat n m.toNat / (1 - x))
      | _ => D.non) = ((y.cs p).map fun q => q / (1 - x)).map fr := by
      rw [List.map_map, List.map_map]
      exact List.map_congr_left fun q _ => vfr q
    rw [hcl] at cl
    have e4v : ev P (callN P (d + 3)) (.lst (.comp (.call 7 (.cons (.var 9) (.cons (.var 7) .nil))) (.nm 9) (.seq (.of (.idx (.var 4) (.var 5)))) .none [9])) σ2 h2 = .ok (.ref h2.length) (h2 ++ [.lst (((y.cs p).map fun q => q / (1 - x)).map fr)]) := by
      rw [ev, cl, R.bnd_ok]; rfl
    have R2a := R2.app [.lst (((y.cs p).map fun q => q / (1 - x)).map fr)]
    have fr2 := R2.fresh (a := h2.length) (Nat.le_refl _)
    have e4 := ex_subL (P := P) (C := callN P (d + 3)) (σ := σ2) (o := .var 4) (i := .var 5) e4v (w4 _) (w5' _) R2a.hC (by rw [hrl]; exact hp)
    rw [refL_set] at e4
    have R3 := R2a.setC hp (c := (y.cs p).map fun q => q / (1 - x)) (last_get h2 _) ⟨fun i hi => (fr2.1 i hi).1, fr2.2⟩
    refine ⟨_, _, _, _, D', ex_nx (σ1 := σ2) ((ex_if ei).trans (by rw [if_pos (show (some x).isSome = true from rfl), ex_nx e2, ex_nx e3, ex_nx e4]; exact ex_nil)) |>.trans (by rw [← hσ2]), R3, ?_, fun i hi => ⟨?_, ?_⟩, r2, r3, ?_, ?_, ?_, ?_, ?_, ?_, ?_⟩
    · rw [List.length_set, List.length_append, len2]; omega
    · show upd (upd y.ms p _) p m' i = y.ms i
      rw [upd_off hi, upd_off hi]
    · show upd y.cs p _ i = y.cs i
      rw [upd_off hi]
    · show MI D' (upd (upd y.ms p _) p m' p)
      rw [upd_at]; exact mi'
    · show CI D' (M * De) k (upd y.cs p _ p)
      rw [upd_at]
      refine ⟨by rw [List.length_map]; exact ci.len, fun z hz => ?_⟩
      obtain ⟨q, hq, rfl⟩ := List.mem_map.mp hz
      obtain ⟨q0, q1, q2⟩ := ci.all q hq
      obtain ⟨c1, c2⟩ := cb q q0 q1
      exact ⟨c1, c2, q2.div r1 (by grind)⟩
    · show msum v (upd (upd y.ms p _) p m' p) < v p
      rw [upd_at]; exact st'
    · intro j hj
      have hj : j ∈ keys (upd (upd y.ms p (mdrop (y.ms p) p)) p m' p) := hj
      rw [upd_at, ← hm', keys_scale] at hj
      exact keys_drop hj
    · show (upd (upd y.ms p _) p m' p).length ≤ _
      rw [upd_at, ← hm']
      unfold mscale
      rw [List.length_map]
      exact List.length_filter_le ..
    · show upd (upd y.ms p _) p m' p = _
      rw [upd_at, ← hm']
      unfold selfF
      rw [hx]
    · show upd y.cs p _ p = _
      rw [upd_at]
      unfold selfC
      rw [hx]
end
end PI

set_option maxRecDepth 100000
set_option maxHeartbeats 2000000
/-! QR: a row put into an earlier one, on the interpreter. -/
namespace PI
open PySem
/-- a row put into another -/
def mixF (p : Nat) (m m2 : Mp) : Mp := match mlook m p with
  | none => m
  | some x => mmix (mdrop m p) x m2
def mixC (p : Nat) (m : Mp) (c c2 : List Rat) : List Rat := match mlook m p with
  | none => c
  | some x => List.zipWith (fun u w => u + x * w) c c2
theorem ex_sub2L {P : Pg} {C : Nat → List D → Hh → R D} {σ : Sto} {h h1 : Hh} {o i p j x : E} {r r2 k k2 : Nat} {v1 v2 : D} {xs ys : List D} (ev1 : ev P C x σ h = .ok (.tup [v1, v2]) h1) (eo : ∀ h, ev P C o σ h = .ok (.ref r) h) (ei : ∀ h, ev P C i σ h = .ok (nat k) h) (hr : h1[r]? = some (.lst xs)) (hk : k < xs.length)
    (ep : ∀ h, ev P C p σ h = .ok (.ref r2) h) (ej : ∀ h, ev P C j σ h = .ok (nat k2) h) (hr2 : (h1.set r (.lst (xs.set k v1)))[r2]? = some (.lst ys)) (hk2 : k2 < ys.length) :
    exec P C (.sub2 o i p j x) σ h = .ok (.nx σ) ((h1.set r (.lst (xs.set k v1))).set r2 (.lst (ys.set k2 v2))) := by
  rw [exec, ev1, R.bnd_ok]
  simp only [eo, ei, R.bnd_ok, setL hr hk, ep, ej, setL hr2 hk2]
theorem mmix_len (m : Mp) (s : Rat) : ∀ m2 : Mp, (mmix m s m2).length ≤ m.length + m2.length := by
  have put : ∀ (m : Mp) (k : Nat) (x : Rat), (mput m k x).length ≤ m.length + 1 := fun m k x => by unfold mput; split <;> simp
  intro m2
  unfold mmix
  induction m2 generalizing m with
  | nil => simp
  | cons b l ih =>
    rw [List.foldl_cons, List.length_cons]
    have h4 := ih (madd m b.1 (s * b.2))
    have h5 := put m b.1 ((mlook m b.1).getD 0 + s * b.2)
    unfold madd at h4 ⊢
    omega
section
variable {P : Pg} {d : Nat} {g h : Hh} {aS aC n : Nat} {y : Sys} {v : Nat → Rat}
theorem mix_turn (a : HasT P) (r : Rep g h aS aC n y) (hn : n < 1000) {p b : Nat} (hp : p < n) (hb : b < n) (hbp : b ≠ p) (hv : ∀ k, 0 < v k) {De Ee M M2 k : Nat} (mi : MI De (y.ms b)) (mi2 : MI Ee (y.ms p)) (hD : 0 < De) (hE : 0 < Ee) (hl : (De * Ee).log2 < 4400)
    (st : msum v (y.ms b) < v b) (st2 : msum v (y.ms p) < v p) (hkl : (y.ms b).length + (y.ms p).length < 1000) (ci : CI De M k (y.cs b)) (ci2 : CI Ee M2 k (y.cs p)) (hM : (M + M2).log2 < 50000) (hk : k ≤ 1000)
    {s0 s1 s2 s6 s7 s8 s9 s11 s12 s13 s14 : Option D} : ∃ h' y' D', exec P (callN P (d + 4)) (.if_ (.cmp .in_ (.var 5) (.idx (.var 3) (.var 10))) (.cons (.sub2 (.var 3) (.var 10) (.var 4) (.var 10) (.call 30 (.cons (.var 3) (.cons (.var 4) (.cons (.var 10) (.cons (.var 5) .nil)))))) .nil) .nil) [s0, s1, s2, some (.ref aS), some (.ref aC), some (nat p), s6, s7, s8, s9, some (nat b), s11, s12, s13, s14] h =
      .ok (.nx [s0, s1, s2, some (.ref aS), some (.ref aC), some (nat p), s6, s7, s8, s9, some (nat b), s11, s12, s13, s14]) h' ∧ Rep g h' aS aC n y' ∧ h.length ≤ h'.length ∧ (∀ i, i ≠ b → y'.ms i = y.ms i ∧ y'.cs i = y.cs i) ∧ 0 < D' ∧ D' ≤ De * Ee ∧ MI D' (y'.ms b) ∧ CI D' (M + M2) k (y'.cs b) ∧ msum v (y'.ms b) < v b ∧
        (∀ j ∈ keys (y'.ms b), (j ∈ keys (y.ms b) ∧ j ≠ p) ∨ (j ∈ keys (y.ms p) ∧ p ∈ keys (y.ms b))) ∧ (y'.ms b).length ≤ (y.ms b).length + (y.ms p).length ∧ (p ∉ keys (y.ms b) → y'.ms b = y.ms b ∧ y'.cs b = y.cs b) ∧ y'.ms b = mixF p (y.ms b) (y.ms p) ∧ y'.cs b = mixC p (y.ms b) (y.cs b) (y.cs p) := by
  generalize hσ : [s0, s1, s2, some (D.ref aS), some (.ref aC), some (nat p), s6, s7, s8, s9, some (nat b), s11, s12, s13, s14] = σ
  have w3 : ∀ h, ev P (callN P (d + 4)) (.var 3) σ h = .ok (.ref aS) h := fun h => by rw [← hσ]; exact ev_var rfl
  have w4 : ∀ h, ev P (callN P (d + 4)) (.var 4) σ h = .ok (.ref aC) h := fun h => by rw [← hσ]; exact ev_var rfl
  have w5 : ∀ h, ev P (callN P (d + 4)) (.var 5) σ h = .ok (nat p) h := fun h => by rw [← hσ]; exact ev_var rfl
  have w10 : ∀ h, ev P (callN P (d + 4)) (.var 10) σ h = .ok (nat b) h := fun h => by rw [← hσ]; exact ev_var rfl
  have iS : idxop (.ref aS) (nat b) h = some (.ref (y.S b)) := idx_lst r.hS (by unfold refL; rw [List.getElem?_map, refL_get hb]; rfl) (by omega)
  have ei := ev_in_dct (P := P) (C := callN P (d + 4)) (σ := σ) (a := .var 5) (b := .idx (.var 3) (.var 10)) (k := p) (w5 h) (ev_idx (w3 h) (w10 h) iS) (r.rows b hb)
  have hDE : 0 < De * Ee := Nat.mul_pos hD hE
  have lD : De.log2 < 4400 := Nat.lt_of_le_of_lt (log2_mono (Nat.le_mul_of_pos_right _ hE)) hl
  have lE : Ee.log2 < 4400 := Nat.lt_of_le_of_lt (log2_mono (Nat.le_mul_of_pos_left _ hD)) hl
  have lM : M.log2 < 50000 := Nat.lt_of_le_of_lt (log2_mono (by omega)) hM
  have lM2 : M2.log2 < 50000 := Nat.lt_of_le_of_lt (log2_mono (by omega)) hM
  cases hx : mlook (y.ms b) p with
  | none =>
    rw [hx] at ei
    refine ⟨h, y, De, (ex_if ei).trans (by rw [if_neg (by decide)]; rfl), r, Nat.le_refl _, fun i _ => ⟨rfl, rfl⟩, hD, Nat.le_mul_of_pos_right _ hE, mi, ⟨ci.len, fun x hx => ?_⟩, st, fun j hj => .inl ⟨hj, fun z => ?_⟩, by omega, fun _ => ⟨rfl, rfl⟩, by unfold mixF; rw [hx], by unfold mixC; rw [hx]⟩
    · obtain ⟨h1, h2, h3⟩ := ci.all x hx
      exact ⟨h1, Rat.le_trans h2 (Rat.natCast_le_natCast.mpr (by omega)), h3⟩
    · subst z
      exact mlook_none.mp hx hj
  | some x =>
    rw [hx] at ei
    obtain ⟨x0, x1, xd, mxi, mx, st'⟩ := mix_elim (E := Ee) (m2 := y.ms p) (p := p) (b := b) hv mi mi2 st st2 hx
    have okx : okF x := mi.okp hD lD (mlook_mem hx)
    have ok1 : ∀ z : Rat, 0 ≤ z → z ≤ 1 → Di (De * Ee) z → okF z := fun z z0 z1 zd => (okF_of (M := 1) zd hDE hl z0 z1 (by decide)).1
    have hpi := put_in_ok (d := d) (h := h) (aS := aS) (aC := aC) (p := b) (o := p) (sp := y.S b) (so := y.S p) (cp := y.C b) (co := y.C p) (S := (List.range n).map y.S) (C := (List.range n).map y.C) (m := y.ms b) (m2 := y.ms p) (c := y.cs b) (c2 := y.cs p) (share := x) a r.hS r.hC (refL_get hb) (refL_get hp) (refL_get hb) (refL_get hp)
      (r.rows b hb) (r.rows p hp) (r.cons b hb) (r.cons p hp) (by rw [ci.len, ci2.len]) (by rw [ci.len]; exact hk) hx (by omega) ⟨(r.aps p hp).1, (r.aps p hp).2.1⟩ okx (fun i k' q hq => by
        have hm := List.mem_of_getElem? hq
        have q0 : 0 ≤ q := mi2.nn _ hm
        have q1 : q ≤ 1 := mi2.part hm
        have qd : Di Ee q := mi2.di _ hm
        refine ⟨mi2.okp hE lE hm, ok1 _ (Rat.mul_nonneg x0 q0) ?_ (xd.mul qd), (mxi i).ok hDE hl k', ?_⟩
        · have := Rat.mul_le_mul_of_nonneg_left q1 x0
          grind
        · have h1 := mmix_len (mdrop (y.ms b) p) x ((y.ms p).take i)
          have h2 : (mdrop (y.ms b) p).length ≤ (y.ms b).length := List.length_filter_le ..
          have h3 : ((y.ms p).take i).length ≤ (y.ms p).length := by rw [List.length_take]; omega
          omega) (fun i u w hu hw => by
        have hum := List.mem_of_getElem? hu
        have hwm := List.mem_of_getElem? hw
        obtain ⟨w0, w1, w2⟩ := ci2.all w hwm
        refine ⟨ci.ok hD lD lM hum, ci2.ok hE lE lM2 hwm, (okF_of (M := M2) (xd.mul w2) hDE hl (Rat.mul_nonneg x0 w0) ?_ lM2).1⟩
        have := Rat.mul_le_mul_of_nonneg_right x1 w0
        grind)
    generalize hm' : mmix (mdrop (y.ms b) p) x (y.ms p) = m' at *
    generalize hc' : List.zipWith (fun u w => u + x * w) (y.cs b) (y.cs p) = c' at *
    have hrl : ∀ f : Nat → Nat, (refL f n).length = n := fun f => by unfold refL; simp
    have ecall : ev P (callN P (d + 4)) (.call 30 (.cons (.var 3) (.cons (.var 4) (.cons (.var 10) (.cons (.var 5) .nil))))) σ h = .ok (.tup [.ref h.length, .ref (h.length + 1)]) (h ++ [.dct (dctM m'), .lst (c'.map fr)]) :=
      (ev_call (evs_cons (w3 h) (evs_cons (w4 h) (evs_cons (w10 h) (evs_cons (w5 h) evs_nil))))).trans hpi
    have R1 := r.app [.dct (dctM m'), .lst (c'.map fr)]
    have f1 := r.fresh (a := h.length) (Nat.le_refl _)
    have f2 := r.fresh (a := h.length + 1) (by omega)
    have R2 := R1.setS hb (m := m') (a := h.length) get_at0 f1
    have g2 : ((h ++ [O.dct (dctM m'), O.lst (c'.map fr)]).set aS (.lst (refL (upd y.S b h.length) n)))[h.length + 1]? = some (.lst (c'.map fr)) := by
      rw [List.getElem?_set_ne (Ne.symm f2.2.1)]; exact get_at1
    have R3 := R2.setC hb (c := c') (a := h.length + 1) g2 ⟨fun i hi => by
      show h.length + 1 ≠ upd y.S b h.length i
      by_cases e : i = b
      · rw [e, upd_at]; omega
      · rw [upd_off e]; exact (f2.1 i hi).1, f2.2⟩
    have e2 := ex_sub2L (P := P) (C := callN P (d + 4)) (σ := σ) (o := .var 3) (i := .var 10) (p := .var 4) (j := .var 10) ecall w3 w10 R1.hS (by rw [hrl]; exact hb) w4 w10 (by rw [refL_set]; exact R2.hC) (by rw [hrl]; exact hb)
    rw [refL_set, refL_set] at e2
    refine ⟨_, _, De * Ee, (ex_if ei).trans (by rw [if_pos (show (some x).isSome = true from rfl), ex_nx e2]; exact ex_nil), R3, ?_, fun i hi => ⟨?_, ?_⟩, hDE, Nat.le_refl _, ?_, ?_, ?_, ?_, ?_, fun hn => absurd (List.mem_map_of_mem (f := (·.1)) (mlook_mem hx)) hn, ?_, ?_⟩
    · rw [List.length_set, List.length_set, List.length_append]; omega
    · show upd y.ms b m' i = y.ms i
      rw [upd_off hi]
    · show upd y.cs b c' i = y.cs i
      rw [upd_off hi]
    · show MI (De * Ee) (upd y.ms b m' b)
      rw [upd_at]; exact mx
    · show CI (De * Ee) (M + M2) k (upd y.cs b c' b)
      rw [upd_at, ← hc']
      refine ⟨by rw [List.length_zipWith, ci.len, ci2.len]; omega, con_mix ci.all ci2.all x0 x1 xd⟩
    · show msum v (upd y.ms b m' b) < v b
      rw [upd_at]; exact st'
    · intro j hj
      have hj : j ∈ keys (upd y.ms b m' b) := hj
      rw [upd_at, ← hm'] at hj
      rcases keys_mix hj with q | q
      · exact .inl (keys_drop q)
      · exact .inr ⟨q, List.mem_map_of_mem (mlook_mem hx)⟩
    · show (upd y.ms b m' b).length ≤ _
      rw [upd_at, ← hm']
      have h1 := mmix_len (mdrop (y.ms b) p) x (y.ms p)
      have h2 : (mdrop (y.ms b) p).length ≤ (y.ms b).length := List.length_filter_le ..
      omega
    · show upd y.ms b m' b = _
      rw [upd_at, ← hm']
      unfold mixF
      rw [hx]
    · show upd y.cs b c' b = _
      rw [upd_at, ← hc']
      unfold mixC
      rw [hx]
end
end PI

set_option maxRecDepth 100000
set_option maxHeartbeats 2000000
/-! QS: a place put into all earlier rows. -/
namespace PI
open PySem
structure RowOk (v : Nat → Rat) (De M k n : Nat) (s : Nat) (m : Mp) (c : List Rat) : Prop where
  mi : MI De m
  ci : CI De M k c
  pos : 0 < De
  st : msum v m < v s
  kn : ∀ j ∈ keys m, j < n
theorem RowOk.len {v : Nat → Rat} {De M k n s : Nat} {m : Mp} {c : List Rat} (r : RowOk v De M k n s m c) : m.length ≤ n := by
  have := nodup_le r.mi.nd r.kn
  simpa [keys] using this
theorem rng1_ok {P : Pg} {C : Nat → List D → Hh → R D} {σ : Sto} {h : Hh} {x : E} {n : Nat} (ex : ev P C x σ h = .ok (nat n) h) (hn : n ≤ 1000000) : evIt P C (.rng1 x) σ h = .ok ⟨n, fun _ i => some (.int (i : Nat)), fun _ => true⟩ h := by
  rw [evIt, ex, R.bnd_ok]
  show (if -4611686018427387904 ≤ ((n : Nat) : Int) ∧ ((n : Nat) : Int) < 4611686018427387904 then _ else _) = _
  rw [if_pos (by omega)]; rfl
section
variable {P : Pg} {d : Nat} {g h : Hh} {aS aC n : Nat} {y : Sys} {v : Nat → Rat}
theorem mix_loop (a : HasT P) (r : Rep g h aS aC n y) (hn : n < 400) {p : Nat} (hp : p < n) (hv : ∀ k, 0 < v k) {B Ee M M2 k : Nat} (rp : RowOk v Ee M2 k n p (y.ms p) (y.cs p)) (hl : (B * Ee).log2 < 4400) (hM : (M + M2).log2 < 50000) (hk : k ≤ 1000)
    (rb : ∀ b, b < p → ∃ De, De ≤ B ∧ RowOk v De M k n b (y.ms b) (y.cs b)) {s0 s1 s2 s6 s7 s8 s9 s10 s11 s12 s13 s14 : Option D} :
    ∃ h' y' s10', exec P (callN P (d + 4)) (.for_ (.nm 10) (.rng1 (.var 5)) (.cons (.if_ (.cmp .in_ (.var 5) (.idx (.var 3) (.var 10))) (.cons (.sub2 (.var 3) (.var 10) (.var 4) (.var 10) (.call 30 (.cons (.var 3) (.cons (.var 4) (.cons (.var 10) (.cons (.var 5) .nil)))))) .nil) .nil) .nil)) [s0, s1, s2, some (.ref aS), some (.ref aC), some (nat p), s6, s7, s8, s9, s10, s11, s12, s13, s14] h =
      .ok (.nx [s0, s1, s2, some (.ref aS), some (.ref aC), some (nat p), s6, s7, s8, s9, s10', s11, s12, s13, s14]) h' ∧ Rep g h' aS aC n y' ∧ h.length ≤ h'.length ∧ (∀ i, p ≤ i → y'.ms i = y.ms i ∧ y'.cs i = y.cs i) ∧
      ∀ b, b < p → ∃ De, De ≤ B * Ee ∧ RowOk v De (M + M2) k n b (y'.ms b) (y'.cs b) ∧ (∀ j ∈ keys (y'.ms b), (j ∈ keys (y.ms b) ∧ j ≠ p) ∨ (j ∈ keys (y.ms p) ∧ p ∈ keys (y.ms b))) ∧ (y'.ms b = mixF p (y.ms b) (y.ms p) ∧ y'.cs b = mixC p (y.ms b) (y.cs b) (y.cs p)) := by
  obtain ⟨σ', h', e1, y', s10', rfl, R', hlen, same, done, left⟩ := for_ok (P := P) (C := callN P (d + 4)) (t := .nm 10) (b := (.cons (.if_ (.cmp .in_ (.var 5) (.idx (.var 3) (.var 10))) (.cons (.sub2 (.var 3) (.var 10) (.var 4) (.var 10) (.call 30 (.cons (.var 3) (.cons (.var 4) (.cons (.var 10) (.cons (.var 5) .nil)))))) .nil) .nil) .nil))
    (rng1_ok (P := P) (C := callN P (d + 4)) (σ := [s0, s1, s2, some (.ref aS), some (.ref aC), some (nat p), s6, s7, s8, s9, s10, s11, s12, s13, s14]) (h := h) (x := .var 5) (n := p) (ev_var rfl) (by omega))
    (fun i σ h' => ∃ (y' : Sys) (s10' : Option D), σ = [s0, s1, s2, some (.ref aS), some (.ref aC), some (nat p), s6, s7, s8, s9, s10', s11, s12, s13, s14] ∧ Rep g h' aS aC n y' ∧ h.length ≤ h'.length ∧ (∀ j, p ≤ j → y'.ms j = y.ms j ∧ y'.cs j = y.cs j) ∧
      (∀ b, b < i → ∃ De, De ≤ B * Ee ∧ RowOk v De (M + M2) k n b (y'.ms b) (y'.cs b) ∧ (∀ j ∈ keys (y'.ms b), (j ∈ keys (y.ms b) ∧ j ≠ p) ∨ (j ∈ keys (y.ms p) ∧ p ∈ keys (y.ms b))) ∧ (y'.ms b = mixF p (y.ms b) (y.ms p) ∧ y'.cs b = mixC p (y.ms b) (y.cs b) (y.cs p))) ∧ ∀ b, i ≤ b → b < p → y'.ms b = y.ms b ∧ y'.cs b = y.cs b)
    (fun _ _ _ => rfl)
    (fun i σ h' hi hI => by
      obtain ⟨y', s10', rfl, R', hlen, same, done, left⟩ := hI
      have hi : i < p := hi
      obtain ⟨De, hDe, ro⟩ := rb i hi
      have e1 := left i (Nat.le_refl _) hi
      have e2 := same p (Nat.le_refl _)
      have lDE : (De * Ee).log2 < 4400 := Nat.lt_of_le_of_lt (log2_mono (Nat.mul_le_mul_right _ hDe)) hl
      obtain ⟨h2, y2, D2, q1, R2, l2, s2', d0, dle, m2', c2', st2, k2, _, _, un⟩ := mix_turn (d := d) (v := v) (De := De) (Ee := Ee) (M := M) (M2 := M2) (k := k) a R' (by omega) hp (show i < n by omega) (by omega) hv (by rw [e1.1]; exact ro.mi) (by rw [e2.1]; exact rp.mi) ro.pos rp.pos lDE (by rw [e1.1]; exact ro.st) (by rw [e2.1]; exact rp.st)
        (by rw [e1.1, e2.1]; have := ro.len; have := rp.len; omega) (by rw [e1.2]; exact ro.ci) (by rw [e2.2]; exact rp.ci) hM hk (s0 := s0) (s1 := s1) (s2 := s2) (s6 := s6) (s7 := s7) (s8 := s8) (s9 := s9) (s11 := s11) (s12 := s12) (s13 := s13) (s14 := s14)
      rw [e1.1, e2.1] at k2
      rw [e1.1, e1.2, e2.1, e2.2] at un
      refine ⟨nat i, _, rfl, rfl, _, _, (ex_nx q1).trans ex_nil, y2, some (nat i), rfl, R2, by omega, fun j hj => ?_, fun b hb => ?_, fun b hb1 hb2 => ?_⟩
      · have := s2' j (by omega)
        rw [this.1, this.2]; exact same j hj
      · rcases Nat.lt_succ_iff_lt_or_eq.mp hb with hb | hb
        · have := s2' b (by omega)
          rw [this.1, this.2]; exact done b hb
        · subst hb
          refine ⟨D2, Nat.le_trans dle (Nat.mul_le_mul_right _ hDe), ⟨m2', c2', d0, st2, fun j hj => ?_⟩, k2, un⟩
          rcases k2 j hj with z | z
          · exact ro.kn j z.1
          · exact rp.kn j z.1
      · have := s2' b (by omega)
        rw [this.1, this.2]; exact left b (by omega) hb2)
    ⟨y, s10, rfl, r, Nat.le_refl _, fun _ _ => ⟨rfl, rfl⟩, fun b hb => absurd hb (Nat.not_lt_zero _), fun _ _ _ => ⟨rfl, rfl⟩⟩
  exact ⟨h', y', s10', e1, R', hlen, same, done⟩
end
end PI

set_option maxHeartbeats 1000000
/-! DT: determinants over Rat by expansion along the first column; a row combination told by them. -/
namespace PI.DT
def sm : Nat → (Nat → Rat) → Rat
  | 0, _ => 0
  | n + 1, f => sm n f + f n
theorem sm_congr {f g : Nat → Rat} : ∀ n, (∀ i, i < n → f i = g i) → sm n f = sm n g
  | 0, _ => rfl
  | n + 1, h => by
    unfold sm
    rw [sm_congr n fun i hi => h i (by omega), h n (by omega)]
theorem sm_zero {f : Nat → Rat} (n : Nat) (h : ∀ i, i < n → f i = 0) : sm n f = 0 := by
  induction n with
  | zero => rfl
  | succ n ih =>
    unfold sm
    rw [ih fun i hi => h i (by omega), h n (by omega)]
    grind
theorem sm_lin (a b : Rat) (f g : Nat → Rat) : ∀ n, sm n (fun i => a * f i + b * g i) = a * sm n f + b * sm n g
  | 0 => by unfold sm; grind
  | n + 1 => by
    unfold sm
    rw [sm_lin a b f g n]
    grind
theorem sm_one {f : Nat → Rat} {n k : Nat} (hk : k < n) (h : ∀ i, i < n → i ≠ k → f i = 0) : sm n f = f k := by
  induction n with
  | zero => omega
  | succ n ih =>
    unfold sm
    by_cases e : k = n
    · subst e
      rw [sm_zero k fun i hi => h i (by omega) (by omega)]
      grind
    · rw [ih (by omega) fun i hi hne => h i (by omega) hne, h n (by omega) (by omega)]
      grind
theorem sm_two {f : Nat → Rat} {n k l : Nat} (hkl : k < l) (hl : l < n) (h : ∀ i, i < n → i ≠ k → i ≠ l → f i = 0) : sm n f = f k + f l := by
  induction n with
  | zero => omega
  | succ n ih =>
    unfold sm
    by_cases e : l = n
    · subst e
      rw [sm_one (k := k) hkl fun i hi hne => h i (by omega) hne (by omega)]
    · rw [ih (by omega) fun i hi h1 h2 => h i (by omega) h1 h2, h n (by omega) (by omega) (by omega)]
      grind
abbrev Mx := Nat → Nat → Rat
def sg (i : Nat) : Rat := if i % 2 = 0 then 1 else -1
theorem sg_succ (i : Nat) : sg (i + 1) = - sg i := by
  unfold sg
  by_cases h : i % 2 = 0
  · rw [if_neg (by omega), if_pos h]
  · rw [if_pos (by omega), if_neg h]; decide
def skip (i r : Nat) : Nat := if r < i then r else r + 1
def minor (i : Nat) (M : Mx) : Mx := fun r c => M (skip i r) (c + 1)
def det : Nat → Mx → Rat
  | 0, _ => 1
  | n + 1, M => sm (n + 1) fun i => sg i * M i 0 * det n (minor i M)
def up (M : Mx) (k : Nat) (R : Nat → Rat) : Mx := fun r c => if r = k then R c else M r c
theorem skip_ne (i r : Nat) : skip i r ≠ i := by unfold skip; split <;> omega
theorem skip_lt {i r n : Nat} (h : r < n) : skip i r < n + 1 := by unfold skip; split <;> omega
theorem minor_up_self (M : Mx) (k : Nat) (R : Nat → Rat) : minor k (up M k R) = minor k M := by
  funext r c
  show (if skip k r = k then R (c + 1) else M (skip k r) (c + 1)) = M (skip k r) (c + 1)
  rw [if_neg (skip_ne k r)]
theorem minor_up_lt (M : Mx) {i k : Nat} (h : i < k) (R : Nat → Rat) : minor i (up M k R) = up (minor i M) (k - 1) (fun c => R (c + 1)) := by
  funext r c
  show (if skip i r = k then R (c + 1) else M (skip i r) (c + 1)) = if r = k - 1 then R (c + 1) else M (skip i r) (c + 1)
  have : skip i r = k ↔ r = k - 1 := by unfold skip; split <;> omega
  simp only [this]
theorem minor_up_gt (M : Mx) {i k : Nat} (h : k < i) (R : Nat → Rat) : minor i (up M k R) = up (minor i M) k (fun c => R (c + 1)) := by
  funext r c
  show (if skip i r = k then R (c + 1) else M (skip i r) (c + 1)) = if r = k then R (c + 1) else M (skip i r) (c + 1)
  have : skip i r = k ↔ r = k := by unfold skip; split <;> omega
  simp only [this]
theorem det_congr : ∀ (n : Nat) (M M' : Mx), (∀ r c, r < n → c < n → M r c = M' r c) → det n M = det n M'
  | 0, _, _, _ => rfl
  | n + 1, M, M', h => by
    unfold det
    refine sm_congr _ fun i hi => ?_
    rw [h i 0 hi (by omega), det_congr n (minor i M) (minor i M') fun r c hr hc => h _ _ (skip_lt hr) (by omega)]
theorem up_self (M : Mx) (k : Nat) : up M k (M k) = M := by
  funext r c
  show (if r = k then M k c else M r c) = M r c
  by_cases h : r = k
  · rw [if_pos h, h]
  · rw [if_neg h]
theorem det_lin : ∀ (n : Nat) (M : Mx) (k : Nat) (a b : Rat) (R T : Nat → Rat), k < n → det n (up M k (fun c => a * R c + b * T c)) = a * det n (up M k R) + b * det n (up M k T)
  | 0, _, _, _, _, _, _, h => absurd h (Nat.not_lt_zero _)
  | n + 1, M, k, a, b, R, T, h => by
    unfold det
    rw [← sm_lin]
    refine sm_congr _ fun i hi => ?_
    by_cases e : i = k
    · subst e
      rw [minor_up_self, minor_up_self, minor_up_self]
      show sg i * (if i = i then a * R 0 + b * T 0 else _) * _ = a * (sg i * (if i = i then R 0 else _) * _) + b * (sg i * (if i = i then T 0 else _) * _)
      rw [if_pos rfl, if_pos rfl, if_pos rfl]
      grind
    · show sg i * (if i = k then _ else M i 0) * _ = a * (sg i * (if i = k then _ else M i 0) * _) + b * (sg i * (if i = k then _ else M i 0) * _)
      rw [if_neg e, if_neg e, if_neg e]
      by_cases e2 : i < k
      · rw [minor_up_lt M e2, minor_up_lt M e2, minor_up_lt M e2]
        rw [det_lin n (minor i M) (k - 1) a b (fun c => R (c + 1)) (fun c => T (c + 1)) (by omega)]
        grind
      · rw [minor_up_gt M (by omega), minor_up_gt M (by omega), minor_up_gt M (by omega)]
        rw [det_lin n (minor i M) k a b (fun c => R (c + 1)) (fun c => T (c + 1)) (by omega)]
        grind
theorem det_adj : ∀ (n : Nat) (M : Mx) (k : Nat), k + 1 < n → M k = M (k + 1) → det n M = 0
  | 0, _, _, h, _ => absurd h (Nat.not_lt_zero _)
  | n + 1, M, k, h, e => by
    unfold det
    rw [sm_two (k := k) (l := k + 1) (by omega) h fun i hi h1 h2 => ?_]
    · have : minor k M = minor (k + 1) M := by
        funext r c
        show M (skip k r) (c + 1) = M (skip (k + 1) r) (c + 1)
        unfold skip
        by_cases h1 : r < k
        · rw [if_pos h1, if_pos (by omega)]
        · by_cases h2 : r = k
          · subst h2
            rw [if_neg (by omega), if_pos (by omega), e]
          · rw [if_neg h1, if_neg (by omega)]
      rw [this, sg_succ, e]
      grind
    · by_cases h3 : i < k
      · rw [det_adj n (minor i M) (k - 1) (by omega) ?_]
        · grind
        · funext c
          show M (skip i (k - 1)) (c + 1) = M (skip i (k - 1 + 1)) (c + 1)
          unfold skip
          rw [if_neg (by omega), if_neg (by omega), show k - 1 + 1 = k by omega, e]
      · rw [det_adj n (minor i M) k (by omega) ?_]
        · grind
        · funext c
          show M (skip i k) (c + 1) = M (skip i (k + 1)) (c + 1)
          unfold skip
          rw [if_pos (by omega), if_pos (by omega), e]
theorem up_up (M : Mx) (k : Nat) (R T : Nat → Rat) : up (up M k R) k T = up M k T := by
  funext r c
  show (if r = k then T c else if r = k then R c else M r c) = if r = k then T c else M r c
  by_cases h : r = k
  · rw [if_pos h, if_pos h]
  · rw [if_neg h, if_neg h, if_neg h]
theorem up_comm (M : Mx) {k l : Nat} (h : k ≠ l) (R T : Nat → Rat) : up (up M k R) l T = up (up M l T) k R := by
  funext r c
  show (if r = l then T c else if r = k then R c else M r c) = if r = k then R c else if r = l then T c else M r c
  by_cases h1 : r = l
  · by_cases h2 : r = k
    · omega
    · rw [if_pos h1, if_neg h2, if_pos h1]
  · by_cases h2 : r = k
    · rw [if_neg h1, if_pos h2, if_pos h2]
    · rw [if_neg h1, if_neg h2, if_neg h2, if_neg h1]
theorem up_at (M : Mx) (k : Nat) (R : Nat → Rat) : up M k R k = R := by
  funext c
  show (if k = k then R c else _) = R c
  rw [if_pos rfl]
theorem up_off (M : Mx) {k r : Nat} (h : r ≠ k) (R : Nat → Rat) : up M k R r = M r := by
  funext c
  show (if r = k then R c else _) = _
  rw [if_neg h]
/-- adjacent rows exchanged -/
theorem det_swap (n : Nat) (M : Mx) (k : Nat) (h : k + 1 < n) (R T : Nat → Rat) : det n (up (up M k R) (k + 1) T) = - det n (up (up M k T) (k + 1) R) := by
  have z : ∀ X : Nat → Rat, det n (up (up M k X) (k + 1) X) = 0 := fun X => det_adj n _ k h (by
    rw [up_at, up_off _ (by omega), up_at])
  have h1 := z (fun c => 1 * R c + 1 * T c)
  rw [det_lin n _ (k + 1) 1 1 R T h] at h1
  rw [up_comm M (by omega) _ R, up_comm M (by omega) _ T, det_lin n _ k 1 1 R T (by omega), det_lin n _ k 1 1 R T (by omega)] at h1
  have h2 := z R
  have h3 := z T
  rw [up_comm M (by omega)] at h2 h3
  have g1 := up_comm M (show k ≠ k + 1 by omega) R T
  have g2 := up_comm M (show k ≠ k + 1 by omega) T R
  rw [g1, g2]
  grind
theorem det_eq : ∀ (m : Nat) (n : Nat) (M : Mx) (a b : Nat), b = a + 1 + m → b < n → M a = M b → det n M = 0
  | 0, n, M, a, b, e, hb, h => by
    subst e
    exact det_adj n M a hb h
  | m + 1, n, M, a, b, e, hb, h => by
    have hs := det_swap n M (b - 1) (by omega) (M (b - 1)) (M b)
    have e1 : b - 1 + 1 = b := by omega
    rw [e1, up_self, up_self] at hs
    rw [hs, det_eq m n _ a (b - 1) (by omega) (by omega) ?_]
    · grind
    · rw [up_off _ (by omega), up_off _ (by omega), up_off _ (by omega), up_at, h]
theorem det_same {n : Nat} {M : Mx} {a b : Nat} (ha : a < n) (hb : b < n) (hne : a ≠ b) (h : M a = M b) : det n M = 0 := by
  by_cases q : a < b
  · exact det_eq (b - a - 1) n M a b (by omega) hb h
  · exact det_eq (a - b - 1) n M b a (by omega) ha h.symm
/-- a row replaced by a combination of all -/
theorem det_comb {n : Nat} (M : Mx) {k : Nat} (hk : k < n) (y : Nat → Rat) : ∀ m, m ≤ n → det n (up M k (fun c => sm m fun e => y e * M e c)) = if k < m then y k * det n M else 0
  | 0, _ => by
    have h := det_lin n M k 0 0 (M k) (M k) hk
    have e : (fun c => (0 : Rat) * M k c + 0 * M k c) = fun c => sm 0 fun e => y e * M e c := by
      funext c
      unfold sm
      grind
    rw [e] at h
    rw [h, if_neg (by omega)]
    grind
  | m + 1, hm => by
    have e : (fun c => sm (m + 1) fun e => y e * M e c) = fun c => 1 * (sm m fun e => y e * M e c) + y m * M m c := by
      funext c
      show (sm m fun e => y e * M e c) + y m * M m c = _
      grind
    rw [e, det_lin n M k 1 (y m) _ (M m) hk, det_comb M hk y m (by omega)]
    by_cases q : m = k
    · subst q
      rw [up_self, if_neg (by omega), if_pos (by omega)]
      grind
    · have : det n (up M k (M m)) = 0 := det_same (a := k) (b := m) hk (by omega) (Ne.symm q) (by
        rw [up_at, up_off _ q])
      rw [this]
      by_cases q2 : k < m
      · rw [if_pos q2, if_pos (by omega)]; grind
      · rw [if_neg q2, if_neg (by omega)]; grind
def IsI (x : Rat) : Prop := ∃ z : Int, x = (z : Rat)
theorem IsI.add {x y : Rat} (h1 : IsI x) (h2 : IsI y) : IsI (x + y) := by
  obtain ⟨a, rfl⟩ := h1
  obtain ⟨b, rfl⟩ := h2
  exact ⟨a + b, by rw [Rat.intCast_add]⟩
theorem IsI.mul {x y : Rat} (h1 : IsI x) (h2 : IsI y) : IsI (x * y) := by
  obtain ⟨a, rfl⟩ := h1
  obtain ⟨b, rfl⟩ := h2
  exact ⟨a * b, by rw [Rat.intCast_mul]⟩
theorem IsI.neg {x : Rat} (h1 : IsI x) : IsI (-x) := by
  obtain ⟨a, rfl⟩ := h1
  exact ⟨-a, by rw [Rat.intCast_neg]⟩
theorem IsI.int (z : Int) : IsI (z : Rat) := ⟨z, rfl⟩
theorem IsI.zero : IsI 0 := ⟨0, rfl⟩
theorem IsI.one : IsI 1 := ⟨1, rfl⟩
theorem IsI.sm {f : Nat → Rat} : ∀ n, (∀ i, i < n → IsI (f i)) → IsI (sm n f)
  | 0, _ => IsI.zero
  | n + 1, h => (IsI.sm n fun i hi => h i (by omega)).add (h n (by omega))
theorem IsI.sg (i : Nat) : IsI (sg i) := by
  unfold DT.sg
  split
  · exact IsI.one
  · exact IsI.one.neg
theorem det_int : ∀ (n : Nat) (M : Mx), (∀ r c, r < n → c < n → IsI (M r c)) → IsI (det n M)
  | 0, _, _ => IsI.one
  | n + 1, M, h => IsI.sm _ fun i hi => ((IsI.sg i).mul (h i 0 hi (by omega))).mul (det_int n _ fun r c hr hc => h _ _ (skip_lt hr) (by omega))
/-- a combination of rows that is integral: its factors times the determinant are integers -/
theorem cramer {n : Nat} {M : Mx} (hM : ∀ r c, r < n → c < n → IsI (M r c)) {y B : Nat → Rat} (hB : ∀ c, c < n → IsI (B c)) (h : ∀ c, c < n → sm n (fun e => y e * M e c) = B c) {k : Nat} (hk : k < n) : IsI (y k * det n M) := by
  have e := det_comb M hk y n (Nat.le_refl _)
  rw [if_pos hk] at e
  rw [← e]
  refine det_int n _ fun r c hr hc => ?_
  show IsI (if r = k then _ else _)
  by_cases q : r = k
  · rw [if_pos q]
    show IsI (sm n fun e => y e * M e c)
    rw [h c hc]; exact hB c hc
  · rw [if_neg q]; exact hM r c hr hc
/-- a first row that can be made (a, 0, .., 0) -/
theorem det_first {m : Nat} {M : Mx} {y : Nat → Rat} {a : Rat} (h0 : M 0 0 + sm m (fun e => y e * M (e + 1) 0) = a) (h1 : ∀ c, c < m → M 0 (c + 1) + sm m (fun e => y e * M (e + 1) (c + 1)) = 0) : det (m + 1) M = a * det m (fun r c => M (r + 1) (c + 1)) := by
  have sm_shift : ∀ (f : Nat → Rat) (m : Nat), sm (m + 1) f = f 0 + sm m fun e => f (e + 1) := by
    intro f m
    induction m with
    | zero => unfold sm sm; grind
    | succ m ih =>
      show sm (m + 1) f + f (m + 1) = f 0 + (sm m (fun e => f (e + 1)) + f (m + 1))
      rw [ih]; grind
  let y' : Nat → Rat := fun e => if e = 0 then 1 else y (e - 1)
  have e := det_comb M (k := 0) (n := m + 1) (by omega) y' (m + 1) (Nat.le_refl _)
  rw [if_pos (by omega)] at e
  have ey : y' 0 = 1 := rfl
  rw [ey, Rat.one_mul] at e
  rw [← e]
  have hc : ∀ c, sm (m + 1) (fun e => y' e * M e c) = M 0 c + sm m (fun e => y e * M (e + 1) c) := fun c => by
    rw [sm_shift]
    show 1 * M 0 c + _ = _
    rw [Rat.one_mul]
    rfl
  unfold det
  rw [sm_one (k := 0) (by omega) fun i hi hne => ?_]
  · rw [minor_up_self]
    show sg 0 * (if 0 = 0 then sm (m + 1) (fun e => y' e * M e 0) else _) * _ = _
    rw [if_pos rfl, hc, h0]
    show sg 0 * a * det m (fun r c => M (skip 0 r) (c + 1)) = _
    have e0 : sg 0 = 1 := rfl
    have e1 : ∀ r, skip 0 r = r + 1 := fun r => rfl
    rw [e0, Rat.one_mul]
    simp only [e1]
    cases m <;> rfl
  · rw [minor_up_gt M (by omega)]
    have z : det m (up (minor i M) 0 (fun c => sm (m + 1) fun e => y' e * M e (c + 1))) = 0 := by
      rw [det_congr m _ (up (minor i M) 0 (fun c => 0 * M 0 c + 0 * M 0 c)) fun r c hr hc' => ?_]
      · rw [det_lin m _ 0 0 0 _ _ (by omega)]; grind
      · show (if r = 0 then _ else _) = if r = 0 then _ else _
        by_cases q : r = 0
        · rw [if_pos q, if_pos q]
          show (sm (m + 1) fun e => y' e * M e (c + 1)) = 0 * M 0 c + 0 * M 0 c
          rw [hc, h1 c hc']; grind
        · rw [if_neg q, if_neg q]
    rw [z]; grind
end PI.DT

set_option maxRecDepth 100000
set_option maxHeartbeats 1000000
/-! DU: rows as linear forms; what an elimination makes of them; their denominators. -/
namespace PI
open PySem DT
def dl (j : Nat) : Nat → Rat := fun k => if k = j then 1 else 0
theorem msum_dl {m : Mp} (h : (keys m).Nodup) (j : Nat) : msum (dl j) m = (mlook m j).getD 0 := by
  have e := msum_drop (dl j) h j
  have z : ∀ m : Mp, j ∉ keys m → msum (dl j) m = 0 := by
    intro m
    induction m with
    | nil => intro _; rfl
    | cons a m ih =>
      intro hj
      rw [msum_cons, ih fun z => hj (by unfold keys at *; rw [List.map_cons]; exact List.mem_cons_of_mem _ z)]
      have : a.1 ≠ j := fun z => hj (by unfold keys; rw [List.map_cons, z]; exact List.mem_cons_self)
      show a.2 * (if a.1 = j then 1 else 0) + 0 = 0
      rw [if_neg this]; grind
  rw [z (mdrop m j) fun hj => (keys_drop hj).2 rfl] at e
  have : dl j j = 1 := if_pos rfl
  rw [this] at e
  grind
/-- a row's equation as a linear form -/
def phi (m : Mp) (s : Nat) (u : Nat → Rat) : Rat := u s - msum u m
theorem mdrop_none {m : Mp} {p : Nat} (h : mlook m p = none) : (mlook m p).getD 0 = 0 := by rw [h]; rfl
theorem phi_self {m : Mp} {p : Nat} (h : (keys m).Nodup) (hx : 1 - (mlook m p).getD 0 ≠ 0) (u : Nat → Rat) : phi (selfF p m) p u = phi m p u / (1 - (mlook m p).getD 0) := by
  unfold phi selfF
  cases q : mlook m p with
  | none =>
    show u p - msum u m = (u p - msum u m) / (1 - 0)
    grind
  | some x =>
    rw [q] at hx
    have hx : 1 - x ≠ 0 := hx
    show u p - msum u (mscale (mdrop m p) (1 - x)) = (u p - msum u m) / (1 - x)
    rw [msum_scale]
    have e := msum_drop u h p
    rw [q] at e
    have e : msum u (mdrop m p) + x * u p = msum u m := e
    rw [← e]
    grind
theorem phi_mix {m m2 : Mp} {p : Nat} (h : (keys m).Nodup) (b : Nat) (u : Nat → Rat) : phi (mixF p m m2) b u = phi m b u + (mlook m p).getD 0 * phi m2 p u := by
  unfold phi mixF
  cases q : mlook m p with
  | none =>
    show u b - msum u m = (u b - msum u m) + 0 * (u p - msum u m2)
    grind
  | some x =>
    show u b - msum u (mmix (mdrop m p) x m2) = (u b - msum u m) + x * (u p - msum u m2)
    rw [msum_mix u (nodup_drop h)]
    have e := msum_drop u h p
    rw [q] at e
    have e : msum u (mdrop m p) + x * u p = msum u m := e
    rw [← e]
    grind
theorem getD_map {c : List Rat} {f : Rat → Rat} (h0 : f 0 = 0) (o : Nat) : (c.map f).getD o 0 = f (c.getD o 0) := by
  rw [List.getD_eq_getElem?_getD, List.getD_eq_getElem?_getD, List.getElem?_map]
  cases c[o]? with
  | none => show (0 : Rat) = f 0; rw [h0]
  | some x => rfl
theorem con_self {m : Mp} {c : List Rat} {p : Nat} (o : Nat) : (selfC p m c).getD o 0 = c.getD o 0 / (1 - (mlook m p).getD 0) := by
  unfold selfC
  cases q : mlook m p with
  | none =>
    show c.getD o 0 = c.getD o 0 / (1 - 0)
    grind
  | some x =>
    show (c.map fun q => q / (1 - x)).getD o 0 = c.getD o 0 / (1 - x)
    exact getD_map (by grind) o
theorem getD_out {c : List Rat} {o : Nat} (h : c.length ≤ o) : c.getD o 0 = 0 := by
  rw [List.getD_eq_getElem?_getD, List.getElem?_eq_none h]; rfl
theorem con_mixC {m : Mp} {c c2 : List Rat} {p : Nat} (hl : c.length = c2.length) (o : Nat) : (mixC p m c c2).getD o 0 = c.getD o 0 + (mlook m p).getD 0 * c2.getD o 0 := by
  unfold mixC
  cases q : mlook m p with
  | none =>
    show c.getD o 0 = c.getD o 0 + 0 * c2.getD o 0
    grind
  | some x =>
    show (List.zipWith (fun u w => u + x * w) c c2).getD o 0 = c.getD o 0 + x * c2.getD o 0
    by_cases h : o < c.length
    · have h2 : o < c2.length := by omega
      rw [List.getD_eq_getElem?_getD, List.getD_eq_getElem?_getD, List.getD_eq_getElem?_getD, List.getElem?_zipWith, List.getElem?_eq_getElem h, List.getElem?_eq_getElem h2]
      rfl
    · rw [getD_out (by rw [List.length_zipWith]; omega), getD_out (by omega), getD_out (by omega)]
      grind
/-! ### combinations of the first rows -/
/-- the sum from l up to n -/
def smr (l n : Nat) (f : Nat → Rat) : Rat := sm (n - l) fun i => f (l + i)
theorem sm_front (f : Nat → Rat) (m : Nat) : sm (m + 1) f = f 0 + sm m fun e => f (e + 1) := by
  induction m with
  | zero => unfold sm sm; grind
  | succ m ih =>
    show sm (m + 1) f + f (m + 1) = f 0 + (sm m (fun e => f (e + 1)) + f (m + 1))
    rw [ih]; grind
theorem smr_front {l n : Nat} (h : l < n) (f : Nat → Rat) : smr l n f = f l + smr (l + 1) n f := by
  unfold smr
  rw [show n - l = (n - (l + 1)) + 1 by omega, sm_front]
  have : (fun e => f (l + (e + 1))) = fun i => f (l + 1 + i) := by funext e; congr 1; omega
  rw [this]; rfl
theorem smr_congr {l n : Nat} {f g : Nat → Rat} (h : ∀ i, l ≤ i → i < n → f i = g i) : smr l n f = smr l n g := sm_congr _ fun i hi => h _ (by omega) (by omega)
theorem smr_lin (l n : Nat) (a b : Rat) (f g : Nat → Rat) : smr l n (fun i => a * f i + b * g i) = a * smr l n f + b * smr l n g := sm_lin a b _ _ _
theorem smr_mul (l n : Nat) (a : Rat) (f : Nat → Rat) : smr l n (fun i => a * f i) = a * smr l n f := by
  have := smr_lin l n a 0 f f
  have e : (fun i => a * f i + 0 * f i) = fun i => a * f i := by funext i; grind
  rw [e] at this
  rw [this]; grind
/-- row s, a combination of the first rows from l on, and own times its own first one -/
def Comb (n k : Nat) (ms0 : Nat → Mp) (cs0 : Nat → List Rat) (l : Nat) (own : Rat) (s : Nat) (m : Mp) (c : Nat → Rat) : Prop :=
  ∃ y : Nat → Rat, (∀ u, phi m s u = own * phi (ms0 s) s u + smr l n fun e => y e * phi (ms0 e) e u) ∧ ∀ o, o < k → c o = own * (cs0 s).getD o 0 + smr l n fun e => y e * (cs0 e).getD o 0
section
variable {n k : Nat} {ms0 : Nat → Mp} {cs0 : Nat → List Rat}
/-- a row freed of its own part -/
theorem Comb.self {p : Nat} {m : Mp} {c : List Rat} (hp : p < n) (h : Comb n k ms0 cs0 (p + 1) 1 p m (fun o => c.getD o 0)) (hm : (keys m).Nodup) (hx : 1 - (mlook m p).getD 0 ≠ 0) : Comb n k ms0 cs0 p 0 p (selfF p m) (fun o => (selfC p m c).getD o 0) := by
  obtain ⟨y, h1, h2⟩ := h
  refine ⟨fun e => (if e = p then 1 else y e) / (1 - (mlook m p).getD 0), fun u => ?_, fun o ho => ?_⟩
  · rw [phi_self hm hx, h1 u, smr_front hp]
    have : smr (p + 1) n (fun e => (if e = p then 1 else y e) / (1 - (mlook m p).getD 0) * phi (ms0 e) e u) = 1 / (1 - (mlook m p).getD 0) * smr (p + 1) n fun e => y e * phi (ms0 e) e u := by
      rw [← smr_mul]
      refine smr_congr fun i h1 h2 => ?_
      rw [if_neg (by omega)]; grind
    rw [this]; dsimp only; rw [if_pos rfl]; grind
  · show (selfC p m c).getD o 0 = _
    rw [con_self]
    have := h2 o ho
    have this : c.getD o 0 = _ := this
    rw [this, smr_front hp]
    have : smr (p + 1) n (fun e => (if e = p then 1 else y e) / (1 - (mlook m p).getD 0) * (cs0 e).getD o 0) = 1 / (1 - (mlook m p).getD 0) * smr (p + 1) n fun e => y e * (cs0 e).getD o 0 := by
      rw [← smr_mul]
      refine smr_congr fun i h1 h2 => ?_
      rw [if_neg (by omega)]; grind
    rw [this]; dsimp only; rw [if_pos rfl]; grind
/-- a row put into an earlier one -/
theorem Comb.mix {p b : Nat} {m m2 : Mp} {c c2 : List Rat} (hp : p < n) (h : Comb n k ms0 cs0 (p + 1) 1 b m (fun o => c.getD o 0)) (h2 : Comb n k ms0 cs0 p 0 p m2 (fun o => c2.getD o 0)) (hm : (keys m).Nodup) (hl : c.length = c2.length) : Comb n k ms0 cs0 p 1 b (mixF p m m2) (fun o => (mixC p m c c2).getD o 0) := by
  obtain ⟨y, h1, h3⟩ := h
  obtain ⟨z, g1, g3⟩ := h2
  refine ⟨fun e => (if e = p then 0 else y e) + (mlook m p).getD 0 * z e, fun u => ?_, fun o ho => ?_⟩
  · rw [phi_mix hm, h1 u, g1 u, smr_front hp, smr_front hp]
    have : smr (p + 1) n (fun e => ((if e = p then 0 else y e) + (mlook m p).getD 0 * z e) * phi (ms0 e) e u) = 1 * (smr (p + 1) n fun e => y e * phi (ms0 e) e u) + (mlook m p).getD 0 * smr (p + 1) n fun e => z e * phi (ms0 e) e u := by
      rw [← smr_lin]
      refine smr_congr fun i h1 h2 => ?_
      rw [if_neg (by omega)]; grind
    rw [this]; dsimp only; rw [if_pos rfl]; grind
  · show (mixC p m c c2).getD o 0 = _
    rw [con_mixC hl]
    have a1 : c.getD o 0 = _ := h3 o ho
    have a2 : c2.getD o 0 = _ := g3 o ho
    rw [a1, a2, smr_front hp, smr_front hp]
    have : smr (p + 1) n (fun e => ((if e = p then 0 else y e) + (mlook m p).getD 0 * z e) * (cs0 e).getD o 0) = 1 * (smr (p + 1) n fun e => y e * (cs0 e).getD o 0) + (mlook m p).getD 0 * smr (p + 1) n fun e => z e * (cs0 e).getD o 0 := by
      rw [← smr_lin]
      refine smr_congr fun i h1 h2 => ?_
      rw [if_neg (by omega)]; grind
    rw [this]; dsimp only; rw [if_pos rfl]; grind
/-! ### the matrix -/
/-- the entries, over the common bottom of the first rows -/
def Am (sides : Nat) (ms0 : Nat → Mp) (q : Nat) : Mx := fun r c => (sides : Rat) * phi (ms0 (q + r)) (q + r) (dl (q + c))
def dq (sides : Nat) (ms0 : Nat → Mp) (n q : Nat) : Rat := det (n - q) (Am sides ms0 q)
theorem natI (a : Nat) : IsI (a : Rat) := ⟨a, rfl⟩
/-- the first rows are integral over sides -/
structure Int0 (sides n k : Nat) (ms0 : Nat → Mp) (cs0 : Nat → List Rat) : Prop where
  a : ∀ e j, e < n → IsI ((sides : Rat) * phi (ms0 e) e (dl j))
  c : ∀ e o, e < n → o < k → IsI ((cs0 e).getD o 0)
theorem tight {sides l s : Nat} {own : Rat} {m : Mp} {c : Nat → Rat} (i : Int0 sides n k ms0 cs0) (h : Comb n k ms0 cs0 l own s m c) (ho : IsI own) (hs : s < n) (hln : l ≤ n) (hk : ∀ j, l ≤ j → j < n → IsI (phi m s (dl j))) :
    (∀ j, IsI ((sides : Rat) * dq sides ms0 n l * phi m s (dl j))) ∧ ∀ o, o < k → IsI ((sides : Rat) * dq sides ms0 n l * c o) := by
  obtain ⟨y, h1, h2⟩ := h
  have hAI : ∀ r c, r < n - l → c < n - l → IsI (Am sides ms0 l r c) := fun r c hr _ => i.a _ _ (by omega)
  have hd : IsI (dq sides ms0 n l) := det_int _ _ hAI
  have key : ∀ e, l ≤ e → e < n → IsI (y e * dq sides ms0 n l) := fun e he1 he2 => by
    have := cramer (n := n - l) (M := Am sides ms0 l) hAI (y := fun r => y (l + r)) (B := fun c => (sides : Rat) * (phi m s (dl (l + c)) - own * phi (ms0 s) s (dl (l + c)))) (fun c hc => ?_) (fun c hc => ?_) (k := e - l) (by omega)
    · have e1 : l + (e - l) = e := by omega
      simp only [e1] at this
      exact this
    · have e1 : (sides : Rat) * (phi m s (dl (l + c)) - own * phi (ms0 s) s (dl (l + c))) = (sides : Rat) * phi m s (dl (l + c)) + -(own * ((sides : Rat) * phi (ms0 s) s (dl (l + c)))) := by grind
      show IsI ((sides : Rat) * (phi m s (dl (l + c)) - own * phi (ms0 s) s (dl (l + c))))
      rw [e1]
      exact ((natI _).mul (hk _ (by omega) (by omega))).add (ho.mul (i.a _ _ hs)).neg
    · show sm (n - l) (fun e => y (l + e) * ((sides : Rat) * phi (ms0 (l + e)) (l + e) (dl (l + c)))) = (sides : Rat) * (phi m s (dl (l + c)) - own * phi (ms0 s) s (dl (l + c)))
      rw [h1]
      have e2 : smr l n (fun e => (sides : Rat) * (y e * phi (ms0 e) e (dl (l + c)))) = _ := smr_mul l n (sides : Rat) fun e => y e * phi (ms0 e) e (dl (l + c))
      have e3 : sm (n - l) (fun e => y (l + e) * ((sides : Rat) * phi (ms0 (l + e)) (l + e) (dl (l + c)))) = smr l n (fun e => (sides : Rat) * (y e * phi (ms0 e) e (dl (l + c)))) := by
        unfold smr
        exact sm_congr _ fun i _ => by grind
      rw [e3, e2]; grind
  refine ⟨fun j => ?_, fun o hok => ?_⟩
  · rw [h1]
    have e1 : (sides : Rat) * dq sides ms0 n l * (own * phi (ms0 s) s (dl j) + smr l n fun e => y e * phi (ms0 e) e (dl j)) = dq sides ms0 n l * (own * ((sides : Rat) * phi (ms0 s) s (dl j))) + smr l n fun e => (y e * dq sides ms0 n l) * ((sides : Rat) * phi (ms0 e) e (dl j)) := by
      have e2 := smr_mul l n ((sides : Rat) * dq sides ms0 n l) fun e => y e * phi (ms0 e) e (dl j)
      have e3 : smr l n (fun e => (y e * dq sides ms0 n l) * ((sides : Rat) * phi (ms0 e) e (dl j))) = smr l n (fun e => (sides : Rat) * dq sides ms0 n l * (y e * phi (ms0 e) e (dl j))) := smr_congr fun i _ _ => by grind
      rw [e3, e2]; grind
    rw [e1]
    refine (hd.mul (ho.mul (i.a _ _ hs))).add (IsI.sm _ fun e he => ?_)
    exact (key _ (by omega) (by omega)).mul (i.a _ _ (by omega))
  · rw [h2 o hok]
    have e1 : (sides : Rat) * dq sides ms0 n l * (own * (cs0 s).getD o 0 + smr l n fun e => y e * (cs0 e).getD o 0) = (sides : Rat) * dq sides ms0 n l * (own * (cs0 s).getD o 0) + smr l n fun e => (sides : Rat) * (y e * dq sides ms0 n l) * (cs0 e).getD o 0 := by
      have e2 := smr_mul l n ((sides : Rat) * dq sides ms0 n l) fun e => y e * (cs0 e).getD o 0
      have e3 : smr l n (fun e => (sides : Rat) * (y e * dq sides ms0 n l) * (cs0 e).getD o 0) = smr l n (fun e => (sides : Rat) * dq sides ms0 n l * (y e * (cs0 e).getD o 0)) := smr_congr fun i _ _ => by grind
      rw [e3, e2]; grind
    rw [e1]
    refine (((natI _).mul hd).mul (ho.mul (i.c _ _ hs hok))).add (IsI.sm _ fun e he => ?_)
    exact ((natI _).mul (key _ (by omega) (by omega))).mul (i.c _ _ (by omega) hok)
theorem dq_step {sides p : Nat} {m : Mp} {c : Nat → Rat} (hp : p < n) (h : Comb n k ms0 cs0 (p + 1) 1 p m c) (hm : (keys m).Nodup) (hk : ∀ j ∈ keys m, j < p + 1) : dq sides ms0 n p = (sides : Rat) * (1 - (mlook m p).getD 0) * dq sides ms0 n (p + 1) := by
  obtain ⟨y, h1, _⟩ := h
  have e0 : n - p = (n - (p + 1)) + 1 := by omega
  unfold dq
  rw [e0]
  have step : ∀ c, Am sides ms0 p 0 c + sm (n - (p + 1)) (fun e => y (p + 1 + e) * Am sides ms0 p (e + 1) c) = (sides : Rat) * phi m p (dl (p + c)) := fun c => by
    rw [h1]
    have e2 := smr_mul (p + 1) n (sides : Rat) fun e => y e * phi (ms0 e) e (dl (p + c))
    have e3 : sm (n - (p + 1)) (fun e => y (p + 1 + e) * Am sides ms0 p (e + 1) c) = smr (p + 1) n (fun e => (sides : Rat) * (y e * phi (ms0 e) e (dl (p + c)))) := by
      unfold smr
      refine sm_congr _ fun i _ => ?_
      show y (p + 1 + i) * ((sides : Rat) * phi (ms0 (p + (i + 1))) (p + (i + 1)) (dl (p + c))) = _
      rw [show p + (i + 1) = p + 1 + i by omega]; grind
    rw [e3, e2]
    show (sides : Rat) * phi (ms0 (p + 0)) (p + 0) (dl (p + c)) + _ = _
    rw [Nat.add_zero]; grind
  rw [det_first (y := fun e => y (p + 1 + e)) (a := (sides : Rat) * (1 - (mlook m p).getD 0)) ?_ ?_]
  · congr 1
    refine det_congr _ _ _ fun r c _ _ => ?_
    show (sides : Rat) * phi (ms0 (p + (r + 1))) (p + (r + 1)) (dl (p + (c + 1))) = (sides : Rat) * phi (ms0 (p + 1 + r)) (p + 1 + r) (dl (p + 1 + c))
    rw [show p + (r + 1) = p + 1 + r by omega, show p + (c + 1) = p + 1 + c by omega]
  · rw [step 0, Nat.add_zero]
    unfold phi
    rw [msum_dl hm]
    show (sides : Rat) * ((if p = p then 1 else 0) - _) = _
    rw [if_pos rfl]
  · intro c hc
    rw [step]
    unfold phi
    rw [msum_dl hm, mlook_none.mpr fun z => by have := hk _ z; omega]
    show (sides : Rat) * ((if p = p + (c + 1) then 1 else 0) - (0 : Rat)) = 0
    rw [if_neg (by omega)]; grind
/-- a row's denominator -/
theorem tight_row {sides l s D : Nat} {own : Rat} {m : Mp} {c : Nat → Rat} (i : Int0 sides n k ms0 cs0) (h : Comb n k ms0 cs0 l own s m c) (ho : IsI own) (hs : s < n) (hln : l ≤ n) (hm : (keys m).Nodup) (hk : ∀ j ∈ keys m, j < l) (hD : (D : Rat) = (sides : Rat) * dq sides ms0 n l) :
    (∀ kv ∈ m, Di D kv.2) ∧ ∀ o, o < k → Di D (c o) := by
  have hd : ∀ a b, IsI (dl a b) := fun a b => by unfold dl; split; exact IsI.one; exact IsI.zero
  obtain ⟨t1, t2⟩ := tight i h ho hs hln fun j hj _ => by
    unfold phi
    rw [msum_dl hm, mlook_none.mpr fun z => by have := hk _ z; omega]
    have : dl j s - (none : Option Rat).getD 0 = dl j s := by show dl j s - 0 = dl j s; grind
    rw [this]; exact hd j s
  rw [← hD] at t1 t2
  refine ⟨fun kv hkv => ?_, fun o hok => ?_⟩
  · have e : mlook m kv.1 = some kv.2 := by
      cases q : mlook m kv.1 with
      | none => exact absurd (List.mem_map_of_mem (f := (·.1)) hkv) (mlook_none.mp q)
      | some x =>
        have hx := mlook_mem q
        congr 1
        have nd : ∀ (m : Mp), (keys m).Nodup → ∀ a b : Nat × Rat, a ∈ m → b ∈ m → a.1 = b.1 → a = b := by
          intro m
          induction m with
          | nil => intro _ a b ha; cases ha
          | cons z m ih =>
            intro hnd a b ha hb hab
            unfold keys at hnd ih
            rw [List.map_cons, List.nodup_cons] at hnd
            rcases List.mem_cons.mp ha with e1 | ha'
            · rcases List.mem_cons.mp hb with e2 | hb'
              · rw [e1, e2]
              · exact absurd (by rw [← e1, hab]; exact List.mem_map_of_mem hb') hnd.1
            · rcases List.mem_cons.mp hb with e2 | hb'
              · exact absurd (by rw [← e2, ← hab]; exact List.mem_map_of_mem ha') hnd.1
              · exact ih hnd.2 a b ha' hb' hab
        have := nd m hm (kv.1, x) kv hx hkv rfl
        rw [← this]
    have t := t1 kv.1
    unfold phi at t
    rw [msum_dl hm, e] at t
    have t : IsI ((D : Rat) * (dl kv.1 s - kv.2)) := t
    obtain ⟨z, hz⟩ := ((natI D).mul (hd kv.1 s)).add t.neg
    exact ⟨z, by rw [← hz]; grind⟩
  · obtain ⟨z, hz⟩ := t2 o hok
    exact ⟨z, by rw [← hz]; grind⟩
end
end PI

set_option maxRecDepth 100000
set_option maxHeartbeats 2000000
/-! QT: all places, from the last to the first. -/
namespace PI
open PySem DT
def BB : Nat := 6 ^ 101
/-- places q and behind are done -/
structure El (v : Nat → Rat) (n sides k q M : Nat) (ms0 : Nat → Mp) (cs0 : Nat → List Rat) (y : Sys) : Prop where
  rows : ∀ s, s < n → ∃ De, De ≤ BB ∧ RowOk v De M k n s (y.ms s) (y.cs s)
  low : ∀ s, s < q → s < n → ∀ j ∈ keys (y.ms s), j < q
  high : ∀ s, q ≤ s → s < n → ∀ j ∈ keys (y.ms s), j < s
  c1 : ∀ s, s < q → s < n → Comb n k ms0 cs0 q 1 s (y.ms s) (fun o => (y.cs s).getD o 0)
  c0 : ∀ s, q ≤ s → s < n → Comb n k ms0 cs0 s 0 s (y.ms s) (fun o => (y.cs s).getD o 0)
  dp : 0 < dq sides ms0 n q ∧ dq sides ms0 n q ≤ ((sides ^ (n - q) : Nat) : Rat)
  back : ∀ (u : Nat → Rat) o, o < k → (∀ s, s < n → phi (y.ms s) s u = (y.cs s).getD o 0) → ∀ s, s < n → phi (ms0 s) s u = (cs0 s).getD o 0
theorem CI.mono {De M M' k : Nat} {c : List Rat} (h : CI De M k c) (hm : M ≤ M') : CI De M' k c :=
  ⟨h.len, fun x hx => let ⟨h1, h2, h3⟩ := h.all x hx; ⟨h1, Rat.le_trans h2 (Rat.natCast_le_natCast.mpr hm), h3⟩⟩
theorem RowOk.mono {v : Nat → Rat} {De M M' k n s : Nat} {m : Mp} {c : List Rat} (r : RowOk v De M k n s m c) (hm : M ≤ M') : RowOk v De M' k n s m c := ⟨r.mi, r.ci.mono hm, r.pos, r.st, r.kn⟩
theorem IsI.toNat {x : Rat} (h : IsI x) (h0 : 0 < x) : ∃ D : Nat, x = (D : Rat) ∧ 0 < D := by
  obtain ⟨z, rfl⟩ := h
  have hz : 0 < z := by exact_mod_cast h0
  refine ⟨z.toNat, ?_, by omega⟩
  have : ((z.toNat : Nat) : Int) = z := Int.toNat_of_nonneg (by omega)
  rw [← this]; rfl
section
variable {P : Pg} {d : Nat} {g h : Hh} {aS aC n : Nat} {y : Sys} {v : Nat → Rat} {ms0 : Nat → Mp} {cs0 : Nat → List Rat}
theorem el_step (a : HasT P) (r : Rep g h aS aC n y) (hn : n ≤ 100) {p : Nat} (hp : p < n) (hv : ∀ k, 0 < v k) {sides M k : Nat} (hs0 : 0 < sides) (hs6 : sides ≤ 6) (i0 : Int0 sides n k ms0 cs0) (hM0 : 0 < M) (hM : (2 * BB * M).log2 < 50000) (hk : k ≤ 1000) (el : El v n sides k (p + 1) M ms0 cs0 y)
    {s0 s1 s2 s6 s7 s8 s9 s10 s11 s12 s13 s14 : Option D} : ∃ h' y' s6' s7' s10', execs P (callN P (d + 4)) (.cons (.set (.nm 6) (.idx (.var 3) (.var 5))) (.cons (.if_ (.cmp .in_ (.var 5) (.var 6)) (.cons (.set (.nm 7) (.call 5 (.cons (.glo 1) (.cons (.pop (.var 6) (.var 5)) .nil)))) (.cons (.sub (.var 3) (.var 5) (.dcI (.var 8) (.call 7 (.cons (.var 9) (.cons (.var 7) .nil))) (.tup (.cons (.nm 8) (.cons (.nm 9) .nil))) (.var 6) [8, 9])) (.cons (.sub (.var 4) (.var 5) (.lst (.comp (.call 7 (.cons (.var 9) (.cons (.var 7) .nil))) (.nm 9) (.seq (.of (.idx (.var 4) (.var 5)))) .none [9]))) .nil))) .nil) (.cons (.for_ (.nm 10) (.rng1 (.var 5)) (.cons (.if_ (.cmp .in_ (.var 5) (.idx (.var 3) (.var 10))) (.cons (.sub2 (.var 3) (.var 10) (.var 4) (.var 10) (.call 30 (.cons (.var 3) (.cons (.var 4) (.cons (.var 10) (.cons (.var 5) .nil)))))) .nil) .nil) .nil)) .nil))) [s0, s1, s2, some (.ref aS), some (.ref aC), some (nat p), s6, s7, s8, s9, s10, s11, s12, s13, s14] h =
      .ok (.nx [s0, s1, s2, some (.ref aS), some (.ref aC), some (nat p), s6', s7', s8, s9, s10', s11, s12, s13, s14]) h' ∧ Rep g h' aS aC n y' ∧ h.length ≤ h'.length ∧ El v n sides k p (2 * BB * M) ms0 cs0 y' := by
  obtain ⟨De, hDe, ro⟩ := el.rows p hp
  have hB1 : 0 < BB := by decide
  have lBB : BB.log2 < 4400 := by decide +kernel
  have lBB2 : (BB * BB).log2 < 4400 := by decide +kernel
  have hMM : M ≤ 2 * BB * M := Nat.le_mul_of_pos_left _ (by omega)
  have lM : M.log2 < 50000 := Nat.lt_of_le_of_lt (log2_mono hMM) hM
  obtain ⟨s6', s7', h1, y1, D1, q1, R1, l1, same1, d0, dle, m1, c1, st1, k1, _, f1, fc1⟩ := self_turn (d := d + 1) (v := v) a r (by omega) hp hv ro.mi ro.pos (Nat.lt_of_le_of_lt (log2_mono hDe) lBB) ro.st (by have := ro.len; omega) ro.ci lM hk (s0 := s0) (s1 := s1) (s2 := s2) (s6 := s6) (s7 := s7) (s8 := s8) (s9 := s9) (s10 := s10) (s11 := s11) (s12 := s12) (s13 := s13) (s14 := s14)
    (rest := .cons (.for_ (.nm 10) (.rng1 (.var 5)) (.cons (.if_ (.cmp .in_ (.var 5) (.idx (.var 3) (.var 10))) (.cons (.sub2 (.var 3) (.var 10) (.var 4) (.var 10) (.call 30 (.cons (.var 3) (.cons (.var 4) (.cons (.var 10) (.cons (.var 5) .nil)))))) .nil) .nil) .nil)) .nil)
  have rp1 : RowOk v D1 (M * De) k n p (y1.ms p) (y1.cs p) := ⟨m1, c1, d0, st1, fun j hj => ro.kn j (k1 j hj).1⟩
  have hMD : M + M * De ≤ 2 * BB * M := by
    have e1 : M * De ≤ M * BB := Nat.mul_le_mul_left _ hDe
    have e2 : M ≤ M * BB := Nat.le_mul_of_pos_right _ hB1
    have e3 : 2 * BB * M = M * BB + M * BB := by rw [Nat.mul_comm (2 * BB) M, ← Nat.mul_assoc, Nat.mul_comm M 2, Nat.mul_assoc]; omega
    omega
  have hl : (BB * D1).log2 < 4400 := Nat.lt_of_le_of_lt (log2_mono (Nat.mul_le_mul (Nat.le_refl _) (Nat.le_trans dle hDe))) lBB2
  obtain ⟨h2, y2, s10', q2, R2, l2, same2, done⟩ := mix_loop (d := d) (v := v) a R1 (by omega) hp hv rp1 hl (Nat.lt_of_le_of_lt (log2_mono hMD) hM) hk (fun b hb => by
    obtain ⟨Db, hDb, rob⟩ := el.rows b (by omega)
    have e := same1 b (by omega)
    exact ⟨Db, hDb, by rw [e.1, e.2]; exact rob⟩) (s0 := s0) (s1 := s1) (s2 := s2) (s6 := s6') (s7 := s7') (s8 := s8) (s9 := s9) (s10 := s10) (s11 := s11) (s12 := s12) (s13 := s13) (s14 := s14)
  -- the own part
  obtain ⟨x0, xle, _⟩ := ro.mi.look p
  have x1 : (mlook (y.ms p) p).getD 0 < 1 := by
    cases hx : mlook (y.ms p) p with
    | none => decide
    | some x => exact (self_elim (M := M) hv ro.mi ro.pos ro.st hx).2.1
  have hx0 : 1 - (mlook (y.ms p) p).getD 0 ≠ 0 := by grind
  have eR2 : y2.ms p = selfF p (y.ms p) ∧ y2.cs p = selfC p (y.ms p) (y.cs p) := by
    obtain ⟨e1, e2⟩ := same2 p (Nat.le_refl _)
    exact ⟨e1.trans f1, e2.trans fc1⟩
  have cp : Comb n k ms0 cs0 p 0 p (y2.ms p) (fun o => (y2.cs p).getD o 0) := by
    rw [eR2.1, eR2.2]
    exact (el.c1 p (by omega) hp).self hp ro.mi.nd hx0
  have eB : ∀ b, b < p → y2.ms b = mixF p (y.ms b) (y2.ms p) ∧ y2.cs b = mixC p (y.ms b) (y.cs b) (y2.cs p) := fun b hb => by
    obtain ⟨_, _, _, _, e1, e2⟩ := done b hb
    obtain ⟨e3, e4⟩ := same1 b (by omega)
    obtain ⟨e5, e6⟩ := same2 p (Nat.le_refl _)
    rw [e1, e2, e3, e4, e5, e6]
    exact ⟨rfl, rfl⟩
  have cb : ∀ b, b < p → Comb n k ms0 cs0 p 1 b (y2.ms b) (fun o => (y2.cs b).getD o 0) := fun b hb => by
    obtain ⟨Db, hDb, rob⟩ := el.rows b (by omega)
    rw [(eB b hb).1, (eB b hb).2]
    refine (el.c1 b (by omega) (by omega)).mix hp cp rob.mi.nd ?_
    rw [rob.ci.len, eR2.2]
    unfold selfC
    cases mlook (y.ms p) p with
    | none => exact ro.ci.len.symm
    | some x => rw [List.length_map]; exact ro.ci.len.symm
  have hdq := dq_step (sides := sides) hp (el.c1 p (by omega) hp) ro.mi.nd (fun j hj => el.low p (by omega) hp j hj)
  have hsr : (0 : Rat) < (sides : Rat) := Rat.natCast_pos.mpr hs0
  have dpp : 0 < dq sides ms0 n p ∧ dq sides ms0 n p ≤ ((sides ^ (n - p) : Nat) : Rat) := by
    obtain ⟨p1, p2⟩ := el.dp
    rw [hdq]
    have g1 : 0 < 1 - (mlook (y.ms p) p).getD 0 := by grind
    refine ⟨Rat.mul_pos (Rat.mul_pos hsr g1) p1, ?_⟩
    rw [show n - p = (n - (p + 1)) + 1 by omega, Nat.pow_succ, Rat.natCast_mul]
    have g2 : (sides : Rat) * (1 - (mlook (y.ms p) p).getD 0) ≤ (sides : Rat) * 1 := Rat.mul_le_mul_of_nonneg_left (by grind) (Rat.le_of_lt hsr)
    have g3 := Rat.mul_le_mul_of_nonneg_right g2 (Rat.le_of_lt p1)
    have g4 := Rat.mul_le_mul_of_nonneg_left p2 (Rat.le_of_lt hsr)
    grind
  have hdI : IsI (dq sides ms0 n p) := det_int _ _ fun r c hr _ => i0.a _ _ (by omega)
  obtain ⟨Dn, eDn, pDn⟩ := IsI.toNat ((natI sides).mul hdI) (Rat.mul_pos hsr dpp.1)
  have leDn : Dn ≤ BB := by
    have g1 : (Dn : Rat) ≤ ((sides * sides ^ (n - p) : Nat) : Rat) := by
      rw [← eDn, Rat.natCast_mul]
      exact Rat.mul_le_mul_of_nonneg_left dpp.2 (Rat.le_of_lt hsr)
    have g2 : Dn ≤ sides * sides ^ (n - p) := Rat.natCast_le_natCast.mp g1
    refine Nat.le_trans g2 ?_
    rw [Nat.mul_comm, ← Nat.pow_succ]
    exact Nat.le_trans (Nat.pow_le_pow_left hs6 _) (Nat.pow_le_pow_right (by decide) (by omega))
  have kb : ∀ b, b < p → ∀ j ∈ keys (y2.ms b), j < p := fun b hb j hj => by
    obtain ⟨_, _, _, k2, _⟩ := done b hb
    have e := same1 b (by omega)
    rcases k2 j hj with z | z
    · rw [e.1] at z
      have := el.low b (by omega) (by omega) j z.1
      omega
    · have := k1 j z.1
      have := el.low p (by omega) hp j this.1
      omega
  refine ⟨h2, y2, s6', s7', s10', q1.trans ((ex_nx q2).trans ex_nil), R2, by omega, ⟨fun s hs => ?_, fun s hs1 hs2 => kb s hs1, fun s hs1 hs2 j hj => ?_, fun s hs1 _ => cb s hs1, fun s hs1 hs2 => ?_, dpp, fun u o ho hu => ?_⟩⟩
  · by_cases e1 : s < p
    · obtain ⟨D2, _, ro2, _, _⟩ := done s e1
      obtain ⟨t1, t2⟩ := tight_row i0 (cb s e1) IsI.one hs (by omega) ro2.mi.nd (kb s e1) eDn.symm
      have ro3 := ro2.mono hMD
      refine ⟨Dn, leDn, ⟨⟨ro3.mi.nd, ro3.mi.nn, t1, ro3.mi.le⟩, ⟨ro3.ci.len, fun x hx => ?_⟩, pDn, ro3.st, ro3.kn⟩⟩
      obtain ⟨i, hi, rfl⟩ := List.getElem_of_mem hx
      have hh := ro3.ci.all _ hx
      refine ⟨hh.1, hh.2.1, ?_⟩
      have t := t2 i (by rw [← ro3.ci.len]; exact hi)
      rw [List.getD_eq_getElem?_getD, List.getElem?_eq_getElem hi] at t
      exact t
    · obtain ⟨e2, e3⟩ := same2 s (by omega)
      by_cases e4 : s = p
      · subst e4
        exact ⟨D1, Nat.le_trans dle hDe, by rw [e2, e3]; exact rp1.mono (by omega)⟩
      · obtain ⟨Ds, hDs, ros⟩ := el.rows s hs
        obtain ⟨e5, e6⟩ := same1 s e4
        exact ⟨Ds, hDs, by rw [e2, e3, e5, e6]; exact ros.mono hMM⟩
  · obtain ⟨e2, _⟩ := same2 s hs1
    rw [e2] at hj
    by_cases e4 : s = p
    · subst e4
      have := k1 j hj
      have := el.low s (by omega) hp j this.1
      omega
    · rw [(same1 s e4).1] at hj
      exact el.high s (by omega) hs2 j hj
  · by_cases e4 : s = p
    · subst e4; exact cp
    · obtain ⟨e2, e3⟩ := same2 s hs1
      obtain ⟨e5, e6⟩ := same1 s e4
      rw [e2, e3, e5, e6]
      exact el.c0 s (by omega) hs2
  · refine el.back u o ho fun s hs => ?_
    have up := hu p hp
    rw [eR2.1, eR2.2] at up
    have up' := up
    rw [phi_self ro.mi.nd hx0, con_self] at up'
    by_cases e1 : s < p
    · obtain ⟨Db, hDb, rob⟩ := el.rows s hs
      have us := hu s hs
      have hlen : (y.cs s).length = (y2.cs p).length := by
        rw [rob.ci.len, eR2.2]
        unfold selfC
        cases mlook (y.ms p) p with
        | none => exact ro.ci.len.symm
        | some x => rw [List.length_map]; exact ro.ci.len.symm
      rw [(eB s e1).1, (eB s e1).2, phi_mix rob.mi.nd, con_mixC hlen, hu p hp] at us
      grind
    · by_cases e4 : s = p
      · subst e4
        have hx2 : (1 - (mlook (y.ms s) s).getD 0) * (1 - (mlook (y.ms s) s).getD 0)⁻¹ = 1 := Rat.mul_inv_cancel _ hx0
        rw [Rat.div_def, Rat.div_def] at up'
        have := congrArg (fun z => z * (1 - (mlook (y.ms s) s).getD 0)) up'
        grind
      · obtain ⟨e2, e3⟩ := same2 s (by omega)
        obtain ⟨e5, e6⟩ := same1 s e4
        have us := hu s hs
        rw [e2, e3, e5, e6] at us
        exact us
end
end PI

set_option maxRecDepth 100000
set_option maxHeartbeats 2000000
/-! QU: the elimination, whole. -/
namespace PI
open PySem
section
variable {P : Pg} {d : Nat} {g h : Hh} {aS aC : Nat} {y : Sys} {v : Nat → Rat} {t : List Row} {ms0 : Nat → Mp} {cs0 : Nat → List Rat}
theorem rng3_ok {C : Nat → List D → Hh → R D} {σ : Sto} (ht : σ[2]? = some (some (tabD t))) (hn : t.length < 400) : evIt P C (.rng3 (.bin .sub (.len (.of (.var 2))) (.int 1)) (.neg (.int 1)) (.neg (.int 1))) σ h = .ok ⟨t.length, fun _ k => some (.int (((t.length : Nat) : Int) - 1 + (k : Nat) * -1)), fun _ => true⟩ h := by
  have e1 := ev_len (P := P) (C := C) (σ := σ) (h := h) (xs := t.map Row.d) (ev_var ht) rfl
  rw [List.length_map] at e1
  have e2 : ev P C (.bin .sub (.len (.of (.var 2))) (.int 1)) σ h = .ok (.int ((t.length : Nat) - 1)) h := ev_bin e1 rfl rfl
  rw [evIt, e2, R.bnd_ok]
  show (if (-1 : Int) = -1 ∧ -4611686018427387904 ≤ ((t.length : Nat) : Int) - 1 ∧ ((t.length : Nat) : Int) - 1 < 4611686018427387904 ∧ (-4611686018427387904 : Int) ≤ -1 ∧ (-1 : Int) < 4611686018427387904 then _ else _) = _
  rw [if_pos (by omega)]
  have : (((t.length : Nat) : Int) - 1 - -1).toNat = t.length := by omega
  rw [this]
theorem el_loop (a : HasT P) (r : Rep g h aS aC t.length y) (hn : t.length ≤ 100) (hv : ∀ k, 0 < v k) {sides M k : Nat} (hs0 : 0 < sides) (hs6 : sides ≤ 6) (i0 : Int0 sides t.length k ms0 cs0) (hM0 : 0 < M) (hM : ((2 * BB) ^ t.length * M).log2 < 50000) (hk : k ≤ 1000) (el : El v t.length sides k t.length M ms0 cs0 y)
    {s0 s1 s5 s6 s7 s8 s9 s10 s11 s12 s13 s14 : Option D} : ∃ h' y' s5' s6' s7' s10', exec P (callN P (d + 4)) (.for_ (.nm 5) (.rng3 (.bin .sub (.len (.of (.var 2))) (.int 1)) (.neg (.int 1)) (.neg (.int 1))) (.cons (.set (.nm 6) (.idx (.var 3) (.var 5))) (.cons (.if_ (.cmp .in_ (.var 5) (.var 6)) (.cons (.set (.nm 7) (.call 5 (.cons (.glo 1) (.cons (.pop (.var 6) (.var 5)) .nil)))) (.cons (.sub (.var 3) (.var 5) (.dcI (.var 8) (.call 7 (.cons (.var 9) (.cons (.var 7) .nil))) (.tup (.cons (.nm 8) (.cons (.nm 9) .nil))) (.var 6) [8, 9])) (.cons (.sub (.var 4) (.var 5) (.lst (.comp (.call 7 (.cons (.var 9) (.cons (.var 7) .nil))) (.nm 9) (.seq (.of (.idx (.var 4) (.var 5)))) .none [9]))) .nil))) .nil) (.cons (.for_ (.nm 10) (.rng1 (.var 5)) (.cons (.if_ (.cmp .in_ (.var 5) (.idx (.var 3) (.var 10))) (.cons (.sub2 (.var 3) (.var 10) (.var 4) (.var 10) (.call 30 (.cons (.var 3) (.cons (.var 4) (.cons (.var 10) (.cons (.var 5) .nil)))))) .nil) .nil) .nil)) .nil)))) [s0, s1, some (tabD t), some (.ref aS), some (.ref aC), s5, s6, s7, s8, s9, s10, s11, s12, s13, s14] h =
      .ok (.nx [s0, s1, some (tabD t), some (.ref aS), some (.ref aC), s5', s6', s7', s8, s9, s10', s11, s12, s13, s14]) h' ∧ Rep g h' aS aC t.length y' ∧ h.length ≤ h'.length ∧ El v t.length sides k 0 ((2 * BB) ^ t.length * M) ms0 cs0 y' := by
  obtain ⟨σ', h', e1, y', s5', s6', s7', s10', rfl, R', hlen, el'⟩ := for_ok (P := P) (C := callN P (d + 4)) (t := .nm 5) (b := _) (rng3_ok (P := P) (C := callN P (d + 4)) (t := t) (σ := [s0, s1, some (tabD t), some (.ref aS), some (.ref aC), s5, s6, s7, s8, s9, s10, s11, s12, s13, s14]) (h := h) rfl (by omega))
    (fun i σ h' => ∃ (y' : Sys) (s5' s6' s7' s10' : Option D), σ = [s0, s1, some (tabD t), some (.ref aS), some (.ref aC), s5', s6', s7', s8, s9, s10', s11, s12, s13, s14] ∧ Rep g h' aS aC t.length y' ∧ h.length ≤ h'.length ∧ El v t.length sides k (t.length - i) ((2 * BB) ^ i * M) ms0 cs0 y') (fun _ _ _ => rfl)
    (fun i σ h' hi hI => by
      obtain ⟨y', s5', s6', s7', s10', rfl, R', hlen, el'⟩ := hI
      have hi : i < t.length := hi
      have ep : t.length - i = (t.length - 1 - i) + 1 := by omega
      rw [ep] at el'
      have hpow : 2 * BB * ((2 * BB) ^ i * M) = (2 * BB) ^ (i + 1) * M := by rw [Nat.pow_succ, Nat.mul_comm ((2 * BB) ^ i) (2 * BB), Nat.mul_assoc (2 * BB)]
      have hb : 0 < BB := by decide
      have hlt : ((2 * BB) ^ (i + 1) * M).log2 < 50000 := Nat.lt_of_le_of_lt (log2_mono (Nat.mul_le_mul_right _ (Nat.pow_le_pow_right (by omega) (by omega)))) hM
      obtain ⟨h2, y2, a6, a7, a10, q, R2, l2, el2⟩ := el_step (d := d) (p := t.length - 1 - i) a R' hn (by omega) hv hs0 hs6 i0 (Nat.mul_pos (Nat.pow_pos (by omega)) hM0) (by rw [hpow]; exact hlt) hk el' (s0 := s0) (s1 := s1) (s2 := some (tabD t)) (s6 := s6') (s7 := s7') (s8 := s8) (s9 := s9) (s10 := s10') (s11 := s11) (s12 := s12) (s13 := s13) (s14 := s14)
      refine ⟨nat (t.length - 1 - i), [s0, s1, some (tabD t), some (.ref aS), some (.ref aC), some (nat (t.length - 1 - i)), s6', s7', s8, s9, s10', s11, s12, s13, s14], ?_, rfl, _, _, q, y2, some (nat (t.length - 1 - i)), a6, a7, a10, rfl, R2, by omega, ?_⟩
      · show some (D.int _) = some (D.int _)
        congr 2
        omega
      · rw [hpow] at el2
        have : t.length - (i + 1) = t.length - 1 - i := by omega
        rw [this]; exact el2)
    ⟨y, s5, s6, s7, s10, rfl, r, Nat.le_refl _, by rw [Nat.pow_zero, Nat.one_mul]; exact el⟩
  refine ⟨h', y', s5', s6', s7', s10', e1, R', hlen, ?_⟩
  have el'' : El v t.length sides k (t.length - t.length) ((2 * BB) ^ t.length * M) ms0 cs0 y' := el'
  rw [Nat.sub_self] at el''
  exact el''
end
end PI

set_option maxRecDepth 100000
set_option maxHeartbeats 1000000
/-! QV: the elimination's start. -/
namespace PI
open PySem DT
theorem objs0_get (q : Rat) (many : Nat) : ∀ (ts : List Row) (i : Nat) (r : Row), ts[i]? = some r → (objs0 q many ts)[2 * i]? = some (.dct (dctM (row0 q r))) ∧ (objs0 q many ts)[2 * i + 1]? = some (.lst ((con0 many r).map fr))
  | [], i, r, h => by simp at h
  | a :: ts, 0, r, h => by
    simp at h
    subst h
    exact ⟨rfl, rfl⟩
  | a :: ts, i + 1, r, h => by
    have ih := objs0_get q many ts i r (by simpa using h)
    have e : objs0 q many (a :: ts) = [.dct (dctM (row0 q a)), .lst ((con0 many a).map fr)] ++ objs0 q many ts := by
      unfold objs0
      rw [List.flatMap_cons]
    rw [e]
    constructor
    · rw [List.getElem?_append_right (by simp; omega)]
      simpa [show 2 * (i + 1) - 2 = 2 * i by omega] using ih.1
    · rw [List.getElem?_append_right (by simp; omega)]
      simpa [show 2 * (i + 1) + 1 - 2 = 2 * i + 1 by omega] using ih.2
def sys0 (b : Nat) (q : Rat) (many : Nat) (t : List Row) : Sys := ⟨fun s => row0 q (t.getD s (.out 0)), fun s => con0 many (t.getD s (.out 0)), fun i => b + 2 + 2 * i, fun i => b + 3 + 2 * i⟩
theorem rep_eqH (h : Hh) (q : Rat) (many : Nat) (t : List Row) : Rep h (eqH h q many t) h.length (h.length + 1) t.length (sys0 h.length q many t) where
  hS := by
    unfold eqH
    rw [get_at0]
    unfold refL refs sys0
    rw [List.map_map]; rfl
  hC := by
    unfold eqH
    rw [get_at1]
    unfold refL refs sys0
    rw [List.map_map]; rfl
  rows := fun i hi => by
    have hr : t[i]? = some t[i] := List.getElem?_eq_getElem hi
    show (eqH h q many t)[h.length + 2 + 2 * i]? = some (.dct (dctM (row0 q (t.getD i (.out 0)))))
    unfold eqH
    rw [List.getElem?_append_right (by omega), show h.length + 2 + 2 * i - h.length = 2 * i + 1 + 1 by omega, List.getElem?_cons_succ, List.getElem?_cons_succ, (objs0_get q many t i _ hr).1, List.getD_eq_getElem?_getD, hr]; rfl
  cons := fun i hi => by
    have hr : t[i]? = some t[i] := List.getElem?_eq_getElem hi
    show (eqH h q many t)[h.length + 3 + 2 * i]? = some (.lst ((con0 many (t.getD i (.out 0))).map fr))
    unfold eqH
    rw [List.getElem?_append_right (by omega), show h.length + 3 + 2 * i - h.length = 2 * i + 1 + 1 + 1 by omega, List.getElem?_cons_succ, List.getElem?_cons_succ, (objs0_get q many t i _ hr).2, List.getD_eq_getElem?_getD, hr]; rfl
  inj := fun i j _ _ e => by have e : h.length + 2 + 2 * i = h.length + 2 + 2 * j := e; omega
  apart := fun i j _ _ e => by have e : h.length + 2 + 2 * i = h.length + 3 + 2 * j := e; omega
  aps := fun i _ => ⟨fun e => by have e : h.length + 2 + 2 * i = h.length := e; omega, fun e => by have e : h.length + 2 + 2 * i = h.length + 1 := e; omega, fun e => by have e : h.length + 3 + 2 * i = h.length := e; omega, fun e => by have e : h.length + 3 + 2 * i = h.length + 1 := e; omega⟩
  ne := by omega
  keep := fun a ha => by
    unfold eqH
    rw [List.getElem?_append_left ha]
  lo := ⟨Nat.le_refl _, by omega, fun i _ => ⟨by show h.length ≤ h.length + 2 + 2 * i; omega, by show h.length ≤ h.length + 3 + 2 * i; omega⟩⟩
theorem keys_rowT {q : Rat} {l : List Nat} {j : Nat} (h : j ∈ keys (rowT q l)) : j ∈ l := by
  have key : ∀ (l : List Nat) (m : Mp), j ∈ keys (l.foldl (fun a j => madd a j q) m) → j ∈ keys m ∨ j ∈ l := by
    intro l
    induction l with
    | nil => intro m h; exact .inl h
    | cons b l ih =>
      intro m h
      rcases ih (madd m b q) h with z | z
      · unfold madd at z
        rw [keys_put] at z
        split at z
        · exact .inl z
        · rcases List.mem_append.mp z with z | z
          · exact .inl z
          · right; simp at z; subst z; exact List.mem_cons_self
      · exact .inr (List.mem_cons_of_mem _ z)
  rcases key l [] h with z | z
  · simp [keys] at z
  · exact z
theorem con0_CI (De many : Nat) (r : Row) : CI De 1 (many + 1) (con0 many r) := by
  have one : ((1 : Nat) : Rat) = 1 := rfl
  have key : ∀ (i : Nat), ∀ x ∈ (List.replicate (many + 1) (0 : Rat)).set i 1, 0 ≤ x ∧ x ≤ ((1 : Nat) : Rat) ∧ Di De x := fun i x hx => by
    rcases List.mem_or_eq_of_mem_set hx with z | z
    · have := List.eq_of_mem_replicate z
      subst this
      exact ⟨by decide, by rw [one]; decide, Di.zero De⟩
    · subst z
      exact ⟨by decide, by rw [one]; decide, Di.one De⟩
  cases r with
  | go l => exact ⟨by simp [con0], key many⟩
  | out o => exact ⟨by simp [con0], key o⟩
theorem int0 {sides many : Nat} {t : List Row} (b : Nat) (ht : TabOk sides many t) (h2 : 0 < sides) : Int0 sides t.length (many + 1) (sys0 b (mkRat 1 sides) many t).ms (sys0 b (mkRat 1 sides) many t).cs where
  a := fun e j he => by
    obtain ⟨q0, q1, q2⟩ := q_facts h2
    have hr : t[e]? = some t[e] := List.getElem?_eq_getElem he
    have gd : t.getD e (.out 0) = t[e] := by rw [List.getD_eq_getElem?_getD, hr]; rfl
    show IsI ((sides : Rat) * phi (row0 (mkRat 1 sides) (t.getD e (.out 0))) e (dl j))
    rw [gd]
    have hok := ht t[e] (List.getElem_mem _)
    generalize t[e] = r at *
    have hd : IsI (dl j e) := by unfold dl; split; exact IsI.one; exact IsI.zero
    have key : ∀ m : Mp, MI sides m → IsI ((sides : Rat) * phi m e (dl j)) := fun m mi => by
      unfold phi
      rw [msum_dl mi.nd]
      obtain ⟨_, _, z, hz⟩ := mi.look j
      have e1 : (sides : Rat) * (dl j e - (mlook m j).getD 0) = (sides : Rat) * dl j e + -((mlook m j).getD 0 * (sides : Rat)) := by grind
      rw [e1, hz]
      exact ((natI _).mul hd).add (IsI.int z).neg
    cases r with
    | go l =>
      have m := (rowT_MI q0 q1 l (by rw [hok.1, q2]; exact Rat.le_refl) l.length).1
      rw [List.take_length] at m
      exact key _ m
    | out o => exact key [] MI.nil
  c := fun e o he ho => by
    show IsI ((con0 many (t.getD e (.out 0))).getD o 0)
    have key : ∀ i : Nat, IsI (((List.replicate (many + 1) (0 : Rat)).set i 1).getD o 0) := fun i => by
      rw [List.getD_eq_getElem?_getD, List.getElem?_set]
      split
      · split
        · exact IsI.one
        · exact IsI.zero
      · rw [List.getElem?_replicate]
        split
        · exact IsI.zero
        · exact IsI.zero
    cases t.getD e (.out 0) with
    | go l => exact key many
    | out o' => exact key o'
theorem smr_nil (n : Nat) (f : Nat → Rat) : smr n n f = 0 := by
  unfold smr
  rw [Nat.sub_self]; rfl
theorem el_start {v : Nat → Rat} {sides many : Nat} {t : List Row} (b : Nat) (ht : TabOk sides many t) (h2 : 0 < sides) (h6 : sides ≤ 6) (hv : ∀ k, 0 < v k) (hs : ∀ s l, t[s]? = some (.go l) → msum v (rowT (mkRat 1 sides) l) < v s) :
    El v t.length sides (many + 1) t.length 1 (sys0 b (mkRat 1 sides) many t).ms (sys0 b (mkRat 1 sides) many t).cs (sys0 b (mkRat 1 sides) many t) where
  rows := fun s hs' => by
    obtain ⟨q0, q1, q2⟩ := q_facts h2
    have hr : t[s]? = some t[s] := List.getElem?_eq_getElem hs'
    have hok := ht t[s] (List.getElem_mem _)
    have gd : t.getD s (.out 0) = t[s] := by rw [List.getD_eq_getElem?_getD, hr]; rfl
    show ∃ De, De ≤ BB ∧ RowOk v De 1 (many + 1) t.length s (row0 (mkRat 1 sides) (t.getD s (.out 0))) (con0 many (t.getD s (.out 0)))
    rw [gd]
    have hst := hs s
    rw [hr] at hst
    generalize t[s] = r at *
    cases r with
    | go l =>
      have m := (rowT_MI q0 q1 l (by rw [hok.1, q2]; exact Rat.le_refl) l.length).1
      rw [List.take_length] at m
      exact ⟨sides, Nat.le_trans h6 (by decide +kernel), ⟨m, con0_CI _ _ _, h2, hst l rfl, fun j hj => hok.2 j (keys_rowT hj)⟩⟩
    | out o =>
      exact ⟨1, by decide +kernel, ⟨MI.nil, con0_CI _ _ _, by decide, by rw [show row0 (mkRat 1 sides) (.out o) = [] from rfl, msum_nil]; exact hv s, fun j hj => by simp [row0, keys] at hj⟩⟩
  low := fun s hs1 hs2 j hj => by
    have hr : t[s]? = some t[s] := List.getElem?_eq_getElem hs2
    have gd : t.getD s (.out 0) = t[s] := by rw [List.getD_eq_getElem?_getD, hr]; rfl
    have hj : j ∈ keys (row0 (mkRat 1 sides) (t.getD s (.out 0))) := hj
    rw [gd] at hj
    have hok := ht t[s] (List.getElem_mem _)
    generalize t[s] = r at *
    cases r with
    | go l => exact hok.2 j (keys_rowT hj)
    | out o => simp [row0, keys] at hj
  high := fun s hs1 hs2 => by omega
  c1 := fun s _ _ => ⟨fun _ => 0, fun u => by rw [smr_nil]; grind, fun o _ => by rw [smr_nil]; grind⟩
  c0 := fun s hs1 hs2 => by omega
  dp := by
    unfold dq
    rw [Nat.sub_self]
    exact ⟨by show (0 : Rat) < 1; decide, by show (1 : Rat) ≤ ((1 : Nat) : Rat); decide⟩
  back := fun u o _ h => h
end PI

set_option maxRecDepth 100000
set_option maxHeartbeats 1000000
/-! QW: ranks and weights. -/
namespace PI
open PySem
/-- each state that goes on has a successor of a smaller rank -/
def Ranked (t : List Row) (rk : Nat → Nat) : Prop := ∀ (s : Nat) (l : List Nat), t[s]? = some (Row.go l) → ∃ y ∈ l, rk y < rk s
theorem Ranked.dec {t : List Row} {rk : Nat → Nat} (hr : Ranked t rk) (hb : ∀ (s : Nat) (l : List Nat), t[s]? = some (Row.go l) → ∀ y ∈ l, y < t.length) (L : List Nat) (h1 : ∀ (s o : Nat), t[s]? = some (Row.out o) → s ∈ L) (h2 : ∀ (s : Nat) (l : List Nat), t[s]? = some (Row.go l) → (∃ y ∈ l, y ∈ L) → s ∈ L) : ∀ s, s < t.length → s ∈ L := by
  have key : ∀ n s, rk s < n → s < t.length → s ∈ L := by
    intro n
    induction n with
    | zero => intro s h; omega
    | succ n ih =>
      intro s hn hs
      have e : t[s]? = some t[s] := List.getElem?_eq_getElem hs
      generalize t[s] = r at e
      cases r with
      | out o => exact h1 s o e
      | go l =>
        obtain ⟨y, hy, hyr⟩ := hr s l e
        exact h2 s l e ⟨y, hy, ih y (by omega) (hb s l e y hy)⟩
  exact fun s hs => key (rk s + 1) s (by omega) hs
theorem msum_rowT (v : Nat → Rat) (q : Rat) (l : List Nat) : msum v (rowT q l) = (l.map fun j => q * v j).sum := by
  have key : ∀ (l : List Nat) (m : Mp), (keys m).Nodup → msum v (l.foldl (fun a j => madd a j q) m) = msum v m + (l.map fun j => q * v j).sum := by
    intro l
    induction l with
    | nil => intro m _; simp only [List.foldl_nil, List.map_nil, List.sum_nil]; grind
    | cons b l ih =>
      intro m h
      rw [List.foldl_cons, ih (madd m b q) (nodup_put h), msum_add v h, List.map_cons, List.sum_cons]
      grind
  have := key l [] (by simp [keys])
  unfold rowT
  rw [this, msum_nil]
  grind
def eps (sides : Nat) : Rat := mkRat 1 (2 * sides)
def vOf (sides : Nat) (rk : Nat → Nat) (s : Nat) : Rat := 1 - eps sides ^ (rk s + 1)
theorem eps_facts {sides : Nat} (h : 0 < sides) : 0 < eps sides ∧ eps sides < 1 ∧ 2 * eps sides = mkRat 1 sides := by
  unfold eps
  have e : ((2 * sides : Nat) : Rat) = 2 * (sides : Rat) := by rw [Rat.natCast_mul]; rfl
  have hp : (0 : Rat) < (sides : Rat) := Rat.natCast_pos.mpr h
  have h1 : (1 : Rat) ≤ (sides : Rat) := by
    have : ((1 : Nat) : Rat) ≤ (sides : Rat) := Rat.natCast_le_natCast.mpr h
    exact this
  have c : ((1 : Int) : Rat) = 1 := rfl
  rw [Rat.mkRat_eq_div, Rat.mkRat_eq_div, e, c]
  have hi : (sides : Rat) * (sides : Rat)⁻¹ = 1 := Rat.mul_inv_cancel _ (by grind)
  have hip : 0 < (sides : Rat)⁻¹ := Rat.inv_pos.mpr hp
  have e2 : (1 : Rat) / (2 * (sides : Rat)) = (sides : Rat)⁻¹ / 2 := by grind
  have e3 : (1 : Rat) / (sides : Rat) = (sides : Rat)⁻¹ := by grind
  have hle : (sides : Rat)⁻¹ ≤ 1 := by
    have := Rat.mul_le_mul_of_nonneg_right h1 (Rat.le_of_lt hip)
    grind
  rw [e2, e3]
  refine ⟨by grind, by grind, by grind⟩
theorem pow_facts {e : Rat} (h0 : 0 < e) (h1 : e < 1) : ∀ n : Nat, 0 < e ^ n ∧ e ^ n ≤ 1
  | 0 => by rw [Rat.pow_zero]; exact ⟨by decide, by decide⟩
  | n + 1 => by
    obtain ⟨a, b⟩ := pow_facts h0 h1 n
    rw [Rat.pow_succ]
    refine ⟨Rat.mul_pos a h0, ?_⟩
    have := Rat.mul_le_mul_of_nonneg_left (Rat.le_of_lt h1) (Rat.le_of_lt a)
    grind
theorem vOf_facts {sides : Nat} (h : 0 < sides) (rk : Nat → Nat) (s : Nat) : 0 < vOf sides rk s ∧ vOf sides rk s ≤ 1 := by
  obtain ⟨a, b, _⟩ := eps_facts h
  obtain ⟨c, d⟩ := pow_facts a b (rk s)
  obtain ⟨c', _⟩ := pow_facts a b (rk s + 1)
  unfold vOf
  have : eps sides ^ (rk s + 1) < 1 := by
    rw [Rat.pow_succ]
    have := Rat.mul_le_mul_of_nonneg_right d (Rat.le_of_lt a)
    grind
  grind
theorem pow_mono {e : Rat} (h0 : 0 < e) (h1 : e < 1) {n m : Nat} (h : n ≤ m) : e ^ m ≤ e ^ n := by
  induction m with
  | zero => have : n = 0 := by omega
            subst this; exact Rat.le_refl
  | succ m ih =>
    by_cases e1 : n = m + 1
    · subst e1; exact Rat.le_refl
    · have i := ih (by omega)
      obtain ⟨a, b⟩ := pow_facts h0 h1 m
      rw [Rat.pow_succ]
      have := Rat.mul_le_mul_of_nonneg_left (Rat.le_of_lt h1) (Rat.le_of_lt a)
      grind
theorem sum_le {v : Nat → Rat} {q w : Rat} (hq : 0 ≤ q) (hv : ∀ j, v j ≤ 1) : ∀ l : List Nat, (l.map fun j => q * v j).sum ≤ (l.length : Rat) * q ∧ (∀ y ∈ l, v y ≤ w → (l.map fun j => q * v j).sum ≤ (l.length : Rat) * q - q + q * w)
  | [] => ⟨by simp only [List.map_nil, List.sum_nil, List.length_nil]; have : ((0 : Nat) : Rat) = 0 := rfl; grind, fun y hy => by simp at hy⟩
  | b :: l => by
    obtain ⟨i1, i2⟩ := sum_le (w := w) hq hv l
    have e : (((b :: l).length : Nat) : Rat) = (l.length : Rat) + 1 := by rw [List.length_cons, Rat.natCast_add]; rfl
    have h1 : q * v b ≤ q := by
      have := Rat.mul_le_mul_of_nonneg_left (hv b) hq
      grind
    refine ⟨?_, fun y hy hw => ?_⟩
    · rw [List.map_cons, List.sum_cons, e]; grind
    · rw [List.map_cons, List.sum_cons, e]
      rcases List.mem_cons.mp hy with rfl | hy
      · have := Rat.mul_le_mul_of_nonneg_left hw hq
        grind
      · have := i2 y hy hw
        grind
theorem vOf_go {sides many : Nat} {t : List Row} {rk : Nat → Nat} (ht : TabOk sides many t) (hr : Ranked t rk) (h : 0 < sides) (s : Nat) (l : List Nat) (e : t[s]? = some (.go l)) : msum (vOf sides rk) (rowT (mkRat 1 sides) l) < vOf sides rk s := by
  obtain ⟨q0, q1, q2⟩ := q_facts h
  obtain ⟨a, b, c⟩ := eps_facts h
  obtain ⟨y, hy, hyr⟩ := hr s l e
  have hok := ht _ (List.mem_of_getElem? e)
  rw [msum_rowT]
  have := (sum_le (v := vOf sides rk) (w := vOf sides rk y) q0 (fun j => (vOf_facts h rk j).2) l).2 y hy Rat.le_refl
  refine Std.lt_of_le_of_lt this ?_
  rw [hok.1, q2]
  unfold vOf
  have p1 := pow_mono a b (show rk y + 1 ≤ rk s by omega)
  obtain ⟨p2, _⟩ := pow_facts a b (rk y + 1)
  obtain ⟨p3, _⟩ := pow_facts a b (rk s)
  rw [Rat.pow_succ (n := rk s), ← c]
  have h3 := Rat.mul_le_mul_of_nonneg_left p1 (Rat.le_of_lt a)
  have h4 := Rat.mul_pos a p3
  grind
end PI

set_option maxRecDepth 100000
set_option maxHeartbeats 1000000
/-! QX: what is walked, in one form; comprehensions over it. -/
namespace PI
open PySem
section
variable {P : Pg} {C : Nat → List D → Hh → R D} {σ : Sto} {h h1 h2 : Hh} {l a b : L} {v u : LV} {xs ys : List D}
/-- iv walks n items: x i at place i, wherever Q holds of the heap -/
structure Wlk (iv : Iv) (n : Nat) (x : Nat → D) (Q : Hh → Prop) : Prop where
  num : iv.n = n
  fin : ∀ h, Q h → iv.fin h = true
  get : ∀ h i, Q h → i < n → iv.get h i = some (x i)
theorem at_items (e : v.items h = some xs) {i : Nat} {x : D} (hx : xs[i]? = some x) : v.at_ xs.length h i = some x := by
  unfold LV.at_
  rw [e]
  simp [hx]
theorem fin_items (e : v.items h = some xs) : v.fin xs.length h = true := by
  unfold LV.fin
  rw [e]
  simp
def nth (xs : List D) (i : Nat) : D := xs.getD i .non
theorem nth_get {i : Nat} (h : i < xs.length) : xs[i]? = some (nth xs i) := by
  unfold nth
  rw [List.getD_eq_getElem?_getD, List.getElem?_eq_getElem h]; rfl
theorem nth_eq {i : Nat} {x : D} (h : xs[i]? = some x) : nth xs i = x := by
  unfold nth
  rw [List.getD_eq_getElem?_getD, h]; rfl
theorem not_str (e : v.items h = some xs) : ∀ s, v ≠ .val (.str s) := fun s z => by
  subst z
  cases e
theorem it_seq (e : evL P C l σ h = .ok v h1) (hi : v.items h1 = some xs) : ∃ iv, evIt P C (.seq l) σ h = .ok iv h1 ∧ Wlk iv xs.length (nth xs) (fun h2 => v.items h2 = some xs) := by
  refine ⟨⟨xs.length, fun h i => v.at_ xs.length h i, v.fin xs.length⟩, ?_, rfl, fun h2 q => fin_items q, fun h2 i q hi => at_items q (nth_get hi)⟩
  rw [evIt, e, R.bnd_ok]
  have ns := not_str hi
  cases v with
  | new ys =>
    simp only [hi]
  | val d =>
    cases d with
    | str s => exact absurd rfl (ns s)
    | _ => simp only [hi]
theorem it_enum (e : evL P C l σ h = .ok v h1) (hi : v.items h1 = some xs) : ∃ iv, evIt P C (.enum l) σ h = .ok iv h1 ∧ Wlk iv xs.length (fun i => .tup [nat i, nth xs i]) (fun h2 => v.items h2 = some xs) := by
  refine ⟨⟨xs.length, fun h i => (v.at_ xs.length h i).map fun x => .tup [.int (i : Nat), x], v.fin xs.length⟩, ?_, rfl, fun h2 q => fin_items q, fun h2 i q hi => ?_⟩
  · rw [evIt, e, R.bnd_ok, hi]
  · show (v.at_ xs.length h2 i).map _ = _
    rw [at_items q (nth_get hi)]; rfl
theorem it_zip (e1 : evL P C a σ h = .ok v h1) (e2 : evL P C b σ h1 = .ok u h2) (i1 : v.items h2 = some xs) (i2 : u.items h2 = some ys) : ∃ iv, evIt P C (.zip a b) σ h = .ok iv h2 ∧ Wlk iv (min xs.length ys.length) (fun i => .tup [nth xs i, nth ys i]) (fun h3 => v.items h3 = some xs ∧ u.items h3 = some ys) := by
  refine ⟨⟨min xs.length ys.length, fun h i => match v.at_ xs.length h i, u.at_ ys.length h i with
      | some x, some y => some (.tup [x, y])
      | _, _ => none, fun h => v.fin xs.length h && u.fin ys.length h⟩, ?_, rfl, fun h3 q => ?_, fun h3 i q hi => ?_⟩
  · rw [evIt, e1, R.bnd_ok, e2, R.bnd_ok, i1, i2]; try rfl
  · show (v.fin xs.length h3 && u.fin ys.length h3) = true
    rw [fin_items q.1, fin_items q.2]; rfl
  · show (match v.at_ xs.length h3 i, u.at_ ys.length h3 i with
      | some x, some y => some (D.tup [x, y])
      | _, _ => none) = _
    rw [at_items q.1 (nth_get (by omega)), at_items q.2 (nth_get (by omega))]
theorem it_rng1 {x : E} {n : Nat} (ex : ev P C x σ h = .ok (nat n) h1) (hn : n ≤ 1000000) : ∃ iv, evIt P C (.rng1 x) σ h = .ok iv h1 ∧ Wlk iv n nat (fun _ => True) := by
  refine ⟨⟨n, fun _ i => some (.int (i : Nat)), fun _ => true⟩, ?_, rfl, fun _ _ => rfl, fun _ _ _ _ => rfl⟩
  rw [evIt, ex, R.bnd_ok]
  show (if -4611686018427387904 ≤ ((n : Nat) : Int) ∧ ((n : Nat) : Int) < 4611686018427387904 then _ else _) = _
  rw [if_pos (by omega)]; rfl
theorem it_rng2 {x y : E} {m n : Nat} (ex : ev P C x σ h = .ok (nat m) h1) (ey : ev P C y σ h1 = .ok (nat n) h2) (hm : m ≤ 1000000) (hn : n ≤ 1000000) : ∃ iv, evIt P C (.rng2 x y) σ h = .ok iv h2 ∧ Wlk iv (n - m) (fun i => nat (m + i)) (fun _ => True) := by
  refine ⟨⟨n - m, fun _ k => some (.int ((m : Int) + (k : Nat))), fun _ => true⟩, ?_, rfl, fun _ _ => rfl, fun _ _ _ _ => rfl⟩
  rw [evIt, ex, R.bnd_ok, ey, R.bnd_ok]
  show (if -4611686018427387904 ≤ ((m : Nat) : Int) ∧ ((m : Nat) : Int) < 4611686018427387904 ∧ -4611686018427387904 ≤ ((n : Nat) : Int) ∧ ((n : Nat) : Int) < 4611686018427387904 then _ else _) = _
  rw [if_pos (by omega)]
  have : (((n : Nat) : Int) - ((m : Nat) : Int)).toNat = n - m := by omega
  rw [this]
/-- [e for t in it], the heap left alone -/
theorem comp_ok {t : Tg} {it : It} {e : E} {own : List Nat} {iv : Iv} {n : Nat} {x : Nat → D} {Q : Hh → Prop} (ei : evIt P C it σ h = .ok iv h1) (w : Wlk iv n x Q) (hq : Q h1) (hl : n ≤ LIM) (y : Nat → D)
    (step : ∀ i, i < n → ∃ σ1, asT t (x i) (wipe σ own) = some σ1 ∧ ev P C e σ1 h1 = .ok (y i) h1) : evL P C (.comp e t it .none own) σ h = .ok (.new ((List.range n).map y)) h1 := by
  rw [evL, ei, R.bnd_ok, if_pos (by rw [w.num]; exact hl), w.num]
  have key := lc_pure (fin := iv.fin) (get := iv.get) (bind := fun x => asT t x (wipe σ own)) (test := fun σ1 h => (evC P C .none σ1 h).nox) (elt := fun σ1 h => (ev P C e σ1 h).nox) (h := h1) n y (w.fin h1 hq) (fun i hi => by
    obtain ⟨σ1, k1, k2⟩ := step i hi
    exact ⟨_, σ1, w.get h1 i hq hi, k1, by simp only [evC, R.nox_ok], by rw [k2, R.nox_ok]⟩) n 0 (by omega)
  rw [key, List.range_eq_range']; rfl
/-- [e for t in it if c], the heap left alone -/
theorem compC_ok {t : Tg} {it : It} {e c : E} {own : List Nat} {iv : Iv} {n : Nat} {x : Nat → D} {Q : Hh → Prop} (ei : evIt P C it σ h = .ok iv h1) (w : Wlk iv n x Q) (hq : Q h1) (hl : n ≤ LIM) (y : Nat → D) (k : Nat → Bool)
    (step : ∀ i, i < n → ∃ σ1, asT t (x i) (wipe σ own) = some σ1 ∧ ev P C c σ1 h1 = .ok (.bl (k i)) h1 ∧ (k i = true → ev P C e σ1 h1 = .ok (y i) h1)) : evL P C (.comp e t it (.some c) own) σ h = .ok (.new (((List.range n).filter k).map y)) h1 := by
  rw [evL, ei, R.bnd_ok, if_pos (by rw [w.num]; exact hl), w.num]
  have key := lc_filter (fin := iv.fin) (get := iv.get) (bind := fun x => asT t x (wipe σ own)) (test := fun σ1 h => (evC P C (.some c) σ1 h).nox) (elt := fun σ1 h => (ev P C e σ1 h).nox) (h := h1) n k y (w.fin h1 hq) (fun i hi => by
    obtain ⟨σ1, k1, k2, k3⟩ := step i hi
    exact ⟨_, σ1, w.get h1 i hq hi, k1, by simp only [evC, k2, R.bnd_ok, R.nox_ok], fun z => by rw [k3 z, R.nox_ok]⟩) n 0 (by omega)
  rw [key, List.range_eq_range']; rfl
/-- a loop over what is walked; I holds ahead of turn i -/
theorem for_w {t : Tg} {it : It} {b : Ss} {iv : Iv} {n : Nat} {x : Nat → D} {Q : Hh → Prop} (ei : evIt P C it σ h = .ok iv h1) (w : Wlk iv n x Q) (I : Nat → Sto → Hh → Prop) (hq : ∀ i σ h, I i σ h → Q h)
    (step : ∀ i σ h, i < n → I i σ h → ∃ σ1, asT t (x i) σ = some σ1 ∧ ∃ σ2 h2, execs P C b σ1 h = .ok (.nx σ2) h2 ∧ I (i + 1) σ2 h2) (hi : I 0 σ h1) :
    ∃ σ' h', exec P C (.for_ t it b) σ h = .ok (.nx σ') h' ∧ I n σ' h' := by
  obtain ⟨σ', h', e1, e2⟩ := for_ok (P := P) (C := C) (t := t) (b := b) ei I (fun σ h k => w.fin h (hq _ σ h k)) (fun i σ h hi k => by
    rw [w.num] at hi
    obtain ⟨σ1, k1, k2⟩ := step i σ h hi k
    exact ⟨x i, σ1, w.get h i (hq _ σ h k) hi, k1, k2⟩) hi
  rw [w.num] at e2
  exact ⟨σ', h', e1, e2⟩
theorem ev_lst (e : evL P C l σ h = .ok (.new xs) h1) : ev P C (.lst l) σ h = .ok (.ref h1.length) (h1 ++ [.lst xs]) := by
  rw [ev, e, R.bnd_ok]; rfl
theorem ev_tupl (e : evL P C l σ h = .ok v h1) (hi : v.items h1 = some xs) : ev P C (.tupl l) σ h = .ok (.tup xs) h1 := by
  rw [ev, e, R.bnd_ok, hi]
end
end PI

set_option maxRecDepth 100000
set_option maxHeartbeats 2000000
/-! QY: the last loop of solved: what is known of a state, put together. -/
namespace PI
open PySem DT
/-- what is known, with the results of the shares put in -/
def pk (c : List Rat) (X : Nat → List Rat) (m : Mp) : List Rat := m.foldl (fun a kv => List.zipWith (fun u w => u + kv.2 * w) a (X kv.1)) c
theorem zw_getD {a b : List Rat} {q : Rat} (h : a.length = b.length) (o : Nat) : (List.zipWith (fun u w => u + q * w) a b).getD o 0 = a.getD o 0 + q * b.getD o 0 := by
  by_cases ho : o < a.length
  · rw [List.getD_eq_getElem?_getD, List.getD_eq_getElem?_getD, List.getD_eq_getElem?_getD, List.getElem?_zipWith, List.getElem?_eq_getElem ho, List.getElem?_eq_getElem (show o < b.length by omega)]
    rfl
  · rw [getD_out (by rw [List.length_zipWith]; omega), getD_out (by omega), getD_out (by omega)]
    grind
theorem pk_len {X : Nat → List Rat} {k : Nat} : ∀ (m : Mp) (c : List Rat), c.length = k → (∀ j ∈ keys m, (X j).length = k) → (pk c X m).length = k ∧ ∀ o, (pk c X m).getD o 0 = c.getD o 0 + msum (fun j => (X j).getD o 0) m
  | [], c, hc, _ => ⟨hc, fun o => by rw [msum_nil]; show c.getD o 0 = _; grind⟩
  | b :: m, c, hc, hX => by
    have hb : (X b.1).length = k := hX b.1 (by unfold keys; rw [List.map_cons]; exact List.mem_cons_self)
    obtain ⟨i1, i2⟩ := pk_len m (List.zipWith (fun u w => u + b.2 * w) c (X b.1)) (by rw [List.length_zipWith]; omega) (fun j hj => hX j (by unfold keys at *; rw [List.map_cons]; exact List.mem_cons_of_mem _ hj))
    refine ⟨i1, fun o => ?_⟩
    show (pk (List.zipWith (fun u w => u + b.2 * w) c (X b.1)) X m).getD o 0 = _
    rw [i2, zw_getD (by omega), msum_cons]
    grind
theorem pk_snoc (c : List Rat) (X : Nat → List Rat) (m : Mp) (i : Nat) (kv : Nat × Rat) (h : m[i]? = some kv) : pk c X (m.take (i + 1)) = List.zipWith (fun u w => u + kv.2 * w) (pk c X (m.take i)) (X kv.1) := by
  rw [List.take_add_one, h]
  unfold pk
  rw [List.foldl_append]; rfl
theorem mem_getD {c : List Rat} {x : Rat} (h : x ∈ c) : ∃ o, o < c.length ∧ x = c.getD o 0 := by
  obtain ⟨i, hi, rfl⟩ := List.getElem_of_mem h
  exact ⟨i, hi, by rw [List.getD_eq_getElem?_getD, List.getElem?_eq_getElem hi]; rfl⟩
theorem getD_mem {c : List Rat} {o : Nat} (h : o < c.length) : c.getD o 0 ∈ c := by
  rw [List.getD_eq_getElem?_getD, List.getElem?_eq_getElem h]
  exact List.getElem_mem _
theorem msum_Di {D E : Nat} {u : Nat → Rat} : ∀ m : Mp, (∀ kv ∈ m, Di D kv.2) → (∀ j ∈ keys m, Di E (u j)) → Di (D * E) (msum u m)
  | [], _, _ => Di.zero _
  | b :: m, h1, h2 => by
    rw [msum_cons]
    refine ((h1 b List.mem_cons_self).mul (h2 b.1 (by unfold keys; rw [List.map_cons]; exact List.mem_cons_self))).add (msum_Di m (fun kv hkv => h1 kv (List.mem_cons_of_mem _ hkv)) fun j hj => h2 j (by unfold keys at *; rw [List.map_cons]; exact List.mem_cons_of_mem _ hj))
theorem msum_bd {u : Nat → Rat} {B : Rat} : ∀ m : Mp, (∀ kv ∈ m, 0 ≤ kv.2) → (∀ j ∈ keys m, 0 ≤ u j ∧ u j ≤ B) → 0 ≤ msum u m ∧ msum u m ≤ msum one_ m * B
  | [], _, _ => by rw [msum_nil, msum_nil]; exact ⟨Rat.le_refl, by grind⟩
  | b :: m, h1, h2 => by
    rw [msum_cons, msum_cons]
    obtain ⟨i1, i2⟩ := msum_bd m (fun kv hkv => h1 kv (List.mem_cons_of_mem _ hkv)) fun j hj => h2 j (by unfold keys at *; rw [List.map_cons]; exact List.mem_cons_of_mem _ hj)
    obtain ⟨j1, j2⟩ := h2 b.1 (by unfold keys; rw [List.map_cons]; exact List.mem_cons_self)
    have hb := h1 b List.mem_cons_self
    have g1 := Rat.mul_nonneg hb j1
    have g2 := Rat.mul_le_mul_of_nonneg_left j2 hb
    have e : one_ b.1 = 1 := rfl
    rw [e]
    constructor <;> grind
/-- a partial sum is a good list of constants -/
theorem pk_CI {De M k E B : Nat} {m : Mp} {c : List Rat} {X : Nat → List Rat} (mi : MI De m) (ci : CI De M k c) (hX : ∀ j ∈ keys m, CI E B k (X j)) (i : Nat) : CI (De * E) (M + B) k (pk c X (m.take i)) := by
  have sub : ∀ kv ∈ m.take i, kv ∈ m := fun kv h => List.mem_of_mem_take h
  have subk : ∀ j ∈ keys (m.take i), j ∈ keys m := fun j h => by
    unfold keys at *
    rw [List.map_take] at h
    exact List.mem_of_mem_take h
  obtain ⟨h1, h2⟩ := pk_len (k := k) (m.take i) c ci.len (fun j hj => (hX j (subk j hj)).len)
  refine ⟨h1, fun x hx => ?_⟩
  obtain ⟨o, ho, rfl⟩ := mem_getD hx
  rw [h2]
  rw [h1] at ho
  have hc := ci.all _ (getD_mem (show o < c.length by rw [ci.len]; exact ho))
  have hXo : ∀ j ∈ keys (m.take i), 0 ≤ (X j).getD o 0 ∧ (X j).getD o 0 ≤ (B : Rat) ∧ Di E ((X j).getD o 0) := fun j hj => (hX j (subk j hj)).all _ (getD_mem (by rw [(hX j (subk j hj)).len]; exact ho))
  obtain ⟨b1, b2⟩ := msum_bd (u := fun j => (X j).getD o 0) (B := (B : Rat)) (m.take i) (fun kv hkv => mi.nn kv (sub kv hkv)) (fun j hj => ⟨(hXo j hj).1, (hXo j hj).2.1⟩)
  have s1 : msum one_ (m.take i) ≤ 1 := by
    have e : msum one_ m = msum one_ (m.take i) + msum one_ (m.drop i) := by rw [← msum_append, List.take_append_drop]
    have h3 := nn_sum (m := m.drop i) (v := one_) (fun kv hkv => mi.nn kv (List.mem_of_mem_drop hkv)) one_nn
    have h4 := mi.le
    grind
  have hB : (0 : Rat) ≤ (B : Rat) := Rat.natCast_nonneg
  have s2 := Rat.mul_le_mul_of_nonneg_right s1 hB
  refine ⟨by grind, ?_, (hc.2.2.up E).add (msum_Di _ (fun kv hkv => mi.di kv (sub kv hkv)) fun j hj => (hXo j hj).2.2)⟩
  rw [Rat.natCast_add]
  grind
section
variable {P : Pg} {d : Nat} {g h : Hh} {aS aC n : Nat} {y : Sys} {v : Nat → Rat}
theorem Rep.put (r : Rep g h aS aC n y) {a : Nat} (hne : (∀ i, i < n → a ≠ y.S i ∧ a ≠ y.C i) ∧ a ≠ aS ∧ a ≠ aC ∧ g.length ≤ a) (o : O) : Rep g (h.set a o) aS aC n y :=
  ⟨(List.getElem?_set_ne hne.2.1).trans r.hS, (List.getElem?_set_ne hne.2.2.1).trans r.hC, fun i hi => (List.getElem?_set_ne (hne.1 i hi).1).trans (r.rows i hi), fun i hi => (List.getElem?_set_ne (hne.1 i hi).2).trans (r.cons i hi), r.inj, r.apart, r.aps, r.ne, r.keep_set hne.2.2.2 _, r.lo⟩
/-- the shares of one state put in -/
theorem known_loop (a : HasT P) {sp p r0 a12 De M k E B : Nat} {m : Mp} {c : List Rat} {X : Nat → List Rat} {Sl rl : List D} (hS : h[aS]? = some (.lst Sl)) (hSp : Sl[p]? = some (.ref sp)) (hp : p < 1000) (hm : h[sp]? = some (.dct (dctM m))) (hr0 : h[r0]? = some (.lst rl)) (hc : h[a12]? = some (.lst (c.map fr)))
    (ne : aS ≠ sp ∧ r0 ≠ sp ∧ a12 ≠ sp) (hX : ∀ j ∈ keys m, rl[j]? = some (.tup ((X j).map fr)) ∧ j < 1000000 ∧ CI E B k (X j)) (mi : MI De m) (ci : CI De M k c) (hD : 0 < De) (hE : 0 < E) (hl : (De * E).log2 < 4400) (hM : (M + B).log2 < 50000) (hk : k ≤ 1000)
    {s0 s1 s2 s4 s6 s7 s8 s9 s10 s13 s14 : Option D} : ∃ s8' s9' a' ext, exec P (callN P (d + 4)) (.forI (.tup (.cons (.nm 8) (.cons (.nm 9) .nil))) (.idx (.var 3) (.var 5)) (.cons (.set (.nm 12) (.lst (.comp (.call 4 (.cons (.var 13) (.cons (.call 6 (.cons (.var 9) (.cons (.var 14) .nil))) .nil))) (.tup (.cons (.nm 13) (.cons (.nm 14) .nil))) (.zip (.of (.var 12)) (.of (.idx (.var 11) (.var 8)))) .none [13, 14]))) .nil)) [s0, s1, s2, some (.ref aS), s4, some (nat p), s6, s7, s8, s9, s10, some (.ref r0), some (.ref a12), s13, s14] h =
      .ok (.nx [s0, s1, s2, some (.ref aS), s4, some (nat p), s6, s7, s8', s9', s10, some (.ref r0), some (.ref a'), s13, s14]) (h ++ ext) ∧ (h ++ ext)[a']? = some (.lst ((pk c X m).map fr)) := by
  have hspL : sp < h.length := get_lt hm
  have lE : E.log2 < 4400 := Nat.lt_of_le_of_lt (log2_mono (Nat.le_mul_of_pos_left _ hD)) hl
  have hDE : 0 < De * E := Nat.mul_pos hD hE
  have lB : B.log2 < 50000 := Nat.lt_of_le_of_lt (log2_mono (by omega)) hM
  have off : ∀ {b : Nat} {o : O} {f : Hh}, h[b]? = some o → b ≠ sp → (h.set sp (.fdc (dctM m)) ++ f)[b]? = some o := fun e z => get_app ((List.getElem?_set_ne (Ne.symm z)).trans e)
  obtain ⟨σ', h', q1, s8', s9', a', ext, rfl, rfl, ha', lt'⟩ := forI_ok (P := P) (C := callN P (d + 4)) (σ := [s0, s1, s2, some (.ref aS), s4, some (nat p), s6, s7, s8, s9, s10, some (.ref r0), some (.ref a12), s13, s14]) (h := h)
    (t := .tup (.cons (.nm 8) (.cons (.nm 9) .nil))) (e := .idx (.var 3) (.var 5)) (b := (.cons (.set (.nm 12) (.lst (.comp (.call 4 (.cons (.var 13) (.cons (.call 6 (.cons (.var 9) (.cons (.var 14) .nil))) .nil))) (.tup (.cons (.nm 13) (.cons (.nm 14) .nil))) (.zip (.of (.var 12)) (.of (.idx (.var 11) (.var 8)))) .none [13, 14]))) .nil)) (a := sp) (kvs := dctM m) hm
    ⟨_, ev_idx (ev_var rfl) (ev_var rfl) (idx_lst hS hSp (by omega))⟩
    (ev_idx (ev_var rfl) (ev_var rfl) (idx_lst ((List.getElem?_set_ne (Ne.symm ne.1)).trans hS) hSp (by omega)))
    (fun i σ h' => ∃ (s8' s9' : Option D) (a' : Nat) (ext : List O), σ = [s0, s1, s2, some (.ref aS), s4, some (nat p), s6, s7, s8', s9', s10, some (.ref r0), some (.ref a'), s13, s14] ∧ h' = h.set sp (.fdc (dctM m)) ++ ext ∧ h'[a']? = some (.lst ((pk c X (m.take i)).map fr)) ∧ a' ≠ sp)
    (fun σ h' hI => by
      obtain ⟨_, _, _, _, _, rfl, _⟩ := hI
      exact get_app (List.getElem?_set_self hspL))
    (fun i σ h' hi hI => by
      obtain ⟨s8', s9', a', ext, rfl, rfl, ha', hne'⟩ := hI
      have hi' : i < m.length := by simpa [dctM] using hi
      have hk' : m[i]? = some m[i] := List.getElem?_eq_getElem hi'
      have hmem : m[i] ∈ m := List.getElem_mem _
      generalize m[i] = kx at *
      obtain ⟨j, x⟩ := kx
      have hjk : j ∈ keys m := List.mem_map_of_mem (f := (·.1)) hmem
      obtain ⟨x1, x2, x3⟩ := hX j hjk
      have cur := pk_CI (X := X) mi ci (fun j hj => (hX j hj).2.2) i
      have okx : okF x := mi.okp hD (Nat.lt_of_le_of_lt (log2_mono (Nat.le_mul_of_pos_right _ hE)) hl) hmem
      have x0 : 0 ≤ x := mi.nn _ hmem
      have xle : x ≤ 1 := mi.part hmem
      have dx : Di De x := mi.di _ hmem
      generalize hcur : pk c X (m.take i) = cu at *
      generalize hH : h.set sp (O.fdc (dctM m)) ++ ext = H at *
      have hr0' : H[r0]? = some (.lst rl) := by rw [← hH]; exact off hr0 ne.2.1
      generalize hσ : [s0, s1, s2, some (D.ref aS), s4, some (nat p), s6, s7, some (nat j), some (fr x), s10, some (.ref r0), some (.ref a'), s13, s14] = σ1
      refine ⟨((j : Int), fr x), σ1, by unfold dctM; rw [List.getElem?_map, hk']; rfl, by rw [← hσ]; rfl, ?_⟩
      have v12 : evL P (callN P (d + 4)) (.of (.var 12)) σ1 H = .ok (.val (.ref a')) H := evL_of (by rw [← hσ]; exact ev_var rfl)
      have v11 : evL P (callN P (d + 4)) (.of (.idx (.var 11) (.var 8))) σ1 H = .ok (.val (.tup ((X j).map fr))) H := evL_of (by rw [← hσ]; exact ev_idx (ev_var rfl) (ev_var rfl) (idx_lst hr0' x1 x2))
      have e1 : cu.length = k := cur.len
      have e2 : (X j).length = k := x3.len
      obtain ⟨iv, z1, z2⟩ := it_zip v12 v11 (items_lst ha') (xs := cu.map fr) (ys := (X j).map fr) rfl
      have cz := comp_ok (t := .tup (.cons (.nm 13) (.cons (.nm 14) .nil))) (e := .call 4 (.cons (.var 13) (.cons (.call 6 (.cons (.var 9) (.cons (.var 14) .nil))) .nil))) (own := [13, 14]) z1 z2 ⟨items_lst ha', rfl⟩ (by simp [e1, e2, LIM]; omega) (fun i => fr (cu.getD i 0 + x * (X j).getD i 0)) (fun i hi => by
        have hi : i < k := by simpa [e1, e2] using hi
        have hu := cur.all _ (getD_mem (show i < cu.length by omega))
        have hw := x3.all _ (getD_mem (show i < (X j).length by omega))
        have u1 : nth (cu.map fr) i = fr (cu.getD i 0) := nth_eq (by rw [List.getElem?_map, List.getD_eq_getElem?_getD, List.getElem?_eq_getElem (show i < cu.length by omega)]; rfl)
        have u2 : nth ((X j).map fr) i = fr ((X j).getD i 0) := nth_eq (by rw [List.getElem?_map, List.getD_eq_getElem?_getD, List.getElem?_eq_getElem (show i < (X j).length by omega)]; rfl)
        rw [u1, u2]
        generalize cu.getD i 0 = u at *
        generalize (X j).getD i 0 = w at *
        have oku := (okF_of hu.2.2 hDE hl hu.1 hu.2.1 hM).1
        have okw := (okF_of hw.2.2 hE lE hw.1 hw.2.1 lB).1
        have wx : x * w ≤ (B : Rat) := by
          have := Rat.mul_le_mul_of_nonneg_right xle hw.1
          have := hw.2.1
          grind
        have okxw := (okF_of (dx.mul hw.2.2) hDE hl (Rat.mul_nonneg x0 hw.1) wx lB).1
        refine ⟨[s0, s1, s2, some (D.ref aS), s4, some (nat p), s6, s7, some (nat j), some (fr x), s10, some (.ref r0), some (.ref a'), some (fr u), some (fr w)], by rw [← hσ]; rfl, ?_⟩
        have tm : ev P (callN P (d + 4)) (.call 6 (.cons (.var 9) (.cons (.var 14) .nil))) [s0, s1, s2, some (D.ref aS), s4, some (nat p), s6, s7, some (nat j), some (fr x), s10, some (.ref r0), some (.ref a'), some (fr u), some (fr w)] H = .ok (fr (x * w)) H := (ev_call (evs_cons (ev_var rfl) (evs_cons (ev_var rfl) evs_nil))).trans (times_ok a.toHasA x w okx okw)
        exact (ev_call (evs_cons (ev_var rfl) (evs_cons tm evs_nil))).trans (plus_ok a.toHasA _ _ oku okxw))
      have hlist : (List.range (min (cu.map fr).length ((X j).map fr).length)).map (fun i => fr (cu.getD i 0 + x * (X j).getD i 0)) = (List.zipWith (fun u w => u + x * w) cu (X j)).map fr := by
        apply List.ext_getElem
        · simp
        · intro i h1 h2
          simp at h1 h2
          simp [List.getD_eq_getElem?_getD, List.getElem?_eq_getElem (show i < cu.length by omega), List.getElem?_eq_getElem (show i < (X j).length by omega)]
      rw [hlist] at cz
      have e3 := ex_set (t := .nm 12) (ev_lst cz) (by rw [← hσ]; rfl)
      refine ⟨_, _, (ex_nx e3).trans ex_nil, some (nat j), some (fr x), H.length, ext ++ [.lst ((List.zipWith (fun u w => u + x * w) cu (X j)).map fr)], rfl, by rw [← hH, List.append_assoc], ?_, ?_⟩
      · rw [last_get, pk_snoc c X m i (j, x) hk', hcur]
      · have : H.length = h.length + ext.length := by rw [← hH, List.length_append, List.length_set]
        omega)
    ⟨s8, s9, a12, [], rfl, by rw [List.append_nil], (List.getElem?_set_ne (Ne.symm ne.2.2)).trans hc, ne.2.2⟩
  refine ⟨s8', s9', a', ext, ?_, ?_⟩
  · rw [q1, set_app (by rw [List.length_set]; exact hspL), set_back hm]
  · have e1 : m.take (dctM m).length = m := by unfold dctM; rw [List.length_map]; exact List.take_length
    rw [e1] at ha'
    have e2 : ((h.set sp (O.fdc (dctM m)) ++ ext).set sp (.dct (dctM m)))[a']? = (h.set sp (O.fdc (dctM m)) ++ ext)[a']? := List.getElem?_set_ne (Ne.symm lt')
    rw [set_app (by rw [List.length_set]; exact hspL), set_back hm] at e2
    rw [e2]; exact ha'
end
end PI

set_option maxRecDepth 100000
set_option maxHeartbeats 2000000
/-! QZ: solved, whole. -/
namespace PI
open PySem DT
section
variable {n k : Nat} {ms0 : Nat → Mp} {cs0 : Nat → List Rat}
theorem smr_widen (f : Nat → Rat) (L : Nat) (hL : L ≤ n) : ∀ d l, l + d = L → smr l n (fun e => if e < L then 0 else f e) = smr L n f
  | 0, l, e => by
    have : l = L := by omega
    subst this
    exact smr_congr fun i h1 h2 => by rw [if_neg (by omega)]
  | d + 1, l, e => by
    rw [smr_front (by omega), smr_widen f L hL d (l + 1) (by omega), if_pos (by omega)]
    grind
theorem Comb.widen {l s : Nat} {own : Rat} {m : Mp} {c : Nat → Rat} (hl : l ≤ n) (h : Comb n k ms0 cs0 l own s m c) : Comb n k ms0 cs0 0 own s m c := by
  obtain ⟨y, h1, h2⟩ := h
  have key : ∀ f : Nat → Rat, smr 0 n (fun e => (if e < l then 0 else y e) * f e) = smr l n (fun e => y e * f e) := fun f => by
    rw [← smr_widen (fun e => y e * f e) l hl l 0 (by omega)]
    refine smr_congr fun i _ _ => ?_
    split
    · grind
    · rfl
  exact ⟨fun e => if e < l then 0 else y e, fun u => by rw [h1, key], fun o ho => by rw [h2 o ho, key]⟩
theorem comb_sum {X : Nat → Nat → Rat} : ∀ m : Mp, (∀ j ∈ keys m, Comb n k ms0 cs0 0 0 j [] (X j)) → ∃ z : Nat → Rat, (∀ u, msum u m = smr 0 n fun e => z e * phi (ms0 e) e u) ∧ ∀ o, o < k → msum (fun j => X j o) m = smr 0 n fun e => z e * (cs0 e).getD o 0
  | [], _ => by
    have e : ∀ f : Nat → Rat, smr 0 n (fun e => 0 * f e) = 0 := fun f => by rw [smr_mul]; grind
    exact ⟨fun _ => 0, fun u => by rw [e, msum_nil], fun o _ => by rw [e, msum_nil]⟩
  | b :: m, h => by
    obtain ⟨z, z1, z2⟩ := comb_sum m fun j hj => h j (by unfold keys at *; rw [List.map_cons]; exact List.mem_cons_of_mem _ hj)
    obtain ⟨y, y1, y2⟩ := h b.1 (by unfold keys; rw [List.map_cons]; exact List.mem_cons_self)
    have key : ∀ f : Nat → Rat, smr 0 n (fun e => (b.2 * y e + z e) * f e) = b.2 * smr 0 n (fun e => y e * f e) + smr 0 n (fun e => z e * f e) := fun f => by
      have := smr_lin 0 n b.2 1 (fun e => y e * f e) (fun e => z e * f e)
      rw [Rat.one_mul] at this
      rw [← this]
      exact smr_congr fun i _ _ => by grind
    refine ⟨fun e => b.2 * y e + z e, fun u => ?_, fun o ho => ?_⟩
    · rw [msum_cons, z1, key]
      have q := y1 u
      unfold phi at q
      rw [msum_nil] at q
      unfold phi
      grind
    · rw [msum_cons, z2 o ho, key]
      have q := y2 o ho
      grind
theorem Comb.put {l s : Nat} {m : Mp} {c : Nat → Rat} {X : Nat → Nat → Rat} (hl : l ≤ n) (h : Comb n k ms0 cs0 l 0 s m c) (hX : ∀ j ∈ keys m, Comb n k ms0 cs0 0 0 j [] (X j)) : Comb n k ms0 cs0 0 0 s [] (fun o => c o + msum (fun j => X j o) m) := by
  obtain ⟨y, y1, y2⟩ := h.widen hl
  obtain ⟨z, z1, z2⟩ := comb_sum m hX
  have key : ∀ f : Nat → Rat, smr 0 n (fun e => (y e + z e) * f e) = smr 0 n (fun e => y e * f e) + smr 0 n (fun e => z e * f e) := fun f => by
    have := smr_lin 0 n 1 1 (fun e => y e * f e) (fun e => z e * f e)
    rw [Rat.one_mul, Rat.one_mul] at this
    rw [← this]
    exact smr_congr fun i _ _ => by grind
  refine ⟨fun e => y e + z e, fun u => ?_, fun o ho => ?_⟩
  · rw [key, ← z1 u]
    have q := y1 u
    unfold phi at q ⊢
    rw [msum_nil]
    grind
  · have q := y2 o ho
    have q2 := z2 o ho
    dsimp only
    rw [key, ← q2, q]
    grind
end
/-- the equations of a table -/
def Sol (sides many : Nat) (t : List Row) (X : Nat → Nat → Rat) : Prop := ∀ s o, s < t.length → o < many + 1 → match t.getD s (.out 0) with
  | .go l => X s o = (l.map fun j => mkRat 1 sides * X j o).sum + if o = many then 1 else 0
  | .out w => X s o = if o = w then 1 else 0
theorem con0_getD {many o i : Nat} (h : o < many + 1) : ((List.replicate (many + 1) (0 : Rat)).set i 1).getD o 0 = if o = i then 1 else 0 := by
  rw [List.getD_eq_getElem?_getD, List.getElem?_set]
  by_cases e : i = o
  · subst e
    rw [if_pos rfl, if_pos rfl, List.length_replicate, if_pos h]; rfl
  · rw [if_neg e, if_neg (Ne.symm e), List.getElem?_replicate, if_pos h]; rfl
theorem sol_iff {sides many b : Nat} {t : List Row} {X : Nat → Nat → Rat} : Sol sides many t X ↔ ∀ o, o < many + 1 → ∀ s, s < t.length → phi ((sys0 b (mkRat 1 sides) many t).ms s) s (fun j => X j o) = ((sys0 b (mkRat 1 sides) many t).cs s).getD o 0 := by
  have key : ∀ s o, o < many + 1 → ((match t.getD s (.out 0) with
    | .go l => X s o = (l.map fun j => mkRat 1 sides * X j o).sum + if o = many then 1 else 0
    | .out w => X s o = if o = w then 1 else 0) ↔ phi ((sys0 b (mkRat 1 sides) many t).ms s) s (fun j => X j o) = ((sys0 b (mkRat 1 sides) many t).cs s).getD o 0) := fun s o ho => by
    show _ ↔ phi (row0 (mkRat 1 sides) (t.getD s (.out 0))) s (fun j => X j o) = (con0 many (t.getD s (.out 0))).getD o 0
    cases t.getD s (.out 0) with
    | go l =>
      show X s o = _ ↔ X s o - msum (fun j => X j o) (rowT (mkRat 1 sides) l) = ((List.replicate (many + 1) (0 : Rat)).set many 1).getD o 0
      rw [con0_getD ho, msum_rowT]
      constructor <;> intro h <;> grind
    | out w =>
      show X s o = _ ↔ X s o - msum (fun j => X j o) [] = ((List.replicate (many + 1) (0 : Rat)).set w 1).getD o 0
      rw [con0_getD ho, msum_nil]
      constructor <;> intro h <;> grind
  constructor
  · exact fun h o ho s hs => (key s o ho).mp (h s o hs ho)
  · exact fun h s o hs ho => (key s o ho).mpr (h o ho s hs)
def MM : Nat := 100 * (2 * BB) ^ 100
theorem MM_bits : (2 * MM).log2 < 50000 := by decide +kernel
section
variable {P : Pg} {d : Nat} {g h : Hh} {aS aC : Nat} {y : Sys} {v : Nat → Rat} {t : List Row} {ms0 : Nat → Mp} {cs0 : Nat → List Rat}
theorem last_loop (a : HasT P) (r : Rep g h aS aC t.length y) (hn : t.length ≤ 100) {sides M k Dd r0 : Nat} (hs0 : 0 < sides) (i0 : Int0 sides t.length k ms0 cs0) (hM : M ≤ (2 * BB) ^ 100) (hk : k ≤ 1000) (el : El v t.length sides k 0 M ms0 cs0 y) (hDd : (Dd : Rat) = (sides : Rat) * dq sides ms0 t.length 0) (pDd : 0 < Dd) (lDd : Dd ≤ BB)
    (hr0 : h[r0]? = some (.lst [])) (fr0 : (∀ i, i < t.length → r0 ≠ y.S i ∧ r0 ≠ y.C i) ∧ r0 ≠ aS ∧ r0 ≠ aC ∧ g.length ≤ r0)
    {s0 s1 s5 s6 s7 s8 s9 s10 s12 s13 s14 : Option D} : ∃ (X : Nat → List Rat) (h' : Hh) (σ' : Sto), exec P (callN P (d + 4)) (.for_ (.nm 5) (.rng1 (.len (.of (.var 2)))) (.cons (.set (.nm 12) (.idx (.var 4) (.var 5))) (.cons (.forI (.tup (.cons (.nm 8) (.cons (.nm 9) .nil))) (.idx (.var 3) (.var 5)) (.cons (.set (.nm 12) (.lst (.comp (.call 4 (.cons (.var 13) (.cons (.call 6 (.cons (.var 9) (.cons (.var 14) .nil))) .nil))) (.tup (.cons (.nm 13) (.cons (.nm 14) .nil))) (.zip (.of (.var 12)) (.of (.idx (.var 11) (.var 8)))) .none [13, 14]))) .nil)) (.cons (.expr (.app (.var 11) (.tupl (.of (.var 12))))) .nil)))) [s0, s1, some (tabD t), some (.ref aS), some (.ref aC), s5, s6, s7, s8, s9, s10, some (.ref r0), s12, s13, s14] h =
      .ok (.nx σ') h' ∧ σ'[11]? = some (some (.ref r0)) ∧ (∀ a, a < g.length → h'[a]? = g[a]?) ∧ h'[r0]? = some (.lst ((List.range t.length).map fun s => .tup ((X s).map fr))) ∧
      ∀ s, s < t.length → CI Dd MM k (X s) ∧ Comb t.length k ms0 cs0 0 0 s [] (fun o => (X s).getD o 0) ∧ ∀ o, phi (y.ms s) s (fun j => (X j).getD o 0) = (y.cs s).getD o 0 := by
  have el1 := ev_len (P := P) (C := callN P (d + 4)) (σ := [s0, s1, some (tabD t), some (.ref aS), some (.ref aC), s5, s6, s7, s8, s9, s10, some (.ref r0), s12, s13, s14]) (h := h) (a := .var 2) (x := tabD t) (xs := t.map Row.d) (ev_var rfl) rfl
  rw [List.length_map] at el1
  obtain ⟨iv, ei, w⟩ := it_rng1 (n := t.length) el1 (by omega)
  have lBB : BB.log2 < 4400 := by decide +kernel
  have lBB2 : (BB * BB).log2 < 4400 := by decide +kernel
  obtain ⟨σ', h', q1, X, s5', s8', s9', s12', rfl, R', hr', done⟩ := for_w (t := .nm 5) (b := .cons (.set (.nm 12) (.idx (.var 4) (.var 5))) (.cons (.forI (.tup (.cons (.nm 8) (.cons (.nm 9) .nil))) (.idx (.var 3) (.var 5)) (.cons (.set (.nm 12) (.lst (.comp (.call 4 (.cons (.var 13) (.cons (.call 6 (.cons (.var 9) (.cons (.var 14) .nil))) .nil))) (.tup (.cons (.nm 13) (.cons (.nm 14) .nil))) (.zip (.of (.var 12)) (.of (.idx (.var 11) (.var 8)))) .none [13, 14]))) .nil)) (.cons (.expr (.app (.var 11) (.tupl (.of (.var 12))))) .nil))) ei w
    (fun i σ h' => ∃ (X : Nat → List Rat) (s5' s8' s9' s12' : Option D), σ = [s0, s1, some (tabD t), some (.ref aS), some (.ref aC), s5', s6, s7, s8', s9', s10, some (.ref r0), s12', s13, s14] ∧ Rep g h' aS aC t.length y ∧ h'[r0]? = some (.lst ((List.range i).map fun s => .tup ((X s).map fr))) ∧
      ∀ s, s < i → CI Dd ((s + 1) * M) k (X s) ∧ Comb t.length k ms0 cs0 0 0 s [] (fun o => (X s).getD o 0) ∧ ∀ o, phi (y.ms s) s (fun j => (X j).getD o 0) = (y.cs s).getD o 0)
    (fun _ _ _ _ => trivial) (fun i σ h' hi hI => by
      obtain ⟨X, s5', s8', s9', s12', rfl, R', hr', done⟩ := hI
      obtain ⟨De, hDe, ro⟩ := el.rows i hi
      have kl : ∀ j ∈ keys (y.ms i), j < i := fun j hj => el.high i (Nat.zero_le _) hi j hj
      have iC : idxop (.ref aC) (nat i) h' = some (.ref (y.C i)) := idx_lst R'.hC (by unfold refL; rw [List.getElem?_map, refL_get hi]; rfl) (by omega)
      have e1 : exec P (callN P (d + 4)) (.set (.nm 12) (.idx (.var 4) (.var 5))) [s0, s1, some (tabD t), some (.ref aS), some (.ref aC), some (nat i), s6, s7, s8', s9', s10, some (.ref r0), s12', s13, s14] h' = .ok (.nx [s0, s1, some (tabD t), some (.ref aS), some (.ref aC), some (nat i), s6, s7, s8', s9', s10, some (.ref r0), some (.ref (y.C i)), s13, s14]) h' :=
        ex_set (ev_idx (ev_var rfl) (ev_var rfl) iC) rfl
      have hDD : (De * Dd).log2 < 4400 := Nat.lt_of_le_of_lt (log2_mono (Nat.mul_le_mul hDe lDd)) lBB2
      have hMi : M + i * M ≤ MM := by
        have : M + i * M ≤ 100 * M := by
          have := Nat.mul_le_mul_right M (show 1 + i ≤ 100 by omega)
          rw [Nat.add_mul, Nat.one_mul] at this
          exact this
        exact Nat.le_trans this (Nat.mul_le_mul_left _ hM)
      have hMb : (M + i * M).log2 < 50000 := Nat.lt_of_le_of_lt (log2_mono (Nat.le_trans hMi (by unfold MM; omega))) MM_bits
      have prev : ∀ j ∈ keys (y.ms i), CI Dd (i * M) k (X j) := fun j hj => (done j (kl j hj)).1.mono (Nat.mul_le_mul_right _ (kl j hj))
      obtain ⟨s8'', s9'', a', ext, e2, ha'⟩ := known_loop (d := d) (h := h') (p := i) (sp := y.S i) (r0 := r0) (a12 := y.C i) (De := De) (E := Dd) (M := M) (B := i * M) (k := k) (m := y.ms i) (c := y.cs i) (X := X) a R'.hS (by unfold refL; rw [List.getElem?_map, refL_get hi]; rfl) (by omega) (R'.rows i hi) hr' (R'.cons i hi)
        ⟨Ne.symm (R'.aps i hi).1, (fr0.1 i hi).1, Ne.symm (R'.apart i i hi hi)⟩ (fun j hj => ⟨by
          have := kl j hj
          rw [List.getElem?_map, List.getElem?_range this]; rfl, by have := kl j hj; omega, prev j hj⟩) ro.mi ro.ci ro.pos pDd hDD hMb hk (s0 := s0) (s1 := s1) (s2 := some (tabD t)) (s4 := some (.ref aC)) (s6 := s6) (s7 := s7) (s8 := s8') (s9 := s9') (s10 := s10) (s13 := s13) (s14 := s14)
      have cur := pk_CI (X := X) ro.mi ro.ci prev (y.ms i).length
      rw [List.take_length] at cur
      have kn := (pk_len (X := X) (k := k) (y.ms i) (y.cs i) ro.ci.len (fun j hj => (prev j hj).len)).2
      generalize hx : pk (y.cs i) X (y.ms i) = x at *
      have hre : (h' ++ ext)[r0]? = some (.lst ((List.range i).map fun s => .tup ((X s).map fr))) := get_app hr'
      have e3 : exec P (callN P (d + 4)) (.expr (.app (.var 11) (.tupl (.of (.var 12))))) [s0, s1, some (tabD t), some (.ref aS), some (.ref aC), some (nat i), s6, s7, s8'', s9'', s10, some (.ref r0), some (.ref a'), s13, s14] (h' ++ ext) = .ok (.nx [s0, s1, some (tabD t), some (.ref aS), some (.ref aC), some (nat i), s6, s7, s8'', s9'', s10, some (.ref r0), some (.ref a'), s13, s14]) ((h' ++ ext).set r0 (.lst (((List.range i).map fun s => .tup ((X s).map fr)) ++ [.tup (x.map fr)]))) :=
        ex_expr (ev_app (ev_var rfl) hre (ev_tupl (evL_of (ev_var rfl)) (items_lst ha')) hre (by simp [LIM]; omega))
      have cx : Comb t.length k ms0 cs0 0 0 i [] (fun o => x.getD o 0) := by
        have z := Comb.put (X := fun j o => (X j).getD o 0) (Nat.le_of_lt hi) (el.c0 i (Nat.zero_le _) hi) (fun j hj => (done j (kl j hj)).2.1)
        have e : (fun o => (y.cs i).getD o 0 + msum (fun j => (X j).getD o 0) (y.ms i)) = fun o => x.getD o 0 := by funext o; rw [kn]
        rw [e] at z
        exact z
      have dx := (tight_row i0 cx IsI.zero hi (Nat.zero_le _) (by simp [keys]) (by simp [keys]) hDd).2
      have cix : CI Dd ((i + 1) * M) k x := by
        refine ⟨cur.len, fun z hz => ?_⟩
        obtain ⟨o, ho, rfl⟩ := mem_getD hz
        have c1 := cur.all _ hz
        refine ⟨c1.1, ?_, dx o (by rw [← cur.len]; exact ho)⟩
        have : M + i * M = (i + 1) * M := by rw [Nat.add_mul, Nat.one_mul, Nat.add_comm]
        rw [← this]
        exact c1.2.1
      have Xoff : ∀ j, j < i → upd X i x j = X j := fun j hj => upd_off (by omega)
      refine ⟨_, rfl, _, _, (ex_nx e1).trans ((ex_nx e2).trans ((ex_nx e3).trans ex_nil)), upd X i x, some (nat i), s8'', s9'', some (.ref a'), rfl, (R'.app ext).put fr0 _, ?_, fun s hs => ?_⟩
      · rw [List.getElem?_set_self (get_lt hre), List.range_succ, List.map_append]
        have e5 : (List.range i).map (fun s => D.tup ((X s).map fr)) = (List.range i).map (fun s => D.tup ((upd X i x s).map fr)) := List.map_congr_left fun s hs => by rw [Xoff s (List.mem_range.mp hs)]
        have e6 : [i].map (fun s => D.tup ((upd X i x s).map fr)) = [D.tup (x.map fr)] := by
          show [D.tup ((upd X i x i).map fr)] = _
          rw [upd_at]
        rw [e5, e6]
      · have pm : ∀ s, s < t.length → s ≤ i → ∀ o, msum (fun j => (upd X i x j).getD o 0) (y.ms s) = msum (fun j => (X j).getD o 0) (y.ms s) := fun s hs hsi o => by
          unfold msum
          refine congrArg List.sum (List.map_congr_left fun kv hkv => ?_)
          have := el.high s (Nat.zero_le _) hs kv.1 (List.mem_map_of_mem (f := (·.1)) hkv)
          show kv.2 * (upd X i x kv.1).getD o 0 = kv.2 * (X kv.1).getD o 0
          rw [Xoff _ (by omega)]
        by_cases e : s = i
        · subst e
          rw [upd_at]
          refine ⟨cix, cx, fun o => ?_⟩
          unfold phi
          rw [pm s hi (Nat.le_refl _)]
          show (upd X s x s).getD o 0 - _ = _
          rw [upd_at, kn]
          grind
        · have hsi : s < i := by omega
          obtain ⟨d1, d2, d3⟩ := done s hsi
          rw [Xoff s hsi]
          refine ⟨d1, d2, fun o => ?_⟩
          have := d3 o
          unfold phi at this ⊢
          rw [pm s (by omega) (by omega)]
          show (upd X i x s).getD o 0 - _ = _
          rw [Xoff s hsi]
          exact this)
    ⟨fun _ => [], s5, s8, s9, s12, rfl, r, hr0, fun s hs => absurd hs (Nat.not_lt_zero _)⟩
  refine ⟨X, h', _, q1, rfl, R'.keep, hr', fun s hs => ?_⟩
  obtain ⟨d1, d2, d3⟩ := done s hs
  refine ⟨d1.mono ?_, d2, d3⟩
  exact Nat.mul_le_mul (by omega) hM
end
end PI

set_option maxRecDepth 100000
set_option maxHeartbeats 2000000
/-! RA: solved, its contract. -/
namespace PI
open PySem DT
/-- a result: for each state the chances and the expected number, small fractions -/
structure Ans (sides many : Nat) (t : List Row) (X : Nat → List Rat) : Prop where
  len : ∀ s, s < t.length → (X s).length = many + 1
  nn : ∀ s, s < t.length → ∀ x ∈ X s, 0 ≤ x ∧ okF x
  sol : Sol sides many t (fun s o => (X s).getD o 0)
  uni : ∀ U : Nat → Nat → Rat, Sol sides many t U → ∀ s o, s < t.length → o < many + 1 → U s o = (X s).getD o 0
def ansD (n : Nat) (X : Nat → List Rat) : List D := (List.range n).map fun s => .tup ((X s).map fr)
section
variable {P : Pg} {d : Nat} {h : Hh} {t : List Row} {sides many : Nat}
theorem solved_ok (a : HasT P) (ht : TabOk sides many t) {rk : Nat → Nat} (hr : Ranked t rk) (hn : t.length ≤ 100) (h0 : 0 < t.length) (h2 : 0 < sides) (h6 : sides ≤ 6) (hm : many ≤ 6) :
    ∃ (X : Nat → List Rat) (h' : Hh) (r : Nat), callN P (d + 5) 31 [nat sides, nat many, tabD t] h = .ok (.ref r) h' ∧ (∀ a, a < h.length → h'[a]? = h[a]?) ∧ h.length ≤ r ∧ h'[r]? = some (.lst (ansD t.length X)) ∧ Ans sides many t X := by
  rw [call_eq a.f31 (σ := [some (nat sides), some (nat many), some (tabD t), none, none, none, none, none, none, none, none, none, none, none, none]) rfl]
  have e1 : exec P (callN P (d + 4)) (.set (.tup (.cons (.nm 3) (.cons (.nm 4) .nil))) (.call 29 (.cons (.var 0) (.cons (.var 1) (.cons (.var 2) .nil))))) [some (nat sides), some (nat many), some (tabD t), none, none, none, none, none, none, none, none, none, none, none, none] h =
      .ok (.nx [some (nat sides), some (nat many), some (tabD t), some (.ref h.length), some (.ref (h.length + 1)), none, none, none, none, none, none, none, none, none, none]) (eqH h (mkRat 1 sides) many t) :=
    ex_set ((ev_call (evs_cons (ev_var rfl) (evs_cons (ev_var rfl) (evs_cons (ev_var rfl) evs_nil)))).trans (equations_ok (d := d) a ht (by omega) h2 h6 hm)) rfl
  have R0 := rep_eqH h (mkRat 1 sides) many t
  have hv : ∀ k, 0 < vOf sides rk k := fun k => (vOf_facts h2 rk k).1
  have el0 := el_start (v := vOf sides rk) h.length ht h2 h6 hv (fun s l e => vOf_go ht hr h2 s l e)
  have i0 := int0 h.length ht h2
  have hMb : ((2 * BB) ^ t.length * 1) ≤ (2 * BB) ^ 100 := by
    rw [Nat.mul_one]
    exact Nat.pow_le_pow_right (by decide +kernel) hn
  obtain ⟨h1, y1, s5, s6, s7, s10, e2, R1, l1, el1⟩ := el_loop (d := d) a R0 hn hv h2 h6 i0 (by decide) (Nat.lt_of_le_of_lt (log2_mono (Nat.le_trans hMb (by unfold MM; omega))) MM_bits) (by omega) el0 (s0 := some (nat sides)) (s1 := some (nat many)) (s5 := none) (s6 := none) (s7 := none) (s8 := none) (s9 := none) (s10 := none) (s11 := none) (s12 := none) (s13 := none) (s14 := none)
  have e3 : exec P (callN P (d + 4)) (.set (.nm 11) (.lst (.lit .nil))) [some (nat sides), some (nat many), some (tabD t), some (.ref h.length), some (.ref (h.length + 1)), s5, s6, s7, none, none, s10, none, none, none, none] h1 =
      .ok (.nx [some (nat sides), some (nat many), some (tabD t), some (.ref h.length), some (.ref (h.length + 1)), s5, s6, s7, none, none, s10, some (.ref h1.length), none, none, none]) (h1 ++ [.lst []]) := ex_set (v := .ref h1.length) rfl rfl
  have f1 := R1.fresh (a := h1.length) (Nat.le_refl _)
  have hsr : (0 : Rat) < (sides : Rat) := Rat.natCast_pos.mpr h2
  have hdI : IsI (dq sides (sys0 h.length (mkRat 1 sides) many t).ms t.length 0) := det_int _ _ fun r c hr _ => i0.a _ _ (by omega)
  obtain ⟨Dn, eDn, pDn⟩ := IsI.toNat ((natI sides).mul hdI) (Rat.mul_pos hsr el1.dp.1)
  have leDn : Dn ≤ BB := by
    have g1 : (Dn : Rat) ≤ ((sides * sides ^ (t.length - 0) : Nat) : Rat) := by
      rw [← eDn, Rat.natCast_mul]
      exact Rat.mul_le_mul_of_nonneg_left el1.dp.2 (Rat.le_of_lt hsr)
    have g2 : Dn ≤ sides * sides ^ (t.length - 0) := Rat.natCast_le_natCast.mp g1
    refine Nat.le_trans g2 ?_
    rw [Nat.mul_comm, ← Nat.pow_succ]
    exact Nat.le_trans (Nat.pow_le_pow_left h6 _) (Nat.pow_le_pow_right (by decide) (by omega))
  obtain ⟨X, h', σ', e4, e5, keep, hres, done⟩ := last_loop (d := d) (r0 := h1.length) a (R1.app [.lst []]) hn h2 i0 hMb (by omega) el1 eDn.symm pDn leDn (last_get _ _) f1 (s0 := some (nat sides)) (s1 := some (nat many)) (s5 := s5) (s6 := s6) (s7 := s7) (s8 := none) (s9 := none) (s10 := s10) (s12 := none) (s13 := none) (s14 := none)
  refine ⟨X, h', h1.length, ?_, keep, f1.2.2.2, hres, ⟨fun s hs => (done s hs).1.len, fun s hs x hx => ?_, ?_, fun U hU s o hs ho => ?_⟩⟩
  · unfold c_solved
    rw [ex_nx e1, ex_nx e2, ex_nx e3, ex_nx e4, ex_rt (ex_ret (v := .ref h1.length) (h1 := h') (ev_var e5))]
    rfl
  · obtain ⟨q1, q2, q3⟩ := (done s hs).1.all x hx
    have lBB : BB.log2 < 4400 := by decide +kernel
    exact ⟨q1, (okF_of q3 pDn (Nat.lt_of_le_of_lt (log2_mono leDn) lBB) q1 q2 (Nat.lt_of_le_of_lt (log2_mono (by omega)) MM_bits)).1⟩
  · exact (sol_iff (b := h.length)).mpr fun o ho => el1.back (fun j => (X j).getD o 0) o ho fun s hs => (done s hs).2.2 o
  · obtain ⟨z, z1, z2⟩ := (done s hs).2.1
    have u1 := z1 (fun j => U j o)
    have u2 := z2 o ho
    have u3 := (sol_iff (b := h.length)).mp hU o ho
    unfold phi at u1
    rw [msum_nil] at u1
    have : smr 0 t.length (fun e => z e * (((fun j => U j o) e) - msum (fun j => U j o) ((sys0 h.length (mkRat 1 sides) many t).ms e))) = smr 0 t.length (fun e => z e * ((sys0 h.length (mkRat 1 sides) many t).cs e).getD o 0) := smr_congr fun i _ hi => by
      have := u3 i hi
      unfold phi at this
      rw [this]
    rw [this] at u1
    have u2 : (X s).getD o 0 = _ := u2
    rw [u2, ← show U s o - 0 = U s o by grind, u1]
    grind
end
end PI

set_option maxRecDepth 100000
set_option maxHeartbeats 2000000
/-! RB: instances; the chooser made; hands. -/
namespace PI
open PySem
def c_Hand_state : Fn := ⟨1, 1, false, (.cons (.ret (.idx (.fld (.var 0) 5) (.neg (.int 1)))) .nil)⟩
def c_Hand_word : Fn := ⟨1, 1, false, (.cons (.ret (.fld (.var 0) 4)) .nil)⟩
def c_Hand_outcome : Fn := ⟨1, 2, false, (.cons (.set (.nm 1) (.idx (.fld (.fld (.var 0) 3) 1) (.idx (.fld (.var 0) 5) (.neg (.int 1))))) (.cons (.ret (.ifx (.isi (.var 1) .tuple) .non (.var 1))) .nil))⟩
def c_Hand_throw : Fn := ⟨2, 2, false, (.cons (.expr (.mth (.var 0) 12 (.cons (.var 1) .nil))) .nil)⟩
def c_Hand_init : Fn := ⟨2, 2, false, (.cons (.fld (.var 0) 3 (.mk 0 (.cons (.var 1) .nil))) (.cons (.fld (.var 0) 4 (.tup .nil)) (.cons (.fld (.var 0) 5 (.tup (.cons (.int 0) .nil))) .nil)))⟩
def c_Chooser_init : Fn := ⟨4, 4, false, (.cons (.expr (.call 22 (.cons (.var 1) .nil))) (.cons (.expr (.call 24 (.cons (.var 2) .nil))) (.cons (.if_ (.not (.call 28 (.cons (.var 1) (.cons (.var 2) (.cons (.var 3) .nil))))) (.cons (.raise 54) .nil) .nil) (.cons (.expr (.mth (.var 0) 14 (.cons (.var 1) (.cons (.var 2) (.cons (.var 3) .nil))))) .nil))))⟩
def c_Hand_throw_all : Fn := ⟨2, 2, true, (.cons (.fld (.var 0) 5 (.mth (.var 0) 10 (.cons (.var 1) .nil))) (.cons (.fld (.var 0) 4 (.bin .add (.fld (.var 0) 4) (.var 1))) .nil))⟩
def c_Frozen_init : Fn := ⟨2, 2, false, (.cons (.fld (.var 0) 0 (.fld (.var 1) 0)) (.cons (.fld (.var 0) 1 (.fld (.var 1) 1)) (.cons (.fld (.var 0) 2 (.fld (.var 1) 2)) .nil)))⟩
def c_Chooser_set_rows : Fn := ⟨4, 4, false, (.cons (.fld (.var 0) 0 (.var 1)) (.cons (.fld (.var 0) 13 (.var 2)) (.cons (.fld (.var 0) 1 (.var 3)) (.cons (.fld (.var 0) 2 (.call 31 (.cons (.var 1) (.cons (.var 2) (.cons (.var 3) .nil))))) .nil))))⟩
def c_Hand_path_after : Fn := ⟨2, 5, false, (.cons (.if_ (.not (.all (.comp (.call 1 (.cons (.var 2) (.cons (.int 0) (.cons (.bin .sub (.fld (.fld (.var 0) 3) 0) (.int 1)) .nil)))) (.nm 2) (.seq (.of (.var 1))) .none [2]))) (.cons (.raise 56) .nil) .nil) (.cons (.set (.nm 3) (.fld (.var 0) 5)) (.cons (.for_ (.nm 2) (.seq (.of (.var 1))) (.cons (.set (.nm 4) (.idx (.fld (.fld (.var 0) 3) 1) (.idx (.var 3) (.neg (.int 1))))) (.cons (.if_ (.not (.isi (.var 4) .tuple)) (.cons (.raise 57) .nil) .nil) (.cons (.set (.nm 3) (.bin .add (.var 3) (.tup (.cons (.idx (.var 4) (.var 2)) .nil)))) .nil)))) (.cons (.ret (.var 3)) .nil))))⟩
section
variable {P : Pg} {C : Nat → List D → Hh → R D} {σ : Sto} {h h1 h2 h3 : Hh} {a b : E} {es : Es} {vs : List D} {v : D}
theorem ev_fld {r c f : Nat} {fs : List (Nat × D)} (e : ev P C a σ h = .ok (.ref r) h1) (hr : h1[r]? = some (.ins c fs)) (hc : P.isc c = true) (hf : P.attr c f = .fld) (hv : fs.lookup f = some v) : ev P C (.fld a f) σ h = .ok v h1 := by
  rw [ev, e, R.bnd_ok]
  unfold fldGet
  simp only [hr, hc, if_true, hf, hv, opt_some]
theorem ev_prop {r c f g : Nat} {fs : List (Nat × D)} (e : ev P C a σ h = .ok (.ref r) h1) (hr : h1[r]? = some (.ins c fs)) (hc : P.isc c = true) (hf : P.attr c f = .prop g) (hv : C g [.ref r] h1 = .ok v h2) : ev P C (.fld a f) σ h = .ok v h2 := by
  rw [ev, e, R.bnd_ok]
  unfold fldGet
  simp only [hr, hc, if_true, hf, hv, R.nox_ok]
theorem ev_mth {r c m f : Nat} {fs : List (Nat × D)} (e : ev P C a σ h = .ok (.ref r) h1) (hr : h1[r]? = some (.ins c fs)) (hc : P.isc c = true) (hl : fs.lookup m = none) (hm : P.meth c m = some f) (ea : evs P C es σ h1 = .ok vs h2) : ev P C (.mth a m es) σ h = C f (.ref r :: vs) h2 := by
  rw [ev, e, R.bnd_ok]
  have : methOf P (.ref r) m h1 = some f := by
    unfold methOf
    simp only [hr, hc, if_true, hl, hm]
  rw [this]
  simp only [ea, R.bnd_ok]
theorem mk_ok {c f : Nat} (hi : P.init c = some f) (hc : P.isc c = true) (e : C f (.ref h.length :: vs) (h ++ [.ins c []]) = .ok .non h1) : mkCall P C c vs h = .ok (.ref h.length) h1 := by
  unfold mkCall
  rw [hi]
  simp only [hc, Bool.true_eq_false, if_false, e, R.bnd_ok]
theorem ev_mk {c f : Nat} (ea : evs P C es σ h = .ok vs h1) (hi : P.init c = some f) (hc : P.isc c = true) (e : C f (.ref h1.length :: vs) (h1 ++ [.ins c []]) = .ok .non h2) : ev P C (.mk c es) σ h = .ok (.ref h1.length) h2 := by
  rw [ev, ea, R.bnd_ok]
  exact mk_ok hi hc e
theorem ex_fld {r c f : Nat} {fs : List (Nat × D)} (ev1 : ev P C b σ h = .ok v h1) (eo : ev P C a σ h1 = .ok (.ref r) h2) (hr : h2[r]? = some (.ins c fs)) (hc : P.isc c = true) (hf : P.attr c f = .fld) (hl : fs.length < 100) :
    exec P C (.fld a f b) σ h = .ok (.nx σ) (h2.set r (.ins c (fput f v fs))) := by
  rw [exec, ev1, R.bnd_ok, eo, R.bnd_ok]
  simp only [hr, hc, if_true, hf, hl]
theorem ex_exprx {x : E} {c : Nat} (e : ev P C x σ h = .exc c h1) : exec P C (.expr x) σ h = .exc c h1 := by
  rw [exec, e, R.bnd_exc]
end
structure HasC (P : Pg) : Prop extends HasT P where
  f40 : P.fns 40 = some c_Chooser_init
  f41 : P.fns 41 = some c_Chooser_set_rows
  k2 : P.isc 2 = true
  i2 : P.init 2 = some 40
  a2 : P.attr 2 0 = .fld ∧ P.attr 2 13 = .fld ∧ P.attr 2 1 = .fld ∧ P.attr 2 2 = .fld
  m2 : P.meth 2 14 = some 41
structure HasH (P : Pg) : Prop extends HasC P where
  f9 : P.fns 9 = some c_Frozen_init
  f10 : P.fns 10 = some c_Hand_init
  f11 : P.fns 11 = some c_Hand_word
  f12 : P.fns 12 = some c_Hand_state
  f15 : P.fns 15 = some c_Hand_path_after
  f17 : P.fns 17 = some c_Hand_throw_all
  k0 : P.isc 0 = true
  k1 : P.isc 1 = true
  i0 : P.init 0 = some 9
  i1 : P.init 1 = some 10
  a0 : P.attr 0 0 = .fld ∧ P.attr 0 1 = .fld ∧ P.attr 0 2 = .fld
  a1 : P.attr 1 3 = .fld ∧ P.attr 1 4 = .fld ∧ P.attr 1 5 = .fld
  p1 : P.attr 1 6 = .prop 11 ∧ P.attr 1 7 = .prop 12
  m1 : P.meth 1 10 = some 15 ∧ P.meth 1 12 = some 17
/-! ### the chooser -/
/-- h2 is h1 with more behind it, as far as h1 goes -/
def Kp (h1 h2 : Hh) : Prop := ∀ a, a < h1.length → h2[a]? = h1[a]?
theorem Kp.refl (h : Hh) : Kp h h := fun _ _ => rfl
theorem Kp.app (h g : Hh) : Kp h (h ++ g) := fun a ha => List.getElem?_append_left ha
theorem Kp.len {h1 h2 : Hh} (k : Kp h1 h2) : h1.length ≤ h2.length := by
  rcases Nat.eq_zero_or_pos h1.length with e | e
  · omega
  · have := k (h1.length - 1) (by omega)
    rw [List.getElem?_eq_getElem (show h1.length - 1 < h1.length by omega)] at this
    have := get_lt this
    omega
theorem Kp.trans {h1 h2 h3 : Hh} (k : Kp h1 h2) (k2 : Kp h2 h3) : Kp h1 h3 := fun a ha => by
  rw [k2 a (by have := k.len; omega), k a ha]
theorem Kp.get {h1 h2 : Hh} (k : Kp h1 h2) {a : Nat} {o : O} (e : h1[a]? = some o) : h2[a]? = some o := by
  rw [k a (get_lt e)]; exact e
theorem Kp.set {h1 h2 : Hh} (k : Kp h1 h2) {a : Nat} (ha : h1.length ≤ a) (o : O) : Kp h1 (h2.set a o) := fun b hb => by
  rw [List.getElem?_set_ne (by omega)]
  exact k b hb
section
variable {P : Pg} {d : Nat} {h : Hh} {t : List Row} {sides many : Nat}
/-- a table that a chooser is made of -/
structure TabGood (sides many : Nat) (t : List Row) : Prop where
  ok : TabOk sides many t
  reach : ∀ L : List Nat, 0 ∈ L → (∀ i ∈ L, ∀ r, t[i]? = some r → ∀ j ∈ r.succ, j ∈ L) → ∀ s, s < t.length → s ∈ L
  rk : ∃ rk, Ranked t rk
  pos : 0 < t.length
  le : t.length ≤ 100
theorem TabGood.full (g : TabGood sides many t) : TabFull t where
  reach := g.reach
  dec := by
    obtain ⟨rk, hr⟩ := g.rk
    exact fun L h1 h2 => hr.dec (fun s l e y hy => (g.ok _ (List.mem_of_getElem? e)).2 y hy) L h1 h2
/-- the fields of a chooser -/
def chF (sides many : Nat) (t : List Row) (r : Nat) : List (Nat × D) := [(0, nat sides), (13, nat many), (1, tabD t), (2, .ref r)]
theorem set_rows_ok (a : HasC P) (g : TabGood sides many t) (h2 : 2 ≤ sides) (h6 : sides ≤ 6) (hm6 : many ≤ 6) {c n : Nat} (hc : P.isc c = true) (ha : P.attr c 0 = .fld ∧ P.attr c 13 = .fld ∧ P.attr c 1 = .fld ∧ P.attr c 2 = .fld) {fs : List (Nat × D)} (hn : h[n]? = some (.ins c fs)) (hl : fs.length < 90) :
    ∃ (X : Nat → List Rat) (h' : Hh) (r : Nat), callN P (d + 6) 41 [.ref n, nat sides, nat many, tabD t] h = .ok .non h' ∧ (∀ b, b < h.length → b ≠ n → h'[b]? = h[b]?) ∧ h.length ≤ r ∧ h'[r]? = some (.lst (ansD t.length X)) ∧ h'[n]? = some (.ins c (fput 2 (.ref r) (fput 1 (tabD t) (fput 13 (nat many) (fput 0 (nat sides) fs))))) ∧ Ans sides many t X := by
  obtain ⟨rk, hrk⟩ := g.rk
  have fl : ∀ (f : Nat) (v : D) (fs : List (Nat × D)), (fput f v fs).length ≤ fs.length + 1 := by
    intro f v fs
    induction fs with
    | nil => simp [fput]
    | cons a r ih =>
      obtain ⟨g, w⟩ := a
      unfold fput
      split <;> simp <;> omega
  have l1 := fl 0 (nat sides) fs
  have l2 := fl 13 (nat many) (fput 0 (nat sides) fs)
  have l3 := fl 1 (tabD t) (fput 13 (nat many) (fput 0 (nat sides) fs))
  generalize hF1 : fput 0 (nat sides) fs = F1 at *
  generalize hF2 : fput 13 (nat many) F1 = F2 at *
  generalize hF3 : fput 1 (tabD t) F2 = F3 at *
  have hnl := get_lt hn
  rw [call_eq a.f41 (σ := [some (.ref n), some (nat sides), some (nat many), some (tabD t)]) rfl]
  unfold c_Chooser_set_rows
  generalize hσ : [some (.ref n), some (nat sides), some (nat many), some (tabD t)] = σ
  have v0 : ∀ h, ev P (callN P (d + 5)) (.var 0) σ h = .ok (.ref n) h := fun h => by rw [← hσ]; exact ev_var rfl
  have v1 : ∀ h, ev P (callN P (d + 5)) (.var 1) σ h = .ok (nat sides) h := fun h => by rw [← hσ]; exact ev_var rfl
  have v2 : ∀ h, ev P (callN P (d + 5)) (.var 2) σ h = .ok (nat many) h := fun h => by rw [← hσ]; exact ev_var rfl
  have v3 : ∀ h, ev P (callN P (d + 5)) (.var 3) σ h = .ok (tabD t) h := fun h => by rw [← hσ]; exact ev_var rfl
  have e1 := ex_fld (f := 0) (v1 h) (v0 h) hn hc ha.1 (by omega)
  rw [hF1] at e1
  generalize hh1 : h.set n (.ins c F1) = h1 at e1
  have n1 : h1[n]? = some (.ins c F1) := by rw [← hh1]; exact List.getElem?_set_self hnl
  have e2 := ex_fld (f := 13) (v2 h1) (v0 h1) n1 hc ha.2.1 (by omega)
  rw [hF2] at e2
  generalize hh2 : h1.set n (.ins c F2) = h2' at e2
  have n2 : h2'[n]? = some (.ins c F2) := by rw [← hh2]; exact List.getElem?_set_self (get_lt n1)
  have e3 := ex_fld (f := 1) (v3 h2') (v0 h2') n2 hc ha.2.2.1 (by omega)
  rw [hF3] at e3
  generalize hh3 : h2'.set n (.ins c F3) = h3 at e3
  have n3 : h3[n]? = some (.ins c F3) := by rw [← hh3]; exact List.getElem?_set_self (get_lt n2)
  have off : ∀ b, b ≠ n → h3[b]? = h[b]? := fun b hb => by
    rw [← hh3, List.getElem?_set_ne (Ne.symm hb), ← hh2, List.getElem?_set_ne (Ne.symm hb), ← hh1, List.getElem?_set_ne (Ne.symm hb)]
  have len3 : h3.length = h.length := by rw [← hh3, List.length_set, ← hh2, List.length_set, ← hh1, List.length_set]
  obtain ⟨X, h', r, q1, q2, q3, q4, q5⟩ := solved_ok (d := d) (h := h3) a.toHasT g.ok hrk g.le g.pos (by omega) h6 hm6
  have n4 : h'[n]? = some (.ins c F3) := by rw [q2 n (get_lt n3)]; exact n3
  have e4 := ex_fld (f := 2) ((ev_call (evs_cons (v1 h3) (evs_cons (v2 h3) (evs_cons (v3 h3) evs_nil)))).trans q1) (v0 h') n4 hc ha.2.2.2 (by omega)
  refine ⟨X, h'.set n (.ins c (fput 2 (.ref r) F3)), r, ?_, fun b hb hbn => ?_, by omega, ?_, List.getElem?_set_self (get_lt n4), q5⟩
  · rw [ex_nx e1, ex_nx e2, ex_nx e3, ex_nx e4, ex_nil]; rfl
  · rw [List.getElem?_set_ne (Ne.symm hbn), q2 b (by omega), off b hbn]
  · rw [List.getElem?_set_ne (by omega)]; exact q4
theorem chooser_ok (a : HasC P) (g : TabGood sides many t) (h2 : 2 ≤ sides) (h6 : sides ≤ 6) (hm1 : 1 ≤ many) (hm6 : many ≤ 6) :
    ∃ (X : Nat → List Rat) (h' : Hh) (r : Nat), mkCall P (callN P (d + 7)) 2 [nat sides, nat many, tabD t] h = .ok (.ref h.length) h' ∧ Kp h h' ∧ h'[h.length]? = some (.ins 2 (chF sides many t r)) ∧ h.length < r ∧ h'[r]? = some (.lst (ansD t.length X)) ∧ Ans sides many t X := by
  obtain ⟨ext, e3⟩ := is_table_ok (d := d + 2) (h := h ++ [.ins 2 []]) a.toHasT g.ok g.full g.pos g.le (by omega)
  have hn : (h ++ [O.ins 2 []] ++ ext)[h.length]? = some (.ins 2 []) := get_app (last_get _ _)
  obtain ⟨X, h', r, q1, q2, q3, q4, q5, q6⟩ := set_rows_ok (d := d) (h := h ++ [.ins 2 []] ++ ext) a g h2 h6 hm6 a.k2 a.a2 hn (by decide)
  have hlen : (h ++ [O.ins 2 []] ++ ext).length = h.length + 1 + ext.length := by simp; omega
  refine ⟨X, h', r, mk_ok a.i2 a.k2 ?_, fun b hb => ?_, q5, by omega, q4, q6⟩
  · rw [call_eq a.f40 (σ := [some (.ref h.length), some (nat sides), some (nat many), some (tabD t)]) rfl]
    unfold c_Chooser_init
    generalize hσ : [some (.ref h.length), some (nat sides), some (nat many), some (tabD t)] = σ
    have v0 : ∀ h', ev P (callN P (d + 6)) (.var 0) σ h' = .ok (.ref h.length) h' := fun h' => by rw [← hσ]; exact ev_var rfl
    have v1 : ∀ h, ev P (callN P (d + 6)) (.var 1) σ h = .ok (nat sides) h := fun h => by rw [← hσ]; exact ev_var rfl
    have v2 : ∀ h, ev P (callN P (d + 6)) (.var 2) σ h = .ok (nat many) h := fun h => by rw [← hσ]; exact ev_var rfl
    have v3 : ∀ h, ev P (callN P (d + 6)) (.var 3) σ h = .ok (tabD t) h := fun h => by rw [← hσ]; exact ev_var rfl
    have e1 := ex_expr ((ev_call (evs_cons (v1 (h ++ [.ins 2 []])) evs_nil)).trans (check_sides_ok (d := d + 3) a.toHasT sides (by omega) (by omega)))
    have e2 := ex_expr ((ev_call (evs_cons (v2 (h ++ [.ins 2 []])) evs_nil)).trans (check_many_ok (d := d + 3) a.toHasT many (by omega) (by omega)))
    have e3' := ev_not ((ev_call (evs_cons (v1 (h ++ [.ins 2 []])) (evs_cons (v2 _) (evs_cons (v3 _) evs_nil)))).trans e3)
    have e4 := ex_expr ((ev_mth (m := 14) (v0 _) hn a.k2 rfl a.m2 (evs_cons (v1 _) (evs_cons (v2 _) (evs_cons (v3 _) evs_nil)))).trans q1)
    rw [ex_nx e1, ex_nx e2, ex_nx (σ1 := σ) (h1 := h ++ [.ins 2 []] ++ ext) ((ex_if e3').trans (by rw [if_neg (by decide)]; rfl)), ex_nx e4, ex_nil]
    rfl
  · rw [q2 b (by omega) (by omega), List.append_assoc, List.getElem?_append_left hb]
end
end PI

set_option maxRecDepth 100000
set_option maxHeartbeats 2000000
/-! RC: hands. -/
namespace PI
open PySem
theorem atI_last {α : Type} {xs : List α} {x : α} (h : xs.getLast? = some x) : L2.atI xs (-1) = some x := by
  rw [List.getLast?_eq_getElem?] at h
  have hl := (List.getElem?_eq_some_iff.mp h).1
  unfold L2.atI L2.ixN
  rw [if_neg (by omega), if_pos (by omega)]
  have : ((-1 : Int) + (xs.length : Nat)).toNat = xs.length - 1 := by omega
  simp only [this, Option.bind_some]
  exact h
theorem for_any {fin : Hh → Bool} {get : Hh → Nat → Option D} {t : Tg} {body : Sto → Hh → R Fl} (N : Nat) (I : Nat → Sto → Hh → Prop) (J : R Fl → Prop) (hfin : ∀ σ h, I N σ h → fin h = true)
    (step : ∀ i σ h, i < N → I i σ h → ∃ x σ1, get h i = some x ∧ asT t x σ = some σ1 ∧ ((∃ σ2 h2, body σ1 h = .ok (.nx σ2) h2 ∧ I (i + 1) σ2 h2) ∨ (∃ c h2, body σ1 h = .exc c h2 ∧ J (.exc c h2)) ∨ (∃ v h2, body σ1 h = .ok (.rt v) h2 ∧ J (.ok (.rt v) h2)))) :
    ∀ n i σ h, n + i = N → I i σ h → (∃ σ' h', forGo fin get t body n i σ h = .ok (.nx σ') h' ∧ I N σ' h') ∨ J (forGo fin get t body n i σ h)
  | 0, i, σ, h, e, hi => by
    have : i = N := by omega
    subst this
    exact .inl ⟨σ, h, by unfold forGo; rw [if_pos (hfin σ h hi)], hi⟩
  | n + 1, i, σ, h, e, hi => by
    obtain ⟨x, σ1, e1, e2, e3⟩ := step i σ h (by omega) hi
    unfold forGo
    simp only [e1, e2]
    rcases e3 with ⟨σ2, h2, e3, hi2⟩ | ⟨c, h2, e3, hj⟩ | ⟨v, h2, e3, hj⟩
    · simp only [e3, R.bnd_ok]
      exact for_any N I J hfin step n (i + 1) σ2 h2 (by omega) hi2
    · right; simp only [e3, R.bnd_exc]; exact hj
    · right; simp only [e3, R.bnd_ok]; exact hj
theorem for_x {P : Pg} {C : Nat → List D → Hh → R D} {σ : Sto} {h h1 : Hh} {t : Tg} {it : It} {b : Ss} {iv : Iv} {n : Nat} {x : Nat → D} {Q : Hh → Prop} (ei : evIt P C it σ h = .ok iv h1) (w : Wlk iv n x Q) (I : Nat → Sto → Hh → Prop) (J : R Fl → Prop) (hq : ∀ i σ h, I i σ h → Q h)
    (step : ∀ i σ h, i < n → I i σ h → ∃ σ1, asT t (x i) σ = some σ1 ∧ ((∃ σ2 h2, execs P C b σ1 h = .ok (.nx σ2) h2 ∧ I (i + 1) σ2 h2) ∨ (∃ c h2, execs P C b σ1 h = .exc c h2 ∧ J (.exc c h2)) ∨ (∃ v h2, execs P C b σ1 h = .ok (.rt v) h2 ∧ J (.ok (.rt v) h2)))) (hi : I 0 σ h1) :
    (∃ σ' h', exec P C (.for_ t it b) σ h = .ok (.nx σ') h' ∧ I n σ' h') ∨ J (exec P C (.for_ t it b) σ h) := by
  have hn := w.num
  have z := for_any (fin := iv.fin) (get := iv.get) (t := t) (body := fun σ h => execs P C b σ h) iv.n I J (fun σ h k => w.fin h (hq _ σ h k)) (fun i σ h hi k => by
    rw [hn] at hi
    obtain ⟨σ1, k1, k2⟩ := step i σ h hi k
    exact ⟨x i, σ1, w.get h i (hq _ σ h k) hi, k1, k2⟩) iv.n 0 σ h1 (by omega) hi
  have e : exec P C (.for_ t it b) σ h = forGo iv.fin iv.get t (fun σ h => execs P C b σ h) iv.n 0 σ h1 := by rw [exec, ei, R.bnd_ok]
  rw [e]
  rcases z with ⟨σ', h', z1, z2⟩ | z
  · rw [hn] at z2
    exact .inl ⟨σ', h', z1, z2⟩
  · exact .inr z
/-! ### sides of any kind -/
def intB (lo hi : Int) : D → Bool
  | .int i => decide (lo ≤ i) && decide (i ≤ hi)
  | _ => false
/-- no instance -/
def Plain (h : Hh) (v : D) : Prop := ∃ k, kdOf h v = some k ∧ ∀ c, k ≠ .ins c
theorem isTy_plain {P : Pg} {h : Hh} {v : D} {k : Kd} (e : kdOf h v = some k) (hk : ∀ c, k ≠ .ins c) (t : Ty) (ht : ∀ c, t ≠ .cls c) : isTy P h v t = some (kdIs k t) := by
  unfold isTy
  rw [e]
  cases k with
  | ins c => exact absurd rfl (hk c)
  | _ => cases t <;> first | exact absurd rfl (ht _) | rfl
theorem is_between_any {P : Pg} {d : Nat} {h : Hh} (a : HasA P) {v : D} (hp : Plain h v) (lo hi : Int) : callN P (d + 2) 1 [v, .int lo, .int hi] h = .ok (.bl (intB lo hi v)) h := by
  obtain ⟨k, hk, hni⟩ := hp
  by_cases hint : ∃ i, v = .int i
  · obtain ⟨i, rfl⟩ := hint
    exact is_between_int a i lo hi
  have hb : intB lo hi v = false := by
    cases v with
    | int i => exact absurd ⟨i, rfl⟩ hint
    | _ => rfl
  rw [hb]
  have e0 : callN P (d + 1) 0 [v] h = .ok (.bl false) h := by
    rw [call_eq a.f0 (σ := [some v]) rfl]
    unfold c_is_integer
    have i1 : ev P (callN P d) (.isi (.var 0) .int) [some v] h = .ok (.bl (kdIs k .int)) h := by
      rw [ev, ev_var (v := v) rfl, R.bnd_ok, isTy_plain hk hni _ (fun c z => by cases z)]; rfl
    have i2 : ev P (callN P d) (.isi (.var 0) .bool) [some v] h = .ok (.bl (kdIs k .bool)) h := by
      rw [ev, ev_var (v := v) rfl, R.bnd_ok, isTy_plain hk hni _ (fun c z => by cases z)]; rfl
    have i3 : ev P (callN P d) (.and (.isi (.var 0) .int) (.not (.isi (.var 0) .bool))) [some v] h = .ok (.bl false) h := by
      cases k with
      | int =>
        exfalso
        cases v with
        | int i => exact hint ⟨i, rfl⟩
        | ref r =>
          unfold kdOf at hk
          dsimp only at hk
          split at hk <;> cases hk
        | _ => cases hk
      | bl => exact (ev_andT i1).trans (ev_not i2)
      | _ => exact ev_andF i1
    rw [ex_rt (ex_ret i3)]; rfl
  rw [call_eq a.f1 (σ := [some v, some (.int lo), some (.int hi)]) rfl]
  unfold c_is_between
  have i4 : ev P (callN P (d + 1)) (.call 0 (.cons (.var 0) .nil)) [some v, some (.int lo), some (.int hi)] h = .ok (.bl false) h := (ev_call (evs_cons (ev_var rfl) evs_nil)).trans e0
  rw [ex_rt (ex_ret (ev_andF i4))]; rfl
/-! ### hands -/
def HandAt (h : Hh) (aH aF : Nat) (w p : List Nat) : Prop := h[aH]? = some (.ins 1 [(3, .ref aF), (4, .tup (w.map nat)), (5, .tup (p.map nat))])
def FrozAt (h : Hh) (aF sides : Nat) (t : List Row) (r : Nat) : Prop := h[aF]? = some (.ins 0 [(0, nat sides), (1, tabD t), (2, .ref r)])
/-- the states that further throws lead to; none: the outcome is decided too early -/
def runP (t : List Row) : Nat → List Nat → Option (List Nat)
  | _, [] => some []
  | s, w :: ws => match t.getD s (.out 0) with
    | .out _ => none
    | .go l => (runP t (l.getD w 0) ws).map (l.getD w 0 :: ·)
section
variable {P : Pg} {d : Nat} {h : Hh} {t : List Row} {sides many : Nat}
theorem frozen_ok (a : HasH P) {aC c : Nat} {fs : List (Nat × D)} {r : Nat} (hC : h[aC]? = some (.ins c fs)) (hc : P.isc c = true) (hat : P.attr c 0 = .fld ∧ P.attr c 1 = .fld ∧ P.attr c 2 = .fld) (h0 : fs.lookup 0 = some (nat sides)) (h1 : fs.lookup 1 = some (tabD t)) (h2 : fs.lookup 2 = some (.ref r)) :
    mkCall P (callN P (d + 1)) 0 [.ref aC] h = .ok (.ref h.length) (h ++ [.ins 0 [(0, nat sides), (1, tabD t), (2, .ref r)]]) := by
  refine mk_ok a.i0 a.k0 ?_
  rw [call_eq a.f9 (σ := [some (.ref h.length), some (.ref aC)]) rfl]
  unfold c_Frozen_init
  have hg : ∀ o, (h ++ [o])[aC]? = some (.ins c fs) := fun o => get_app hC
  have e0 := ex_fld (P := P) (C := callN P d) (σ := [some (.ref h.length), some (.ref aC)]) (h := h ++ [.ins 0 []]) (a := .var 0) (f := 0) (b := .fld (.var 1) 0) (ev_fld (ev_var rfl) (hg _) hc hat.1 h0) (ev_var rfl) (last_get _ _) a.k0 a.a0.1 (by decide)
  rw [last_set] at e0
  have e1 := ex_fld (P := P) (C := callN P d) (σ := [some (.ref h.length), some (.ref aC)]) (h := h ++ [.ins 0 [(0, nat sides)]]) (a := .var 0) (f := 1) (b := .fld (.var 1) 1) (ev_fld (ev_var rfl) (hg _) hc hat.2.1 h1) (ev_var rfl) (last_get _ _) a.k0 a.a0.2.1 (by simp)
  rw [last_set] at e1
  have e2 := ex_fld (P := P) (C := callN P d) (σ := [some (.ref h.length), some (.ref aC)]) (h := h ++ [.ins 0 [(0, nat sides), (1, tabD t)]]) (a := .var 0) (f := 2) (b := .fld (.var 1) 2) (ev_fld (ev_var rfl) (hg _) hc hat.2.2 h2) (ev_var rfl) (last_get _ _) a.k0 a.a0.2.2 (by simp)
  rw [last_set] at e2
  exact (congrArg (fun z => R.bnd z outOf) ((ex_nx e0).trans ((ex_nx e1).trans ((ex_nx e2).trans ex_nil)))).trans rfl
theorem hand_ok (a : HasH P) {aC c : Nat} {fs : List (Nat × D)} {r : Nat} (hC : h[aC]? = some (.ins c fs)) (hc : P.isc c = true) (hat : P.attr c 0 = .fld ∧ P.attr c 1 = .fld ∧ P.attr c 2 = .fld) (h0 : fs.lookup 0 = some (nat sides)) (h1 : fs.lookup 1 = some (tabD t)) (h2 : fs.lookup 2 = some (.ref r)) :
    mkCall P (callN P (d + 2)) 1 [.ref aC] h = .ok (.ref h.length) (h ++ [.ins 1 [(3, .ref (h.length + 1)), (4, .tup []), (5, .tup [nat 0])], .ins 0 [(0, nat sides), (1, tabD t), (2, .ref r)]]) := by
  refine mk_ok a.i1 a.k1 ?_
  rw [call_eq a.f10 (σ := [some (.ref h.length), some (.ref aC)]) rfl]
  unfold c_Hand_init
  have fz := frozen_ok (d := d) (h := h ++ [.ins 1 []]) a (get_app hC) hc hat h0 h1 h2
  have fz' : ev P (callN P (d + 1)) (.mk 0 (.cons (.var 1) .nil)) [some (.ref h.length), some (.ref aC)] (h ++ [.ins 1 []]) = .ok (.ref (h.length + 1)) (h ++ [.ins 1 [], .ins 0 [(0, nat sides), (1, tabD t), (2, .ref r)]]) := by
    rw [ev, evs_cons (ev_var rfl) evs_nil, R.bnd_ok, fz, List.length_append, List.append_assoc]; rfl
  generalize O.ins 0 [(0, nat sides), (1, tabD t), (2, .ref r)] = fo at *
  have e0 := ex_fld (P := P) (C := callN P (d + 1)) (σ := [some (.ref h.length), some (.ref aC)]) (a := .var 0) (f := 3) fz' (ev_var rfl) get_at0 a.k1 a.a1.1 (by decide)
  rw [set_at0] at e0
  have e1 := ex_fld (P := P) (C := callN P (d + 1)) (σ := [some (.ref h.length), some (.ref aC)]) (h := h ++ [.ins 1 [(3, .ref (h.length + 1))], fo]) (a := .var 0) (f := 4) (b := .tup .nil) (v := .tup []) rfl (ev_var rfl) get_at0 a.k1 a.a1.2.1 (by simp)
  rw [set_at0] at e1
  have e2 := ex_fld (P := P) (C := callN P (d + 1)) (σ := [some (.ref h.length), some (.ref aC)]) (h := h ++ [.ins 1 [(3, .ref (h.length + 1)), (4, .tup [])], fo]) (a := .var 0) (f := 5) (b := .tup (.cons (.int 0) .nil)) (v := .tup [nat 0]) rfl (ev_var rfl) get_at0 a.k1 a.a1.2.2 (by simp)
  rw [set_at0] at e2
  exact (congrArg (fun z => R.bnd z outOf) ((ex_nx e0).trans ((ex_nx e1).trans ((ex_nx e2).trans ex_nil)))).trans rfl
theorem hand_word (a : HasH P) {aH aF : Nat} {w p : List Nat} (hH : HandAt h aH aF w p) : callN P (d + 1) 11 [.ref aH] h = .ok (.tup (w.map nat)) h := by
  rw [call_eq a.f11 (σ := [some (.ref aH)]) rfl]
  unfold c_Hand_word
  rw [ex_rt (ex_ret (ev_fld (ev_var rfl) hH a.k1 a.a1.2.1 rfl))]; rfl
theorem hand_state (a : HasH P) {aH aF s : Nat} {w p : List Nat} (hH : HandAt h aH aF w p) (hp : p.getLast? = some s) : callN P (d + 1) 12 [.ref aH] h = .ok (nat s) h := by
  rw [call_eq a.f12 (σ := [some (.ref aH)]) rfl]
  unfold c_Hand_state
  have : idxop (.tup (p.map nat)) (.int (-1)) h = some (nat s) := atI_last (by rw [List.getLast?_map, hp]; rfl)
  rw [ex_rt (ex_ret (ev_idx (ev_fld (ev_var rfl) hH a.k1 a.a1.2.2 rfl) (show ev P (callN P d) (.neg (.int 1)) _ _ = .ok (.int (-1)) h from rfl) this))]; rfl
theorem row_idx {s : Nat} (hs : s < t.length) (hl : t.length ≤ 1000000) (h : Hh) : idxop (tabD t) (nat s) h = some (t.getD s (.out 0)).d := by
  have : t[s]? = some t[s] := List.getElem?_eq_getElem hs
  refine (atI_nat (xs := t.map Row.d) (x := (t.getD s (.out 0)).d) ?_ (by omega))
  rw [List.getElem?_map, List.getD_eq_getElem?_getD, this]; rfl
theorem getD_tab {s : Nat} (hs : s < t.length) : t[s]? = some (t.getD s (.out 0)) := by
  rw [List.getD_eq_getElem?_getD, List.getElem?_eq_getElem hs]; rfl
/-- what path_after asks of all sides -/
theorem sides_test (a : HasH P) {aH aF r : Nat} {w p : List Nat} {ws : List D} (hH : HandAt h aH aF w p) (hF : FrozAt h aF sides t r) (hpl : ∀ v ∈ ws, Plain h v) (hl : ws.length ≤ LIM) {s2 s3 s4 : Option D} :
    ev P (callN P (d + 2)) (.not (.all (.comp (.call 1 (.cons (.var 2) (.cons (.int 0) (.cons (.bin .sub (.fld (.fld (.var 0) 3) 0) (.int 1)) .nil)))) (.nm 2) (.seq (.of (.var 1))) .none [2]))) [some (.ref aH), some (.tup ws), s2, s3, s4] h = .ok (.bl (!(ws.all (intB 0 ((sides : Int) - 1))))) h := by
  refine ev_not ?_
  have z := comp_tup (P := P) (C := callN P (d + 2)) (σ := [some (.ref aH), some (.tup ws), s2, s3, s4]) (h := h) (h1 := h) (x := .var 1) (t := .nm 2) (own := [2]) (xs := ws) (e := .call 1 (.cons (.var 2) (.cons (.int 0) (.cons (.bin .sub (.fld (.fld (.var 0) 3) 0) (.int 1)) .nil)))) (fun y => .bl (intB 0 ((sides : Int) - 1) y)) (ev_var rfl) hl (fun y hy => by
    refine ⟨_, rfl, ?_⟩
    have hh : ∀ (b : Option D), ev P (callN P (d + 2)) (.bin .sub (.fld (.fld (.var 0) 3) 0) (.int 1)) [some (.ref aH), some (.tup ws), b, s3, s4] h = .ok (.int ((sides : Int) - 1)) h := fun b =>
      ev_bin (ev_fld (ev_fld (ev_var rfl) hH a.k1 a.a1.1 rfl) hF a.k0 a.a0.1 rfl) rfl rfl
    exact (ev_call (evs_cons (ev_var rfl) (evs_cons rfl (evs_cons (hh _) evs_nil)))).trans (is_between_any a.toHasA (hpl y hy) 0 _))
  have z2 := all_ok (bs := ws.map (intB 0 ((sides : Int) - 1))) (by rw [z, List.map_map]; rfl)
  rw [z2, List.all_map]; rfl
theorem path_bad (a : HasH P) {aH aF r : Nat} {w p : List Nat} {ws : List D} (hH : HandAt h aH aF w p) (hF : FrozAt h aF sides t r) (hpl : ∀ v ∈ ws, Plain h v) (hl : ws.length ≤ LIM) (hb : ws.all (intB 0 ((sides : Int) - 1)) = false) : callN P (d + 3) 15 [.ref aH, .tup ws] h = .exc 56 h := by
  rw [call_eq a.f15 (σ := [some (.ref aH), some (.tup ws), none, none, none]) rfl]
  unfold c_Hand_path_after
  have e := sides_test (d := d) a hH hF hpl hl (s2 := none) (s3 := none) (s4 := none)
  rw [hb] at e
  rw [ex_exc (c := 56) (h1 := h) ((ex_if e).trans (by rw [if_pos (by decide)]; rfl))]; rfl
theorem path_good (a : HasH P) (g : TabGood sides many t) (h6 : sides ≤ 6) {aH aF r s : Nat} {w p ws : List Nat} (hH : HandAt h aH aF w p) (hF : FrozAt h aF sides t r) (hs : p.getLast? = some s) (hst : s < t.length) (hws : ∀ x ∈ ws, x < sides) (hl : p.length + ws.length ≤ 100000) :
    callN P (d + 3) 15 [.ref aH, .tup (ws.map nat)] h = match runP t s ws with
      | some q => .ok (.tup ((p ++ q).map nat)) h
      | none => .exc 57 h := by
  have hall : (ws.map nat).all (intB 0 ((sides : Int) - 1)) = true := by
    rw [List.all_eq_true]
    intro x hx
    obtain ⟨i, hi, rfl⟩ := List.mem_map.mp hx
    have := hws i hi
    show (decide ((0 : Int) ≤ (i : Nat)) && decide (((i : Nat) : Int) ≤ (sides : Int) - 1)) = true
    rw [decide_eq_true (by omega), decide_eq_true (by omega)]; rfl
  rw [call_eq a.f15 (σ := [some (.ref aH), some (.tup (ws.map nat)), none, none, none]) rfl]
  unfold c_Hand_path_after
  have e := sides_test (d := d) (ws := ws.map nat) a hH hF (fun v hv => by
    obtain ⟨i, hi, rfl⟩ := List.mem_map.mp hv
    exact ⟨.int, rfl, fun c z => by cases z⟩) (by rw [List.length_map]; simp only [LIM]; omega) (s2 := none) (s3 := none) (s4 := none)
  rw [hall] at e
  rw [ex_nx (σ1 := [some (.ref aH), some (.tup (ws.map nat)), none, none, none]) (h1 := h) ((ex_if e).trans (by rw [if_neg (by decide)]; rfl))]
  have e2 : exec P (callN P (d + 2)) (.set (.nm 3) (.fld (.var 0) 5)) [some (.ref aH), some (.tup (ws.map nat)), none, none, none] h = .ok (.nx [some (.ref aH), some (.tup (ws.map nat)), none, some (.tup (p.map nat)), none]) h :=
    ex_set (ev_fld (ev_var rfl) hH a.k1 a.a1.2.2 rfl) rfl
  rw [ex_nx e2]
  obtain ⟨iv, ei, wk⟩ := it_seq (P := P) (C := callN P (d + 2)) (σ := [some (.ref aH), some (.tup (ws.map nat)), none, some (.tup (p.map nat)), none]) (h := h) (l := .of (.var 1)) (v := .val (.tup (ws.map nat))) (xs := ws.map nat) (evL_of (ev_var rfl)) rfl
  have hlen : (ws.map nat).length = ws.length := List.length_map ..
  rw [hlen] at wk
  have rest : ∀ i, i ≤ ws.length → ∀ q, runP t s (ws.take i) = some q → q.length = i ∧ ∃ s', (p ++ q).getLast? = some s' ∧ s' < t.length ∧ runP t s ws = (runP t s' (ws.drop i)).map (q ++ ·) := by
    intro i
    have key : ∀ (i s : Nat) (ws : List Nat) (p : List Nat), p.getLast? = some s → s < t.length → (∀ x ∈ ws, x < sides) → i ≤ ws.length → ∀ q, runP t s (ws.take i) = some q → q.length = i ∧ ∃ s', (p ++ q).getLast? = some s' ∧ s' < t.length ∧ runP t s ws = (runP t s' (ws.drop i)).map (q ++ ·) := by
      intro i
      induction i with
      | zero =>
        intro s ws p hs hst _ _ q hq
        rw [List.take_zero] at hq
        cases hq
        exact ⟨rfl, s, by rw [List.append_nil]; exact hs, hst, by simp⟩
      | succ i ih =>
        intro s ws p hs hst hws hi q hq
        cases ws with
        | nil => simp at hi
        | cons x ws =>
          rw [List.take_succ_cons] at hq
          unfold runP at hq
          have hrow := g.ok _ (List.mem_of_getElem? (getD_tab hst))
          cases hr : t.getD s (.out 0) with
          | out o => rw [hr] at hq; cases hq
          | go l =>
            rw [hr] at hq hrow
            obtain ⟨q', h1, rfl⟩ := Option.map_eq_some_iff.mp hq
            have hx : x < l.length := by rw [hrow.1]; exact hws x List.mem_cons_self
            have hnext : l.getD x 0 < t.length := by
              rw [List.getD_eq_getElem?_getD, List.getElem?_eq_getElem hx]
              exact hrow.2 _ (List.getElem_mem _)
            obtain ⟨i1, s', i2, i3, i4⟩ := ih (l.getD x 0) ws (p ++ [l.getD x 0]) (by simp) hnext (fun y hy => hws y (List.mem_cons_of_mem _ hy)) (by simpa using hi) q' h1
            refine ⟨by simp [i1], s', by rw [← i2]; simp, i3, ?_⟩
            conv => lhs; unfold runP
            rw [hr]
            dsimp only
            rw [i4, List.drop_succ_cons, Option.map_map]
            rfl
    exact fun hi q hq => key i s ws p hs hst hws hi q hq
  have lp := for_x (P := P) (C := callN P (d + 2)) (t := .nm 2) (b := (.cons (.set (.nm 4) (.idx (.fld (.fld (.var 0) 3) 1) (.idx (.var 3) (.neg (.int 1))))) (.cons (.if_ (.not (.isi (.var 4) .tuple)) (.cons (.raise 57) .nil) .nil) (.cons (.set (.nm 3) (.bin .add (.var 3) (.tup (.cons (.idx (.var 4) (.var 2)) .nil)))) .nil)))) ei wk
    (fun i σ h' => h' = h ∧ ∃ (s2 s4 : Option D) (q : List Nat), σ = [some (.ref aH), some (.tup (ws.map nat)), s2, some (.tup ((p ++ q).map nat)), s4] ∧ runP t s (ws.take i) = some q)
    (fun rr => rr = .exc 57 h ∧ runP t s ws = none) (fun _ _ h' hI => by rw [hI.1]; rfl) (fun i σ h' hi hI => by
      obtain ⟨rfl, s2, s4, q, rfl, hq⟩ := hI
      obtain ⟨r1, s', r2, r3, r4⟩ := rest i (by omega) q hq
      have hxi : ws[i]? = some ws[i] := List.getElem?_eq_getElem hi
      have hwi := hws ws[i] (List.getElem_mem _)
      have nx : nth (ws.map nat) i = nat ws[i] := nth_eq (by rw [List.getElem?_map, hxi]; rfl)
      rw [nx]
      have hdrop : ws.drop i = ws[i] :: ws.drop (i + 1) := List.drop_eq_getElem_cons hi
      have htake : ws.take (i + 1) = ws.take i ++ [ws[i]] := by rw [List.take_add_one, hxi]; rfl
      generalize ws[i] = x at *
      refine ⟨_, rfl, ?_⟩
      have il : idxop (.tup ((p ++ q).map nat)) (.int (-1)) h' = some (nat s') := atI_last (by rw [List.getLast?_map, r2]; rfl)
      have e3 : exec P (callN P (d + 2)) (.set (.nm 4) (.idx (.fld (.fld (.var 0) 3) 1) (.idx (.var 3) (.neg (.int 1))))) [some (.ref aH), some (.tup (ws.map nat)), some (nat x), some (.tup ((p ++ q).map nat)), s4] h' = .ok (.nx [some (.ref aH), some (.tup (ws.map nat)), some (nat x), some (.tup ((p ++ q).map nat)), some (t.getD s' (.out 0)).d]) h' :=
        ex_set (ev_idx (ev_fld (ev_fld (ev_var rfl) hH a.k1 a.a1.1 rfl) hF a.k0 a.a0.2.1 rfl) (ev_idx (ev_var rfl) (show ev P (callN P (d + 2)) (.neg (.int 1)) _ _ = .ok (.int (-1)) h' from rfl) il) (row_idx r3 (by have := g.le; omega) h')) rfl
      have hrow := g.ok _ (List.mem_of_getElem? (getD_tab r3))
      generalize hr : t.getD s' (.out 0) = row at *
      have ei := isi_row (P := P) (C := callN P (d + 2)) (σ := [some (.ref aH), some (.tup (ws.map nat)), some (nat x), some (.tup ((p ++ q).map nat)), some row.d]) (h := h') (i := 4) (r := row) rfl
      have ein := ev_not ei
      cases row with
      | out o =>
        right; left
        refine ⟨57, h', ?_, rfl, ?_⟩
        · exact (ex_nx e3).trans (ex_exc ((ex_if ein).trans (by rw [if_pos (show (!(Row.out o).isGo) = true from rfl)]; rfl)))
        · rw [r4, hdrop]
          unfold runP
          rw [hr]; rfl
      | go l =>
        left
        have hx : x < l.length := by rw [hrow.1]; exact hwi
        have e4 : exec P (callN P (d + 2)) (.if_ (.not (.isi (.var 4) .tuple)) (.cons (.raise 57) .nil) .nil) [some (.ref aH), some (.tup (ws.map nat)), some (nat x), some (.tup ((p ++ q).map nat)), some (Row.go l).d] h' = .ok (.nx [some (.ref aH), some (.tup (ws.map nat)), some (nat x), some (.tup ((p ++ q).map nat)), some (Row.go l).d]) h' :=
          (ex_if ein).trans (by rw [if_neg (by simp [Row.isGo])]; rfl)
        have ig : idxop (Row.go l).d (nat x) h' = some (nat (l.getD x 0)) := by
          refine atI_nat (xs := l.map nat) ?_ (by have := hrow.1; have := g.le; omega)
          rw [List.getElem?_map, List.getElem?_eq_getElem hx, List.getD_eq_getElem?_getD, List.getElem?_eq_getElem hx]; rfl
        have eb : binop .add (.tup ((p ++ q).map nat)) (.tup [nat (l.getD x 0)]) h' = .ok (.tup ((p ++ (q ++ [l.getD x 0])).map nat)) h' := by
          show (if ((p ++ q).map nat).length + [nat (l.getD x 0)].length ≤ LIM then R.ok (D.tup _) h' else .bad) = _
          rw [if_pos (by simp [LIM, r1]; omega)]
          simp
        have e5 : exec P (callN P (d + 2)) (.set (.nm 3) (.bin .add (.var 3) (.tup (.cons (.idx (.var 4) (.var 2)) .nil)))) [some (.ref aH), some (.tup (ws.map nat)), some (nat x), some (.tup ((p ++ q).map nat)), some (Row.go l).d] h' = .ok (.nx [some (.ref aH), some (.tup (ws.map nat)), some (nat x), some (.tup ((p ++ (q ++ [l.getD x 0])).map nat)), some (Row.go l).d]) h' :=
          ex_set (ev_bin (ev_var rfl) (ev_tup (evs_cons (ev_idx (ev_var rfl) (ev_var rfl) ig) evs_nil) (by simp [LIM])) eb) rfl
        refine ⟨_, _, (ex_nx e3).trans ((ex_nx e4).trans ((ex_nx e5).trans ex_nil)), rfl, some (nat x), some (Row.go l).d, q ++ [l.getD x 0], rfl, ?_⟩
        have app : ∀ (a : List Nat) (s : Nat) (q : List Nat) (s' : Nat) (p : List Nat), p.getLast? = some s → runP t s a = some q → (p ++ q).getLast? = some s' → runP t s (a ++ [x]) = (runP t s' [x]).map (q ++ ·) := by
          intro a
          induction a with
          | nil =>
            intro s q s' p hp hq hl
            cases hq
            rw [List.append_nil, hp] at hl
            cases hl
            simp
          | cons b a ih =>
            intro s q s' p hp hq hl
            unfold runP at hq
            rw [List.cons_append]
            unfold runP
            cases hr : t.getD s (.out 0) with
            | out o => rw [hr] at hq; cases hq
            | go l =>
              rw [hr] at hq
              obtain ⟨q', h1, rfl⟩ := Option.map_eq_some_iff.mp hq
              dsimp only
              rw [ih (l.getD b 0) q' s' (p ++ [l.getD b 0]) (by simp) h1 (by rw [← hl]; simp), Option.map_map]
              rfl
        rw [htake, app _ _ _ _ p hs hq r2]
        unfold runP
        rw [hr]
        rfl)
    ⟨rfl, none, none, [], by rw [List.append_nil], by rw [List.take_zero]; rfl⟩
  rcases lp with ⟨σ', h', q1, rfl, s2, s4, q, rfl, hq⟩ | ⟨q1, q2⟩
  · rw [List.take_length] at hq
    rw [hq, ex_nx q1, ex_rt (ex_ret (ev_var rfl))]; rfl
  · rw [q2, ex_exc q1]; rfl
end
end PI

set_option maxRecDepth 100000
set_option maxHeartbeats 2000000
/-! RD: values without addresses; hands, the rest. -/
namespace PI
open PySem
def c__law_is_same : Fn := ⟨2, 3, false, (.cons (.if_ (.isi (.var 1) .tuple) (.cons (.if_ (.or (.not (.isi (.var 0) .tuple)) (.cmp .ne (.len (.of (.var 0))) (.len (.of (.var 1))))) (.cons (.ret (.bl false)) .nil) .nil) (.cons (.ret (.all (.comp (.call 202 (.cons (.idx (.var 0) (.var 2)) (.cons (.idx (.var 1) (.var 2)) .nil))) (.nm 2) (.rng1 (.len (.of (.var 1)))) .none [2]))) .nil)) .nil) (.cons (.if_ (.isN (.var 1)) (.cons (.ret (.isN (.var 0))) .nil) .nil) (.cons (.if_ (.isi (.var 1) .str) (.cons (.ret (.and (.isi (.var 0) .str) (.cmp .eq (.var 0) (.var 1)))) .nil) .nil) (.cons (.if_ (.or (.not (.isi (.var 0) .int)) (.cmp .ne (.isi (.var 0) .bool) (.isi (.var 1) .bool))) (.cons (.ret (.bl false)) .nil) .nil) (.cons (.ret (.cmp .eq (.var 0) (.var 1))) .nil)))))⟩
def c_Hand_undo : Fn := ⟨1, 1, false, (.cons (.if_ (.cmp .eq (.fld (.var 0) 4) (.tup .nil)) (.cons (.raise 60) .nil) .nil) (.cons (.fld (.var 0) 4 (.sl (.fld (.var 0) 4) .none (.some (.neg (.int 1))))) (.cons (.fld (.var 0) 5 (.sl (.fld (.var 0) 5) .none (.some (.neg (.int 1))))) .nil)))⟩
def c_Hand_chances : Fn := ⟨1, 1, false, (.cons (.ret (.sl (.idx (.fld (.fld (.var 0) 3) 2) (.idx (.fld (.var 0) 5) (.neg (.int 1)))) .none (.some (.neg (.int 1))))) .nil)⟩
def c_Chooser_chances : Fn := ⟨1, 1, false, (.cons (.ret (.sl (.idx (.fld (.var 0) 2) (.int 0)) .none (.some (.neg (.int 1))))) .nil)⟩
def c_Hand_twin : Fn := ⟨1, 2, false, (.cons (.set (.nm 1) (.mk 1 (.cons (.fld (.var 0) 3) .nil))) (.cons (.fld (.var 1) 4 (.fld (.var 0) 4)) (.cons (.fld (.var 1) 5 (.fld (.var 0) 5)) (.cons (.ret (.var 1)) .nil))))⟩
def c_Hand_trial : Fn := ⟨1, 1, false, (.cons (.ret (.mk 6 (.cons (.var 0) .nil))) .nil)⟩
def c_Trial_init : Fn := ⟨2, 2, false, (.cons (.fld (.var 0) 35 (.var 1)) (.cons (.fld (.var 0) 4 (.fld (.var 1) 4)) (.cons (.fld (.var 0) 5 (.fld (.var 1) 5)) .nil)))⟩
/-! ### values without addresses -/
mutual
def pd : D → PyData
  | .non => .none
  | .bl b => .bool b
  | .int i => .int i
  | .str s => .str s
  | .tup xs => .tuple (pds xs)
  | .scr xs => .list (xs.map .int)
  | .ref _ => .none
def pds : List D → List PyData
  | [] => []
  | x :: xs => pd x :: pds xs
end
inductive Pu : Nat → D → Prop
  | non {n : Nat} : Pu n .non
  | bl {n : Nat} (b : Bool) : Pu n (.bl b)
  | int {n : Nat} (i : Int) : Pu n (.int i)
  | str {n : Nat} (s : Str) (h : PyData.strOk s = true) : Pu n (.str s)
  | tup {n : Nat} {xs : List D} (hl : xs.length ≤ 100000) (h : ∀ x ∈ xs, Pu n x) : Pu (n + 1) (.tup xs)
theorem pds_map : ∀ xs : List D, pds xs = xs.map pd
  | [] => by simp [pds]
  | x :: xs => by simp [pds, pds_map xs]
theorem toP_pu (h : Hh) : ∀ (n : Nat) (d : D), Pu n d → ∀ m, 2 * n + 1 ≤ m → toP h m d = some (pd d) := by
  intro n
  induction n with
  | zero =>
    intro d hd m hm
    obtain ⟨m, rfl⟩ : ∃ k, m = k + 1 := ⟨m - 1, by omega⟩
    cases hd <;> simp [toP, pd]
  | succ n ih =>
    intro d hd m hm
    obtain ⟨m, rfl⟩ : ∃ k, m = k + 1 := ⟨m - 1, by omega⟩
    cases hd with
    | tup hl hx =>
      rename_i xs
      have key : ∀ xs : List D, (∀ x ∈ xs, Pu n x) → ∀ m, 2 * n + 2 ≤ m → toPs h m xs = some (pds xs) := by
        intro xs
        induction xs with
        | nil =>
          intro _ m hm
          obtain ⟨m, rfl⟩ : ∃ k, m = k + 1 := ⟨m - 1, by omega⟩
          simp [toPs, pds]
        | cons x xs ih2 =>
          intro hx m hm
          obtain ⟨m, rfl⟩ : ∃ k, m = k + 1 := ⟨m - 1, by omega⟩
          have e1 := ih x (hx x List.mem_cons_self) m (by omega)
          have e2 := ih2 (fun y hy => hx y (List.mem_cons_of_mem _ hy)) (m + 1) hm
          simp only [toPs, e1, e2, pds]
      have e := key xs hx m (by omega)
      simp only [toP, e, pd, Option.map_some]
    | _ => simp [toP, pd]
theorem lay_pu : ∀ (n : Nat) (d : D), Pu n d → (pd d).canLay0 = true ∧ (pd d).depth ≤ n + 1 := by
  intro n
  induction n with
  | zero =>
    intro d hd
    cases hd with
    | str s h => exact ⟨by rw [pd, PyData.canLay0]; exact h, by simp [pd, PyData.depth]⟩
    | _ => exact ⟨by simp [pd, PyData.canLay0], by simp [pd, PyData.depth]⟩
  | succ n ih =>
    intro d hd
    cases hd with
    | str s h => exact ⟨by rw [pd, PyData.canLay0]; exact h, by simp [pd, PyData.depth]⟩
    | tup hl hx =>
      rename_i xs
      have key : ∀ xs : List D, (∀ x ∈ xs, Pu n x) → PyData.canLayAll0 (pds xs) = true ∧ PyData.depthAll (pds xs) ≤ n + 1 := by
        intro xs
        induction xs with
        | nil => intro _; simp [pds, PyData.canLayAll0, PyData.depthAll]
        | cons x xs ih2 =>
          intro hx
          obtain ⟨a1, a2⟩ := ih x (hx x List.mem_cons_self)
          obtain ⟨b1, b2⟩ := ih2 fun y hy => hx y (List.mem_cons_of_mem _ hy)
          refine ⟨?_, ?_⟩
          · rw [pds, PyData.canLayAll0, a1, b1]; rfl
          · rw [pds, PyData.depthAll]; omega
      obtain ⟨c1, c2⟩ := key xs hx
      exact ⟨by rw [pd, PyData.canLay0]; exact c1, by rw [pd, PyData.depth]; omega⟩
    | _ => exact ⟨by simp [pd, PyData.canLay0], by simp [pd, PyData.depth]⟩
theorem data_pu {n : Nat} {d : D} (hd : Pu n d) (hn : n ≤ 19) (h : Hh) : data h d = some (pd d) := by
  unfold data
  rw [toP_pu h n d hd 40 (by omega)]
  obtain ⟨a, b⟩ := lay_pu n d hd
  dsimp only
  rw [if_pos (by unfold SeqAt.shaped; rw [a, Bool.true_and]; exact decide_eq_true (by omega))]
theorem cmp_pu {n m : Nat} {x y : D} (hx : Pu n x) (hy : Pu m y) (hn : n ≤ 19) (hm : m ≤ 19) (h : Hh) : cmpop .eq x y h = some (PyData.eqv (pd x) (pd y)) ∧ cmpop .ne x y h = some (!PyData.eqv (pd x) (pd y)) := by
  constructor
  · show (match data h x, data h y with
      | some d, some e => some (PyData.eqv d e)
      | _, _ => none) = _
    rw [data_pu hx hn, data_pu hy hm]
  · show (match data h x, data h y with
      | some d, some e => some (!PyData.eqv d e)
      | _, _ => none) = _
    rw [data_pu hx hn, data_pu hy hm]
theorem eq_self {n : Nat} {x : D} (hx : Pu n x) (hn : n ≤ 19) (h : Hh) : cmpop .eq x x h = some true ∧ cmpop .ne x x h = some false := by
  have e := SeqAt.eqv_refl (pd x) (lay_pu n x hx).1
  obtain ⟨a, b⟩ := cmp_pu hx hx hn hn h
  rw [e] at a b
  exact ⟨a, b⟩
theorem eqv_nats : ∀ a b : List Nat, PyData.eqvAll (pds (a.map nat)) (pds (b.map nat)) = decide (a = b)
  | [], [] => by simp [pds, PyData.eqvAll]
  | [], y :: ys => by simp [pds, PyData.eqvAll]
  | x :: xs, [] => by simp [pds, PyData.eqvAll]
  | x :: xs, y :: ys => by
    have e : PyData.eqv (pd (nat x)) (pd (nat y)) = decide (x = y) := by
      show PyData.eqv (.int x) (.int y) = _
      rw [eqv_int, Bool.eq_iff_iff, decide_eq_true_eq, decide_eq_true_eq]
      omega
    rw [List.map_cons, List.map_cons, pds, pds, PyData.eqvAll, e, eqv_nats xs ys, Bool.eq_iff_iff]
    simp
theorem Pu.nats (n : Nat) {l : List Nat} (hl : l.length ≤ 100000) : Pu (n + 1) (.tup (l.map nat)) := .tup (by simpa using hl) fun x hx => by
  obtain ⟨i, _, rfl⟩ := List.mem_map.mp hx
  exact .int _
theorem eq_nats {a b : List Nat} (ha : a.length ≤ 100000) (hb : b.length ≤ 100000) (h : Hh) : cmpop .eq (.tup (a.map nat)) (.tup (b.map nat)) h = some (decide (a = b)) ∧ cmpop .ne (.tup (a.map nat)) (.tup (b.map nat)) h = some (!decide (a = b)) := by
  obtain ⟨p, q⟩ := cmp_pu (Pu.nats 0 ha) (Pu.nats 0 hb) (by omega) (by omega) h
  have e : PyData.eqv (pd (.tup (a.map nat))) (pd (.tup (b.map nat))) = decide (a = b) := by
    rw [pd, pd, PyData.eqv]; exact eqv_nats a b
  rw [e] at p q
  exact ⟨p, q⟩
theorem Pu.mono {n m : Nat} {d : D} (h : Pu n d) (hm : n ≤ m) : Pu m d := by
  induction h generalizing m with
  | non => exact .non
  | bl b => exact .bl b
  | int i => exact .int i
  | str s h => exact .str s h
  | tup hl hx ih =>
    obtain ⟨m, rfl⟩ : ∃ k, m = k + 1 := ⟨m - 1, by omega⟩
    exact .tup hl fun x hxm => ih x hxm (by omega)
theorem Pu.fr (q : Rat) : Pu 1 (fr q) := .tup (by simp) fun x hx => by
  simp at hx
  rcases hx with rfl | rfl <;> exact .int _
theorem Pu.frs {l : List Rat} (hl : l.length ≤ 100000) : Pu 2 (.tup (l.map PI.fr)) := .tup (by simpa using hl) fun x hx => by
  obtain ⟨q, _, rfl⟩ := List.mem_map.mp hx
  exact Pu.fr q
theorem Pu.plain {n : Nat} {d : D} (hd : Pu n d) (h : Hh) : Plain h d := by
  cases hd
  · exact ⟨.non, rfl, fun c z => by cases z⟩
  · exact ⟨.bl, rfl, fun c z => by cases z⟩
  · exact ⟨.int, rfl, fun c z => by cases z⟩
  · exact ⟨.str, rfl, fun c z => by cases z⟩
  · exact ⟨.tup, rfl, fun c z => by cases z⟩
/-! ### _law_is_same of a value with itself -/
section
variable {P : Pg} {h : Hh}
theorem isi_of {C : Nat → List D → Hh → R D} {σ : Sto} {i : Nat} {v : D} {k : Kd} {t : Ty} (e : σ[i]? = some (some v)) (hk : kdOf h v = some k) (hni : ∀ c, k ≠ .ins c) (ht : ∀ c, t ≠ .cls c) : ev P C (.isi (.var i) t) σ h = .ok (.bl (kdIs k t)) h := by
  rw [ev, ev_var e, R.bnd_ok, isTy_plain hk hni t ht]; rfl
theorem is_same_ok (f : P.fns 202 = some c__law_is_same) : ∀ (n : Nat) (v : D), Pu n v → ∀ d, callN P (d + n + 1) 202 [v, v] h = .ok (.bl true) h := by
  have low : ∀ (n : Nat) (v : D), Pu n v → (∀ xs, v ≠ .tup xs) → ∀ d, callN P (d + 1) 202 [v, v] h = .ok (.bl true) h := fun n v hv hnt d => by
    have pl := hv.plain h
    obtain ⟨k, hk, hni⟩ := pl
    have heq := (eq_self (hv.mono (show n ≤ max n 19 by omega)) · h)
    rw [call_eq f (σ := [some v, some v, none]) rfl]
    unfold c__law_is_same
    have t1 := isi_of (P := P) (C := callN P d) (σ := [some v, some v, none]) (i := 1) (t := .tuple) rfl hk hni (fun c z => by cases z)
    have hkt : kdIs k .tuple = false := by
      cases k with
      | tup =>
        cases v with
        | tup xs => exact absurd rfl (hnt xs)
        | ref r =>
          unfold kdOf at hk
          dsimp only at hk
          split at hk <;> cases hk
        | _ => cases hk
      | _ => rfl
    rw [hkt] at t1
    rw [ex_nx (σ1 := [some v, some v, none]) (h1 := h) ((ex_if t1).trans (by rw [if_neg (by decide)]; rfl))]
    have s1 := isi_of (P := P) (C := callN P d) (σ := [some v, some v, none]) (i := 1) (t := .str) rfl hk hni (fun c z => by cases z)
    have s0 := isi_of (P := P) (C := callN P d) (σ := [some v, some v, none]) (i := 0) (t := .str) rfl hk hni (fun c z => by cases z)
    have i0 := isi_of (P := P) (C := callN P d) (σ := [some v, some v, none]) (i := 0) (t := .int) rfl hk hni (fun c z => by cases z)
    have b0 := isi_of (P := P) (C := callN P d) (σ := [some v, some v, none]) (i := 0) (t := .bool) rfl hk hni (fun c z => by cases z)
    have b1 := isi_of (P := P) (C := callN P d) (σ := [some v, some v, none]) (i := 1) (t := .bool) rfl hk hni (fun c z => by cases z)
    have veq : ∀ {m : Nat}, Pu m v → m ≤ 19 → ev P (callN P d) (.cmp .eq (.var 0) (.var 1)) [some v, some v, none] h = .ok (.bl true) h := fun hm hl => ev_cmp (ev_var rfl) (ev_var rfl) (eq_self hm hl h).1
    have bne : ∀ b : Bool, kdIs k .bool = b → ev P (callN P d) (.cmp .ne (.isi (.var 0) .bool) (.isi (.var 1) .bool)) [some v, some v, none] h = .ok (.bl false) h := fun b hb => by
      rw [hb] at b0 b1
      exact ev_cmp b0 b1 (eq_self (Pu.bl (n := 0) b) (by omega) h).2
    cases hv with
    | non =>
      have n1 : ev P (callN P d) (.isN (.var 1)) [some .non, some .non, none] h = .ok (.bl true) h := rfl
      have n0 : ev P (callN P d) (.isN (.var 0)) [some .non, some .non, none] h = .ok (.bl true) h := rfl
      rw [ex_rt (v := .bl true) (h1 := h) ((ex_if n1).trans (by rw [if_pos rfl, ex_rt (ex_ret n0)]))]; rfl
    | bl b =>
      cases hk
      have n1 : ev P (callN P d) (.isN (.var 1)) [some (.bl b), some (.bl b), none] h = .ok (.bl false) h := rfl
      rw [ex_nx (σ1 := [some (.bl b), some (.bl b), none]) (h1 := h) ((ex_if n1).trans (by rw [if_neg (by decide)]; rfl)), ex_nx (σ1 := [some (.bl b), some (.bl b), none]) (h1 := h) ((ex_if s1).trans (by rw [if_neg (by decide)]; rfl))]
      have o := (ev_orF (b := .cmp .ne (.isi (.var 0) .bool) (.isi (.var 1) .bool)) (ev_not i0)).trans (bne true rfl)
      rw [ex_nx (σ1 := [some (.bl b), some (.bl b), none]) (h1 := h) ((ex_if o).trans (by rw [if_neg (by decide)]; rfl)), ex_rt (ex_ret (veq (Pu.bl (n := 0) b) (by omega)))]; rfl
    | int b =>
      cases hk
      have n1 : ev P (callN P d) (.isN (.var 1)) [some (.int b), some (.int b), none] h = .ok (.bl false) h := rfl
      rw [ex_nx (σ1 := [some (.int b), some (.int b), none]) (h1 := h) ((ex_if n1).trans (by rw [if_neg (by decide)]; rfl)), ex_nx (σ1 := [some (.int b), some (.int b), none]) (h1 := h) ((ex_if s1).trans (by rw [if_neg (by decide)]; rfl))]
      have o := (ev_orF (b := .cmp .ne (.isi (.var 0) .bool) (.isi (.var 1) .bool)) (ev_not i0)).trans (bne false rfl)
      rw [ex_nx (σ1 := [some (.int b), some (.int b), none]) (h1 := h) ((ex_if o).trans (by rw [if_neg (by decide)]; rfl)), ex_rt (ex_ret (veq (Pu.int (n := 0) b) (by omega)))]; rfl
    | str b hb =>
      cases hk
      have n1 : ev P (callN P d) (.isN (.var 1)) [some (.str b), some (.str b), none] h = .ok (.bl false) h := rfl
      rw [ex_nx (σ1 := [some (.str b), some (.str b), none]) (h1 := h) ((ex_if n1).trans (by rw [if_neg (by decide)]; rfl))]
      have o := (ev_andT s0).trans (veq (Pu.str (n := 0) b hb) (by omega))
      rw [ex_rt (v := .bl true) (h1 := h) ((ex_if s1).trans (by rw [if_pos (by decide), ex_rt (ex_ret o)]))]; rfl
    | tup => exact absurd rfl (hnt _)
  intro n
  induction n with
  | zero => exact fun v hv d => low 0 v hv (fun xs z => by subst z; cases hv) d
  | succ n ih =>
    intro v hv d
    by_cases hnt : ∀ xs, v ≠ .tup xs
    · exact low _ v hv hnt (d + (n + 1))
    · obtain ⟨xs, rfl⟩ : ∃ xs, v = .tup xs := by
        cases v with
        | tup xs => exact ⟨xs, rfl⟩
        | _ => exact absurd (fun xs z => by cases z) hnt
      cases hv with
      | tup hl hx =>
      rw [show d + (n + 1) + 1 = (d + n + 1) + 1 by omega, call_eq f (σ := [some (.tup xs), some (.tup xs), none]) rfl]
      unfold c__law_is_same
      generalize hC : callN P (d + n + 1) = C at *
      have t1 : ev P C (.isi (.var 1) .tuple) [some (.tup xs), some (.tup xs), none] h = .ok (.bl true) h := rfl
      have t0 : ev P C (.isi (.var 0) .tuple) [some (.tup xs), some (.tup xs), none] h = .ok (.bl true) h := rfl
      have l0 := ev_len (P := P) (C := C) (σ := [some (.tup xs), some (.tup xs), none]) (h := h) (a := .var 0) (x := .tup xs) (xs := xs) (ev_var rfl) rfl
      have l1 := ev_len (P := P) (C := C) (σ := [some (.tup xs), some (.tup xs), none]) (h := h) (a := .var 1) (x := .tup xs) (xs := xs) (ev_var rfl) rfl
      have c0 : ev P C (.or (.not (.isi (.var 0) .tuple)) (.cmp .ne (.len (.of (.var 0))) (.len (.of (.var 1))))) [some (.tup xs), some (.tup xs), none] h = .ok (.bl false) h := by
        refine (ev_orF (ev_not t0)).trans ((ev_cmp l0 l1 ne_int).trans ?_)
        rw [decide_eq_true rfl]; rfl
      obtain ⟨iv, e1, w⟩ := it_rng1 (n := xs.length) l1 (by omega)
      have cm := comp_ok (t := .nm 2) (own := [2]) (e := .call 202 (.cons (.idx (.var 0) (.var 2)) (.cons (.idx (.var 1) (.var 2)) .nil))) e1 w trivial (by simp only [LIM]; omega) (fun _ => .bl true) (fun i hi => by
        have hxi : xs[i]? = some xs[i] := List.getElem?_eq_getElem hi
        have hp := hx xs[i] (List.getElem_mem _)
        generalize xs[i] = x at *
        refine ⟨[some (.tup xs), some (.tup xs), some (nat i)], rfl, ?_⟩
        have ix : idxop (.tup xs) (nat i) h = some x := atI_nat hxi (by omega)
        rw [ev_call (evs_cons (ev_idx (ev_var rfl) (ev_var rfl) ix) (evs_cons (ev_idx (ev_var rfl) (ev_var rfl) ix) evs_nil)), ← hC]
        exact ih x hp d)
      have al := all_ok (bs := (List.range xs.length).map fun _ => true) (by rw [cm, List.map_map]; rfl)
      have ht : ((List.range xs.length).map fun _ => true).all id = true := by simp
      rw [ht] at al
      rw [ex_rt (v := .bl true) (h1 := h) ((ex_if t1).trans (by rw [if_pos rfl, ex_nx (σ1 := [some (.tup xs), some (.tup xs), none]) (h1 := h) ((ex_if c0).trans (by rw [if_neg (by decide)]; rfl)), ex_rt (ex_ret al)]))]; rfl
end
end PI

set_option maxRecDepth 100000
set_option maxHeartbeats 2000000
/-! RE: hands: throws, what is told of them, throws taken back, twins, trials. -/
namespace PI
open PySem
section
variable {P : Pg} {d : Nat} {h : Hh} {t : List Row} {sides many : Nat} {aH aF r : Nat} {w p : List Nat}
def hO (aF : Nat) (w p : List Nat) : O := .ins 1 [(3, .ref aF), (4, .tup (w.map nat)), (5, .tup (p.map nat))]
theorem throw_all_ok (a : HasH P) (hH : HandAt h aH aF w p) {ws q : List Nat} (hl : w.length + ws.length ≤ 100000) (e : callN P (d + 1) 15 [.ref aH, .tup (ws.map nat)] h = .ok (.tup ((p ++ q).map nat)) h) :
    callN P (d + 2) 17 (.ref aH :: ws.map nat) h = .ok .non (h.set aH (hO aF (w ++ ws) (p ++ q))) := by
  rw [call_eq a.f17 (σ := [some (.ref aH), some (.tup (ws.map nat))]) (by
    unfold envOf
    rw [if_pos (show c_Hand_throw_all.star = true from rfl), if_pos ⟨by show 2 ≤ _; simp, by decide, by decide, by simp [LIM]; omega⟩]; rfl)]
  unfold c_Hand_throw_all
  have e1 := ex_fld (P := P) (C := callN P (d + 1)) (σ := [some (.ref aH), some (.tup (ws.map nat))]) (h := h) (a := .var 0) (f := 5) (b := .mth (.var 0) 10 (.cons (.var 1) .nil)) ((ev_mth (ev_var rfl) hH a.k1 rfl a.m1.1 (evs_cons (ev_var rfl) evs_nil)).trans e) (ev_var rfl) hH a.k1 a.a1.2.2 (by simp)
  generalize hh1 : h.set aH (.ins 1 (fput 5 (.tup ((p ++ q).map nat)) [(3, .ref aF), (4, .tup (w.map nat)), (5, .tup (p.map nat))])) = h1 at e1
  have g1 : h1[aH]? = some (.ins 1 [(3, .ref aF), (4, .tup (w.map nat)), (5, .tup ((p ++ q).map nat))]) := by
    rw [← hh1]; exact List.getElem?_set_self (get_lt hH)
  have eb : binop .add (.tup (w.map nat)) (.tup (ws.map nat)) h1 = .ok (.tup ((w ++ ws).map nat)) h1 := by
    show (if (w.map nat).length + (ws.map nat).length ≤ LIM then R.ok (D.tup _) h1 else .bad) = _
    rw [if_pos (by simp [LIM]; omega), List.map_append]
  have e2 := ex_fld (P := P) (C := callN P (d + 1)) (σ := [some (.ref aH), some (.tup (ws.map nat))]) (h := h1) (a := .var 0) (f := 4) (b := .bin .add (.fld (.var 0) 4) (.var 1)) (ev_bin (ev_fld (ev_var rfl) g1 a.k1 a.a1.2.1 rfl) (ev_var rfl) eb) (ev_var rfl) g1 a.k1 a.a1.2.1 (by simp)
  rw [ex_nx e1, ex_nx e2, ex_nil, ← hh1, List.set_set]
  rfl
theorem throw_all_exc (a : HasH P) (hH : HandAt h aH aF w p) {ws : List D} {c : Nat} (hl : ws.length ≤ 100000) (e : callN P (d + 1) 15 [.ref aH, .tup ws] h = .exc c h) :
    callN P (d + 2) 17 (.ref aH :: ws) h = .exc c h := by
  rw [call_eq a.f17 (σ := [some (.ref aH), some (.tup ws)]) (by
    unfold envOf
    rw [if_pos (show c_Hand_throw_all.star = true from rfl), if_pos ⟨by show 2 ≤ _; simp, by decide, by decide, by simp [LIM]; omega⟩]; rfl)]
  unfold c_Hand_throw_all
  have e1 : exec P (callN P (d + 1)) (.fld (.var 0) 5 (.mth (.var 0) 10 (.cons (.var 1) .nil))) [some (.ref aH), some (.tup ws)] h = .exc c h := by
    rw [exec, ev_mth (ev_var rfl) hH a.k1 rfl a.m1.1 (evs_cons (ev_var rfl) evs_nil), e]; rfl
  rw [ex_exc e1]; rfl
theorem throw_ok (a : HasH P) (f16 : P.fns 16 = some c_Hand_throw) (hH : HandAt h aH aF w p) {x : D} {res : R D} (e : callN P (d + 1) 17 [.ref aH, x] h = res) : callN P (d + 2) 16 [.ref aH, x] h = match res with
    | .ok _ h' => .ok .non h'
    | .exc c h' => .exc c h'
    | .bad => .bad := by
  rw [call_eq f16 (σ := [some (.ref aH), some x]) rfl]
  unfold c_Hand_throw
  have e1 : ev P (callN P (d + 1)) (.mth (.var 0) 12 (.cons (.var 1) .nil)) [some (.ref aH), some x] h = res := (ev_mth (ev_var rfl) hH a.k1 rfl a.m1.2 (evs_cons (ev_var rfl) evs_nil)).trans e
  cases res with
  | ok v h' => rw [ex_nx (ex_expr e1)]; rfl
  | exc c h' => rw [ex_exc (ex_exprx e1)]; rfl
  | bad =>
    have : execs P (callN P (d + 1)) (.cons (.expr (.mth (.var 0) 12 (.cons (.var 1) .nil))) .nil) [some (.ref aH), some x] h = .bad := by
      rw [execs, exec, e1]; rfl
    rw [this]; rfl
/-- one throw that is allowed -/
theorem throw_good (a : HasH P) (f16 : P.fns 16 = some c_Hand_throw) (g : TabGood sides many t) (h6 : sides ≤ 6) (hH : HandAt h aH aF w p) (hF : FrozAt h aF sides t r) {s x : Nat} {l : List Nat} (hs : p.getLast? = some s) (hst : s < t.length) (hr : t.getD s (.out 0) = .go l) (hx : x < sides) (hl : p.length ≤ 1000 ∧ w.length ≤ 1000) :
    callN P (d + 5) 16 [.ref aH, nat x] h = .ok .non (h.set aH (hO aF (w ++ [x]) (p ++ [l.getD x 0]))) := by
  have e := path_good (d := d) (ws := [x]) a g h6 hH hF hs hst (fun y hy => by simp at hy; omega) (by simp; omega)
  have er : runP t s [x] = some [l.getD x 0] := by unfold runP; rw [hr]; rfl
  rw [er] at e
  exact throw_ok (d := d + 3) a f16 hH (throw_all_ok (d := d + 2) (ws := [x]) a hH (by simp; omega) e)
theorem throw_bad (a : HasH P) (f16 : P.fns 16 = some c_Hand_throw) (hH : HandAt h aH aF w p) (hF : FrozAt h aF sides t r) {x : D} (hp : Plain h x) (hx : intB 0 ((sides : Int) - 1) x = false) : callN P (d + 5) 16 [.ref aH, x] h = .exc 56 h :=
  throw_ok (d := d + 3) a f16 hH (throw_all_exc (d := d + 2) (ws := [x]) a hH (by simp) (path_bad (d := d) (ws := [x]) a hH hF (fun v hv => by simp at hv; subst hv; exact hp) (by simp [LIM]) (by simp [hx])))
theorem throw_done (a : HasH P) (f16 : P.fns 16 = some c_Hand_throw) (g : TabGood sides many t) (h6 : sides ≤ 6) (hH : HandAt h aH aF w p) (hF : FrozAt h aF sides t r) {s x o : Nat} (hs : p.getLast? = some s) (hst : s < t.length) (hr : t.getD s (.out 0) = .out o) (hx : x < sides) (hl : p.length ≤ 1000) :
    callN P (d + 5) 16 [.ref aH, nat x] h = .exc 57 h := by
  have e := path_good (d := d) (ws := [x]) a g h6 hH hF hs hst (fun y hy => by simp at hy; omega) (by simp; omega)
  have er : runP t s [x] = none := by unfold runP; rw [hr]
  rw [er] at e
  exact throw_ok (d := d + 3) a f16 hH (throw_all_exc (d := d + 2) (ws := [nat x]) a hH (by simp) e)
def outD : Row → D
  | .go _ => .non
  | .out o => nat o
theorem hand_outcome (a : HasH P) (f : P.fns 13 = some c_Hand_outcome) (hH : HandAt h aH aF w p) (hF : FrozAt h aF sides t r) {s : Nat} (hs : p.getLast? = some s) (hst : s < t.length) (hn : t.length ≤ 1000) : callN P (d + 1) 13 [.ref aH] h = .ok (outD (t.getD s (.out 0))) h := by
  rw [call_eq f (σ := [some (.ref aH), none]) rfl]
  unfold c_Hand_outcome
  have il : idxop (.tup (p.map nat)) (.int (-1)) h = some (nat s) := atI_last (by rw [List.getLast?_map, hs]; rfl)
  have e1 : exec P (callN P d) (.set (.nm 1) (.idx (.fld (.fld (.var 0) 3) 1) (.idx (.fld (.var 0) 5) (.neg (.int 1))))) [some (.ref aH), none] h = .ok (.nx [some (.ref aH), some (t.getD s (.out 0)).d]) h :=
    ex_set (ev_idx (ev_fld (ev_fld (ev_var rfl) hH a.k1 a.a1.1 rfl) hF a.k0 a.a0.2.1 rfl) (ev_idx (ev_fld (ev_var rfl) hH a.k1 a.a1.2.2 rfl) (show ev P (callN P d) (.neg (.int 1)) _ _ = .ok (.int (-1)) h from rfl) il) (row_idx hst (by omega) h)) rfl
  rw [ex_nx e1]
  have ei := isi_row (P := P) (C := callN P d) (σ := [some (.ref aH), some (t.getD s (.out 0)).d]) (h := h) (i := 1) (r := t.getD s (.out 0)) rfl
  have e2 : ev P (callN P d) (.ifx (.isi (.var 1) .tuple) .non (.var 1)) [some (.ref aH), some (t.getD s (.out 0)).d] h = .ok (outD (t.getD s (.out 0))) h := by
    rw [ev, ei, R.bnd_ok]
    cases t.getD s (.out 0) with
    | go l => rfl
    | out o => rfl
  rw [ex_rt (ex_ret e2)]; rfl
/-- the chances of a state as a tuple -/
def chD (X : Nat → List Rat) (s : Nat) : D := .tup ((X s).dropLast.map fr)
theorem cut_last (xs : List D) (h : Hh) : slop (.tup xs) none (some (-1)) h = .ok (.tup xs.dropLast) h := by
  show R.ok (D.tup (cutD xs none (some (-1)))) h = _
  congr 2
  show (xs.drop 0).take (((-1 : Int) + (xs.length : Int)).toNat - 0) = xs.dropLast
  rw [List.drop_zero, List.dropLast_eq_take]
  congr 1
  omega
theorem ans_idx {n : Nat} {X : Nat → List Rat} {s : Nat} (hr : h[r]? = some (.lst (ansD n X))) (hs : s < n) (hn : n ≤ 1000) : idxop (.ref r) (nat s) h = some (.tup ((X s).map fr)) := by
  refine idx_lst hr ?_ (by omega)
  unfold ansD
  rw [List.getElem?_map, List.getElem?_range hs]; rfl
theorem hand_chances (a : HasH P) (f : P.fns 14 = some c_Hand_chances) {X : Nat → List Rat} (hH : HandAt h aH aF w p) (hF : FrozAt h aF sides t r) (hA : h[r]? = some (.lst (ansD t.length X))) {s : Nat} (hs : p.getLast? = some s) (hst : s < t.length) (hn : t.length ≤ 1000) : callN P (d + 1) 14 [.ref aH] h = .ok (chD X s) h := by
  rw [call_eq f (σ := [some (.ref aH)]) rfl]
  unfold c_Hand_chances
  have il : idxop (.tup (p.map nat)) (.int (-1)) h = some (nat s) := atI_last (by rw [List.getLast?_map, hs]; rfl)
  have e1 : ev P (callN P d) (.idx (.fld (.fld (.var 0) 3) 2) (.idx (.fld (.var 0) 5) (.neg (.int 1)))) [some (.ref aH)] h = .ok (.tup ((X s).map fr)) h :=
    ev_idx (ev_fld (ev_fld (ev_var rfl) hH a.k1 a.a1.1 rfl) hF a.k0 a.a0.2.2 rfl) (ev_idx (ev_fld (ev_var rfl) hH a.k1 a.a1.2.2 rfl) (show ev P (callN P d) (.neg (.int 1)) _ _ = .ok (.int (-1)) h from rfl) il) (ans_idx hA hst hn)
  have e2 : ev P (callN P d) (.sl (.idx (.fld (.fld (.var 0) 3) 2) (.idx (.fld (.var 0) 5) (.neg (.int 1)))) .none (.some (.neg (.int 1)))) [some (.ref aH)] h = .ok (chD X s) h := by
    rw [ev, e1, R.bnd_ok]
    show slop (.tup ((X s).map fr)) none (some (-1)) h = _
    rw [cut_last]
    unfold chD
    rw [List.map_dropLast]
  rw [ex_rt (ex_ret e2)]; rfl
/-- a throw taken back -/
theorem undo_ok (a : HasH P) (f : P.fns 18 = some c_Hand_undo) (hH : HandAt h aH aF w p) (hl : w.length ≤ 1000) (hw : w ≠ []) : callN P (d + 1) 18 [.ref aH] h = .ok .non (h.set aH (hO aF w.dropLast p.dropLast)) := by
  rw [call_eq f (σ := [some (.ref aH)]) rfl]
  unfold c_Hand_undo
  have c0 : ev P (callN P d) (.cmp .eq (.fld (.var 0) 4) (.tup .nil)) [some (.ref aH)] h = .ok (.bl false) h := by
    have e := (eq_nats (a := w) (b := []) (by omega) (by simp) h).1
    rw [decide_eq_false hw] at e
    exact ev_cmp (ev_fld (ev_var rfl) hH a.k1 a.a1.2.1 rfl) rfl e
  rw [ex_nx (σ1 := [some (.ref aH)]) (h1 := h) ((ex_if c0).trans (by rw [if_neg (by decide)]; rfl))]
  have s1 : ev P (callN P d) (.sl (.fld (.var 0) 4) .none (.some (.neg (.int 1)))) [some (.ref aH)] h = .ok (.tup (w.dropLast.map nat)) h := by
    rw [ev, ev_fld (ev_var rfl) hH a.k1 a.a1.2.1 rfl, R.bnd_ok]
    show slop (.tup (w.map nat)) none (some (-1)) h = _
    rw [cut_last, List.map_dropLast]
  have e1 := ex_fld (P := P) (C := callN P d) (σ := [some (.ref aH)]) (h := h) (a := .var 0) (f := 4) s1 (ev_var rfl) hH a.k1 a.a1.2.1 (by simp)
  generalize hh1 : h.set aH (.ins 1 (fput 4 (.tup (w.dropLast.map nat)) [(3, .ref aF), (4, .tup (w.map nat)), (5, .tup (p.map nat))])) = h1 at e1
  have g1 : h1[aH]? = some (.ins 1 [(3, .ref aF), (4, .tup (w.dropLast.map nat)), (5, .tup (p.map nat))]) := by
    rw [← hh1]; exact List.getElem?_set_self (get_lt hH)
  have s2 : ev P (callN P d) (.sl (.fld (.var 0) 5) .none (.some (.neg (.int 1)))) [some (.ref aH)] h1 = .ok (.tup (p.dropLast.map nat)) h1 := by
    rw [ev, ev_fld (ev_var rfl) g1 a.k1 a.a1.2.2 rfl, R.bnd_ok]
    show slop (.tup (p.map nat)) none (some (-1)) h1 = _
    rw [cut_last, List.map_dropLast]
  have e2 := ex_fld (P := P) (C := callN P d) (σ := [some (.ref aH)]) (h := h1) (a := .var 0) (f := 5) s2 (ev_var rfl) g1 a.k1 a.a1.2.2 (by simp)
  rw [ex_nx e1, ex_nx e2, ex_nil, ← hh1, List.set_set]
  rfl
theorem undo_none (a : HasH P) (f : P.fns 18 = some c_Hand_undo) (hH : HandAt h aH aF [] p) : callN P (d + 1) 18 [.ref aH] h = .exc 60 h := by
  rw [call_eq f (σ := [some (.ref aH)]) rfl]
  unfold c_Hand_undo
  have c0 : ev P (callN P d) (.cmp .eq (.fld (.var 0) 4) (.tup .nil)) [some (.ref aH)] h = .ok (.bl true) h := by
    have e := (eq_nats (a := []) (b := []) (by simp) (by simp) h).1
    exact ev_cmp (ev_fld (ev_var rfl) hH a.k1 a.a1.2.1 rfl) rfl e
  rw [ex_exc (c := 60) (h1 := h) ((ex_if c0).trans (by rw [if_pos rfl]; rfl))]; rfl
/-- a twin -/
theorem twin_ok (a : HasH P) (f : P.fns 20 = some c_Hand_twin) (hH : HandAt h aH aF w p) (hF : FrozAt h aF sides t r) :
    callN P (d + 3) 20 [.ref aH] h = .ok (.ref h.length) (h ++ [hO (h.length + 1) w p, .ins 0 [(0, nat sides), (1, tabD t), (2, .ref r)]]) := by
  rw [call_eq f (σ := [some (.ref aH), none]) rfl]
  unfold c_Hand_twin
  have hk := hand_ok (d := d) (h := h) (sides := sides) (t := t) (r := r) a hF a.k0 a.a0 rfl rfl rfl
  have e0 : exec P (callN P (d + 2)) (.set (.nm 1) (.mk 1 (.cons (.fld (.var 0) 3) .nil))) [some (.ref aH), none] h = .ok (.nx [some (.ref aH), some (.ref h.length)]) (h ++ [.ins 1 [(3, .ref (h.length + 1)), (4, .tup []), (5, .tup [nat 0])], .ins 0 [(0, nat sides), (1, tabD t), (2, .ref r)]]) := by
    refine ex_set (v := .ref h.length) ?_ rfl
    rw [ev, evs_cons (ev_fld (ev_var rfl) hH a.k1 a.a1.1 rfl) evs_nil, R.bnd_ok]
    exact hk
  rw [ex_nx e0]
  generalize O.ins 0 [(0, nat sides), (1, tabD t), (2, .ref r)] = fo at *
  have g0 : ∀ o, (h ++ [o, fo])[aH]? = some (hO aF w p) := fun o => get_app hH
  have e1 := ex_fld (P := P) (C := callN P (d + 2)) (σ := [some (.ref aH), some (.ref h.length)]) (h := h ++ [.ins 1 [(3, .ref (h.length + 1)), (4, .tup []), (5, .tup [nat 0])], fo]) (a := .var 1) (f := 4) (b := .fld (.var 0) 4) (ev_fld (ev_var rfl) (g0 _) a.k1 a.a1.2.1 rfl) (ev_var rfl) get_at0 a.k1 a.a1.2.1 (by simp)
  rw [set_at0] at e1
  have e2 := ex_fld (P := P) (C := callN P (d + 2)) (σ := [some (.ref aH), some (.ref h.length)]) (h := h ++ [.ins 1 [(3, .ref (h.length + 1)), (4, .tup (w.map nat)), (5, .tup [nat 0])], fo]) (a := .var 1) (f := 5) (b := .fld (.var 0) 5) (ev_fld (ev_var rfl) (g0 _) a.k1 a.a1.2.2 rfl) (ev_var rfl) get_at0 a.k1 a.a1.2.2 (by simp)
  rw [set_at0] at e2
  exact (congrArg (fun z => R.bnd z outOf) ((ex_nx e1).trans ((ex_nx e2).trans (ex_rt (ex_ret (ev_var rfl)))))).trans rfl
structure HasTr (P : Pg) : Prop where
  f21 : P.fns 21 = some c_Hand_trial
  f58 : P.fns 58 = some c_Trial_init
  k6 : P.isc 6 = true
  i6 : P.init 6 = some 58
  a6 : P.attr 6 35 = .fld ∧ P.attr 6 4 = .fld ∧ P.attr 6 5 = .fld
theorem trial_ok (a : HasH P) (b : HasTr P) (hH : HandAt h aH aF w p) : ∃ o, callN P (d + 2) 21 [.ref aH] h = .ok (.ref h.length) (h ++ [o]) := by
  refine ⟨.ins 6 [(35, .ref aH), (4, .tup (w.map nat)), (5, .tup (p.map nat))], ?_⟩
  rw [call_eq b.f21 (σ := [some (.ref aH)]) rfl]
  unfold c_Hand_trial
  have g0 : ∀ o, (h ++ [o])[aH]? = some (hO aF w p) := fun o => get_app hH
  have e : ev P (callN P (d + 1)) (.mk 6 (.cons (.var 0) .nil)) [some (.ref aH)] h = .ok (.ref h.length) (h ++ [.ins 6 [(35, .ref aH), (4, .tup (w.map nat)), (5, .tup (p.map nat))]]) := by
    refine ev_mk (evs_cons (ev_var rfl) evs_nil) b.i6 b.k6 ?_
    rw [call_eq b.f58 (σ := [some (.ref h.length), some (.ref aH)]) rfl]
    unfold c_Trial_init
    have e0 := ex_fld (P := P) (C := callN P d) (σ := [some (.ref h.length), some (.ref aH)]) (h := h ++ [.ins 6 []]) (a := .var 0) (f := 35) (b := .var 1) (v := .ref aH) (ev_var rfl) (ev_var rfl) (last_get _ _) b.k6 b.a6.1 (by simp)
    rw [last_set] at e0
    have e1 := ex_fld (P := P) (C := callN P d) (σ := [some (.ref h.length), some (.ref aH)]) (h := h ++ [.ins 6 [(35, .ref aH)]]) (a := .var 0) (f := 4) (b := .fld (.var 1) 4) (ev_fld (ev_var rfl) (g0 _) a.k1 a.a1.2.1 rfl) (ev_var rfl) (last_get _ _) b.k6 b.a6.2.1 (by simp)
    rw [last_set] at e1
    have e2 := ex_fld (P := P) (C := callN P d) (σ := [some (.ref h.length), some (.ref aH)]) (h := h ++ [.ins 6 [(35, .ref aH), (4, .tup (w.map nat))]]) (a := .var 0) (f := 5) (b := .fld (.var 1) 5) (ev_fld (ev_var rfl) (g0 _) a.k1 a.a1.2.2 rfl) (ev_var rfl) (last_get _ _) b.k6 b.a6.2.2 (by simp)
    rw [last_set] at e2
    exact (congrArg (fun z => R.bnd z outOf) ((ex_nx e0).trans ((ex_nx e1).trans ((ex_nx e2).trans ex_nil)))).trans rfl
  rw [ex_rt (ex_ret e)]; rfl
end
end PI

set_option maxRecDepth 100000
set_option maxHeartbeats 2000000
/-! RF: what the laws draw. -/
namespace PI
open PySem
def c__law_table : Fn := ⟨3, 13, false, (.cons (.set (.nm 3) (.call 201 (.cons (.var 0) (.cons (.bin .add (.lst (.lit (.cons (.int 6) (.cons (.int 6) (.cons (.int 7) (.cons (.int 7) (.cons (.int 7) (.cons (.int 7) (.cons (.int 7) (.cons (.int 7) .nil)))))))))) (.bin .mul (.lst (.lit (.cons (.int 60) .nil))) (.int 48))) .nil)))) (.cons (.set (.nm 4) (.idx (.var 3) (.int 0))) (.cons (.if_ (.cmp .eq (.var 4) (.int 0)) (.cons (.ret (.tup (.cons (.bin .mod (.idx (.var 3) (.int 1)) (.var 2)) .nil))) .nil) .nil) (.cons (.set (.nm 5) (.bin .add (.int 1) (.bin .mod (.idx (.var 3) (.int 1)) (.var 4)))) (.cons (.set (.nm 6) (.bin .add (.var 4) (.var 5))) (.cons (.set (.nm 7) (.lst (.lit .nil))) (.cons (.for_ (.nm 8) (.rng1 (.var 4)) (.cons (.set (.nm 9) (.lst (.comp (.bin .mod (.idx (.var 3) (.bin .add (.int 8) (.bin .mod (.bin .add (.bin .mul (.var 8) (.var 1)) (.var 10)) (.int 48)))) (.var 6)) (.nm 10) (.rng1 (.var 1)) .none [10]))) (.cons (.if_ (.cmp .lt (.var 8) (.bin .sub (.var 4) (.int 1))) (.cons (.sub (.var 9) (.int 0) (.bin .add (.var 8) (.int 1))) .nil) .nil) (.cons (.if_ (.cmp .lt (.var 8) (.var 5)) (.cons (.sub (.var 9) (.bin .sub (.var 1) (.int 1)) (.bin .add (.var 4) (.var 8))) .nil) (.cons (.if_ (.cmp .eq (.var 8) (.bin .sub (.var 4) (.int 1))) (.cons (.sub (.var 9) (.bin .sub (.var 1) (.int 1)) (.var 4)) .nil) .nil) .nil)) (.cons (.set (.nm 11) (.bin .mod (.idx (.var 3) (.bin .add (.int 2) (.var 8))) (.var 1))) (.cons (.expr (.app (.var 7) (.tupl (.of (.bin .add (.sl (.var 9) (.some (.var 11)) .none) (.sl (.var 9) .none (.some (.var 11)))))))) .nil)))))) (.cons (.ret (.tupl (.of (.bin .add (.var 7) (.lst (.comp (.bin .mod (.idx (.var 3) (.bin .add (.int 8) (.var 12))) (.var 2)) (.nm 12) (.rng1 (.var 5)) .none [12])))))) .nil))))))))⟩
def c__law_cell : Fn := ⟨2, 2, false, (.cons (.if_ (.cmp .lt (.var 1) (.len (.of (.var 0)))) (.cons (.ret (.idx (.var 0) (.var 1))) .nil) .nil) (.cons (.ret (.int 0)) .nil))⟩
def c__law_draws : Fn := ⟨2, 7, false, (.cons (.set (.nm 2) (.lst (.lit .nil))) (.cons (.if_ (.cmp .ge (.var 0) (.bin .pow (.int 10) (.int 18))) (.cons (.set (.nm 3) (.bin .sub (.var 0) (.bin .pow (.int 10) (.int 18)))) (.cons (.for_ (.nm 4) (.seq (.of (.var 1))) (.cons (.expr (.app (.var 2) (.bin .mod (.var 3) (.var 4)))) (.cons (.set (.nm 3) (.bin .fdiv (.var 3) (.var 4))) .nil))) (.cons (.ret (.var 2)) .nil))) .nil) (.cons (.for_ (.nm 5) (.rng1 (.len (.of (.var 1)))) (.cons (.set (.nm 6) (.bin .mod (.bin .add (.bin .add (.bin .mul (.var 0) (.int 48271)) (.bin .mul (.var 5) (.int 69621))) (.int 11)) (.int 2147483647))) (.cons (.set (.nm 6) (.bin .mod (.bin .add (.bin .mul (.var 6) (.int 16807)) (.var 5)) (.int 998244353))) (.cons (.expr (.app (.var 2) (.bin .mod (.var 6) (.idx (.var 1) (.var 5))))) .nil)))) (.cons (.ret (.var 2)) .nil))))⟩
section
variable {P : Pg} {d : Nat} {h : Hh}
def cell (ns : List Int) (k : Nat) : Int := ns.getD k 0
theorem cell_ok (f : P.fns 200 = some c__law_cell) (ns : List Int) (k : Nat) (hk : k ≤ 1000) : callN P (d + 1) 200 [.scr ns, nat k] h = .ok (.int (cell ns k)) h := by
  rw [call_eq f (σ := [some (.scr ns), some (nat k)]) rfl]
  unfold c__law_cell
  have l := ev_len (P := P) (C := callN P d) (σ := [some (.scr ns), some (nat k)]) (h := h) (a := .var 0) (x := .scr ns) (xs := ns.map .int) (ev_var rfl) rfl
  rw [List.length_map] at l
  have c := ev_cmp (P := P) (C := callN P d) (σ := [some (.scr ns), some (nat k)]) (h := h) (a := .var 1) (o := .lt) (x := nat k) (ev_var rfl) l (show cmpop .lt (nat k) (.int ns.length) h = some (decide (((k : Nat) : Int) < (ns.length : Nat))) from rfl)
  by_cases hlt : k < ns.length
  · rw [decide_eq_true (by omega)] at c
    have ix : idxop (.scr ns) (nat k) h = some (.int (cell ns k)) := by
      refine atI_nat (xs := ns.map D.int) ?_ (by omega)
      unfold cell
      rw [List.getElem?_map, List.getD_eq_getElem?_getD, List.getElem?_eq_getElem hlt]; rfl
    rw [ex_rt (v := .int (cell ns k)) (h1 := h) ((ex_if c).trans (by rw [if_pos rfl, ex_rt (ex_ret (ev_idx (ev_var rfl) (ev_var rfl) ix))]))]; rfl
  · rw [decide_eq_false (by omega)] at c
    have : cell ns k = 0 := by unfold cell; rw [List.getD_eq_getElem?_getD, List.getElem?_eq_none (by omega)]; rfl
    rw [ex_nx (σ1 := [some (.scr ns), some (nat k)]) (h1 := h) ((ex_if c).trans (by rw [if_neg (by decide)]; rfl)), ex_rt (ex_ret (show ev P (callN P d) (.int 0) _ h = .ok (.int 0) h from rfl)), this]; rfl
theorem mod_small {x : Int} {m : Nat} (hm : 0 < m) : ∃ r : Nat, x % (m : Int) = (r : Nat) ∧ r < m := by
  have h1 := Int.emod_nonneg x (show (m : Int) ≠ 0 by omega)
  have h2 := Int.emod_lt_of_pos x (show (0 : Int) < m by omega)
  exact ⟨(x % (m : Int)).toNat, by omega, by omega⟩
/-- draws of these sizes -/
def Drawn (sizes found : List Nat) : Prop := found.length = sizes.length ∧ ∀ i, i < sizes.length → found.getD i 0 < sizes.getD i 1
theorem mod_ok {σ : Sto} {C : Nat → List D → Hh → R D} {a b : E} {x : Int} {m : Nat} (ea : ev P C a σ h = .ok (.int x) h) (eb : ev P C b σ h = .ok (nat m) h) (hm : 0 < m) : ev P C (.bin .mod a b) σ h = .ok (.int (x % (m : Int))) h := by
  refine ev_bin ea eb ?_
  show (if (0 : Int) < (m : Nat) then R.ok (D.int (x % (m : Nat))) h else .bad) = _
  rw [if_pos (by omega)]
theorem fdiv_ok {σ : Sto} {C : Nat → List D → Hh → R D} {a b : E} {x : Int} {m : Nat} (ea : ev P C a σ h = .ok (.int x) h) (eb : ev P C b σ h = .ok (nat m) h) (hm : 0 < m) (hl : m < 1000000) : ev P C (.bin .fdiv a b) σ h = .ok (.int (x / (m : Int))) h := by
  refine ev_bin ea eb ?_
  have hlog : ((m : Nat) : Int).natAbs.log2 < 9000 := by
    rw [Int.natAbs_natCast]
    exact Nat.lt_of_le_of_lt (log2_mono (Nat.le_of_lt hl)) (by decide +kernel)
  show (if (0 : Int) < (m : Nat) ∧ ((m : Nat) : Int).natAbs.log2 < 9000 then R.ok (D.int (x / (m : Nat))) h else .bad) = _
  rw [if_pos ⟨by omega, hlog⟩]
theorem mul_ok {σ : Sto} {C : Nat → List D → Hh → R D} {a b : E} {x y : Int} (ea : ev P C a σ h = .ok (.int x) h) (eb : ev P C b σ h = .ok (.int y) h) (hy : y.natAbs < 18446744073709551616) : ev P C (.bin .mul a b) σ h = .ok (.int (x * y)) h := by
  refine ev_bin ea eb ?_
  show (if okMul x y = true then R.ok (D.int (x * y)) h else .bad) = _
  rw [if_pos]
  unfold okMul
  rw [decide_eq_true hy]
  simp
theorem Drawn.snoc {sizes f : List Nat} {i r : Nat} (hi : i < sizes.length) (hf : Drawn (sizes.take i) f) (hr : r < sizes.getD i 1) : Drawn (sizes.take (i + 1)) (f ++ [r]) := by
  obtain ⟨h1, h2⟩ := hf
  have e1 : (sizes.take i).length = i := by rw [List.length_take]; omega
  have e2 : (sizes.take (i + 1)).length = i + 1 := by rw [List.length_take]; omega
  rw [e1] at h1
  refine ⟨by rw [e2, List.length_append, h1]; rfl, fun j hj => ?_⟩
  rw [e2] at hj
  have g : ∀ (n j : Nat), j < n → (sizes.take n).getD j 1 = sizes.getD j 1 := fun n j hj => by
    rw [List.getD_eq_getElem?_getD, List.getD_eq_getElem?_getD, List.getElem?_take, if_pos hj]
  rw [g (i + 1) j hj]
  by_cases e : j = i
  · subst e
    rw [List.getD_eq_getElem?_getD, ← h1, List.getElem?_concat_length]
    rw [h1]; exact hr
  · rw [List.getD_eq_getElem?_getD, List.getElem?_append_left (by omega)]
    have := h2 j (by omega)
    rw [g i j (by omega), List.getD_eq_getElem?_getD] at this
    exact this
theorem draws_ok (f : P.fns 201 = some c__law_draws) (c : Int) {rs : Nat} {sizes : List Nat} (hs : h[rs]? = some (.lst (sizes.map nat))) (hp : ∀ x ∈ sizes, 0 < x ∧ x < 1000000) (hl : sizes.length ≤ 1000) :
    ∃ found : List Nat, callN P (d + 1) 201 [.int c, .ref rs] h = .ok (.ref h.length) (h ++ [.lst (found.map nat)]) ∧ Drawn sizes found := by
  rw [call_eq f (σ := [some (.int c), some (.ref rs), none, none, none, none, none]) rfl]
  unfold c__law_draws
  have hrs := get_lt hs
  have e0 : exec P (callN P d) (.set (.nm 2) (.lst (.lit .nil))) [some (.int c), some (.ref rs), none, none, none, none, none] h = .ok (.nx [some (.int c), some (.ref rs), some (.ref h.length), none, none, none, none]) (h ++ [.lst []]) := rfl
  rw [ex_nx e0]
  have gs : ∀ o : O, (h ++ [o])[rs]? = some (.lst (sizes.map nat)) := fun o => get_app hs
  have szi : ∀ i, i < sizes.length → (sizes.map nat)[i]? = some (nat (sizes.getD i 1)) ∧ 0 < sizes.getD i 1 ∧ sizes.getD i 1 < 1000000 := fun i hi => by
    have hx : sizes[i]? = some sizes[i] := List.getElem?_eq_getElem hi
    have := hp sizes[i] (List.getElem_mem _)
    refine ⟨by rw [List.getElem?_map, hx, List.getD_eq_getElem?_getD, hx]; rfl, ?_⟩
    rw [List.getD_eq_getElem?_getD, hx]; exact this
  have app : ∀ {σ : Sto} {fd : List Nat} {x : E} {r : Nat} (hσ : σ[2]? = some (some (.ref h.length))) (hf : fd.length ≤ 1000) (ex : ev P (callN P d) x σ (h ++ [.lst (fd.map nat)]) = .ok (nat r) (h ++ [.lst (fd.map nat)])), exec P (callN P d) (.expr (.app (.var 2) x)) σ (h ++ [.lst (fd.map nat)]) = .ok (.nx σ) (h ++ [.lst ((fd ++ [r]).map nat)]) := fun {σ fd x r} hσ hf ex => by
    have z := ex_expr (ev_app (ev_var hσ) (last_get _ _) ex (last_get _ _) (by rw [List.length_map]; simp only [LIM]; omega))
    rw [last_set] at z
    rw [z, List.map_append]; rfl
  have cge : ev P (callN P d) (.cmp .ge (.var 0) (.bin .pow (.int 10) (.int 18))) [some (.int c), some (.ref rs), some (.ref h.length), none, none, none, none] (h ++ [.lst []]) = .ok (.bl (decide ((1000000000000000000 : Int) ≤ c))) (h ++ [.lst []]) := by
    refine ev_cmp (y := .int 1000000000000000000) (ev_var rfl) ?_ rfl
    rfl
  by_cases hc : (1000000000000000000 : Int) ≤ c
  · rw [decide_eq_true hc] at cge
    have e1 : exec P (callN P d) (.set (.nm 3) (.bin .sub (.var 0) (.bin .pow (.int 10) (.int 18)))) [some (.int c), some (.ref rs), some (.ref h.length), none, none, none, none] (h ++ [.lst []]) = .ok (.nx [some (.int c), some (.ref rs), some (.ref h.length), some (.int (c - 1000000000000000000)), none, none, none]) (h ++ [.lst []]) := rfl
    obtain ⟨iv, ei, w⟩ := it_seq (P := P) (C := callN P d) (σ := [some (.int c), some (.ref rs), some (.ref h.length), some (.int (c - 1000000000000000000)), none, none, none]) (h := h ++ [.lst []]) (l := .of (.var 1)) (v := .val (.ref rs)) (xs := sizes.map nat) (evL_of (ev_var rfl)) (items_lst (gs _))
    rw [List.length_map] at w
    obtain ⟨σ', h', q, fd, l, s4, rfl, rfl, dr⟩ := for_w (t := .nm 4) (b := (.cons (.expr (.app (.var 2) (.bin .mod (.var 3) (.var 4)))) (.cons (.set (.nm 3) (.bin .fdiv (.var 3) (.var 4))) .nil))) ei w
      (fun i σ h' => ∃ (fd : List Nat) (l : Int) (s4 : Option D), σ = [some (.int c), some (.ref rs), some (.ref h.length), some (.int l), s4, none, none] ∧ h' = h ++ [.lst (fd.map nat)] ∧ Drawn (sizes.take i) fd)
      (fun i σ h' hI => by obtain ⟨_, _, _, _, rfl, _⟩ := hI; exact items_lst (gs _))
      (fun i σ h' hi hI => by
        obtain ⟨fd, l, s4, rfl, rfl, dr⟩ := hI
        obtain ⟨z1, z2, z3⟩ := szi i hi
        rw [nth_eq z1]
        obtain ⟨r, r1, r2⟩ := mod_small (x := l) z2
        have fl : fd.length ≤ 1000 := by have := dr.1; rw [List.length_take] at this; omega
        have em : ev P (callN P d) (.bin .mod (.var 3) (.var 4)) [some (.int c), some (.ref rs), some (.ref h.length), some (.int l), some (nat (sizes.getD i 1)), none, none] (h ++ [.lst (fd.map nat)]) = .ok (nat r) (h ++ [.lst (fd.map nat)]) := by
          have := mod_ok (P := P) (C := callN P d) (σ := [some (.int c), some (.ref rs), some (.ref h.length), some (.int l), some (nat (sizes.getD i 1)), none, none]) (h := h ++ [.lst (fd.map nat)]) (a := .var 3) (b := .var 4) (ev_var rfl) (ev_var rfl) z2
          rw [r1] at this
          exact this
        refine ⟨_, rfl, _, _, (ex_nx (app rfl fl em)).trans ((ex_nx (ex_set (fdiv_ok (ev_var rfl) (ev_var rfl) z2 z3) rfl)).trans ex_nil), fd ++ [r], l / (sizes.getD i 1 : Nat), _, rfl, rfl, dr.snoc hi r2⟩)
      ⟨[], _, none, rfl, rfl, by simp [Drawn]⟩
    rw [List.take_length] at dr
    refine ⟨fd, ?_, dr⟩
    rw [ex_rt (v := .ref h.length) (h1 := h ++ [.lst (fd.map nat)]) ((ex_if cge).trans (by rw [if_pos rfl, ex_nx e1, ex_nx q, ex_rt (ex_ret (ev_var rfl))]))]; rfl
  · rw [decide_eq_false hc] at cge
    rw [ex_nx (σ1 := [some (.int c), some (.ref rs), some (.ref h.length), none, none, none, none]) (h1 := h ++ [.lst []]) ((ex_if cge).trans (by rw [if_neg (by decide)]; rfl))]
    have l1 := ev_len (P := P) (C := callN P d) (σ := [some (.int c), some (.ref rs), some (.ref h.length), none, none, none, none]) (h := h ++ [.lst []]) (a := .var 1) (x := .ref rs) (xs := sizes.map nat) (ev_var rfl) (items_lst (gs _))
    rw [List.length_map] at l1
    obtain ⟨iv, ei, w⟩ := it_rng1 (n := sizes.length) l1 (by omega)
    obtain ⟨σ', h', q, fd, s5, s6, rfl, rfl, dr⟩ := for_w (t := .nm 5) (b := (.cons (.set (.nm 6) (.bin .mod (.bin .add (.bin .add (.bin .mul (.var 0) (.int 48271)) (.bin .mul (.var 5) (.int 69621))) (.int 11)) (.int 2147483647))) (.cons (.set (.nm 6) (.bin .mod (.bin .add (.bin .mul (.var 6) (.int 16807)) (.var 5)) (.int 998244353))) (.cons (.expr (.app (.var 2) (.bin .mod (.var 6) (.idx (.var 1) (.var 5))))) .nil)))) ei w
      (fun i σ h' => ∃ (fd : List Nat) (s5 s6 : Option D), σ = [some (.int c), some (.ref rs), some (.ref h.length), none, none, s5, s6] ∧ h' = h ++ [.lst (fd.map nat)] ∧ Drawn (sizes.take i) fd)
      (fun _ _ _ _ => trivial)
      (fun i σ h' hi hI => by
        obtain ⟨fd, s5, s6, rfl, rfl, dr⟩ := hI
        obtain ⟨z1, z2, z3⟩ := szi i hi
        have fl : fd.length ≤ 1000 := by have := dr.1; rw [List.length_take] at this; omega
        generalize hH : h ++ [O.lst (fd.map nat)] = H at *
        have gH : H[rs]? = some (.lst (sizes.map nat)) := by rw [← hH]; exact gs _
        have x0 : ∀ b : Option D, ev P (callN P d) (.bin .mod (.bin .add (.bin .add (.bin .mul (.var 0) (.int 48271)) (.bin .mul (.var 5) (.int 69621))) (.int 11)) (.int 2147483647)) [some (.int c), some (.ref rs), some (.ref h.length), none, none, some (nat i), b] H = .ok (.int ((c * 48271 + (i : Nat) * 69621 + 11) % (2147483647 : Nat))) H := fun b =>
          mod_ok (m := 2147483647) (ev_bin (ev_bin (mul_ok (ev_var rfl) rfl (by decide)) (mul_ok (x := (i : Nat)) (ev_var rfl) rfl (by decide)) rfl) rfl rfl) rfl (by decide)
        obtain ⟨m1, u1, u2⟩ := mod_small (x := c * 48271 + (i : Nat) * 69621 + 11) (m := 2147483647) (by decide)
        have x1 : ev P (callN P d) (.bin .mod (.bin .add (.bin .mul (.var 6) (.int 16807)) (.var 5)) (.int 998244353)) [some (.int c), some (.ref rs), some (.ref h.length), none, none, some (nat i), some (.int ((c * 48271 + (i : Nat) * 69621 + 11) % (2147483647 : Nat)))] H = .ok (.int (((c * 48271 + (i : Nat) * 69621 + 11) % (2147483647 : Nat) * 16807 + (i : Nat)) % (998244353 : Nat))) H :=
          mod_ok (m := 998244353) (ev_bin (mul_ok (ev_var rfl) rfl (by decide)) (ev_var (v := nat i) rfl) rfl) rfl (by decide)
        generalize ((c * 48271 + (i : Nat) * 69621 + 11) % (2147483647 : Nat) * 16807 + (i : Nat)) % (998244353 : Nat) = m2 at *
        obtain ⟨r, r1, r2⟩ := mod_small (x := m2) z2
        have em : ev P (callN P d) (.bin .mod (.var 6) (.idx (.var 1) (.var 5))) [some (.int c), some (.ref rs), some (.ref h.length), none, none, some (nat i), some (.int m2)] H = .ok (nat r) H := by
          have := mod_ok (P := P) (C := callN P d) (σ := [some (.int c), some (.ref rs), some (.ref h.length), none, none, some (nat i), some (.int m2)]) (h := H) (a := .var 6) (b := .idx (.var 1) (.var 5)) (x := m2) (ev_var rfl) (ev_idx (ev_var rfl) (ev_var rfl) (idx_lst gH z1 (by omega))) z2
          rw [r1] at this
          exact this
        rw [← hH] at em
        have e3 := app rfl fl em
        rw [hH] at e3
        refine ⟨_, rfl, _, _, (ex_nx (ex_set (x0 _) rfl)).trans ((ex_nx (ex_set x1 rfl)).trans ((ex_nx e3).trans ex_nil)), fd ++ [r], _, _, rfl, rfl, dr.snoc hi r2⟩)
      ⟨[], none, none, rfl, rfl, by simp [Drawn]⟩
    rw [List.take_length] at dr
    refine ⟨fd, ?_, dr⟩
    rw [ex_nx q, ex_rt (ex_ret (ev_var rfl))]; rfl
end
end PI

set_option maxRecDepth 100000
set_option maxHeartbeats 4000000
/-! RG: the tables that the laws draw. -/
namespace PI
open PySem
/-- a row of the drawn table -/
structure GoodRow (inner ends sides i : Nat) (l : List Nat) : Prop where
  len : l.length = sides
  lt : ∀ x ∈ l, x < inner + ends
  nx : i + 1 < inner → i + 1 ∈ l
  en : i < ends → inner + i ∈ l
  la : i + 1 = inner → ∃ e, e < ends ∧ inner + e ∈ l
theorem GoodRow.turn {inner ends sides i : Nat} {l : List Nat} (g : GoodRow inner ends sides i l) (k : Nat) : GoodRow inner ends sides i (l.drop k ++ l.take k) := by
  have hm : ∀ x, x ∈ l.drop k ++ l.take k ↔ x ∈ l := fun x => by
    have e : x ∈ l ↔ x ∈ l.take k ++ l.drop k := by rw [List.take_append_drop]
    rw [e, List.mem_append, List.mem_append]
    constructor <;> (intro h; rcases h with h | h <;> simp [h])
  refine ⟨?_, fun x hx => g.lt x ((hm x).mp hx), fun h => (hm _).mpr (g.nx h), fun h => (hm _).mpr (g.en h), fun h => ?_⟩
  · rw [List.length_append, List.length_drop, List.length_take, ← g.len]; omega
  · obtain ⟨e, h1, h2⟩ := g.la h
    exact ⟨e, h1, (hm _).mpr h2⟩
/-- the row of a state, ahead of its turn -/
def rowOf (inner ends sides i : Nat) (l : List Nat) : List Nat :=
  let l1 := if i + 1 < inner then l.set 0 (i + 1) else l
  if i < ends then l1.set (sides - 1) (inner + i) else if i + 1 = inner then l1.set (sides - 1) inner else l1
theorem rowOf_good {inner ends sides i : Nat} {l : List Nat} (hs : 2 ≤ sides) (hi : i < inner) (he : 1 ≤ ends) (hl : l.length = sides) (hb : ∀ x ∈ l, x < inner + ends) : GoodRow inner ends sides i (rowOf inner ends sides i l) := by
  have s1 : ∀ (l : List Nat) (k v : Nat), v < inner + ends → (∀ x ∈ l, x < inner + ends) → ∀ x ∈ l.set k v, x < inner + ends := fun l k v hv h x hx => by
    rcases List.mem_or_eq_of_mem_set hx with z | z
    · exact h x z
    · omega
  have m1 : ∀ (l : List Nat) (k v : Nat), k < l.length → v ∈ l.set k v := fun l k v hk => List.mem_iff_getElem?.mpr ⟨k, List.getElem?_set_self hk⟩
  have m2 : ∀ (l : List Nat) (k v : Nat), 0 < k → k < l.length → ∀ w, l[0]? = some w → w ∈ l.set k v := fun l k v h0 hk w hw => List.mem_iff_getElem?.mpr ⟨0, by rw [List.getElem?_set_ne (by omega)]; exact hw⟩
  unfold rowOf
  generalize hl1 : (if i + 1 < inner then l.set 0 (i + 1) else l) = l1
  have len1 : l1.length = sides := by rw [← hl1]; split <;> simp [hl]
  have b1 : ∀ x ∈ l1, x < inner + ends := by
    rw [← hl1]
    split
    · exact s1 l 0 (i + 1) (by omega) hb
    · exact hb
  have n1 : i + 1 < inner → l1[0]? = some (i + 1) := fun h => by
    rw [← hl1, if_pos h]; exact List.getElem?_set_self (by omega)
  dsimp only
  by_cases h1 : i < ends
  · rw [if_pos h1]
    refine ⟨by simp [len1], s1 l1 _ _ (by omega) b1, fun h => m2 l1 _ _ (by omega) (by omega) _ (n1 h), fun _ => m1 l1 _ _ (by omega), fun _ => ⟨i, h1, m1 l1 _ _ (by omega)⟩⟩
  · rw [if_neg h1]
    by_cases h2 : i + 1 = inner
    · rw [if_pos h2]
      exact ⟨by simp [len1], s1 l1 _ _ (by omega) b1, fun h => by omega, fun h => by omega, fun _ => ⟨0, by omega, m1 l1 _ _ (by omega)⟩⟩
    · rw [if_neg h2]
      exact ⟨len1, b1, fun h => List.mem_iff_getElem?.mpr ⟨0, n1 h⟩, fun h => by omega, fun h => by omega⟩
/-- a chain of rows, then outcomes -/
theorem chain_good {inner ends sides many : Nat} {rows : List (List Nat)} {outs : List Nat} (he1 : ends ≤ inner) (hr : rows.length = inner) (ho : outs.length = ends) (hp : 1 ≤ ends) (hle : inner + ends ≤ 100) (hg : ∀ i l, rows[i]? = some l → GoodRow inner ends sides i l) (hm : ∀ x ∈ outs, x < many) :
    TabGood sides many (rows.map Row.go ++ outs.map Row.out) ∧ (rows.map Row.go ++ outs.map Row.out).length = inner + ends := by
  have hlen : (rows.map Row.go ++ outs.map Row.out).length = inner + ends := by simp [hr, ho]
  have go : ∀ i l, (rows.map Row.go ++ outs.map Row.out)[i]? = some (Row.go l) → rows[i]? = some l := fun i l h => by
    by_cases hi : i < inner
    · rw [List.getElem?_append_left (by simp [hr]; omega), List.getElem?_map] at h
      obtain ⟨l', h1, h2⟩ := Option.map_eq_some_iff.mp h
      cases h2; exact h1
    · rw [List.getElem?_append_right (by simp [hr]; omega), List.getElem?_map] at h
      obtain ⟨l', h1, h2⟩ := Option.map_eq_some_iff.mp h
      cases h2
  have rowAt : ∀ i, i < inner → ∃ l, (rows.map Row.go ++ outs.map Row.out)[i]? = some (Row.go l) ∧ GoodRow inner ends sides i l := fun i hi => by
    have h1 : rows[i]? = some rows[i] := List.getElem?_eq_getElem (by omega)
    exact ⟨rows[i], by rw [List.getElem?_append_left (by simp [hr]; omega), List.getElem?_map, h1]; rfl, hg i _ h1⟩
  refine ⟨⟨fun r hr' => ?_, fun L h0 hc s hs => ?_, ⟨fun s => if s < inner then inner - s else 0, fun s l h => ?_⟩, by omega, by omega⟩, hlen⟩
  · rcases List.mem_append.mp hr' with h | h
    · obtain ⟨l, hl, rfl⟩ := List.mem_map.mp h
      obtain ⟨i, hi, rfl⟩ := List.getElem_of_mem hl
      have g := hg i _ (List.getElem?_eq_getElem hi)
      exact ⟨g.len, fun x hx => by rw [hlen]; exact g.lt x hx⟩
    · obtain ⟨x, hx, rfl⟩ := List.mem_map.mp h
      exact hm x hx
  · rw [hlen] at hs
    have inn : ∀ i, i < inner → i ∈ L := by
      intro i
      induction i with
      | zero => intro _; exact h0
      | succ i ih =>
        intro hi
        obtain ⟨l, e, g⟩ := rowAt i (by omega)
        exact hc i (ih (by omega)) _ e (i + 1) (g.nx hi)
    by_cases hsi : s < inner
    · exact inn s hsi
    · obtain ⟨l, e, g⟩ := rowAt (s - inner) (by omega)
      have := g.en (by omega)
      rw [show inner + (s - inner) = s by omega] at this
      exact hc _ (inn _ (by omega)) _ e s this
  · have h1 := go s l h
    have hs : s < inner := by have := (List.getElem?_eq_some_iff.mp h1).1; omega
    have g := hg s l h1
    by_cases h2 : s + 1 < inner
    · exact ⟨s + 1, g.nx h2, by dsimp only; rw [if_pos h2, if_pos hs]; omega⟩
    · obtain ⟨e, he, hm'⟩ := g.la (by omega)
      exact ⟨inner + e, hm', by dsimp only; rw [if_neg (by omega), if_pos hs]; omega⟩
theorem single_good {sides many o : Nat} (ho : o < many) : TabGood sides many [.out o] :=
  ⟨fun r hr => by simp at hr; subst hr; exact ho, fun L h0 _ s hs => by simp at hs; subst hs; exact h0, ⟨fun _ => 0, fun s l h => by cases s <;> simp at h⟩, by simp, by simp⟩
section
variable {P : Pg} {d : Nat} {h : Hh}
theorem nth_lst {C : Nat → List D → Hh → R D} {σ : Sto} {a b : E} {r i x : Nat} {l : List Nat} {h1 h2 : Hh} (ea : ev P C a σ h = .ok (.ref r) h1) (eb : ev P C b σ h1 = .ok (nat i) h2) (hr : h2[r]? = some (.lst (l.map nat))) (hx : l[i]? = some x) (hi : i < 1000000) : ev P C (.idx a b) σ h = .ok (nat x) h2 :=
  ev_idx ea eb (idx_lst hr (by rw [List.getElem?_map, hx]; rfl) hi)
theorem nat_mod {C : Nat → List D → Hh → R D} {σ : Sto} {a b : E} {x m : Nat} (ea : ev P C a σ h = .ok (nat x) h) (eb : ev P C b σ h = .ok (nat m) h) (hm : 0 < m) : ev P C (.bin .mod a b) σ h = .ok (nat (x % m)) h := by
  have := mod_ok (P := P) (x := (x : Nat)) ea eb hm
  rw [this]
  show R.ok (D.int _) h = R.ok (D.int _) h
  rw [Int.natCast_emod]
theorem nat_add {C : Nat → List D → Hh → R D} {σ : Sto} {a b : E} {x m : Nat} (ea : ev P C a σ h = .ok (nat x) h) (eb : ev P C b σ h = .ok (nat m) h) : ev P C (.bin .add a b) σ h = .ok (nat (x + m)) h := by
  refine ev_bin ea eb ?_
  show R.ok (D.int _) h = R.ok (D.int _) h
  rw [Int.natCast_add]
theorem nat_mul {C : Nat → List D → Hh → R D} {σ : Sto} {a b : E} {x m : Nat} (ea : ev P C a σ h = .ok (nat x) h) (eb : ev P C b σ h = .ok (nat m) h) (hm : m < 1000000) : ev P C (.bin .mul a b) σ h = .ok (nat (x * m)) h := by
  have := mul_ok (P := P) (x := (x : Nat)) (y := (m : Nat)) ea eb (by omega)
  rw [this]
  show R.ok (D.int _) h = R.ok (D.int _) h
  rw [Int.natCast_mul]
theorem nat_pred {C : Nat → List D → Hh → R D} {σ : Sto} {a : E} {x : Nat} (ea : ev P C a σ h = .ok (nat x) h) (hx : 1 ≤ x) : ev P C (.bin .sub a (.int 1)) σ h = .ok (nat (x - 1)) h := by
  refine ev_bin ea (show ev P C (.int 1) σ h = .ok (.int 1) h from rfl) ?_
  show R.ok (D.int _) h = R.ok (D.int _) h
  congr 2
  omega
theorem nat_lt {C : Nat → List D → Hh → R D} {σ : Sto} {a b : E} {x m : Nat} (ea : ev P C a σ h = .ok (nat x) h) (eb : ev P C b σ h = .ok (nat m) h) : ev P C (.cmp .lt a b) σ h = .ok (.bl (decide (x < m))) h := by
  refine ev_cmp ea eb ?_
  show some (decide (((x : Nat) : Int) < (m : Nat))) = _
  congr 1
  rw [decide_eq_decide]; omega
theorem nat_eq {C : Nat → List D → Hh → R D} {σ : Sto} {a b : E} {x m : Nat} (ea : ev P C a σ h = .ok (nat x) h) (eb : ev P C b σ h = .ok (nat m) h) : ev P C (.cmp .eq a b) σ h = .ok (.bl (decide (x = m))) h := by
  refine ev_cmp ea eb ?_
  rw [show cmpop .eq (nat x) (nat m) h = _ from eq_int]
  congr 1
  rw [decide_eq_decide]; omega
theorem cut_from (l : List D) (k : Nat) : cutD l (some (k : Nat)) none = l.drop k := by
  unfold cutD
  rw [HT.sIx_nat, HT.sIx_none]
  by_cases hk : k ≤ l.length
  · rw [show min k l.length = k by omega, List.take_of_length_le (by rw [List.length_drop]; omega)]
  · rw [show min k l.length = l.length by omega, List.drop_eq_nil_of_le (Nat.le_refl _), List.drop_eq_nil_of_le (by omega)]; simp
theorem cut_to (l : List D) (k : Nat) : cutD l none (some (k : Nat)) = l.take k := by
  unfold cutD
  rw [HT.sIx_nat, HT.sIx_none, List.drop_zero, Nat.sub_zero]
  by_cases hk : k ≤ l.length
  · rw [show min k l.length = k by omega]
  · rw [show min k l.length = l.length by omega, List.take_of_length_le (Nat.le_refl _), List.take_of_length_le (by omega)]
theorem sl_from {C : Nat → List D → Hh → R D} {σ : Sto} {a b : E} {r k : Nat} {l : List D} {h1 h2 : Hh} (ea : ev P C a σ h = .ok (.ref r) h1) (eb : ev P C b σ h1 = .ok (nat k) h2) (hr : h2[r]? = some (.lst l)) : ev P C (.sl a (.some b) .none) σ h = .ok (.ref h2.length) (h2 ++ [.lst (l.drop k)]) := by
  rw [ev, ea, R.bnd_ok, evO, eb, R.bnd_ok]
  show R.bnd (R.ok (some (k : Int)) h2) _ = _
  rw [R.bnd_ok, evO, R.bnd_ok]
  show slop (.ref r) (some (k : Nat)) none h2 = _
  unfold slop
  simp only [lstOf_at hr, cut_from]
  rfl
theorem sl_to {C : Nat → List D → Hh → R D} {σ : Sto} {a b : E} {r k : Nat} {l : List D} {h1 h2 : Hh} (ea : ev P C a σ h = .ok (.ref r) h1) (eb : ev P C b σ h1 = .ok (nat k) h2) (hr : h2[r]? = some (.lst l)) : ev P C (.sl a .none (.some b)) σ h = .ok (.ref h2.length) (h2 ++ [.lst (l.take k)]) := by
  rw [ev, ea, R.bnd_ok, evO, R.bnd_ok, evO, eb, R.bnd_ok]
  show R.bnd (R.ok (some (k : Int)) h2) _ = _
  rw [R.bnd_ok]
  show slop (.ref r) none (some (k : Nat)) h2 = _
  unfold slop
  simp only [lstOf_at hr, cut_to]
  rfl
theorem add_lists {C : Nat → List D → Hh → R D} {σ : Sto} {a b : E} {r s : Nat} {l m : List D} {h1 h2 : Hh} (ea : ev P C a σ h = .ok (.ref r) h1) (eb : ev P C b σ h1 = .ok (.ref s) h2) (hr : h2[r]? = some (.lst l)) (hs : h2[s]? = some (.lst m)) (hl : l.length + m.length ≤ LIM) : ev P C (.bin .add a b) σ h = .ok (.ref h2.length) (h2 ++ [.lst (l ++ m)]) := by
  refine ev_bin ea eb ?_
  show (match lstOf h2 r, lstOf h2 s with
    | some xs, some ys => if xs.length + ys.length ≤ LIM then alloc h2 (.lst (xs ++ ys)) else .bad
    | _, _ => .bad) = _
  rw [lstOf_at hr, lstOf_at hs]
  dsimp only
  rw [if_pos hl]; rfl
def sizesT : List Nat := [6, 6, 7, 7, 7, 7, 7, 7] ++ List.replicate 48 60
theorem sizesT_get : ∀ i, i < 48 → sizesT.getD (8 + i) 1 = 60 := by decide
theorem table_ok (f1 : P.fns 201 = some c__law_draws) (f3 : P.fns 203 = some c__law_table) (c : Int) {sides many : Nat} (h2 : 2 ≤ sides) (h6 : sides ≤ 6) (hm : 1 ≤ many) :
    ∃ (t : List Row) (h' : Hh), callN P (d + 2) 203 [.int c, nat sides, nat many] h = .ok (tabD t) h' ∧ Kp h h' ∧ TabGood sides many t ∧ t.length ≤ 10 := by
  rw [call_eq f3 (σ := [some (.int c), some (nat sides), some (nat many), none, none, none, none, none, none, none, none, none, none]) rfl]
  unfold c__law_table
  generalize hσ0 : [some (.int c), some (nat sides), some (nat many), none, none, none, none, none, none, none, none, none, none] = σ0
  -- the draws
  have a1 : ev P (callN P (d + 1)) (.lst (.lit (.cons (.int 6) (.cons (.int 6) (.cons (.int 7) (.cons (.int 7) (.cons (.int 7) (.cons (.int 7) (.cons (.int 7) (.cons (.int 7) .nil)))))))))) σ0 h = .ok (.ref h.length) (h ++ [.lst ([6, 6, 7, 7, 7, 7, 7, 7].map nat)]) := rfl
  generalize hH1 : h ++ [O.lst ([6, 6, 7, 7, 7, 7, 7, 7].map nat)] = H1 at a1
  have k1 : Kp h H1 := by rw [← hH1]; exact Kp.app _ _
  have g1 : H1[h.length]? = some (.lst ([6, 6, 7, 7, 7, 7, 7, 7].map nat)) := by rw [← hH1]; exact last_get _ _
  have a2 : ev P (callN P (d + 1)) (.bin .mul (.lst (.lit (.cons (.int 60) .nil))) (.int 48)) σ0 H1 = .ok (.ref (H1.length + 1)) (H1 ++ [.lst [nat 60], .lst ((List.replicate 48 60).map nat)]) := by
    have b1 : ev P (callN P (d + 1)) (.lst (.lit (.cons (.int 60) .nil))) σ0 H1 = .ok (.ref H1.length) (H1 ++ [.lst [nat 60]]) := rfl
    refine ev_bin b1 (show ev P (callN P (d + 1)) (.int 48) σ0 _ = .ok (.int 48) _ from rfl) ?_
    show (match lstOf (H1 ++ [O.lst [nat 60]]) H1.length with
      | some xs => if (48 : Int) ≤ 1000000 ∧ -1000000 ≤ (48 : Int) ∧ xs.length * (48 : Int).toNat ≤ LIM then alloc (H1 ++ [O.lst [nat 60]]) (.lst (List.replicate (48 : Int).toNat xs).flatten) else .bad
      | none => .bad) = _
    rw [lstOf_at (last_get _ _)]
    dsimp only
    rw [if_pos (by simp [LIM])]
    show R.ok (D.ref (H1 ++ [O.lst [nat 60]]).length) ((H1 ++ [O.lst [nat 60]]) ++ [O.lst (List.replicate 48 [nat 60]).flatten]) = _
    rw [List.length_append, List.append_assoc]
    rfl
  have a3 := add_lists a1 a2 (l := [6, 6, 7, 7, 7, 7, 7, 7].map nat) (m := (List.replicate 48 60).map nat) (get_app g1) get_at1 (by decide)
  rw [← List.map_append] at a3
  have eT : [6, 6, 7, 7, 7, 7, 7, 7] ++ List.replicate 48 60 = sizesT := rfl
  rw [eT] at a3
  generalize hH2 : H1 ++ [O.lst [nat 60], .lst ((List.replicate 48 60).map nat)] = H2 at a3
  have k2 : Kp h H2 := k1.trans (by rw [← hH2]; exact Kp.app _ _)
  generalize hH3 : H2 ++ [O.lst (sizesT.map nat)] = H3 at a3
  have g3 : H3[H2.length]? = some (.lst (sizesT.map nat)) := by rw [← hH3]; exact last_get _ _
  have k3 : Kp h H3 := k2.trans (by rw [← hH3]; exact Kp.app _ _)
  obtain ⟨dr, q1, dlen, dlt⟩ := draws_ok (d := d) (h := H3) f1 c g3 (by decide) (by decide)
  have dl : dr.length = 56 := dlen
  have e1 : exec P (callN P (d + 1)) (.set (.nm 3) (.call 201 (.cons (.var 0) (.cons (.bin .add (.lst (.lit (.cons (.int 6) (.cons (.int 6) (.cons (.int 7) (.cons (.int 7) (.cons (.int 7) (.cons (.int 7) (.cons (.int 7) (.cons (.int 7) .nil)))))))))) (.bin .mul (.lst (.lit (.cons (.int 60) .nil))) (.int 48))) .nil)))) σ0 h = .ok (.nx [some (.int c), some (nat sides), some (nat many), some (.ref H3.length), none, none, none, none, none, none, none, none, none]) (H3 ++ [.lst (dr.map nat)]) :=
    ex_set ((ev_call (evs_cons (ev_var (by rw [← hσ0]; rfl)) (evs_cons a3 evs_nil))).trans q1) (by rw [← hσ0]; rfl)
  rw [ex_nx e1]
  generalize hr3 : H3.length = r3 at *
  generalize hH4 : H3 ++ [O.lst (dr.map nat)] = H4 at *
  have g4 : H4[r3]? = some (.lst (dr.map nat)) := by rw [← hH4, ← hr3]; exact last_get _ _
  have k4 : Kp h H4 := k3.trans (by rw [← hH4]; exact Kp.app _ _)
  have dget : ∀ i, i < 56 → dr[i]? = some (dr.getD i 0) := fun i hi => by rw [List.getD_eq_getElem?_getD, List.getElem?_eq_getElem (by omega)]; rfl
  have b0 : dr.getD 0 0 < 6 := dlt 0 (by decide)
  have b1 : dr.getD 1 0 < 6 := dlt 1 (by decide)
  generalize hin : dr.getD 0 0 = inner at *
  have e2 : exec P (callN P (d + 1)) (.set (.nm 4) (.idx (.var 3) (.int 0))) [some (.int c), some (nat sides), some (nat many), some (.ref r3), none, none, none, none, none, none, none, none, none] H4 = .ok (.nx [some (.int c), some (nat sides), some (nat many), some (.ref r3), some (nat inner), none, none, none, none, none, none, none, none]) H4 :=
    ex_set (nth_lst (ev_var rfl) (show ev P (callN P (d + 1)) (.int 0) _ H4 = .ok (nat 0) H4 from rfl) g4 (by rw [dget 0 (by omega), hin]) (by omega)) rfl
  rw [ex_nx e2]
  have i1 : ∀ σ : Sto, σ[3]? = some (some (.ref r3)) → ev P (callN P (d + 1)) (.idx (.var 3) (.int 1)) σ H4 = .ok (nat (dr.getD 1 0)) H4 := fun σ hσ => nth_lst (ev_var hσ) (show ev P (callN P (d + 1)) (.int 1) _ H4 = .ok (nat 1) H4 from rfl) g4 (dget 1 (by omega)) (by omega)
  have c0 := nat_eq (P := P) (C := callN P (d + 1)) (σ := [some (.int c), some (nat sides), some (nat many), some (.ref r3), some (nat inner), none, none, none, none, none, none, none, none]) (h := H4) (a := .var 4) (b := .int 0) (x := inner) (m := 0) (ev_var rfl) rfl
  by_cases hz : inner = 0
  · rw [decide_eq_true hz] at c0
    have mo := nat_mod (i1 [some (.int c), some (nat sides), some (nat many), some (.ref r3), some (nat inner), none, none, none, none, none, none, none, none] rfl) (b := .var 2) (m := many) (ev_var rfl) (by omega)
    refine ⟨[.out (dr.getD 1 0 % many)], H4, ?_, k4, single_good (Nat.mod_lt _ (by omega)), by simp⟩
    rw [ex_rt (v := tabD [.out (dr.getD 1 0 % many)]) (h1 := H4) ((ex_if c0).trans (by rw [if_pos rfl, ex_rt (ex_ret (ev_tup (evs_cons mo evs_nil) (by simp [LIM])))]; rfl))]; rfl
  rw [decide_eq_false hz] at c0
  rw [ex_nx (σ1 := [some (.int c), some (nat sides), some (nat many), some (.ref r3), some (nat inner), none, none, none, none, none, none, none, none]) (h1 := H4) ((ex_if c0).trans (by rw [if_neg (by decide)]; rfl))]
  generalize hen : 1 + dr.getD 1 0 % inner = ends
  have hends : 1 ≤ ends ∧ ends ≤ inner := by
    have := Nat.mod_lt (dr.getD 1 0) (show 0 < inner by omega)
    omega
  have e3 : exec P (callN P (d + 1)) (.set (.nm 5) (.bin .add (.int 1) (.bin .mod (.idx (.var 3) (.int 1)) (.var 4)))) [some (.int c), some (nat sides), some (nat many), some (.ref r3), some (nat inner), none, none, none, none, none, none, none, none] H4 = .ok (.nx [some (.int c), some (nat sides), some (nat many), some (.ref r3), some (nat inner), some (nat ends), none, none, none, none, none, none, none]) H4 :=
    ex_set (nat_add (show ev P (callN P (d + 1)) (.int 1) _ H4 = .ok (nat 1) H4 from rfl) (nat_mod (i1 _ rfl) (ev_var rfl) (by omega))) (by rw [hen]; rfl)
  have e4 : exec P (callN P (d + 1)) (.set (.nm 6) (.bin .add (.var 4) (.var 5))) [some (.int c), some (nat sides), some (nat many), some (.ref r3), some (nat inner), some (nat ends), none, none, none, none, none, none, none] H4 = .ok (.nx [some (.int c), some (nat sides), some (nat many), some (.ref r3), some (nat inner), some (nat ends), some (nat (inner + ends)), none, none, none, none, none, none]) H4 :=
    ex_set (nat_add (ev_var rfl) (ev_var rfl)) rfl
  have e5 : exec P (callN P (d + 1)) (.set (.nm 7) (.lst (.lit .nil))) [some (.int c), some (nat sides), some (nat many), some (.ref r3), some (nat inner), some (nat ends), some (nat (inner + ends)), none, none, none, none, none, none] H4 = .ok (.nx [some (.int c), some (nat sides), some (nat many), some (.ref r3), some (nat inner), some (nat ends), some (nat (inner + ends)), some (.ref H4.length), none, none, none, none, none]) (H4 ++ [.lst []]) := rfl
  rw [ex_nx e3, ex_nx e4, ex_nx e5]
  obtain ⟨iv, ei, w⟩ := it_rng1 (P := P) (C := callN P (d + 1)) (σ := [some (.int c), some (nat sides), some (nat many), some (.ref r3), some (nat inner), some (nat ends), some (nat (inner + ends)), some (.ref H4.length), none, none, none, none, none]) (h := H4 ++ [.lst []]) (x := .var 4) (n := inner) (ev_var rfl) (by omega)
  obtain ⟨σ', h', q, s8, s9, s10, s11, rows, rfl, kH, hrows, hlen, good⟩ := for_w (t := .nm 8) (b := (.cons (.set (.nm 9) (.lst (.comp (.bin .mod (.idx (.var 3) (.bin .add (.int 8) (.bin .mod (.bin .add (.bin .mul (.var 8) (.var 1)) (.var 10)) (.int 48)))) (.var 6)) (.nm 10) (.rng1 (.var 1)) .none [10]))) (.cons (.if_ (.cmp .lt (.var 8) (.bin .sub (.var 4) (.int 1))) (.cons (.sub (.var 9) (.int 0) (.bin .add (.var 8) (.int 1))) .nil) .nil) (.cons (.if_ (.cmp .lt (.var 8) (.var 5)) (.cons (.sub (.var 9) (.bin .sub (.var 1) (.int 1)) (.bin .add (.var 4) (.var 8))) .nil) (.cons (.if_ (.cmp .eq (.var 8) (.bin .sub (.var 4) (.int 1))) (.cons (.sub (.var 9) (.bin .sub (.var 1) (.int 1)) (.var 4)) .nil) .nil) .nil)) (.cons (.set (.nm 11) (.bin .mod (.idx (.var 3) (.bin .add (.int 2) (.var 8))) (.var 1))) (.cons (.expr (.app (.var 7) (.tupl (.of (.bin .add (.sl (.var 9) (.some (.var 11)) .none) (.sl (.var 9) .none (.some (.var 11)))))))) .nil)))))) ei w
    (fun i σ h' => ∃ (s8 s9 s10 s11 : Option D) (rows : List (List Nat)), σ = [some (.int c), some (nat sides), some (nat many), some (.ref r3), some (nat inner), some (nat ends), some (nat (inner + ends)), some (.ref H4.length), s8, s9, s10, s11, none] ∧ Kp H4 h' ∧ h'[H4.length]? = some (.lst (rows.map fun l => (Row.go l).d)) ∧ rows.length = i ∧ ∀ j l, rows[j]? = some l → GoodRow inner ends sides j l)
    (fun _ _ _ _ => trivial) (fun i σ h' hi hI => by
      obtain ⟨s8, s9, s10, s11, rows, rfl, kH, hrows, hlen, good⟩ := hI
      have gd := kH.get g4
      have lH : H4.length < h'.length := get_lt hrows
      -- row = [..]
      let l0 : List Nat := (List.range sides).map fun k => dr.getD (8 + (i * sides + k) % 48) 0 % (inner + ends)
      have hl0 : l0.length = sides := by simp [l0]
      have bl0 : ∀ x ∈ l0, x < inner + ends := fun x hx => by
        obtain ⟨k, _, rfl⟩ := List.mem_map.mp hx
        exact Nat.mod_lt _ (by omega)
      obtain ⟨iv2, ei2, w2⟩ := it_rng1 (P := P) (C := callN P (d + 1)) (σ := [some (.int c), some (nat sides), some (nat many), some (.ref r3), some (nat inner), some (nat ends), some (nat (inner + ends)), some (.ref H4.length), some (nat i), s9, s10, s11, none]) (h := h') (x := .var 1) (n := sides) (ev_var rfl) (by omega)
      have cm := comp_ok (t := .nm 10) (own := [10]) (e := .bin .mod (.idx (.var 3) (.bin .add (.int 8) (.bin .mod (.bin .add (.bin .mul (.var 8) (.var 1)) (.var 10)) (.int 48)))) (.var 6)) ei2 w2 trivial (by simp only [LIM]; omega) (fun k => nat (dr.getD (8 + (i * sides + k) % 48) 0 % (inner + ends))) (fun k hk => by
        refine ⟨[some (.int c), some (nat sides), some (nat many), some (.ref r3), some (nat inner), some (nat ends), some (nat (inner + ends)), some (.ref H4.length), some (nat i), s9, some (nat k), s11, none], rfl, ?_⟩
        have hk48 := Nat.mod_lt (i * sides + k) (show 0 < 48 by omega)
        refine nat_mod (nth_lst (ev_var rfl) (nat_add (show ev P (callN P (d + 1)) (.int 8) _ h' = .ok (nat 8) h' from rfl) (nat_mod (m := 48) (nat_add (nat_mul (ev_var rfl) (ev_var rfl) (by omega)) (ev_var rfl)) rfl (by omega))) gd (dget _ (by omega)) (by omega)) (ev_var rfl) (by omega))
      have el0 : (List.range sides).map (fun k => nat (dr.getD (8 + (i * sides + k) % 48) 0 % (inner + ends))) = l0.map nat := by simp [l0]
      rw [el0] at cm
      have f1 := ex_set (t := .nm 9) (ev_lst cm) (show asT (.nm 9) (.ref h'.length) [some (.int c), some (nat sides), some (nat many), some (.ref r3), some (nat inner), some (nat ends), some (nat (inner + ends)), some (.ref H4.length), some (nat i), s9, s10, s11, none] = some [some (.int c), some (nat sides), some (nat many), some (.ref r3), some (nat inner), some (nat ends), some (nat (inner + ends)), some (.ref H4.length), some (nat i), some (.ref h'.length), s10, s11, none] from rfl)
      generalize hr9 : h'.length = r9 at *
      generalize hσ1 : [some (.int c), some (nat sides), some (nat many), some (.ref r3), some (nat inner), some (nat ends), some (nat (inner + ends)), some (.ref H4.length), some (nat i), some (.ref r9), s10, s11, none] = σ1 at f1
      have v1 : ∀ h, ev P (callN P (d + 1)) (.var 1) σ1 h = .ok (nat sides) h := fun h => by rw [← hσ1]; exact ev_var rfl
      have v4 : ∀ h, ev P (callN P (d + 1)) (.var 4) σ1 h = .ok (nat inner) h := fun h => by rw [← hσ1]; exact ev_var rfl
      have v5 : ∀ h, ev P (callN P (d + 1)) (.var 5) σ1 h = .ok (nat ends) h := fun h => by rw [← hσ1]; exact ev_var rfl
      have v8 : ∀ h, ev P (callN P (d + 1)) (.var 8) σ1 h = .ok (nat i) h := fun h => by rw [← hσ1]; exact ev_var rfl
      have v9 : ∀ h, ev P (callN P (d + 1)) (.var 9) σ1 h = .ok (.ref r9) h := fun h => by rw [← hσ1]; exact ev_var rfl
      have ra : ∀ l : List Nat, (h' ++ [O.lst (l.map nat)])[r9]? = some (.lst (l.map nat)) := fun l => by rw [← hr9]; exact last_get _ _
      have st : ∀ (l : List Nat) (k v : Nat) (ek eo : E), l.length = sides → k < sides → (∀ h, ev P (callN P (d + 1)) ek σ1 h = .ok (nat k) h) → (∀ h, ev P (callN P (d + 1)) eo σ1 h = .ok (nat v) h) → exec P (callN P (d + 1)) (.sub (.var 9) ek eo) σ1 (h' ++ [.lst (l.map nat)]) = .ok (.nx σ1) (h' ++ [.lst ((l.set k v).map nat)]) := fun l k v ek eo hl hk e1 e2 => by
        have z := ex_subL (P := P) (C := callN P (d + 1)) (σ := σ1) (h := h' ++ [.lst (l.map nat)]) (o := .var 9) (i := ek) (x := eo) (e2 _) (v9 _) (e1 _) (ra l) (by rw [List.length_map]; omega)
        rw [z, ← hr9, last_set, ← List.map_set]
      -- the chain
      have f2 : exec P (callN P (d + 1)) (.if_ (.cmp .lt (.var 8) (.bin .sub (.var 4) (.int 1))) (.cons (.sub (.var 9) (.int 0) (.bin .add (.var 8) (.int 1))) .nil) .nil) σ1 (h' ++ [.lst (l0.map nat)]) = .ok (.nx σ1) (h' ++ [.lst ((if i + 1 < inner then l0.set 0 (i + 1) else l0).map nat)]) := by
        have cc := nat_lt (v8 (h' ++ [.lst (l0.map nat)])) (nat_pred (v4 (h' ++ [.lst (l0.map nat)])) (by omega))
        by_cases hc : i + 1 < inner
        · rw [decide_eq_true (by omega)] at cc
          rw [if_pos hc]
          exact (ex_if cc).trans (by rw [if_pos rfl, ex_nx (st l0 0 (i + 1) (.int 0) _ hl0 (by omega) (fun _ => rfl) (fun h => nat_add (v8 h) (show ev P (callN P (d + 1)) (.int 1) _ h = .ok (nat 1) h from rfl)))]; rfl)
        · rw [decide_eq_false (by omega)] at cc
          rw [if_neg hc]
          exact (ex_if cc).trans (by rw [if_neg (by decide)]; rfl)
      generalize hl1 : (if i + 1 < inner then l0.set 0 (i + 1) else l0) = l1 at f2
      have len1 : l1.length = sides := by rw [← hl1]; split <;> simp [hl0]
      have f3 : exec P (callN P (d + 1)) (.if_ (.cmp .lt (.var 8) (.var 5)) (.cons (.sub (.var 9) (.bin .sub (.var 1) (.int 1)) (.bin .add (.var 4) (.var 8))) .nil) (.cons (.if_ (.cmp .eq (.var 8) (.bin .sub (.var 4) (.int 1))) (.cons (.sub (.var 9) (.bin .sub (.var 1) (.int 1)) (.var 4)) .nil) .nil) .nil)) σ1 (h' ++ [.lst (l1.map nat)]) = .ok (.nx σ1) (h' ++ [.lst ((rowOf inner ends sides i l0).map nat)]) := by
        unfold rowOf
        rw [hl1]
        dsimp only
        have cc := nat_lt (v8 (h' ++ [.lst (l1.map nat)])) (v5 (h' ++ [.lst (l1.map nat)]))
        by_cases hc : i < ends
        · rw [decide_eq_true hc] at cc
          rw [if_pos hc]
          exact (ex_if cc).trans (by rw [if_pos rfl, ex_nx (st l1 (sides - 1) (inner + i) _ _ len1 (by omega) (fun h => nat_pred (v1 h) (by omega)) (fun h => nat_add (v4 h) (v8 h)))]; rfl)
        · rw [decide_eq_false hc] at cc
          rw [if_neg hc]
          refine (ex_if cc).trans ?_
          rw [if_neg (by decide)]
          have c2 := nat_eq (v8 (h' ++ [.lst (l1.map nat)])) (nat_pred (v4 (h' ++ [.lst (l1.map nat)])) (by omega))
          by_cases hc2 : i + 1 = inner
          · rw [decide_eq_true (by omega)] at c2
            rw [if_pos hc2]
            rw [ex_nx (σ1 := σ1) (h1 := h' ++ [.lst ((l1.set (sides - 1) inner).map nat)]) ((ex_if c2).trans (by rw [if_pos rfl, ex_nx (st l1 (sides - 1) inner _ _ len1 (by omega) (fun h => nat_pred (v1 h) (by omega)) v4)]; rfl))]; rfl
          · rw [decide_eq_false (by omega)] at c2
            rw [if_neg hc2]
            rw [ex_nx (σ1 := σ1) (h1 := h' ++ [.lst (l1.map nat)]) ((ex_if c2).trans (by rw [if_neg (by decide)]; rfl))]; rfl
      have gr := rowOf_good (inner := inner) (ends := ends) (sides := sides) (i := i) (l := l0) h2 hi hends.1 hl0 bl0
      generalize rowOf inner ends sides i l0 = l2 at *
      generalize hG : h' ++ [O.lst (l2.map nat)] = G at *
      have kG : Kp h' G := by rw [← hG]; exact Kp.app _ _
      have g9 : G[r9]? = some (.lst (l2.map nat)) := by rw [← hG]; exact ra l2
      have i2 : 2 + i < 56 := by omega
      have f4 : exec P (callN P (d + 1)) (.set (.nm 11) (.bin .mod (.idx (.var 3) (.bin .add (.int 2) (.var 8))) (.var 1))) σ1 G = .ok (.nx [some (.int c), some (nat sides), some (nat many), some (.ref r3), some (nat inner), some (nat ends), some (nat (inner + ends)), some (.ref H4.length), some (nat i), some (.ref r9), s10, some (nat (dr.getD (2 + i) 0 % sides)), none]) G := by
        refine ex_set (nat_mod (nth_lst (r := r3) (by rw [← hσ1]; exact ev_var rfl) (nat_add (show ev P (callN P (d + 1)) (.int 2) _ G = .ok (nat 2) G from rfl) (v8 G)) (kG.get gd) (dget _ i2) (by omega)) (v1 G) (by omega)) (by rw [← hσ1]; rfl)
      generalize dr.getD (2 + i) 0 % sides = tn at *
      have s1 := sl_from (P := P) (C := callN P (d + 1)) (σ := [some (.int c), some (nat sides), some (nat many), some (.ref r3), some (nat inner), some (nat ends), some (nat (inner + ends)), some (.ref H4.length), some (nat i), some (.ref r9), s10, some (nat tn), none]) (h := G) (a := .var 9) (b := .var 11) (k := tn) (ev_var rfl) (ev_var rfl) g9
      have s2 := sl_to (P := P) (C := callN P (d + 1)) (σ := [some (.int c), some (nat sides), some (nat many), some (.ref r3), some (nat inner), some (nat ends), some (nat (inner + ends)), some (.ref H4.length), some (nat i), some (.ref r9), s10, some (nat tn), none]) (h := G ++ [.lst ((l2.map nat).drop tn)]) (a := .var 9) (b := .var 11) (k := tn) (ev_var rfl) (ev_var rfl) (get_app g9)
      have s3 := add_lists s1 s2 (get_app (last_get _ _)) (last_get _ _) (by
        rw [List.length_drop, List.length_take, List.length_map, gr.len]; simp only [LIM]; omega)
      generalize hG2 : (G ++ [O.lst ((l2.map nat).drop tn)] ++ [O.lst ((l2.map nat).take tn)]) = G2 at s3
      have e9 : (l2.map nat).drop tn ++ (l2.map nat).take tn = (l2.drop tn ++ l2.take tn).map nat := by rw [List.map_append, List.map_drop, List.map_take]
      rw [e9] at s3
      have gr2 := gr.turn tn
      generalize l2.drop tn ++ l2.take tn = l3 at *
      have kG3 : Kp h' (G2 ++ [.lst (l3.map nat)]) := kG.trans (Kp.trans (Kp.trans (Kp.app _ _) (by rw [← hG2]; exact Kp.app _ _)) (Kp.app _ _))
      have s4 := ev_tupl (evL_of s3) (items_lst (last_get _ _))
      have hrows3 : (G2 ++ [O.lst (l3.map nat)])[H4.length]? = some (.lst (rows.map fun l => (Row.go l).d)) := kG3.get hrows
      have f5 := ex_expr (ev_app (a := .var 7) (ev_var rfl) (kG.get hrows) s4 hrows3 (by rw [List.length_map]; simp only [LIM]; omega))
      refine ⟨_, rfl, _, _, (ex_nx f1).trans ((ex_nx f2).trans ((ex_nx f3).trans ((ex_nx f4).trans ((ex_nx f5).trans ex_nil)))), some (nat i), some (.ref r9), s10, some (nat tn), rows ++ [l3], rfl, ?_, ?_, by simp [hlen], fun j l hj => ?_⟩
      · exact (kH.trans kG3).set (Nat.le_refl _) _
      · rw [List.getElem?_set_self (get_lt hrows3), List.map_append]; rfl
      · by_cases hji : j < rows.length
        · rw [List.getElem?_append_left hji] at hj
          exact good j l hj
        · have hj2 := (List.getElem?_eq_some_iff.mp hj).1
          have : j = rows.length := by rw [List.length_append] at hj2; simp at hj2; omega
          subst this
          rw [List.getElem?_concat_length] at hj
          cases hj
          rw [hlen]; exact gr2)
    ⟨none, none, none, none, [], rfl, Kp.app _ _, last_get _ _, rfl, fun j l hj => by simp at hj⟩
  rw [ex_nx q]
  have gd := kH.get g4
  obtain ⟨iv3, ei3, w3⟩ := it_rng1 (P := P) (C := callN P (d + 1)) (σ := [some (.int c), some (nat sides), some (nat many), some (.ref r3), some (nat inner), some (nat ends), some (nat (inner + ends)), some (.ref H4.length), s8, s9, s10, s11, none]) (h := h') (x := .var 5) (n := ends) (ev_var rfl) (by omega)
  have cm := comp_ok (t := .nm 12) (own := [12]) (e := .bin .mod (.idx (.var 3) (.bin .add (.int 8) (.var 12))) (.var 2)) ei3 w3 trivial (by simp only [LIM]; omega) (fun k => nat (dr.getD (8 + k) 0 % many)) (fun k hk => by
    refine ⟨[some (.int c), some (nat sides), some (nat many), some (.ref r3), some (nat inner), some (nat ends), some (nat (inner + ends)), some (.ref H4.length), s8, s9, s10, s11, some (nat k)], rfl, ?_⟩
    exact nat_mod (nth_lst (ev_var rfl) (nat_add (show ev P (callN P (d + 1)) (.int 8) _ h' = .ok (nat 8) h' from rfl) (ev_var rfl)) gd (dget _ (by omega)) (by omega)) (ev_var rfl) (by omega))
  have eo : (List.range ends).map (fun k => nat (dr.getD (8 + k) 0 % many)) = (((List.range ends).map fun k => dr.getD (8 + k) 0 % many).map Row.out).map Row.d := by
    rw [List.map_map, List.map_map]; rfl
  rw [eo] at cm
  generalize hou : (List.range ends).map (fun k => dr.getD (8 + k) 0 % many) = outs at cm
  have lo : outs.length = ends := by rw [← hou]; simp
  have bo : ∀ x ∈ outs, x < many := fun x hx => by
    rw [← hou] at hx
    obtain ⟨k, _, rfl⟩ := List.mem_map.mp hx
    exact Nat.mod_lt _ (by omega)
  obtain ⟨tg, tl⟩ := chain_good (sides := sides) (many := many) hends.2 hlen lo hends.1 (by omega) good bo
  have er : rows.map (fun l => (Row.go l).d) = (rows.map Row.go).map Row.d := by rw [List.map_map]; rfl
  have s1 := add_lists (P := P) (C := callN P (d + 1)) (σ := [some (.int c), some (nat sides), some (nat many), some (.ref r3), some (nat inner), some (nat ends), some (nat (inner + ends)), some (.ref H4.length), s8, s9, s10, s11, none]) (a := .var 7) (ev_var rfl) (ev_lst cm) (get_app hrows) (last_get _ _) (by simp [lo, hlen, LIM]; omega)
  rw [er, ← List.map_append] at s1
  have s2 := ev_tupl (evL_of s1) (items_lst (last_get _ _))
  have e := congrArg (fun z => R.bnd z outOf) (ex_rt (ss := .nil) (ex_ret s2))
  exact ⟨rows.map Row.go ++ outs.map Row.out, _, e.trans rfl, k4.trans (kH.trans ((Kp.app _ _).trans (Kp.app _ _))), tg, by omega⟩
end
end PI

set_option maxRecDepth 100000
set_option maxHeartbeats 2000000
/-! RH: what the laws about hands have in common. -/
namespace PI
open PySem
/-! ### paths -/
def Path (t : List Row) (w p : List Nat) : Prop := ∃ q, p = 0 :: q ∧ runP t 0 w = some q
theorem runP_len {t : List Row} : ∀ (w : List Nat) (s : Nat) (q : List Nat), runP t s w = some q → q.length = w.length
  | [], s, q, h => by cases h; rfl
  | x :: w, s, q, h => by
    unfold runP at h
    cases hr : t.getD s (.out 0) with
    | out o => rw [hr] at h; cases h
    | go l =>
      rw [hr] at h
      obtain ⟨q', h1, rfl⟩ := Option.map_eq_some_iff.mp h
      simp [runP_len w _ _ h1]
theorem runP_app {t : List Row} (b : List Nat) : ∀ (a : List Nat) (s s' : Nat) (q : List Nat), runP t s a = some q → (s :: q).getLast? = some s' → runP t s (a ++ b) = (runP t s' b).map (q ++ ·)
  | [], s, s', q, h, hl => by
    cases h
    simp at hl
    subst hl
    simp
  | x :: a, s, s', q, h, hl => by
    unfold runP at h
    rw [List.cons_append]
    conv => lhs; unfold runP
    cases hr : t.getD s (.out 0) with
    | out o => rw [hr] at h; cases h
    | go l =>
      rw [hr] at h
      obtain ⟨q', h1, rfl⟩ := Option.map_eq_some_iff.mp h
      dsimp only
      rw [runP_app b a _ s' q' h1 (by rw [← hl, List.getLast?_cons_cons]), Option.map_map]
      rfl
theorem runP_snoc {t : List Row} (x : Nat) : ∀ (a : List Nat) (s : Nat) (q : List Nat), runP t s (a ++ [x]) = some q → ∃ q' y, runP t s a = some q' ∧ q = q' ++ [y]
  | [], s, q, h => by
    have := runP_len _ _ _ h
    obtain ⟨y, rfl⟩ : ∃ y, q = [y] := by
      match q, this with
      | [y], _ => exact ⟨y, rfl⟩
    exact ⟨[], y, rfl, rfl⟩
  | b :: a, s, q, h => by
    rw [List.cons_append] at h
    unfold runP at h ⊢
    cases hr : t.getD s (.out 0) with
    | out o => rw [hr] at h; cases h
    | go l =>
      rw [hr] at h
      obtain ⟨q', h1, rfl⟩ := Option.map_eq_some_iff.mp h
      obtain ⟨q2, y, h2, rfl⟩ := runP_snoc x a _ _ h1
      exact ⟨l.getD b 0 :: q2, y, by dsimp only; rw [h2]; rfl, rfl⟩
theorem Path.nil (t : List Row) : Path t [] [0] := ⟨[], rfl, rfl⟩
theorem Path.len {t : List Row} {w p : List Nat} (h : Path t w p) : p.length = w.length + 1 := by
  obtain ⟨q, rfl, h⟩ := h
  simp [runP_len _ _ _ h]
theorem Path.snoc {t : List Row} {w p l : List Nat} {s : Nat} (h : Path t w p) (hs : p.getLast? = some s) (hr : t.getD s (.out 0) = .go l) (x : Nat) : Path t (w ++ [x]) (p ++ [l.getD x 0]) := by
  obtain ⟨q, rfl, h⟩ := h
  refine ⟨q ++ [l.getD x 0], rfl, ?_⟩
  rw [runP_app [x] w 0 s q h hs]
  unfold runP
  rw [hr]; rfl
theorem Path.app {t : List Row} {w p ws q : List Nat} {s : Nat} (h : Path t w p) (hs : p.getLast? = some s) (hr : runP t s ws = some q) : Path t (w ++ ws) (p ++ q) := by
  obtain ⟨q0, rfl, h⟩ := h
  refine ⟨q0 ++ q, rfl, ?_⟩
  rw [runP_app ws w 0 s q0 h hs, hr]; rfl
theorem Path.drop {t : List Row} {w p : List Nat} (h : Path t w p) (hw : w ≠ []) : Path t w.dropLast p.dropLast := by
  obtain ⟨q, rfl, h⟩ := h
  have e := List.dropLast_concat_getLast hw
  rw [← e] at h
  obtain ⟨q', y, h1, rfl⟩ := runP_snoc _ _ _ _ h
  exact ⟨q', by rw [← List.cons_append, List.dropLast_concat], h1⟩
theorem Path.lt {sides many : Nat} {t : List Row} (g : TabGood sides many t) {w p : List Nat} (h : Path t w p) (hw : ∀ x ∈ w, x < sides) : ∀ s ∈ p, s < t.length := by
  obtain ⟨q, rfl, h⟩ := h
  have key : ∀ (w : List Nat) (s : Nat) (q : List Nat), s < t.length → (∀ x ∈ w, x < sides) → runP t s w = some q → ∀ s' ∈ q, s' < t.length := by
    intro w
    induction w with
    | nil => intro s q _ _ h; cases h; intro s' h; simp at h
    | cons x w ih =>
      intro s q hs hw h
      unfold runP at h
      have hrow := g.ok _ (List.mem_of_getElem? (getD_tab hs))
      cases hr : t.getD s (.out 0) with
      | out o => rw [hr] at h; cases h
      | go l =>
        rw [hr] at h hrow
        obtain ⟨q', h1, rfl⟩ := Option.map_eq_some_iff.mp h
        have hx : x < l.length := by rw [hrow.1]; exact hw x List.mem_cons_self
        have hn : l.getD x 0 < t.length := by
          rw [List.getD_eq_getElem?_getD, List.getElem?_eq_getElem hx]
          exact hrow.2 _ (List.getElem_mem _)
        intro s' hs'
        rcases List.mem_cons.mp hs' with rfl | hs'
        · exact hn
        · exact ih _ q' hn (fun y hy => hw y (List.mem_cons_of_mem _ hy)) h1 s' hs'
  intro s hs
  rcases List.mem_cons.mp hs with rfl | hs
  · exact g.pos
  · exact key w 0 q g.pos hw h s hs
theorem Path.last {t : List Row} {w p : List Nat} (h : Path t w p) : ∃ s, p.getLast? = some s ∧ s ∈ p := by
  obtain ⟨q, rfl, _⟩ := h
  exact ⟨(0 :: q).getLast (by simp), List.getLast?_eq_some_getLast (by simp), List.getLast_mem _⟩
/-! ### a hand in its heap -/
structure Hd (h : Hh) (aH aF r sides : Nat) (t : List Row) (X : Nat → List Rat) (w p : List Nat) : Prop where
  hand : HandAt h aH aF w p
  fro : FrozAt h aF sides t r
  ans : h[r]? = some (.lst (ansD t.length X))
  path : Path t w p
  side : ∀ x ∈ w, x < sides
  ne : aH ≠ aF ∧ aH ≠ r
section
variable {h h' : Hh} {aH aF r sides many : Nat} {t : List Row} {X : Nat → List Rat} {w p : List Nat}
theorem Hd.keep (g : Hd h aH aF r sides t X w p) (k : Kp h h') : Hd h' aH aF r sides t X w p := ⟨k.get g.hand, k.get g.fro, k.get g.ans, g.path, g.side, g.ne⟩
theorem Hd.of_ne (g : Hd h aH aF r sides t X w p) {a : Nat} (o : O) (h1 : a ≠ aH) (h2 : a ≠ aF) (h3 : a ≠ r) : Hd (h.set a o) aH aF r sides t X w p :=
  ⟨(List.getElem?_set_ne h1).trans g.hand, (List.getElem?_set_ne h2).trans g.fro, (List.getElem?_set_ne h3).trans g.ans, g.path, g.side, g.ne⟩
theorem Hd.put (g : Hd h aH aF r sides t X w p) {w' p' : List Nat} (hp : Path t w' p') (hs : ∀ x ∈ w', x < sides) : Hd (h.set aH (hO aF w' p')) aH aF r sides t X w' p' :=
  ⟨List.getElem?_set_self (get_lt g.hand), (List.getElem?_set_ne g.ne.1).trans g.fro, (List.getElem?_set_ne g.ne.2).trans g.ans, hp, hs, g.ne⟩
theorem Hd.lt (g : Hd h aH aF r sides t X w p) (tg : TabGood sides many t) {s : Nat} (hs : p.getLast? = some s) : s < t.length :=
  g.path.lt tg g.side s (List.mem_of_getLast? hs)
end
section
variable {P : Pg} {C : Nat → List D → Hh → R D} {σ : Sto} {h h1 h2 : Hh} {a b : E} {v : D}
theorem isi_rowE {r : Row} (e : ev P C a σ h = .ok r.d h1) : ev P C (.isi a .tuple) σ h = .ok (.bl r.isGo) h1 := by
  rw [ev, e, R.bnd_ok]
  cases r <;> rfl
def isNon : D → Bool
  | .non => true
  | _ => false
theorem ev_isN (e : ev P C a σ h = .ok v h1) : ev P C (.isN a) σ h = .ok (.bl (isNon v)) h1 := by
  rw [ev, e, R.bnd_ok]
  cases v <;> rfl
theorem ev_notN (e : ev P C a σ h = .ok v h1) : ev P C (.notN a) σ h = .ok (.bl (!isNon v)) h1 := by
  rw [ev, e, R.bnd_ok]
  cases v <;> rfl
theorem ev_int {i : Int} : ev P C (.int i) σ h = .ok (.int i) h := by rw [ev]
theorem ex_ifT {x : E} {p q : Ss} (e : ev P C x σ h = .ok (.bl true) h1) : exec P C (.if_ x p q) σ h = execs P C p σ h1 := by rw [ex_if e, if_pos rfl]
theorem ex_ifF {x : E} {p q : Ss} (e : ev P C x σ h = .ok (.bl false) h1) : exec P C (.if_ x p q) σ h = execs P C q σ h1 := by rw [ex_if e, if_neg (by decide)]
theorem ex_ifF0 {x : E} {p : Ss} (e : ev P C x σ h = .ok (.bl false) h1) : exec P C (.if_ x p .nil) σ h = .ok (.nx σ) h1 := ex_ifF e
end
section
variable {P : Pg} {d : Nat} {h : Hh}
/-- what a law of hands needs of the program -/
structure HasL (P : Pg) : Prop extends HasH P where
  l0 : P.fns 200 = some c__law_cell
  l1 : P.fns 201 = some c__law_draws
  l2 : P.fns 202 = some c__law_is_same
  l3 : P.fns 203 = some c__law_table
theorem cell_ev (f : P.fns 200 = some c__law_cell) {σ : Sto} {ns : List Int} {x : E} {k : Nat} (hs : σ[0]? = some (some (.scr ns))) (hk : k ≤ 1000) (ek : ev P (callN P (d + 1)) x σ h = .ok (nat k) h) : ev P (callN P (d + 1)) (.call 200 (.cons (.var 0) (.cons x .nil))) σ h = .ok (.int (cell ns k)) h :=
  (ev_call (evs_cons (ev_var hs) (evs_cons ek evs_nil))).trans (cell_ok f ns k hk)
/-- sides, many and a table -/
theorem pre_ok (a : HasL P) (ns : List Int) {σr : Sto} {rest : Ss} : ∃ (sides many : Nat) (t : List Row) (h' : Hh), 2 ≤ sides ∧ sides ≤ 6 ∧ 1 ≤ many ∧ many ≤ 6 ∧ TabGood sides many t ∧ t.length ≤ 10 ∧ Kp h h' ∧
    execs P (callN P (d + 2)) (.cons (.set (.nm 1) (.bin .add (.int 2) (.bin .mod (.call 200 (.cons (.var 0) (.cons (.int 0) .nil))) (.int 5)))) (.cons (.set (.nm 2) (.bin .add (.int 1) (.bin .mod (.bin .fdiv (.call 200 (.cons (.var 0) (.cons (.int 0) .nil))) (.int 5)) (.int 6)))) (.cons (.set (.nm 3) (.call 203 (.cons (.call 200 (.cons (.var 0) (.cons (.int 1) .nil))) (.cons (.var 1) (.cons (.var 2) .nil))))) rest))) (some (.scr ns) :: none :: none :: none :: σr) h =
      execs P (callN P (d + 2)) rest (some (.scr ns) :: some (nat sides) :: some (nat many) :: some (tabD t) :: σr) h' := by
  obtain ⟨r1, u1, u2⟩ := mod_small (x := cell ns 0) (m := 5) (by decide)
  obtain ⟨r2, w1, w2⟩ := mod_small (x := cell ns 0 / 5) (m := 6) (by decide)
  have c0 : ∀ σ : Sto, σ[0]? = some (some (.scr ns)) → ev P (callN P (d + 2)) (.call 200 (.cons (.var 0) (.cons (.int 0) .nil))) σ h = .ok (.int (cell ns 0)) h := fun σ hσ => cell_ev (d := d + 1) (k := 0) a.l0 hσ (by omega) ev_int
  have e1 : exec P (callN P (d + 2)) (.set (.nm 1) (.bin .add (.int 2) (.bin .mod (.call 200 (.cons (.var 0) (.cons (.int 0) .nil))) (.int 5)))) (some (.scr ns) :: none :: none :: none :: σr) h = .ok (.nx (some (.scr ns) :: some (nat (2 + r1)) :: none :: none :: σr)) h := by
    have m := mod_ok (m := 5) (c0 (some (.scr ns) :: none :: none :: none :: σr) rfl) ev_int (by omega)
    rw [u1] at m
    exact ex_set (nat_add (x := 2) ev_int m) rfl
  have e2 : exec P (callN P (d + 2)) (.set (.nm 2) (.bin .add (.int 1) (.bin .mod (.bin .fdiv (.call 200 (.cons (.var 0) (.cons (.int 0) .nil))) (.int 5)) (.int 6)))) (some (.scr ns) :: some (nat (2 + r1)) :: none :: none :: σr) h = .ok (.nx (some (.scr ns) :: some (nat (2 + r1)) :: some (nat (1 + r2)) :: none :: σr)) h := by
    have m := mod_ok (m := 6) (fdiv_ok (m := 5) (c0 (some (.scr ns) :: some (nat (2 + r1)) :: none :: none :: σr) rfl) ev_int (by omega) (by omega)) ev_int (by omega)
    rw [show ((5 : Nat) : Int) = 5 from rfl, w1] at m
    exact ex_set (nat_add (x := 1) ev_int m) rfl
  obtain ⟨t, h', q, k, tg, tl⟩ := table_ok (d := d) (h := h) a.l1 a.l3 (cell ns 1) (sides := 2 + r1) (many := 1 + r2) (by omega) (by omega) (by omega)
  have e3 : exec P (callN P (d + 2)) (.set (.nm 3) (.call 203 (.cons (.call 200 (.cons (.var 0) (.cons (.int 1) .nil))) (.cons (.var 1) (.cons (.var 2) .nil))))) (some (.scr ns) :: some (nat (2 + r1)) :: some (nat (1 + r2)) :: none :: σr) h = .ok (.nx (some (.scr ns) :: some (nat (2 + r1)) :: some (nat (1 + r2)) :: some (tabD t) :: σr)) h' :=
    ex_set ((ev_call (evs_cons (cell_ev (d := d + 1) (k := 1) a.l0 rfl (by omega) ev_int) (evs_cons (ev_var rfl) (evs_cons (ev_var rfl) evs_nil)))).trans q) rfl
  exact ⟨2 + r1, 1 + r2, t, h', by omega, by omega, by omega, by omega, tg, tl, k, by rw [ex_nx e1, ex_nx e2, ex_nx e3]⟩
/-- Hand(Chooser(sides, many, table)) -/
theorem made_ok (a : HasH P) {σ : Sto} {sides many : Nat} {t : List Row} (g : TabGood sides many t) (h2 : 2 ≤ sides) (h6 : sides ≤ 6) (hm1 : 1 ≤ many) (hm6 : many ≤ 6) (v1 : σ[1]? = some (some (nat sides))) (v2 : σ[2]? = some (some (nat many))) (v3 : σ[3]? = some (some (tabD t))) :
    ∃ (X : Nat → List Rat) (h' : Hh) (aH aF r : Nat), ev P (callN P (d + 7)) (.mk 1 (.cons (.mk 2 (.cons (.var 1) (.cons (.var 2) (.cons (.var 3) .nil)))) .nil)) σ h = .ok (.ref aH) h' ∧ Kp h h' ∧ Hd h' aH aF r sides t X [] [0] ∧ Ans sides many t X ∧ h.length ≤ aH ∧ h.length ≤ aF ∧ h.length ≤ r := by
  obtain ⟨X, h1, r, q1, k1, c1, r1, ans, an⟩ := chooser_ok (d := d) (h := h) a.toHasC g h2 h6 hm1 hm6
  have hk := hand_ok (d := d + 5) (h := h1) (sides := sides) (t := t) (r := r) a c1 a.k2 ⟨a.a2.1, a.a2.2.2.1, a.a2.2.2.2⟩ rfl rfl rfl
  have hl := k1.len
  refine ⟨X, h1 ++ [O.ins 1 [(3, D.ref (h1.length + 1)), (4, D.tup []), (5, D.tup [nat 0])], O.ins 0 [(0, nat sides), (1, tabD t), (2, D.ref r)]], h1.length, h1.length + 1, r, ?_, k1.trans (Kp.app _ _), ⟨get_at0, get_at1, get_app ans, Path.nil t, by simp, ⟨by omega, ?_⟩⟩, an, hl, by omega, by omega⟩
  · rw [ev, evs_cons (show ev P (callN P (d + 7)) (.mk 2 (.cons (.var 1) (.cons (.var 2) (.cons (.var 3) .nil)))) σ h = .ok (.ref h.length) h1 from by
      rw [ev, evs_cons (ev_var v1) (evs_cons (ev_var v2) (evs_cons (ev_var v3) evs_nil)), R.bnd_ok]
      exact q1) evs_nil, R.bnd_ok]
    exact hk
  · have := get_lt ans
    omega
/-- the same, told of pairs: word and state -/
theorem same_ev (a : HasL P) {σ : Sto} {x y : E} {v : D} {n : Nat} (hv : Pu n v) (hn : n ≤ 5) (ex : ev P (callN P (d + 6)) x σ h = .ok v h) (ey : ev P (callN P (d + 6)) y σ h = .ok v h) : ev P (callN P (d + 6)) (.call 202 (.cons x (.cons y .nil))) σ h = .ok (.bl true) h :=
  (ev_call (evs_cons ex (evs_cons ey evs_nil))).trans (is_same_ok a.l2 5 v (hv.mono hn) d)
end
end PI

set_option maxRecDepth 100000
set_option maxHeartbeats 2000000
/-! RI: drawn words, walks. -/
namespace PI
open PySem
def c__law_word : Fn := ⟨3, 3, false, (.cons (.ret (.tupl (.of (.call 201 (.cons (.bin .fdiv (.var 0) (.bin .add (.var 2) (.int 1))) (.cons (.bin .mul (.lst (.lit (.cons (.var 1) .nil))) (.bin .mod (.var 0) (.bin .add (.var 2) (.int 1)))) .nil)))))) .nil)⟩
def c__law_walk : Fn := ⟨2, 5, false, (.cons (.set (.nm 2) (.int 0)) (.cons (.set (.nm 3) (.int 0)) (.cons (.for_ (.nm 4) (.seq (.of (.var 1))) (.cons (.if_ (.isi (.idx (.var 0) (.var 2)) .tuple) (.cons (.set (.nm 2) (.idx (.idx (.var 0) (.var 2)) (.var 4))) (.cons (.set (.nm 3) (.bin .add (.var 3) (.int 1))) .nil)) .nil) .nil)) (.cons (.ret (.tup (.cons (.var 2) (.cons (.var 3) .nil)))) .nil))))⟩
section
variable {P : Pg} {d : Nat} {h : Hh}
/-- [x] * n -/
theorem times_list {C : Nat → List D → Hh → R D} {σ : Sto} {a b : E} {v : D} {n : Nat} (ea : ev P C a σ h = .ok v h) (eb : ∀ h, ev P C b σ h = .ok (nat n) h) (hn : n ≤ 1000) : ev P C (.bin .mul (.lst (.lit (.cons a .nil))) b) σ h = .ok (.ref (h.length + 1)) (h ++ [.lst [v], .lst (List.replicate n v)]) := by
  have e1 : ev P C (.lst (.lit (.cons a .nil))) σ h = .ok (.ref h.length) (h ++ [.lst [v]]) := by
    rw [ev, evL, evs_cons ea evs_nil, R.bnd_ok]
    rw [if_pos (by simp [LIM]), R.bnd_ok]; rfl
  refine ev_bin e1 (eb _) ?_
  show (match lstOf (h ++ [O.lst [v]]) h.length with
    | some xs => if ((n : Nat) : Int) ≤ 1000000 ∧ -1000000 ≤ ((n : Nat) : Int) ∧ xs.length * ((n : Nat) : Int).toNat ≤ LIM then alloc (h ++ [O.lst [v]]) (.lst (List.replicate ((n : Nat) : Int).toNat xs).flatten) else .bad
    | none => .bad) = _
  rw [lstOf_at (last_get _ _)]
  dsimp only
  rw [if_pos ⟨by omega, by omega, by simp [LIM]; omega⟩, Int.toNat_natCast, List.flatten_replicate_singleton]
  show R.ok (D.ref (h ++ [O.lst [v]]).length) ((h ++ [O.lst [v]]) ++ [O.lst (List.replicate n v)]) = _
  rw [List.length_append, List.append_assoc]; rfl
/-- a word that is drawn from sizes all alike -/
theorem Drawn.word {sides n : Nat} {w : List Nat} (h : Drawn (List.replicate n sides) w) : w.length = n ∧ ∀ x ∈ w, x < sides := by
  obtain ⟨h1, h2⟩ := h
  rw [List.length_replicate] at h1 h2
  refine ⟨h1, fun x hx => ?_⟩
  obtain ⟨i, hi, rfl⟩ := List.getElem_of_mem hx
  have := h2 i (by omega)
  rw [List.getD_eq_getElem?_getD, List.getD_eq_getElem?_getD, List.getElem?_eq_getElem hi, List.getElem?_replicate, if_pos (by omega)] at this
  exact this
theorem word_ok (f1 : P.fns 201 = some c__law_draws) (f : P.fns 211 = some c__law_word) (c : Int) {sides most : Nat} (hs : 0 < sides ∧ sides ≤ 6) (hm : most ≤ 100) :
    ∃ (w : List Nat) (h' : Hh), callN P (d + 2) 211 [.int c, nat sides, nat most] h = .ok (.tup (w.map nat)) h' ∧ Kp h h' ∧ w.length ≤ most ∧ ∀ x ∈ w, x < sides := by
  rw [call_eq f (σ := [some (.int c), some (nat sides), some (nat most)]) rfl]
  unfold c__law_word
  generalize hσ : [some (.int c), some (nat sides), some (nat most)] = σ
  have v0 : ∀ h, ev P (callN P (d + 1)) (.var 0) σ h = .ok (.int c) h := fun h => by rw [← hσ]; exact ev_var rfl
  have v1 : ∀ h, ev P (callN P (d + 1)) (.var 1) σ h = .ok (nat sides) h := fun h => by rw [← hσ]; exact ev_var rfl
  have v2 : ∀ h, ev P (callN P (d + 1)) (.bin .add (.var 2) (.int 1)) σ h = .ok (nat (most + 1)) h := fun h => nat_add (by rw [← hσ]; exact ev_var rfl) (show ev P (callN P (d + 1)) (.int 1) σ h = .ok (nat 1) h from rfl)
  obtain ⟨n, n1, n2⟩ := mod_small (x := c) (m := most + 1) (by omega)
  have m1 : ∀ h, ev P (callN P (d + 1)) (.bin .mod (.var 0) (.bin .add (.var 2) (.int 1))) σ h = .ok (nat n) h := fun h => by
    have := mod_ok (v0 h) (v2 h) (by omega)
    rw [n1] at this
    exact this
  have e1 := fdiv_ok (v0 h) (v2 h) (by omega) (by omega)
  have e2 := times_list (v1 h) m1 (by omega)
  have gs : (h ++ [O.lst [nat sides], .lst (List.replicate n (nat sides))])[h.length + 1]? = some (.lst ((List.replicate n sides).map nat)) := by
    rw [List.map_replicate]; exact get_at1
  obtain ⟨w, q, dr⟩ := draws_ok (d := d) f1 (c / (most + 1 : Nat)) gs (fun x hx => by
    have := List.eq_of_mem_replicate hx
    omega) (by simp; omega)
  obtain ⟨wl, wb⟩ := dr.word
  have e3 := (ev_call (evs_cons e1 (evs_cons e2 evs_nil))).trans q
  have e4 := ev_tupl (evL_of e3) (items_lst (last_get _ _))
  have e := congrArg (fun z => R.bnd z outOf) (ex_rt (ss := .nil) (ex_ret e4))
  exact ⟨w, _, e.trans rfl, (Kp.app _ _).trans (Kp.app _ _), by omega, wb⟩
theorem runP_step {t : List Row} : ∀ (w : List Nat) (s : Nat) (q : List Nat), runP t s w = some q → ∀ i x, w[i]? = some x → ∃ l s', (s :: q)[i]? = some s' ∧ t.getD s' (.out 0) = .go l ∧ (s :: q)[i + 1]? = some (l.getD x 0)
  | [], s, q, _, i, x, h => by simp at h
  | y :: w, s, q, hq, i, x, hi => by
    unfold runP at hq
    cases hr : t.getD s (.out 0) with
    | out o => rw [hr] at hq; cases hq
    | go l =>
      rw [hr] at hq
      obtain ⟨q', h1, rfl⟩ := Option.map_eq_some_iff.mp hq
      cases i with
      | zero =>
        simp at hi
        subst hi
        exact ⟨l, s, rfl, hr, rfl⟩
      | succ i =>
        rw [List.getElem?_cons_succ] at hi
        obtain ⟨l', s', a, b, c⟩ := runP_step w _ q' h1 i x hi
        exact ⟨l', s', a, b, c⟩
theorem walk_ok (f : P.fns 210 = some c__law_walk) {sides many : Nat} {t : List Row} (g : TabGood sides many t) (h6 : sides ≤ 6) {w p : List Nat} {s : Nat} (hp : Path t w p) (hw : ∀ x ∈ w, x < sides) (hs : p.getLast? = some s) (hl : w.length ≤ 1000) :
    callN P (d + 1) 210 [tabD t, .tup (w.map nat)] h = .ok (.tup [nat s, nat w.length]) h := by
  rw [call_eq f (σ := [some (tabD t), some (.tup (w.map nat)), none, none, none]) rfl]
  unfold c__law_walk
  have plt := hp.lt g hw
  obtain ⟨q, rfl, hq⟩ := hp
  have ql := runP_len _ _ _ hq
  rw [ex_nx (σ1 := [some (tabD t), some (.tup (w.map nat)), some (nat 0), none, none]) (h1 := h) rfl, ex_nx (σ1 := [some (tabD t), some (.tup (w.map nat)), some (nat 0), some (nat 0), none]) (h1 := h) rfl]
  obtain ⟨iv, ei, wk⟩ := it_seq (P := P) (C := callN P d) (σ := [some (tabD t), some (.tup (w.map nat)), some (nat 0), some (nat 0), none]) (h := h) (l := .of (.var 1)) (v := .val (.tup (w.map nat))) (xs := w.map nat) (evL_of (ev_var rfl)) rfl
  rw [List.length_map] at wk
  obtain ⟨σ', h', e1, s', s4, rfl, rfl, hs'⟩ := for_w (t := .nm 4) (b := (.cons (.if_ (.isi (.idx (.var 0) (.var 2)) .tuple) (.cons (.set (.nm 2) (.idx (.idx (.var 0) (.var 2)) (.var 4))) (.cons (.set (.nm 3) (.bin .add (.var 3) (.int 1))) .nil)) .nil) .nil)) ei wk
    (fun i σ h' => ∃ (s' : Nat) (s4 : Option D), σ = [some (tabD t), some (.tup (w.map nat)), some (nat s'), some (nat i), s4] ∧ h' = h ∧ (0 :: q)[i]? = some s')
    (fun i σ h' hI => by obtain ⟨_, _, _, rfl, _⟩ := hI; rfl)
    (fun i σ h' hi hI => by
      obtain ⟨s', s4, rfl, rfl, hs'⟩ := hI
      have hx : w[i]? = some w[i] := List.getElem?_eq_getElem hi
      have hxs := hw w[i] (List.getElem_mem _)
      generalize w[i] = x at *
      rw [nth_eq (show (w.map nat)[i]? = some (nat x) by rw [List.getElem?_map, hx]; rfl)]
      obtain ⟨l, s2, a1, a2, a3⟩ := runP_step w 0 q hq i x hx
      rw [hs'] at a1
      cases a1
      have hlt := plt s' (List.mem_of_getElem? hs')
      have rok := g.ok _ (List.mem_of_getElem? (getD_tab hlt))
      rw [a2] at rok
      generalize hσ : [some (tabD t), some (.tup (w.map nat)), some (nat s'), some (nat i), some (nat x)] = σ
      refine ⟨σ, by rw [← hσ]; rfl, ?_⟩
      have e0 : ev P (callN P d) (.idx (.var 0) (.var 2)) σ h' = .ok (Row.go l).d h' := by
        rw [← hσ]
        exact ev_idx (ev_var rfl) (ev_var rfl) (by rw [row_idx hlt (by have := g.le; omega) h', a2])
      have ig : idxop (Row.go l).d (nat x) h' = some (nat (l.getD x 0)) := by
        have hxl : x < l.length := by rw [rok.1]; exact hxs
        refine atI_nat (xs := l.map nat) ?_ (by omega)
        rw [List.getElem?_map, List.getElem?_eq_getElem hxl, List.getD_eq_getElem?_getD, List.getElem?_eq_getElem hxl]; rfl
      have e1 : exec P (callN P d) (.set (.nm 2) (.idx (.idx (.var 0) (.var 2)) (.var 4))) σ h' = .ok (.nx [some (tabD t), some (.tup (w.map nat)), some (nat (l.getD x 0)), some (nat i), some (nat x)]) h' :=
        ex_set (ev_idx e0 (by rw [← hσ]; exact ev_var rfl) ig) (by rw [← hσ]; rfl)
      have e2 : exec P (callN P d) (.set (.nm 3) (.bin .add (.var 3) (.int 1))) [some (tabD t), some (.tup (w.map nat)), some (nat (l.getD x 0)), some (nat i), some (nat x)] h' = .ok (.nx [some (tabD t), some (.tup (w.map nat)), some (nat (l.getD x 0)), some (nat (i + 1)), some (nat x)]) h' :=
        ex_set (nat_add (ev_var rfl) (show ev P (callN P d) (.int 1) _ h' = .ok (nat 1) h' from rfl)) rfl
      refine ⟨_, _, (ex_nx ((ex_ifT (isi_rowE e0)).trans ((ex_nx e1).trans ((ex_nx e2).trans ex_nil)))).trans ex_nil, _, _, rfl, rfl, a3⟩)
    ⟨0, none, rfl, rfl, rfl⟩
  have : s' = s := by
    rw [List.getLast?_eq_getElem?] at hs
    have e : (0 :: q).length - 1 = w.length := by simp [ql]
    rw [e, hs'] at hs
    exact Option.some.inj hs
  subst this
  rw [ex_nx e1, ex_rt (ex_ret (ev_tup (evs_cons (ev_var rfl) (evs_cons (ev_var rfl) evs_nil)) (by simp [LIM])))]; rfl
end
end PI

set_option maxRecDepth 100000
set_option maxHeartbeats 2000000
/-! RJ: the first throws of a law of hands. -/
namespace PI
open PySem
section
variable {P : Pg} {d : Nat} {h : Hh}
theorem get_set2 {σ : Sto} {i j k : Nat} (a b : Option D) (h1 : k ≠ i) (h2 : k ≠ j) : ((σ.set i a).set j b)[k]? = σ[k]? := by
  rw [List.getElem?_set_ne (Ne.symm h2), List.getElem?_set_ne (Ne.symm h1)]
structure HasO (P : Pg) : Prop extends HasL P where
  f13 : P.fns 13 = some c_Hand_outcome
  f16 : P.fns 16 = some c_Hand_throw
  m11 : P.meth 1 11 = some 16
  g8 : P.attr 1 8 = .prop 13
theorem ev_outcome (a : HasO P) {σ : Sto} {x : E} {aH aF r sides many s : Nat} {t : List Row} {X : Nat → List Rat} {w p : List Nat} (tg : TabGood sides many t) (hd : Hd h aH aF r sides t X w p) (hs : p.getLast? = some s) (e : ev P (callN P (d + 1)) x σ h = .ok (.ref aH) h) : ev P (callN P (d + 1)) (.fld x 8) σ h = .ok (outD (t.getD s (.out 0))) h :=
  ev_prop e hd.hand a.k1 a.g8 (hand_outcome a.toHasH a.f13 hd.hand hd.fro hs (hd.lt tg hs) (by have := tg.le; omega))
theorem ev_word (a : HasH P) {σ : Sto} {x : E} {aH aF r sides : Nat} {t : List Row} {X : Nat → List Rat} {w p : List Nat} (hd : Hd h aH aF r sides t X w p) (e : ev P (callN P (d + 1)) x σ h = .ok (.ref aH) h) : ev P (callN P (d + 1)) (.fld x 6) σ h = .ok (.tup (w.map nat)) h :=
  ev_prop e hd.hand a.k1 a.p1.1 (hand_word a hd.hand)
theorem ev_state (a : HasH P) {σ : Sto} {x : E} {aH aF r sides s : Nat} {t : List Row} {X : Nat → List Rat} {w p : List Nat} (hd : Hd h aH aF r sides t X w p) (hs : p.getLast? = some s) (e : ev P (callN P (d + 1)) x σ h = .ok (.ref aH) h) : ev P (callN P (d + 1)) (.fld x 7) σ h = .ok (nat s) h :=
  ev_prop e hd.hand a.k1 a.p1.2 (hand_state a hd.hand hs)
theorem ev_chances (a : HasH P) (f14 : P.fns 14 = some c_Hand_chances) (g9 : P.attr 1 9 = .prop 14) {σ : Sto} {x : E} {aH aF r sides many s : Nat} {t : List Row} {X : Nat → List Rat} {w p : List Nat} (tg : TabGood sides many t) (hd : Hd h aH aF r sides t X w p) (hs : p.getLast? = some s) (e : ev P (callN P (d + 1)) x σ h = .ok (.ref aH) h) : ev P (callN P (d + 1)) (.fld x 9) σ h = .ok (chD X s) h :=
  ev_prop e hd.hand a.k1 g9 (hand_chances a f14 hd.hand hd.fro hd.ans hs (hd.lt tg hs) (by have := tg.le; omega))
theorem pu_outD {n : Nat} (r : Row) : Pu n (outD r) := by
  cases r
  · exact .non
  · exact .int _
theorem pu_chD {X : Nat → List Rat} {s : Nat} (hl : (X s).length ≤ 1000) : Pu 2 (chD X s) := by
  unfold chD
  exact Pu.frs (by rw [List.length_dropLast]; omega)
/-- one throw by a statement of a law -/
theorem ex_throw (a : HasO P) {σ : Sto} {x y : E} {aH aF r sides many s i : Nat} {t : List Row} {X : Nat → List Rat} {w p l : List Nat} (tg : TabGood sides many t) (h6 : sides ≤ 6) (hd : Hd h aH aF r sides t X w p) (hs : p.getLast? = some s) (hr : t.getD s (.out 0) = .go l) (hi : i < sides) (hl : w.length ≤ 900)
    (e : ev P (callN P (d + 5)) x σ h = .ok (.ref aH) h) (ey : ev P (callN P (d + 5)) y σ h = .ok (nat i) h) :
    exec P (callN P (d + 5)) (.expr (.mth x 11 (.cons y .nil))) σ h = .ok (.nx σ) (h.set aH (hO aF (w ++ [i]) (p ++ [l.getD i 0]))) ∧ Hd (h.set aH (hO aF (w ++ [i]) (p ++ [l.getD i 0]))) aH aF r sides t X (w ++ [i]) (p ++ [l.getD i 0]) := by
  have th := throw_good (d := d) a.toHasH a.f16 tg h6 hd.hand hd.fro hs (hd.lt tg hs) hr hi (by have := hd.path.len; omega)
  refine ⟨ex_expr ((ev_mth (m := 11) e hd.hand a.k1 rfl a.m11 (evs_cons ey evs_nil)).trans th), hd.put (hd.path.snoc hs hr i) fun y hy => ?_⟩
  rcases List.mem_append.mp hy with z | z
  · exact hd.side y z
  · simp at z; omega
theorem ev_snoc {σ : Sto} {C : Nat → List D → Hh → R D} {x y : E} {w : List Nat} {i : Nat} (hl : w.length ≤ 1000) (ex : ev P C x σ h = .ok (.tup (w.map nat)) h) (ey : ev P C y σ h = .ok (nat i) h) : ev P C (.bin .add x (.tup (.cons y .nil))) σ h = .ok (.tup ((w ++ [i]).map nat)) h := by
  refine ev_bin ex (ev_tup (evs_cons ey evs_nil) (by simp [LIM])) ?_
  show (if (w.map nat).length + [nat i].length ≤ LIM then R.ok (D.tup _) h else .bad) = _
  rw [if_pos (by simp [LIM]; omega)]
  simp
/-- for side in word: if made.outcome is None: throw, and the word is longer -/
theorem first_throws (a : HasO P) {σ : Sto} {vm vw vs : Nat} {e : E} {ws : List Nat} {aH aF r sides many : Nat} {t : List Row} {X : Nat → List Rat} (tg : TabGood sides many t) (h6 : sides ≤ 6) {h0 : Hh} (he : ev P (callN P (d + 5)) e σ h0 = .ok (.tup (ws.map nat)) h) (hd : Hd h aH aF r sides t X [] [0])
    (hm : σ[vm]? = some (some (.ref aH))) (hw : σ[vw]? = some (some (.tup []))) (n1 : vm ≠ vw) (n2 : vm ≠ vs) (n3 : vw ≠ vs) (hvs : vs < σ.length) (hws : ∀ x ∈ ws, x < sides) (hl : ws.length ≤ 800) :
    ∃ (w p : List Nat) (s : Nat) (v : Option D) (h' : Hh), exec P (callN P (d + 5)) (.for_ (.nm vs) (.seq (.of e)) (.cons (.if_ (.isN (.fld (.var vm) 8)) (.cons (.expr (.mth (.var vm) 11 (.cons (.var vs) .nil))) (.cons (.set (.nm vw) (.bin .add (.var vw) (.tup (.cons (.var vs) .nil)))) .nil)) .nil) .nil)) σ h0 = .ok (.nx ((σ.set vs v).set vw (some (.tup (w.map nat))))) h' ∧
      Hd h' aH aF r sides t X w p ∧ p.getLast? = some s ∧ w.length ≤ ws.length ∧ (∀ b, b ≠ aH → h'[b]? = h[b]?) ∧ h'.length = h.length := by
  obtain ⟨iv, ei, wk⟩ := it_seq (evL_of he) (xs := ws.map nat) rfl
  rw [List.length_map] at wk
  have hvw : vw < σ.length := (List.getElem?_eq_some_iff.mp hw).1
  obtain ⟨σ', h', q, w, p, s, v, rfl, hd', hs', wl, off, hlen⟩ := for_w (t := .nm vs) (b := (.cons (.if_ (.isN (.fld (.var vm) 8)) (.cons (.expr (.mth (.var vm) 11 (.cons (.var vs) .nil))) (.cons (.set (.nm vw) (.bin .add (.var vw) (.tup (.cons (.var vs) .nil)))) .nil)) .nil) .nil)) ei wk
    (fun i σ' h' => ∃ (w p : List Nat) (s : Nat) (v : Option D), σ' = (σ.set vs v).set vw (some (.tup (w.map nat))) ∧ Hd h' aH aF r sides t X w p ∧ p.getLast? = some s ∧ w.length ≤ i ∧ (∀ b, b ≠ aH → h'[b]? = h[b]?) ∧ h'.length = h.length)
    (fun _ _ _ _ => rfl)
    (fun i σ' h' hi hI => by
      obtain ⟨w, p, s, v, rfl, hd, hs, wl, off, hlen⟩ := hI
      have hx : ws[i]? = some ws[i] := List.getElem?_eq_getElem hi
      have hxs := hws ws[i] (List.getElem_mem _)
      generalize ws[i] = x at *
      rw [nth_eq (show (ws.map nat)[i]? = some (nat x) by rw [List.getElem?_map, hx]; rfl)]
      generalize hσ : (σ.set vs (some (nat x))).set vw (some (.tup (w.map nat))) = σ1
      have eσ : asT (.nm vs) (nat x) ((σ.set vs v).set vw (some (.tup (w.map nat)))) = some σ1 := by
        show some ((((σ.set vs v).set vw (some (.tup (w.map nat)))).set vs (some (nat x)))) = _
        rw [List.set_comm _ _ n3, List.set_set, hσ]
      have e4 : ev P (callN P (d + 5)) (.var vm) σ1 h' = .ok (.ref aH) h' := ev_var (by rw [← hσ, get_set2 _ _ n2 n1]; exact hm)
      have e5 : ∀ h, ev P (callN P (d + 5)) (.var vw) σ1 h = .ok (.tup (w.map nat)) h := fun h => ev_var (by rw [← hσ, List.getElem?_set_self (by rw [List.length_set]; exact hvw)])
      have e6 : ∀ h, ev P (callN P (d + 5)) (.var vs) σ1 h = .ok (nat x) h := fun h => ev_var (by rw [← hσ, List.getElem?_set_ne n3, List.getElem?_set_self hvs])
      have co := ev_isN (ev_outcome (d := d + 4) a tg hd hs e4)
      refine ⟨σ1, eσ, ?_⟩
      cases hr : t.getD s (.out 0) with
      | out o =>
        rw [hr] at co
        exact ⟨_, _, (ex_nx (ex_ifF0 co)).trans ex_nil, w, p, s, some (nat x), hσ.symm, hd, hs, by omega, off, hlen⟩
      | go l =>
        rw [hr] at co
        obtain ⟨f1, hd2⟩ := ex_throw (d := d) a tg h6 hd hs hr hxs (by omega) e4 (e6 h')
        have f2 : exec P (callN P (d + 5)) (.set (.nm vw) (.bin .add (.var vw) (.tup (.cons (.var vs) .nil)))) σ1 (h'.set aH (hO aF (w ++ [x]) (p ++ [l.getD x 0]))) = .ok (.nx (σ1.set vw (some (.tup ((w ++ [x]).map nat))))) (h'.set aH (hO aF (w ++ [x]) (p ++ [l.getD x 0]))) :=
          ex_set (ev_snoc (by omega) (e5 _) (e6 _)) rfl
        refine ⟨_, _, (ex_nx ((ex_ifT co).trans ((ex_nx f1).trans ((ex_nx f2).trans ex_nil)))).trans ex_nil, w ++ [x], p ++ [l.getD x 0], l.getD x 0, some (nat x), by rw [← hσ, List.set_set], hd2, by simp, by simp; omega, fun b hb => by rw [List.getElem?_set_ne (Ne.symm hb)]; exact off b hb, by rw [List.length_set]; exact hlen⟩)
    ⟨[], [0], 0, σ.getD vs none, by
      have e1 : σ.set vs (σ.getD vs none) = σ := by
        apply List.ext_getElem?
        intro i
        by_cases h1 : vs = i
        · subst h1
          by_cases h2 : vs < σ.length
          · rw [List.getElem?_set_self h2, List.getD_eq_getElem?_getD, List.getElem?_eq_getElem h2]; rfl
          · rw [List.set_eq_of_length_le (by omega)]
        · rw [List.getElem?_set_ne h1]
      rw [e1]
      apply List.ext_getElem?
      intro i
      by_cases h1 : vw = i
      · subst h1
        rw [List.getElem?_set_self hvw]; exact hw
      · rw [List.getElem?_set_ne h1], hd, rfl, Nat.le_refl _, fun _ _ => rfl, rfl⟩
  exact ⟨w, p, s, v, h', q, hd', hs', wl, off, hlen⟩
end
end PI

set_option maxRecDepth 100000
set_option maxHeartbeats 2000000
/-! RK: except clauses; texts compared. -/
namespace PI
open PySem
section
variable {P : Pg} {C : Nat → List D → Hh → R D} {σ : Sto} {h h1 h2 : Hh} {a b : E} {v : D}
theorem ex_tryT {ys : Ss} {ks : List Nat} {hs : List (Nat × E)} {f : Fl} (e : execs P C ys σ h = .ok f h1) : exec P C (.try_ ys ks hs) σ h = .ok f h1 := by
  rw [exec, e]
theorem ex_tryX {ys : Ss} {ks : List Nat} {hs : List (Nat × E)} {c : Nat} (e : execs P C ys σ h = .exc c h1) (hk : ks.contains c = true) : exec P C (.try_ ys ks hs) σ h = hdl c h1 hs := by
  rw [exec, e]
  dsimp only
  rw [if_pos hk]
theorem ex_retX {x : E} {c : Nat} (e : ev P C x σ h = .exc c h1) : exec P C (.ret x) σ h = .exc c h1 := by
  rw [exec, e]; rfl
theorem ev_str1N (e : ev P C a σ h = .ok .non h1) : ev P C (.str1 a) σ h = .ok (.str "None") h1 := by
  rw [ev, e, R.bnd_ok]
theorem ev_str1X {c : Nat} (e : ev P C a σ h = .exc c h1) : ev P C (.str1 a) σ h = .exc c h1 := by
  rw [ev, e, R.bnd_exc]
theorem ev_str {s : Str} : ev P C (.str s) σ h = .ok (.str s) h := by rw [ev]
theorem ev_int1B {k : Bool} (e : ev P C a σ h = .ok (.bl k) h1) : ev P C (.int1 a) σ h = .ok (.int (if k then 1 else 0)) h1 := by
  rw [ev, e, R.bnd_ok]
theorem cmp_str {s t : Str} (hs : PyData.strOk s = true) (ht : PyData.strOk t = true) (h : Hh) : cmpop .eq (.str s) (.str t) h = some (s == t) ∧ cmpop .ne (.str s) (.str t) h = some (!(s == t)) := by
  obtain ⟨p, q⟩ := cmp_pu (Pu.str (n := 0) s hs) (Pu.str (n := 0) t ht) (by omega) (by omega) h
  have e : PyData.eqv (pd (.str s)) (pd (.str t)) = (s == t) := by rw [pd, pd, PyData.eqv]
  rw [e] at p q
  exact ⟨p, q⟩
/-- [x, y][int(b)] of texts -/
theorem ev_pick {s t : Str} {k : Bool} (e : ∀ h, ev P C b σ h = .ok (.bl k) h) : ev P C (.idx (.lst (.lit (.cons (.str s) (.cons (.str t) .nil)))) (.int1 b)) σ h = .ok (.str (if k then t else s)) (h ++ [.lst [.str s, .str t]]) := by
  have e1 : ev P C (.lst (.lit (.cons (.str s) (.cons (.str t) .nil)))) σ h = .ok (.ref h.length) (h ++ [.lst [.str s, .str t]]) := by
    refine ev_lst ?_
    rw [evL, evs_cons ev_str (evs_cons ev_str evs_nil), R.bnd_ok, if_pos (by simp [LIM])]
  refine ev_idx e1 (ev_int1B (e _)) ?_
  cases k with
  | true => exact idx_lst (i := 1) (last_get _ _) rfl (by omega)
  | false => exact idx_lst (i := 0) (last_get _ _) rfl (by omega)
end
end PI

set_option maxRecDepth 100000
set_option maxHeartbeats 2000000
/-! RL: words and choosers; throws that are tried; values that are no sides. -/
namespace PI
open PySem
def c_Hand_tried : Fn := ⟨2, 2, false, (.cons (.if_ (.not (.isi (.var 1) .tuple)) (.cons (.raise 56) .nil) .nil) (.cons (.ret (.sl (.idx (.fld (.fld (.var 0) 3) 2) (.idx (.mth (.var 0) 10 (.cons (.var 1) .nil)) (.neg (.int 1)))) .none (.some (.neg (.int 1))))) .nil))⟩
def c__law_wrong_sides : Fn := ⟨1, 1, false, (.cons (.ret (.lst (.lit (.cons (.neg (.int 1)) (.cons (.var 0) (.cons (.bin .add (.var 0) (.int 5)) (.cons (.bl true) (.cons (.bl false) (.cons .non (.cons (.str (PySem.Str.ofString "0")) (.cons (.tup (.cons (.int 0) .nil)) (.cons (.lst (.lit (.cons (.int 0) .nil))) (.cons (.tup .nil) (.cons .dict .nil)))))))))))))) .nil)⟩
def c_Chooser_after : Fn := ⟨2, 2, false, (.cons (.if_ (.not (.call 38 (.cons (.fld (.var 0) 0) (.cons (.var 1) .nil)))) (.cons (.raise 55) .nil) .nil) (.cons (.ret (.sl (.idx (.fld (.var 0) 2) (.idx (.mth (.var 0) 19 (.cons (.var 1) .nil)) (.int 0))) .none (.some (.neg (.int 1))))) .nil))⟩
def c_Chooser_walked : Fn := ⟨2, 5, false, (.cons (.set (.tup (.cons (.nm 2) (.cons (.nm 3) .nil))) (.tup (.cons (.int 0) (.cons (.int 0) .nil)))) (.cons (.for_ (.nm 4) (.seq (.of (.var 1))) (.cons (.if_ (.isi (.idx (.fld (.var 0) 1) (.var 2)) .tuple) (.cons (.set (.nm 2) (.idx (.idx (.fld (.var 0) 1) (.var 2)) (.var 4))) (.cons (.aug 3 (.int 1)) .nil)) .nil) .nil)) (.cons (.ret (.tup (.cons (.var 2) (.cons (.var 3) .nil)))) .nil)))⟩
def c_is_word : Fn := ⟨2, 3, false, (.cons (.ret (.and (.isi (.var 1) .tuple) (.all (.comp (.call 1 (.cons (.var 2) (.cons (.int 0) (.cons (.bin .sub (.var 0) (.int 1)) .nil)))) (.nm 2) (.seq (.of (.var 1))) .none [2])))) .nil)⟩
section
variable {P : Pg} {d : Nat} {h : Hh}
theorem lit_lst {C : Nat → List D → Hh → R D} {σ : Sto} {es : Es} {xs : List D} {h1 : Hh} (e : evs P C es σ h = .ok xs h1) (hl : xs.length ≤ LIM) : ev P C (.lst (.lit es)) σ h = .ok (.ref h1.length) (h1 ++ [.lst xs]) := by
  refine ev_lst ?_
  rw [evL, e, R.bnd_ok, if_pos hl]
/-- values that are no sides -/
def Odd (g : Hh) (sides : Nat) (xs : List D) : Prop := xs.length = 11 ∧ ∀ v ∈ xs, Plain g v ∧ intB 0 ((sides : Int) - 1) v = false
theorem wrong_ok (f : P.fns 212 = some c__law_wrong_sides) (sides : Nat) : ∃ (xs : List D) (h' : Hh) (r : Nat), callN P (d + 1) 212 [nat sides] h = .ok (.ref r) h' ∧ Kp h h' ∧ h'[r]? = some (.lst xs) ∧ h.length ≤ r ∧ Odd h' sides xs ∧ ∀ g, Kp h' g → Odd g sides xs := by
  rw [call_eq f (σ := [some (nat sides)]) rfl]
  unfold c__law_wrong_sides
  have e1 : evs P (callN P d) (.cons (.neg (.int 1)) (.cons (.var 0) (.cons (.bin .add (.var 0) (.int 5)) (.cons (.bl true) (.cons (.bl false) (.cons .non (.cons (.str (PySem.Str.ofString "0")) (.cons (.tup (.cons (.int 0) .nil)) (.cons (.lst (.lit (.cons (.int 0) .nil))) (.cons (.tup .nil) (.cons .dict .nil))))))))))) [some (nat sides)] h =
      .ok [.int (-1), nat sides, .int (sides + 5), .bl true, .bl false, .non, .str (PySem.Str.ofString "0"), .tup [.int 0], .ref h.length, .tup [], .ref (h.length + 1)] (h ++ [.lst [.int 0]] ++ [.dct []]) := by
    have z : (h ++ [O.lst [D.int 0]]).length = h.length + 1 := by simp
    rw [← z]; rfl
  have e2 := lit_lst e1 (by simp [LIM])
  generalize hH : h ++ [O.lst [D.int 0]] ++ [.dct []] = H at *
  have kH : Kp h H := by rw [← hH]; exact (Kp.app _ _).trans (Kp.app _ _)
  have g1 : H[h.length]? = some (.lst [.int 0]) := by rw [← hH]; exact get_app (last_get _ _)
  have g2 : H[h.length + 1]? = some (.dct []) := by
    have z := last_get (h ++ [O.lst [D.int 0]]) (O.dct [])
    rw [List.length_append, hH] at z
    exact z
  have odd : ∀ g, Kp H g → Odd g sides [.int (-1), nat sides, .int (sides + 5), .bl true, .bl false, .non, .str (PySem.Str.ofString "0"), .tup [.int 0], .ref h.length, .tup [], .ref (h.length + 1)] := fun g k => by
    refine ⟨rfl, fun v hv => ?_⟩
    have ib : ∀ i : Int, (i < 0 ∨ (sides : Int) - 1 < i) → intB 0 ((sides : Int) - 1) (.int i) = false := fun i hi => by
      show (decide ((0 : Int) ≤ i) && decide (i ≤ (sides : Int) - 1)) = false
      rcases hi with hi | hi
      · rw [decide_eq_false (by omega)]; rfl
      · rw [decide_eq_false (p := i ≤ (sides : Int) - 1) (by omega), Bool.and_false]
    simp only [List.mem_cons, List.not_mem_nil, or_false] at hv
    rcases hv with rfl | rfl | rfl | rfl | rfl | rfl | rfl | rfl | rfl | rfl | rfl
    · exact ⟨⟨.int, rfl, fun c z => by cases z⟩, ib _ (by omega)⟩
    · exact ⟨⟨.int, rfl, fun c z => by cases z⟩, ib _ (by omega)⟩
    · exact ⟨⟨.int, rfl, fun c z => by cases z⟩, ib _ (by omega)⟩
    · exact ⟨⟨.bl, rfl, fun c z => by cases z⟩, rfl⟩
    · exact ⟨⟨.bl, rfl, fun c z => by cases z⟩, rfl⟩
    · exact ⟨⟨.non, rfl, fun c z => by cases z⟩, rfl⟩
    · exact ⟨⟨.str, rfl, fun c z => by cases z⟩, rfl⟩
    · exact ⟨⟨.tup, rfl, fun c z => by cases z⟩, rfl⟩
    · refine ⟨⟨.lst, ?_, fun c z => by cases z⟩, rfl⟩
      unfold kdOf; dsimp only; rw [k.get g1]
    · exact ⟨⟨.tup, rfl, fun c z => by cases z⟩, rfl⟩
    · refine ⟨⟨.dct, ?_, fun c z => by cases z⟩, rfl⟩
      unfold kdOf; dsimp only; rw [k.get g2]
  have e := congrArg (fun z => R.bnd z outOf) (ex_rt (ss := .nil) (ex_ret e2))
  exact ⟨_, _, _, e.trans rfl, kH.trans (Kp.app _ _), last_get _ _, kH.len, odd _ (Kp.app _ _), fun g k => odd g ((Kp.app _ _).trans k)⟩
end
/-! ### words walked -/
def wstep (t : List Row) (a : Nat × Nat) (x : Nat) : Nat × Nat := match t.getD a.1 (.out 0) with
  | .go l => (l.getD x 0, a.2 + 1)
  | .out _ => a
def walkF (t : List Row) (w : List Nat) : Nat × Nat := w.foldl (wstep t) (0, 0)
theorem wstep_lt {sides many : Nat} {t : List Row} (g : TabGood sides many t) {a : Nat × Nat} {x : Nat} (ha : a.1 < t.length) (hx : x < sides) : (wstep t a x).1 < t.length := by
  unfold wstep
  have rok := g.ok _ (List.mem_of_getElem? (getD_tab ha))
  cases hr : t.getD a.1 (.out 0) with
  | out o => exact ha
  | go l =>
    rw [hr] at rok
    show l.getD x 0 < t.length
    have hxl : x < l.length := by rw [rok.1]; exact hx
    rw [List.getD_eq_getElem?_getD, List.getElem?_eq_getElem hxl]
    exact rok.2 _ (List.getElem_mem _)
theorem walk_lt {sides many : Nat} {t : List Row} (g : TabGood sides many t) : ∀ (w : List Nat) (a : Nat × Nat), a.1 < t.length → (∀ x ∈ w, x < sides) → (w.foldl (wstep t) a).1 < t.length
  | [], a, ha, _ => ha
  | x :: w, a, ha, hw => walk_lt g w _ (wstep_lt g ha (hw x List.mem_cons_self)) fun y hy => hw y (List.mem_cons_of_mem _ hy)
theorem walk_run {t : List Row} : ∀ (w : List Nat) (s n : Nat) (q : List Nat), runP t s w = some q → ∀ s', (s :: q).getLast? = some s' → w.foldl (wstep t) (s, n) = (s', n + w.length)
  | [], s, n, q, h, s', hl => by
    cases h
    simp at hl
    subst hl
    rfl
  | x :: w, s, n, q, h, s', hl => by
    unfold runP at h
    cases hr : t.getD s (.out 0) with
    | out o => rw [hr] at h; cases h
    | go l =>
      rw [hr] at h
      obtain ⟨q', h1, rfl⟩ := Option.map_eq_some_iff.mp h
      rw [List.foldl_cons]
      have e : wstep t (s, n) x = (l.getD x 0, n + 1) := by
        unfold wstep
        rw [hr]
      rw [e, walk_run w _ _ q' h1 s' (by rw [← hl, List.getLast?_cons_cons]), List.length_cons]
      congr 1
      omega
theorem walk_path {t : List Row} {w p : List Nat} {s : Nat} (h : Path t w p) (hs : p.getLast? = some s) : walkF t w = (s, w.length) := by
  obtain ⟨q, rfl, hq⟩ := h
  have := walk_run w 0 0 q hq s hs
  rw [Nat.zero_add] at this
  exact this
structure HasW (P : Pg) (c : Nat) : Prop where
  f38 : P.fns 38 = some c_is_word
  f48 : P.fns 48 = some c_Chooser_walked
  k : P.isc c = true
  at_ : P.attr c 0 = .fld ∧ P.attr c 1 = .fld ∧ P.attr c 2 = .fld
  m19 : P.meth c 19 = some 48
/-- a chooser in its heap -/
structure ChAt (h : Hh) (aC c r sides : Nat) (t : List Row) (X : Nat → List Rat) : Prop where
  obj : ∃ fs, h[aC]? = some (.ins c fs) ∧ fs.lookup 0 = some (nat sides) ∧ fs.lookup 1 = some (tabD t) ∧ fs.lookup 2 = some (.ref r) ∧ fs.lookup 19 = none ∧ fs.lookup 20 = none
  ans : h[r]? = some (.lst (ansD t.length X))
theorem ChAt.keep {h h' : Hh} {aC c r sides : Nat} {t : List Row} {X : Nat → List Rat} (g : ChAt h aC c r sides t X) (k : Kp h h') : ChAt h' aC c r sides t X := by
  obtain ⟨fs, h1, h2⟩ := g.obj
  exact ⟨⟨fs, k.get h1, h2⟩, k.get g.ans⟩
section
variable {P : Pg} {d : Nat} {h : Hh} {sides many : Nat} {t : List Row}
theorem is_word_ok (a : HasA P) (f : P.fns 38 = some c_is_word) {w : List Nat} (hw : ∀ x ∈ w, x < sides) (hl : w.length ≤ 100000) : callN P (d + 3) 38 [nat sides, .tup (w.map nat)] h = .ok (.bl true) h := by
  rw [call_eq f (σ := [some (nat sides), some (.tup (w.map nat)), none]) rfl]
  unfold c_is_word
  have t1 : ev P (callN P (d + 2)) (.isi (.var 1) .tuple) [some (nat sides), some (.tup (w.map nat)), none] h = .ok (.bl true) h := rfl
  have z := comp_tup (P := P) (C := callN P (d + 2)) (σ := [some (nat sides), some (.tup (w.map nat)), none]) (h := h) (h1 := h) (x := .var 1) (t := .nm 2) (own := [2]) (xs := w.map nat) (e := .call 1 (.cons (.var 2) (.cons (.int 0) (.cons (.bin .sub (.var 0) (.int 1)) .nil)))) (fun y => .bl (intB 0 ((sides : Int) - 1) y)) (ev_var rfl) (by rw [List.length_map]; simp only [LIM]; omega) (fun y hy => by
    obtain ⟨i, hi, rfl⟩ := List.mem_map.mp hy
    refine ⟨_, rfl, ?_⟩
    exact (ev_call (evs_cons (ev_var rfl) (evs_cons rfl (evs_cons (ev_bin (ev_var rfl) rfl rfl) evs_nil)))).trans (is_between_any a ⟨.int, rfl, fun c z => by cases z⟩ 0 _))
  have mm : ∀ L : List D, L.map (fun y => D.bl (intB 0 ((sides : Int) - 1) y)) = (L.map (intB 0 ((sides : Int) - 1))).map D.bl := fun L => by rw [List.map_map]; rfl
  rw [mm] at z
  have z2 := all_ok z
  have hall : ((w.map nat).map (intB 0 ((sides : Int) - 1))).all id = true := by
    rw [List.all_eq_true]
    intro b hb
    obtain ⟨y, hy, rfl⟩ := List.mem_map.mp hb
    obtain ⟨i, hi, rfl⟩ := List.mem_map.mp hy
    have := hw i hi
    show (decide ((0 : Int) ≤ (i : Nat)) && decide (((i : Nat) : Int) ≤ (sides : Int) - 1)) = true
    rw [decide_eq_true (by omega), decide_eq_true (by omega)]; rfl
  rw [hall] at z2
  rw [ex_rt (ex_ret ((ev_andT t1).trans z2))]; rfl
theorem walked_ok {c aC r : Nat} {X : Nat → List Rat} (b : HasW P c) (g : TabGood sides many t) (h6 : sides ≤ 6) (hC : ChAt h aC c r sides t X) {w : List Nat} (hw : ∀ x ∈ w, x < sides) (hl : w.length ≤ 100000) : callN P (d + 1) 48 [.ref aC, .tup (w.map nat)] h = .ok (.tup [nat (walkF t w).1, nat (walkF t w).2]) h := by
  obtain ⟨fs, hO, o0, o1, o2, _, _⟩ := hC.obj
  rw [call_eq b.f48 (σ := [some (.ref aC), some (.tup (w.map nat)), none, none, none]) rfl]
  unfold c_Chooser_walked
  rw [ex_nx (σ1 := [some (.ref aC), some (.tup (w.map nat)), some (nat 0), some (nat 0), none]) (h1 := h) rfl]
  obtain ⟨iv, ei, wk⟩ := it_seq (P := P) (C := callN P d) (σ := [some (.ref aC), some (.tup (w.map nat)), some (nat 0), some (nat 0), none]) (h := h) (l := .of (.var 1)) (v := .val (.tup (w.map nat))) (xs := w.map nat) (evL_of (ev_var rfl)) rfl
  rw [List.length_map] at wk
  obtain ⟨σ', h', q, s4, rfl, rfl⟩ := for_w (t := .nm 4) (b := (.cons (.if_ (.isi (.idx (.fld (.var 0) 1) (.var 2)) .tuple) (.cons (.set (.nm 2) (.idx (.idx (.fld (.var 0) 1) (.var 2)) (.var 4))) (.cons (.aug 3 (.int 1)) .nil)) .nil) .nil)) ei wk
    (fun i σ h' => ∃ s4 : Option D, σ = [some (.ref aC), some (.tup (w.map nat)), some (nat (walkF t (w.take i)).1), some (nat (walkF t (w.take i)).2), s4] ∧ h' = h)
    (fun i σ h' hI => by obtain ⟨_, _, rfl⟩ := hI; rfl)
    (fun i σ h' hi hI => by
      obtain ⟨s4, rfl, rfl⟩ := hI
      have hx : w[i]? = some w[i] := List.getElem?_eq_getElem hi
      have hxs := hw w[i] (List.getElem_mem _)
      have htk : walkF t (w.take (i + 1)) = wstep t (walkF t (w.take i)) w[i] := by
        unfold walkF
        rw [List.take_add_one, hx]
        rw [List.foldl_append]; rfl
      have hlt : (walkF t (w.take i)).1 < t.length := walk_lt g _ _ g.pos fun y hy => hw y (List.mem_of_mem_take hy)
      generalize w[i] = x at *
      rw [nth_eq (show (w.map nat)[i]? = some (nat x) by rw [List.getElem?_map, hx]; rfl)]
      rw [htk]
      generalize walkF t (w.take i) = a at *
      obtain ⟨s, n⟩ := a
      have hlt : s < t.length := hlt
      have rok := g.ok _ (List.mem_of_getElem? (getD_tab hlt))
      generalize hσ : [some (.ref aC), some (.tup (w.map nat)), some (nat s), some (nat n), some (nat x)] = σ
      refine ⟨σ, by rw [← hσ]; rfl, ?_⟩
      have e0 : ev P (callN P d) (.idx (.fld (.var 0) 1) (.var 2)) σ h' = .ok (t.getD s (.out 0)).d h' := by
        rw [← hσ]
        exact ev_idx (ev_fld (ev_var rfl) hO b.k b.at_.2.1 o1) (ev_var rfl) (row_idx hlt (by have := g.le; omega) h')
      have ei := isi_rowE e0
      unfold wstep
      cases hr : t.getD s (.out 0) with
      | out o =>
        rw [hr] at ei
        dsimp only
        exact ⟨_, _, (ex_nx (ex_ifF0 ei)).trans ex_nil, some (nat x), hσ.symm, rfl⟩
      | go l =>
        rw [hr] at ei e0 rok
        dsimp only
        have ig : idxop (Row.go l).d (nat x) h' = some (nat (l.getD x 0)) := by
          have hxl : x < l.length := by rw [rok.1]; exact hxs
          refine atI_nat (xs := l.map nat) ?_ (by omega)
          rw [List.getElem?_map, List.getElem?_eq_getElem hxl, List.getD_eq_getElem?_getD, List.getElem?_eq_getElem hxl]; rfl
        have e1 : exec P (callN P d) (.set (.nm 2) (.idx (.idx (.fld (.var 0) 1) (.var 2)) (.var 4))) σ h' = .ok (.nx [some (.ref aC), some (.tup (w.map nat)), some (nat (l.getD x 0)), some (nat n), some (nat x)]) h' :=
          ex_set (ev_idx e0 (by rw [← hσ]; exact ev_var rfl) ig) (by rw [← hσ]; rfl)
        have e2 : exec P (callN P d) (.aug 3 (.int 1)) [some (.ref aC), some (.tup (w.map nat)), some (nat (l.getD x 0)), some (nat n), some (nat x)] h' = .ok (.nx [some (.ref aC), some (.tup (w.map nat)), some (nat (l.getD x 0)), some (nat (n + 1)), some (nat x)]) h' := by
          show R.ok (Fl.nx [_, _, _, some (D.int _), _]) h' = _
          rfl
        exact ⟨_, _, (ex_nx ((ex_ifT ei).trans ((ex_nx e1).trans ((ex_nx e2).trans ex_nil)))).trans ex_nil, some (nat x), rfl, rfl⟩)
    ⟨none, rfl, rfl⟩
  rw [List.take_length] at q
  rw [ex_nx q, ex_rt (ex_ret (ev_tup (evs_cons (ev_var rfl) (evs_cons (ev_var rfl) evs_nil)) (by simp [LIM])))]; rfl
theorem after_ok {c aC r : Nat} {X : Nat → List Rat} (a : HasA P) (b : HasW P c) (f : P.fns 50 = some c_Chooser_after) (g : TabGood sides many t) (h6 : sides ≤ 6) (hC : ChAt h aC c r sides t X) {w : List Nat} (hw : ∀ x ∈ w, x < sides) (hl : w.length ≤ 100000) : callN P (d + 4) 50 [.ref aC, .tup (w.map nat)] h = .ok (chD X (walkF t w).1) h := by
  obtain ⟨fs, hO, o0, o1, o2, o19, _⟩ := hC.obj
  rw [call_eq f (σ := [some (.ref aC), some (.tup (w.map nat))]) rfl]
  unfold c_Chooser_after
  have c1 := ev_not ((ev_call (P := P) (C := callN P (d + 3)) (σ := [some (.ref aC), some (.tup (w.map nat))]) (h := h) (evs_cons (ev_fld (ev_var (i := 0) rfl) hO b.k b.at_.1 o0) (evs_cons (ev_var (i := 1) rfl) evs_nil))).trans (is_word_ok (d := d) a b.f38 hw hl))
  have lt := walk_lt g w (0, 0) g.pos hw
  have e1 : ev P (callN P (d + 3)) (.idx (.fld (.var 0) 2) (.idx (.mth (.var 0) 19 (.cons (.var 1) .nil)) (.int 0))) [some (.ref aC), some (.tup (w.map nat))] h = .ok (.tup ((X (walkF t w).1).map fr)) h :=
    ev_idx (ev_fld (ev_var rfl) hO b.k b.at_.2.2 o2) (ev_idx ((ev_mth (ev_var rfl) hO b.k o19 b.m19 (evs_cons (ev_var rfl) evs_nil)).trans (walked_ok (d := d + 2) b g h6 hC hw hl)) (show ev P (callN P (d + 3)) (.int 0) _ h = .ok (nat 0) h from ev_int) rfl) (ans_idx hC.ans lt (by have := g.le; omega))
  have e2 : ev P (callN P (d + 3)) (.sl (.idx (.fld (.var 0) 2) (.idx (.mth (.var 0) 19 (.cons (.var 1) .nil)) (.int 0))) .none (.some (.neg (.int 1)))) [some (.ref aC), some (.tup (w.map nat))] h = .ok (chD X (walkF t w).1) h := by
    rw [ev, e1, R.bnd_ok]
    show slop (.tup ((X (walkF t w).1).map fr)) none (some (-1)) h = _
    rw [cut_last]
    unfold chD
    rw [List.map_dropLast]
  rw [ex_nx (ex_ifF0 c1), ex_rt (ex_ret e2)]; rfl
/-! ### throws that are tried -/
theorem tried_gen (a : HasH P) (f : P.fns 19 = some c_Hand_tried) {aH aF r : Nat} {X : Nat → List Rat} {w p : List Nat} {ws : List D} (hd : Hd h aH aF r sides t X w p) : callN P (d + 2) 19 [.ref aH, .tup ws] h = match callN P (d + 1) 15 [.ref aH, .tup ws] h with
    | .ok v h' => (opt (idxop v (.int (-1)) h') h').bnd fun i h1 => (opt (idxop (.ref r) i h1) h1).bnd fun y h2 => slop y none (some (-1)) h2
    | .exc c h' => .exc c h'
    | .bad => .bad := by
  rw [call_eq f (σ := [some (.ref aH), some (.tup ws)]) rfl]
  unfold c_Hand_tried
  have c1 : ev P (callN P (d + 1)) (.not (.isi (.var 1) .tuple)) [some (.ref aH), some (.tup ws)] h = .ok (.bl false) h := rfl
  have e0 : ev P (callN P (d + 1)) (.fld (.fld (.var 0) 3) 2) [some (.ref aH), some (.tup ws)] h = .ok (.ref r) h := ev_fld (ev_fld (ev_var rfl) hd.hand a.k1 a.a1.1 rfl) hd.fro a.k0 a.a0.2.2 rfl
  have e1 : ev P (callN P (d + 1)) (.mth (.var 0) 10 (.cons (.var 1) .nil)) [some (.ref aH), some (.tup ws)] h = callN P (d + 1) 15 [.ref aH, .tup ws] h := ev_mth (ev_var rfl) hd.hand a.k1 rfl a.m1.1 (evs_cons (ev_var rfl) evs_nil)
  rw [ex_nx (ex_ifF0 c1)]
  have en : ∀ h, ev P (callN P (d + 1)) (.neg (.int 1)) [some (.ref aH), some (.tup ws)] h = .ok (.int (-1)) h := fun _ => rfl
  have e2 : ev P (callN P (d + 1)) (.sl (.idx (.fld (.fld (.var 0) 3) 2) (.idx (.mth (.var 0) 10 (.cons (.var 1) .nil)) (.neg (.int 1)))) .none (.some (.neg (.int 1)))) [some (.ref aH), some (.tup ws)] h = match callN P (d + 1) 15 [.ref aH, .tup ws] h with
    | .ok v h' => (opt (idxop v (.int (-1)) h') h').bnd fun i h1 => (opt (idxop (.ref r) i h1) h1).bnd fun y h2 => slop y none (some (-1)) h2
    | .exc c h' => .exc c h'
    | .bad => .bad := by
    cases hq : callN P (d + 1) 15 [.ref aH, .tup ws] h with
    | ok v h' =>
      rw [hq] at e1
      have e4 : ev P (callN P (d + 1)) (.idx (.mth (.var 0) 10 (.cons (.var 1) .nil)) (.neg (.int 1))) [some (.ref aH), some (.tup ws)] h = opt (idxop v (.int (-1)) h') h' := by
        rw [ev, e1, R.bnd_ok, en, R.bnd_ok]
      have e5 : ev P (callN P (d + 1)) (.idx (.fld (.fld (.var 0) 3) 2) (.idx (.mth (.var 0) 10 (.cons (.var 1) .nil)) (.neg (.int 1)))) [some (.ref aH), some (.tup ws)] h = (opt (idxop v (.int (-1)) h') h').bnd fun i h1 => opt (idxop (.ref r) i h1) h1 := by
        rw [ev, e0, R.bnd_ok, e4]
      rw [ev, e5]
      dsimp only
      cases idxop v (.int (-1)) h' with
      | none => rfl
      | some i =>
        rw [opt_some, R.bnd_ok, R.bnd_ok]
        cases idxop (.ref r) i h' with
        | none => rfl
        | some y => rfl
    | exc c h' =>
      rw [hq] at e1
      rw [ev, ev, e0, R.bnd_ok, ev, e1]; rfl
    | bad =>
      rw [hq] at e1
      rw [ev, ev, e0, R.bnd_ok, ev, e1]; rfl
  have e3 : ∀ rr : R D, execs P (callN P (d + 1)) (.cons (.ret (.sl (.idx (.fld (.fld (.var 0) 3) 2) (.idx (.mth (.var 0) 10 (.cons (.var 1) .nil)) (.neg (.int 1)))) .none (.some (.neg (.int 1))))) .nil) [some (.ref aH), some (.tup ws)] h = (rr.bnd fun v h1 => .ok (.rt v) h1) → (execs P (callN P (d + 1)) (.cons (.ret (.sl (.idx (.fld (.fld (.var 0) 3) 2) (.idx (.mth (.var 0) 10 (.cons (.var 1) .nil)) (.neg (.int 1)))) .none (.some (.neg (.int 1))))) .nil) [some (.ref aH), some (.tup ws)] h).bnd outOf = rr := fun rr e => by
    rw [e]
    cases rr <;> rfl
  refine e3 _ ?_
  rw [execs, exec, e2]
  cases (match callN P (d + 1) 15 [.ref aH, .tup ws] h with
    | .ok v h' => (opt (idxop v (.int (-1)) h') h').bnd fun i h1 => (opt (idxop (.ref r) i h1) h1).bnd fun y h2 => slop y none (some (-1)) h2
    | .exc c h' => .exc c h'
    | .bad => .bad) <;> rfl
theorem tried_good (a : HasH P) (f : P.fns 19 = some c_Hand_tried) (g : TabGood sides many t) (h6 : sides ≤ 6) {aH aF r s s' : Nat} {X : Nat → List Rat} {w p ws q : List Nat} (hd : Hd h aH aF r sides t X w p) (hs : p.getLast? = some s) (hws : ∀ x ∈ ws, x < sides) (hl : p.length + ws.length ≤ 1000) (hq : runP t s ws = some q) (hs' : (p ++ q).getLast? = some s') :
    callN P (d + 4) 19 [.ref aH, .tup (ws.map nat)] h = .ok (chD X s') h := by
  have e := path_good (d := d) a g h6 hd.hand hd.fro hs (hd.lt g hs) hws (by omega)
  rw [hq] at e
  rw [tried_gen (d := d + 2) a f hd, e]
  have hlt : s' < t.length := (hd.path.app hs hq).lt g (fun x hx => by
    rcases List.mem_append.mp hx with z | z
    · exact hd.side x z
    · exact hws x z) s' (List.mem_of_getLast? hs')
  have i1 : idxop (.tup ((p ++ q).map nat)) (.int (-1)) h = some (nat s') := atI_last (by rw [List.getLast?_map, hs']; rfl)
  dsimp only
  rw [i1, opt_some, R.bnd_ok, ans_idx hd.ans hlt (by have := g.le; omega), opt_some, R.bnd_ok, cut_last]
  unfold chD
  rw [List.map_dropLast]
theorem tried_done (a : HasH P) (f : P.fns 19 = some c_Hand_tried) (g : TabGood sides many t) (h6 : sides ≤ 6) {aH aF r s : Nat} {X : Nat → List Rat} {w p ws : List Nat} (hd : Hd h aH aF r sides t X w p) (hs : p.getLast? = some s) (hws : ∀ x ∈ ws, x < sides) (hl : p.length + ws.length ≤ 1000) (hq : runP t s ws = none) :
    callN P (d + 4) 19 [.ref aH, .tup (ws.map nat)] h = .exc 57 h := by
  have e := path_good (d := d) a g h6 hd.hand hd.fro hs (hd.lt g hs) hws (by omega)
  rw [hq] at e
  rw [tried_gen (d := d + 2) a f hd, e]
theorem tried_bad (a : HasH P) (f : P.fns 19 = some c_Hand_tried) {aH aF r : Nat} {X : Nat → List Rat} {w p : List Nat} {xs : List D} (hd : Hd h aH aF r sides t X w p) (hpl : ∀ v ∈ xs, Plain h v) (hb : xs.all (intB 0 ((sides : Int) - 1)) = false) (hl : xs.length ≤ 1000) :
    callN P (d + 4) 19 [.ref aH, .tup xs] h = .exc 56 h := by
  have e := path_bad (d := d) a hd.hand hd.fro hpl (by simp only [LIM]; omega) hb
  rw [tried_gen (d := d + 2) a f hd, e]
/-- no tuple -/
theorem tried_kind (f : P.fns 19 = some c_Hand_tried) {aH : Nat} {v : D} {k : Kd} (hk : kdOf h v = some k) (hni : ∀ c, k ≠ .ins c) (hnt : kdIs k .tuple = false) : callN P (d + 1) 19 [.ref aH, v] h = .exc 56 h := by
  rw [call_eq f (σ := [some (.ref aH), some v]) rfl]
  unfold c_Hand_tried
  have c1 := ev_not (isi_of (P := P) (C := callN P d) (σ := [some (.ref aH), some v]) (i := 1) (t := .tuple) rfl hk hni (fun c z => by cases z))
  rw [hnt] at c1
  rw [ex_exc (c := 56) (h1 := h) ((ex_ifT c1).trans rfl)]; rfl
end
end PI

set_option maxRecDepth 100000
set_option maxHeartbeats 2000000
/-! RM: a wrong side put into a word; the four that are kept of a hand. -/
namespace PI
open PySem
section
variable {P : Pg} {d : Nat} {h : Hh}
/-- more[:at] + (odd[cell // 4 % len(odd)],) + more[at + 1:] -/
theorem mixed_ev {C : Nat → List D → Hh → R D} {σ : Sto} {im ic io ia : Nat} {ws : List Nat} {od : List D} {z : Int} {ro at_ sides : Nat} (vm : σ[im]? = some (some (.tup (ws.map nat)))) (vc : σ[ic]? = some (some (.int z))) (vo : σ[io]? = some (some (.ref ro))) (va : σ[ia]? = some (some (nat at_))) (go : h[ro]? = some (.lst od)) (odd : Odd h sides od) (hat : at_ < ws.length) (hl : ws.length ≤ 1000) :
    ∃ mx, ev P C (.bin .add (.bin .add (.sl (.var im) .none (.some (.var ia))) (.tup (.cons (.idx (.var io) (.bin .mod (.bin .fdiv (.var ic) (.int 4)) (.len (.of (.var io))))) .nil))) (.sl (.var im) (.some (.bin .add (.var ia) (.int 1))) .none)) σ h = .ok (.tup mx) h ∧ mx.length = ws.length ∧ (∀ v ∈ mx, Plain h v) ∧ mx.all (intB 0 ((sides : Int) - 1)) = false := by
  obtain ⟨oi, oi1, oi2⟩ := mod_small (x := z / (4 : Nat)) (m := 11) (by decide)
  have odi : od[oi]? = some (nth od oi) := nth_get (by rw [odd.1]; exact oi2)
  generalize nth od oi = ov at odi
  have ovm := List.mem_of_getElem? odi
  have c1 : ev P C (.sl (.var im) .none (.some (.var ia))) σ h = .ok (.tup ((ws.map nat).take at_)) h := by
    rw [ev, ev_var vm, R.bnd_ok, evO, R.bnd_ok, evO, ev_var va, R.bnd_ok]
    show R.bnd (R.ok (some (at_ : Int)) h) _ = _
    rw [R.bnd_ok]
    show R.ok (D.tup (cutD _ none (some (at_ : Nat)))) h = _
    rw [cut_to]
  have c2 : ev P C (.sl (.var im) (.some (.bin .add (.var ia) (.int 1))) .none) σ h = .ok (.tup ((ws.map nat).drop (at_ + 1))) h := by
    have va := nat_add (ev_var (P := P) (C := C) (h := h) va) (show ev P C (.int 1) σ h = .ok (nat 1) h from ev_int)
    rw [ev, ev_var vm, R.bnd_ok, evO, va, R.bnd_ok]
    show R.bnd (R.ok (some ((at_ + 1 : Nat) : Int)) h) _ = _
    rw [R.bnd_ok, evO, R.bnd_ok]
    show R.ok (D.tup (cutD _ (some ((at_ + 1 : Nat) : Int)) none)) h = _
    rw [cut_from]
  have c3 : ev P C (.idx (.var io) (.bin .mod (.bin .fdiv (.var ic) (.int 4)) (.len (.of (.var io))))) σ h = .ok ov h := by
    have ln := ev_len (P := P) (C := C) (xs := od) (ev_var vo) (items_lst go)
    rw [odd.1] at ln
    have m := mod_ok (fdiv_ok (m := 4) (ev_var vc) ev_int (by decide) (by decide)) ln (by decide)
    rw [oi1] at m
    exact ev_idx (ev_var vo) m (idx_lst go odi (by omega))
  have la : ((ws.map nat).take at_).length = at_ := by rw [List.length_take, List.length_map]; omega
  have lb : ((ws.map nat).drop (at_ + 1)).length = ws.length - (at_ + 1) := by rw [List.length_drop, List.length_map]
  refine ⟨((ws.map nat).take at_ ++ [ov]) ++ (ws.map nat).drop (at_ + 1), ?_, ?_, ?_, ?_⟩
  · refine ev_bin (ev_bin c1 (ev_tup (evs_cons c3 evs_nil) (by simp [LIM])) (?_ : _ = R.ok (.tup ((ws.map nat).take at_ ++ [ov])) h)) c2 ?_
    · show (if ((ws.map nat).take at_).length + [ov].length ≤ LIM then R.ok (D.tup _) h else .bad) = _
      rw [if_pos (by rw [la]; simp [LIM]; omega)]
    · show (if ((ws.map nat).take at_ ++ [ov]).length + ((ws.map nat).drop (at_ + 1)).length ≤ LIM then R.ok (D.tup _) h else .bad) = _
      rw [if_pos (by rw [List.length_append, la, lb]; simp [LIM]; omega)]
  · rw [List.length_append, List.length_append, la, lb]
    simp
    omega
  · intro v hv
    have hn : ∀ v ∈ ws.map nat, Plain h v := fun v hv => by
      obtain ⟨y, _, rfl⟩ := List.mem_map.mp hv
      exact ⟨.int, rfl, fun c z => by cases z⟩
    rcases List.mem_append.mp hv with hv | hv
    · rcases List.mem_append.mp hv with hv | hv
      · exact hn v (List.mem_of_mem_take hv)
      · simp at hv; subst hv; exact (odd.2 v ovm).1
    · exact hn v (List.mem_of_mem_drop hv)
  · rw [List.all_append, List.all_append]
    have : [ov].all (intB 0 ((sides : Int) - 1)) = false := by simp [(odd.2 ov ovm).2]
    rw [this, Bool.and_false, Bool.false_and]
/-- cell // 4 % len(more) -/
theorem at_ev {C : Nat → List D → Hh → R D} {σ : Sto} {im ic : Nat} {ws : List Nat} {z : Int} (vm : σ[im]? = some (some (.tup (ws.map nat)))) (vc : σ[ic]? = some (some (.int z))) (hw : ws ≠ []) : ∃ at_, at_ < ws.length ∧ ev P C (.bin .mod (.bin .fdiv (.var ic) (.int 4)) (.len (.of (.var im)))) σ h = .ok (nat at_) h := by
  have hpos : 0 < ws.length := List.length_pos_iff.mpr hw
  obtain ⟨at_, at1, at2⟩ := mod_small (x := z / (4 : Nat)) (m := ws.length) hpos
  have ln := ev_len (P := P) (C := C) (h := h) (x := .tup (ws.map nat)) (xs := ws.map nat) (ev_var vm) rfl
  rw [List.length_map] at ln
  have m := mod_ok (fdiv_ok (m := 4) (ev_var vc) (ev_int (i := 4)) (by decide) (by decide)) ln hpos
  rw [at1] at m
  exact ⟨at_, at2, m⟩
/-- cell % 4 == 3 and more != () -/
theorem odd_cond {C : Nat → List D → Hh → R D} {σ : Sto} {im ic : Nat} {ws : List Nat} {z : Int} (vm : σ[im]? = some (some (.tup (ws.map nat)))) (vc : σ[ic]? = some (some (.int z))) (hl : ws.length ≤ 1000) : ev P C (.and (.cmp .eq (.bin .mod (.var ic) (.int 4)) (.int 3)) (.cmp .ne (.var im) (.tup .nil))) σ h = .ok (.bl (decide (z % (4 : Nat) = 3) && !decide (ws = []))) h := by
  have m := mod_ok (P := P) (C := C) (m := 4) (ev_var (h := h) vc) ev_int (by decide)
  have e := ev_cmp (o := .eq) m (ev_int (i := 3)) (eq_int (h := h))
  by_cases h3 : z % (4 : Nat) = 3
  · rw [decide_eq_true h3] at e ⊢
    exact (ev_andT e).trans (ev_cmp (ev_var vm) (ev_tup evs_nil (by simp [LIM])) (eq_nats (a := ws) (b := []) (by omega) (by simp) h).2)
  · rw [decide_eq_false h3] at e ⊢
    exact ev_andF e
/-- (word, state, outcome, chances) of a hand -/
def fourD (t : List Row) (X : Nat → List Rat) (w : List Nat) (s : Nat) : D := .tup [.tup (w.map nat), nat s, outD (t.getD s (.out 0)), chD X s]
theorem four_pu {sides many : Nat} {t : List Row} {X : Nat → List Rat} (an : Ans sides many t X) (hm : many ≤ 6) {w : List Nat} {s : Nat} (hw : w.length ≤ 1000) (hs : s < t.length) : Pu 3 (fourD t X w s) := .tup (by simp) fun x hx => by
  simp only [List.mem_cons, List.not_mem_nil, or_false] at hx
  rcases hx with rfl | rfl | rfl | rfl
  · exact Pu.nats 1 (by omega)
  · exact .int _
  · exact pu_outD _
  · exact pu_chD (by rw [an.len s hs]; omega)
theorem four_ev (a : HasO P) (f14 : P.fns 14 = some c_Hand_chances) (g9 : P.attr 1 9 = .prop 14) {σ : Sto} {aH aF r sides many s im : Nat} {t : List Row} {X : Nat → List Rat} {w p : List Nat} (tg : TabGood sides many t) (hd : Hd h aH aF r sides t X w p) (hs : p.getLast? = some s) (vm : σ[im]? = some (some (.ref aH))) :
    ev P (callN P (d + 1)) (.tup (.cons (.fld (.var im) 6) (.cons (.fld (.var im) 7) (.cons (.fld (.var im) 8) (.cons (.fld (.var im) 9) .nil))))) σ h = .ok (fourD t X w s) h :=
  ev_tup (evs_cons (ev_word a.toHasH hd (ev_var vm)) (evs_cons (ev_state a.toHasH hd hs (ev_var vm)) (evs_cons (ev_outcome a tg hd hs (ev_var vm)) (evs_cons (ev_chances a.toHasH f14 g9 tg hd hs (ev_var vm)) evs_nil)))) (by simp [LIM])
end
end PI

set_option maxRecDepth 100000
set_option maxHeartbeats 2000000
/-! RN: statements by what is wanted behind them. -/
namespace PI
open PySem
/-- behind a statement: N if it goes on, Z of any other end -/
def Wp (r : R Fl) (N : Sto → Hh → Prop) (Z : R Fl → Prop) : Prop := match r with
  | .ok (.nx σ) h => N σ h
  | r => Z r
/-- inside a loop -/
def Zb (N : Sto → Hh → Prop) (M : Sto → Hh → Prop) (Z : R Fl → Prop) : R Fl → Prop
  | .ok (.rt v) h => Z (.ok (.rt v) h)
  | .ok (.ct σ) h => N σ h
  | .ok (.bk σ) h => M σ h
  | .exc c h => Z (.exc c h)
  | _ => False
section
variable {P : Pg} {C : Nat → List D → Hh → R D} {σ σ1 : Sto} {h h1 h2 : Hh} {N M : Sto → Hh → Prop} {Z : R Fl → Prop} {s : S} {ss p q : Ss} {x a b : E} {v w : D} {t : Tg}
theorem wp_nil (hn : N σ h) : Wp (execs P C .nil σ h) N Z := hn
theorem wp_cons (e : Wp (exec P C s σ h) (fun σ1 h1 => Wp (execs P C ss σ1 h1) N Z) Z) : Wp (execs P C (.cons s ss) σ h) N Z := by
  unfold Wp at *
  rw [execs]
  cases hr : exec P C s σ h with
  | bad => rw [hr] at e; exact e
  | exc c h1 => rw [hr] at e; exact e
  | ok f h1 =>
    rw [hr] at e
    cases f <;> exact e
theorem wp_one (e : Wp (exec P C s σ h) N Z) : Wp (execs P C (.cons s .nil) σ h) N Z := wp_cons e
theorem wp_set (e : ev P C x σ h = .ok v h1) (e2 : asT t v σ = some σ1) (hn : N σ1 h1) : Wp (exec P C (.set t x) σ h) N Z := by
  rw [ex_set e e2]; exact hn
theorem wp_ss (e : ev P C x σ h = .ok v h1) (e2 : asT t v σ = some σ1) (hn : Wp (execs P C ss σ1 h1) N Z) : Wp (execs P C (.cons (.set t x) ss) σ h) N Z := wp_cons (wp_set e e2 hn)
theorem wp_ex (e : ev P C x σ h = .ok v h1) (hn : Wp (execs P C ss σ h1) N Z) : Wp (execs P C (.cons (.expr x) ss) σ h) N Z := wp_cons (by rw [ex_expr e]; exact hn)
theorem wp_ret (e : ev P C x σ h = .ok v h1) (hz : Z (.ok (.rt v) h1)) : Wp (execs P C (.cons (.ret x) ss) σ h) N Z := wp_cons (by rw [ex_ret e]; exact hz)
theorem wp_retX {c : Nat} (e : ev P C x σ h = .exc c h1) (hz : Z (.exc c h1)) : Wp (execs P C (.cons (.ret x) ss) σ h) N Z := wp_cons (by rw [ex_retX e]; exact hz)
theorem wp_if {k : Bool} (e : ev P C x σ h = .ok (.bl k) h1) (kT : k = true → Wp (execs P C p σ h1) (fun σ1 h1 => Wp (execs P C ss σ1 h1) N Z) Z) (kF : k = false → Wp (execs P C q σ h1) (fun σ1 h1 => Wp (execs P C ss σ1 h1) N Z) Z) : Wp (execs P C (.cons (.if_ x p q) ss) σ h) N Z := by
  refine wp_cons ?_
  rw [ex_if e]
  cases k with
  | true => exact kT rfl
  | false => exact kF rfl
theorem wp_ifx {k : Bool} (e : ev P C x σ h = .ok (.bl k) h1) (kT : k = true → Wp (execs P C p σ h1) N Z) (kF : k = false → Wp (execs P C q σ h1) N Z) : Wp (exec P C (.if_ x p q) σ h) N Z := by
  rw [ex_if e]
  cases k with
  | true => exact kT rfl
  | false => exact kF rfl
theorem wp_seq {M : Sto → Hh → Prop} (e : Wp (exec P C s σ h) M Z) (hn : ∀ σ1 h1, M σ1 h1 → Wp (execs P C ss σ1 h1) N Z) : Wp (execs P C (.cons s ss) σ h) N Z := by
  refine wp_cons ?_
  unfold Wp at *
  split
  · rename_i e2; rw [e2] at e; exact hn _ _ e
  · rename_i hr
    split at e
    · rename_i e2; exact absurd e2 (hr _ _)
    · exact e
theorem wp_ifF (e : ev P C x σ h = .ok (.bl false) h1) (hn : Wp (execs P C ss σ h1) N Z) : Wp (execs P C (.cons (.if_ x p .nil) ss) σ h) N Z := wp_cons (by rw [ex_ifF0 e]; exact hn)
theorem wp_ifT (e : ev P C x σ h = .ok (.bl true) h1) (hn : Wp (execs P C p σ h1) (fun σ1 h1 => Wp (execs P C ss σ1 h1) N Z) Z) : Wp (execs P C (.cons (.if_ x p q) ss) σ h) N Z := wp_cons (by rw [ex_ifT e]; exact hn)
theorem wp_raise {c : Nat} (hz : Z (.exc c h)) : Wp (execs P C (.cons (.raise c) ss) σ h) N Z := wp_cons hz
theorem wp_pass (hn : Wp (execs P C ss σ h) N Z) : Wp (execs P C (.cons .pass ss) σ h) N Z := wp_cons hn
theorem wp_mono {r : R Fl} {N' : Sto → Hh → Prop} {Z' : R Fl → Prop} (e : Wp r N Z) (h1 : ∀ σ h, N σ h → N' σ h) (h2 : ∀ r, Z r → Z' r) : Wp r N' Z' := by
  unfold Wp at *
  split
  · exact h1 _ _ e
  · rename_i hr
    split at e
    · exact absurd rfl (hr _ _)
    · exact h2 _ e
theorem for_go {fin : Hh → Bool} {get : Hh → Nat → Option D} {body : Sto → Hh → R Fl} (n0 : Nat) (I : Nat → Sto → Hh → Prop) (hfin : ∀ σ h, I n0 σ h → fin h = true)
    (step : ∀ i σ h, i < n0 → I i σ h → ∃ x σ1, get h i = some x ∧ asT t x σ = some σ1 ∧ Wp (body σ1 h) (I (i + 1)) (Zb (I (i + 1)) N Z)) (hn : ∀ σ h, I n0 σ h → N σ h) :
    ∀ n i σ h, n + i = n0 → I i σ h → Wp (forGo fin get t body n i σ h) N Z
  | 0, i, σ, h, e, hi => by
    have : i = n0 := by omega
    subst this
    unfold forGo
    rw [if_pos (hfin σ h hi)]
    exact hn σ h hi
  | n + 1, i, σ, h, e, hi => by
    obtain ⟨x, σ1, e1, e2, e3⟩ := step i σ h (by omega) hi
    unfold forGo
    simp only [e1, e2]
    cases hb : body σ1 h with
    | bad => rw [hb] at e3; exact e3.elim
    | exc c h2 => rw [hb] at e3; exact e3
    | ok f h2 =>
      rw [hb] at e3
      cases f with
      | nx σ2 => exact for_go n0 I hfin step hn n (i + 1) σ2 h2 (by omega) e3
      | ct σ2 => exact for_go n0 I hfin step hn n (i + 1) σ2 h2 (by omega) e3
      | bk σ2 => exact e3
      | rt v => exact e3
theorem wp_for {it : It} {bd : Ss} {iv : Iv} {n : Nat} {x : Nat → D} {Q : Hh → Prop} (ei : evIt P C it σ h = .ok iv h1) (w : Wlk iv n x Q) (I : Nat → Sto → Hh → Prop) (hq : ∀ i σ h, I i σ h → Q h) (hi : I 0 σ h1)
    (step : ∀ i σ h, i < n → I i σ h → ∃ σ1, asT t (x i) σ = some σ1 ∧ Wp (execs P C bd σ1 h) (I (i + 1)) (Zb (I (i + 1)) (fun σ1 h1 => Wp (execs P C ss σ1 h1) N Z) Z)) (hn : ∀ σ h, I n σ h → Wp (execs P C ss σ h) N Z) :
    Wp (execs P C (.cons (.for_ t it bd) ss) σ h) N Z := by
  refine wp_cons ?_
  have hn' := w.num
  have e : exec P C (.for_ t it bd) σ h = forGo iv.fin iv.get t (fun σ h => execs P C bd σ h) iv.n 0 σ h1 := by rw [exec, ei, R.bnd_ok]
  rw [e]
  refine for_go n I (fun σ h k => w.fin h (hq _ σ h k)) (fun i σ h hi k => ?_) hn _ 0 σ h1 (by omega) hi
  obtain ⟨σ1, k1, k2⟩ := step i σ h hi k
  exact ⟨x i, σ1, w.get h i (hq _ σ h k) hi, k1, k2⟩
theorem while_go {test : Sto → Hh → R Bool} {body : Sto → Hh → R Fl} (I : Nat → Sto → Hh → Prop)
    (step : ∀ k σ h, I k σ h → (∃ h1, test σ h = .ok false h1 ∧ N σ h1) ∨ (∃ h1, test σ h = .ok true h1 ∧ ∃ j, j < k ∧ Wp (body σ h1) (I j) (Zb (I j) N Z))) :
    ∀ n k σ h, k < n → I k σ h → Wp (whileGo test body n σ h) N Z
  | 0, k, σ, h, e, hi => by omega
  | n + 1, k, σ, h, e, hi => by
    unfold whileGo
    rcases step k σ h hi with ⟨h1, e1, e2⟩ | ⟨h1, e1, j, hj, e2⟩
    · simp only [e1, R.bnd_ok]
      exact e2
    · simp only [e1, R.bnd_ok]
      cases hb : body σ h1 with
      | bad => rw [hb] at e2; exact e2.elim
      | exc c h2 => rw [hb] at e2; exact e2
      | ok f h2 =>
        rw [hb] at e2
        cases f with
        | nx σ2 => exact while_go I step n j σ2 h2 (by omega) e2
        | ct σ2 => exact while_go I step n j σ2 h2 (by omega) e2
        | bk σ2 => exact e2
        | rt v => exact e2
theorem wp_while {c : E} {bd : Ss} (I : Nat → Sto → Hh → Prop) (k : Nat) (hk : k < 1000000000) (hi : I k σ h)
    (step : ∀ k σ h, I k σ h → (∃ h1, ev P C c σ h = .ok (.bl false) h1 ∧ Wp (execs P C ss σ h1) N Z) ∨ (∃ h1, ev P C c σ h = .ok (.bl true) h1 ∧ ∃ j, j < k ∧ Wp (execs P C bd σ h1) (I j) (Zb (I j) (fun σ1 h1 => Wp (execs P C ss σ1 h1) N Z) Z))) :
    Wp (execs P C (.cons (.while_ c bd) ss) σ h) N Z := by
  refine wp_cons ?_
  rw [exec]
  refine while_go I (fun k σ h hi => ?_) big k σ h (by unfold big; omega) hi
  rcases step k σ h hi with ⟨h1, e1, e2⟩ | ⟨h1, e1, e2⟩
  · exact .inl ⟨h1, by rw [e1]; rfl, e2⟩
  · exact .inr ⟨h1, by rw [e1]; rfl, e2⟩
/-- a statement that is known -/
theorem wp_is {f : Fl} (e : exec P C s σ h = .ok f h1) (hn : Wp (.ok f h1) (fun σ1 h1 => Wp (execs P C ss σ1 h1) N Z) Z) : Wp (execs P C (.cons s ss) σ h) N Z := wp_cons (by rw [e]; exact hn)
theorem wp_nx (e : exec P C s σ h = .ok (.nx σ1) h1) (hn : Wp (execs P C ss σ1 h1) N Z) : Wp (execs P C (.cons s ss) σ h) N Z := wp_cons (by rw [e]; exact hn)
end
section
variable {P : Pg} {d f : Nat} {F : Fn} {vs : List D} {h : Hh} {σ : Sto}
/-- what a call gives: Q of a value, X of an exception -/
def CZ (Q : D → Hh → Prop) (X : Nat → Hh → Prop) : R Fl → Prop
  | .ok (.rt v) h => Q v h
  | .exc c h => X c h
  | _ => False
theorem call_wp (hf : P.fns f = some F) (hσ : envOf F vs = some σ) {Q : D → Hh → Prop} (e : Wp (execs P (callN P d) F.body σ h) (fun _ h => Q .non h) (CZ Q (fun _ _ => False))) : ∃ v h', callN P (d + 1) f vs h = .ok v h' ∧ Q v h' := by
  rw [call_eq hf hσ]
  unfold Wp at e
  split at e
  · rename_i σ1 h1 hr
    rw [hr]
    exact ⟨.non, h1, rfl, e⟩
  · unfold CZ at e
    split at e
    · rename_i v h1 hr
      rw [hr]
      exact ⟨v, h1, rfl, e⟩
    · exact e.elim
    · exact e.elim
theorem call_eqv (hf : P.fns f = some F) (hσ : envOf F vs = some σ) {v : D} {h' : Hh} (e : Wp (execs P (callN P d) F.body σ h) (fun _ h1 => v = .non ∧ h1 = h') (CZ (fun x h1 => x = v ∧ h1 = h') (fun _ _ => False))) : callN P (d + 1) f vs h = .ok v h' := by
  rw [call_eq hf hσ]
  unfold Wp at e
  split at e
  · rename_i σ1 h1 hr
    rw [hr, e.1, e.2]; rfl
  · unfold CZ at e
    split at e
    · rename_i v h1 hr
      rw [hr, e.1, e.2]; rfl
    · exact e.elim
    · exact e.elim
theorem call_exc (hf : P.fns f = some F) (hσ : envOf F vs = some σ) {c : Nat} {h' : Hh} (e : Wp (execs P (callN P d) F.body σ h) (fun _ _ => False) (fun r => r = .exc c h')) : callN P (d + 1) f vs h = .exc c h' := by
  rw [call_eq hf hσ]
  unfold Wp at e
  split at e
  · exact e.elim
  · rw [e]; rfl
/-- the end of a law -/
def Tr : R Fl → Prop := CZ (fun v _ => v = .bl true) (fun _ _ => False)
theorem law_wp (hf : P.fns f = some F) (hσ : envOf F vs = some σ) (e : Wp (execs P (callN P d) F.body σ h) (fun _ _ => False) Tr) : ∃ h', callN P (d + 1) f vs h = .ok (.bl true) h' := by
  obtain ⟨v, h', e1, rfl⟩ := call_wp (Q := fun v _ => v = .bl true) hf hσ (wp_mono e (fun _ _ z => z.elim) fun _ z => z)
  exact ⟨h', e1⟩
end
end PI

set_option maxRecDepth 100000
set_option maxHeartbeats 0
namespace PI.K59
open PySem PySem.Spec PyProof.Rows L2
def c_law : Fn := ⟨1, 15, false, (.cons (.set (.nm 1) (.bin .add (.int 2) (.bin .mod (.call 200 (.cons (.var 0) (.cons (.int 0) .nil))) (.int 5)))) (.cons (.set (.nm 2) (.bin .add (.int 1) (.bin .mod (.bin .fdiv (.call 200 (.cons (.var 0) (.cons (.int 0) .nil))) (.int 5)) (.int 6)))) (.cons (.set (.nm 3) (.call 203 (.cons (.call 200 (.cons (.var 0) (.cons (.int 1) .nil))) (.cons (.var 1) (.cons (.var 2) .nil))))) (.cons (.set (.nm 4) (.mk 2 (.cons (.var 1) (.cons (.var 2) (.cons (.var 3) .nil))))) (.cons (.set (.nm 5) (.mk 1 (.cons (.var 4) .nil))) (.cons (.set (.nm 6) (.tup .nil)) (.cons (.for_ (.nm 7) (.seq (.of (.call 211 (.cons (.call 200 (.cons (.var 0) (.cons (.int 2) .nil))) (.cons (.var 1) (.cons (.int 6) .nil)))))) (.cons (.if_ (.isN (.fld (.var 5) 8)) (.cons (.expr (.mth (.var 5) 11 (.cons (.var 7) .nil))) (.cons (.set (.nm 6) (.bin .add (.var 6) (.tup (.cons (.var 7) .nil)))) .nil)) .nil) .nil)) (.cons (.set (.nm 8) (.tup (.cons (.fld (.var 5) 6) (.cons (.fld (.var 5) 7) (.cons (.fld (.var 5) 8) (.cons (.fld (.var 5) 9) .nil)))))) (.cons (.for_ (.nm 9) (.seq (.of (.sl (.var 0) (.some (.int 3)) (.some (.int 11))))) (.cons (.set (.nm 10) (.call 211 (.cons (.bin .fdiv (.var 9) (.int 4)) (.cons (.var 1) (.cons (.int 12) .nil))))) (.cons (.set (.nm 11) (.str (PySem.Str.ofString "decided"))) (.cons (.if_ (.not (.call 101 (.cons (.var 3) (.cons (.bin .add (.var 6) (.var 10)) (.cons (.len (.of (.var 6))) .nil))))) (.cons (.set (.nm 11) (.mth (.var 4) 20 (.cons (.bin .add (.fld (.var 5) 6) (.var 10)) .nil))) .nil) .nil) (.cons (.if_ (.and (.cmp .eq (.bin .mod (.var 9) (.int 4)) (.int 3)) (.cmp .ne (.var 10) (.tup .nil))) (.cons (.set (.nm 12) (.call 212 (.cons (.var 1) .nil))) (.cons (.set (.nm 13) (.bin .mod (.bin .fdiv (.var 9) (.int 4)) (.len (.of (.var 10))))) (.cons (.set (.nm 10) (.bin .add (.bin .add (.sl (.var 10) .none (.some (.var 13))) (.tup (.cons (.idx (.var 12) (.bin .mod (.bin .fdiv (.var 9) (.int 4)) (.len (.of (.var 12))))) .nil))) (.sl (.var 10) (.some (.bin .add (.var 13) (.int 1))) .none))) (.cons (.set (.nm 11) (.str (PySem.Str.ofString "side"))) .nil)))) .nil) (.cons (.if_ (.not (.call 202 (.cons (.call 100 (.cons (.var 5) (.cons (.var 10) .nil))) (.cons (.var 11) .nil)))) (.cons (.ret (.bl false)) .nil) .nil) (.cons (.if_ (.or (.cmp .ne (.call 100 (.cons (.var 5) (.cons (.lst (.of (.var 10))) .nil))) (.str (PySem.Str.ofString "side"))) (.cmp .ne (.tup (.cons (.fld (.var 5) 6) (.cons (.fld (.var 5) 7) (.cons (.fld (.var 5) 8) (.cons (.fld (.var 5) 9) .nil))))) (.var 8))) (.cons (.ret (.bl false)) .nil) .nil) .nil))))))) (.cons (.for_ (.nm 14) (.seq (.lit (.cons (.lst (.lit .nil)) (.cons (.lst (.lit (.cons (.int 0) .nil))) (.cons .non (.cons (.int 0) (.cons (.str (PySem.Str.ofString "0")) (.cons (.bl true) (.cons .dict .nil))))))))) (.cons (.if_ (.cmp .ne (.call 100 (.cons (.var 5) (.cons (.var 14) .nil))) (.str (PySem.Str.ofString "side"))) (.cons (.ret (.bl false)) .nil) .nil) .nil)) (.cons (.ret (.and (.call 202 (.cons (.mth (.var 5) 24 (.cons (.tup .nil) .nil)) (.cons (.idx (.var 8) (.int 3)) .nil))) (.cmp .eq (.fld (.var 5) 6) (.idx (.var 8) (.int 0))))) .nil)))))))))))⟩
def c__law_tried : Fn := ⟨2, 2, false, (.cons (.try_ (.cons (.ret (.mth (.var 0) 24 (.cons (.var 1) .nil))) .nil) [56, 57, 55, 54, 53, 51] [(56, (.str (PySem.Str.ofString "side"))), (57, (.str (PySem.Str.ofString "decided")))]) .nil)⟩
def c__law_is_cut : Fn := ⟨3, 5, false, (.cons (.set (.nm 3) (.int 0)) (.cons (.for_ (.nm 4) (.rng1 (.len (.of (.var 1)))) (.cons (.if_ (.not (.isi (.idx (.var 0) (.var 3)) .tuple)) (.cons (.ret (.cmp .ge (.var 4) (.var 2))) .nil) .nil) (.cons (.set (.nm 3) (.idx (.idx (.var 0) (.var 3)) (.idx (.var 1) (.var 4)))) .nil))) (.cons (.ret (.bl false)) .nil)))⟩
abbrev top (i : Nat) : PySem.Stmt := PySem.Challenge.pw_flipchoice_k59_words_that_are_tried.main.body.getD i (.Pass ⟨0, 0, 0, 0⟩)
def d_law : FunDs := ⟨102, .glo (PySem.Str.ofString "law"), (PySem.Str.ofString "law"), (PySem.Str.ofString "law"), (top 64), [(PySem.Str.ofString "_law_script"), (PySem.Str.ofString "_law_sides"), (PySem.Str.ofString "_law_many"), (PySem.Str.ofString "_law_table_here"), (PySem.Str.ofString "_law_chooser"), (PySem.Str.ofString "_law_made"), (PySem.Str.ofString "_law_word_here"), (PySem.Str.ofString "_law_side"), (PySem.Str.ofString "_law_kept"), (PySem.Str.ofString "_law_cell_here"), (PySem.Str.ofString "_law_more"), (PySem.Str.ofString "_law_wanted"), (PySem.Str.ofString "_law_odd"), (PySem.Str.ofString "_law_at"), (PySem.Str.ofString "_law_value")], c_law⟩
def d_Hand_word : FunDs := ⟨11, .prp (PySem.Str.ofString "Hand") (PySem.Str.ofString "word"), (PySem.Str.ofString "word"), (PySem.Str.ofString "Hand.word"), (L2.inClass (top 25) 1), [(PySem.Str.ofString "self")], c_Hand_word⟩
def d__law_is_same : FunDs := ⟨202, .glo (PySem.Str.ofString "_law_is_same"), (PySem.Str.ofString "_law_is_same"), (PySem.Str.ofString "_law_is_same"), (top 58), [(PySem.Str.ofString "_law_actual"), (PySem.Str.ofString "_law_expected"), (PySem.Str.ofString "_law_k")], c__law_is_same⟩
def d_Hand_tried : FunDs := ⟨19, .met (PySem.Str.ofString "Hand") (PySem.Str.ofString "tried"), (PySem.Str.ofString "tried"), (PySem.Str.ofString "Hand.tried"), (L2.inClass (top 25) 9), [(PySem.Str.ofString "self"), (PySem.Str.ofString "word")], c_Hand_tried⟩
def d__law_tried : FunDs := ⟨100, .glo (PySem.Str.ofString "_law_tried"), (PySem.Str.ofString "_law_tried"), (PySem.Str.ofString "_law_tried"), (top 62), [(PySem.Str.ofString "_law_made"), (PySem.Str.ofString "_law_word_here")], c__law_tried⟩
def d_Hand_chances : FunDs := ⟨14, .prp (PySem.Str.ofString "Hand") (PySem.Str.ofString "chances"), (PySem.Str.ofString "chances"), (PySem.Str.ofString "Hand.chances"), (L2.inClass (top 25) 4), [(PySem.Str.ofString "self")], c_Hand_chances⟩
def d_Chooser_chances : FunDs := ⟨46, .prp (PySem.Str.ofString "Chooser") (PySem.Str.ofString "chances"), (PySem.Str.ofString "chances"), (PySem.Str.ofString "Chooser.chances"), (L2.inClass (top 54) 7), [(PySem.Str.ofString "self")], c_Chooser_chances⟩
def d_Hand_outcome : FunDs := ⟨13, .prp (PySem.Str.ofString "Hand") (PySem.Str.ofString "outcome"), (PySem.Str.ofString "outcome"), (PySem.Str.ofString "Hand.outcome"), (L2.inClass (top 25) 3), [(PySem.Str.ofString "self"), (PySem.Str.ofString "state")], c_Hand_outcome⟩
def d_Hand_state : FunDs := ⟨12, .prp (PySem.Str.ofString "Hand") (PySem.Str.ofString "state"), (PySem.Str.ofString "state"), (PySem.Str.ofString "Hand.state"), (L2.inClass (top 25) 2), [(PySem.Str.ofString "self")], c_Hand_state⟩
def d__law_wrong_sides : FunDs := ⟨212, .glo (PySem.Str.ofString "_law_wrong_sides"), (PySem.Str.ofString "_law_wrong_sides"), (PySem.Str.ofString "_law_wrong_sides"), (top 60), [(PySem.Str.ofString "_law_sides")], c__law_wrong_sides⟩
def d__law_is_cut : FunDs := ⟨101, .glo (PySem.Str.ofString "_law_is_cut"), (PySem.Str.ofString "_law_is_cut"), (PySem.Str.ofString "_law_is_cut"), (top 63), [(PySem.Str.ofString "_law_table_here"), (PySem.Str.ofString "_law_word_here"), (PySem.Str.ofString "_law_first"), (PySem.Str.ofString "_law_state"), (PySem.Str.ofString "_law_k")], c__law_is_cut⟩
def d_Chooser_after : FunDs := ⟨50, .met (PySem.Str.ofString "Chooser") (PySem.Str.ofString "after"), (PySem.Str.ofString "after"), (PySem.Str.ofString "Chooser.after"), (L2.inClass (top 54) 11), [(PySem.Str.ofString "self"), (PySem.Str.ofString "word")], c_Chooser_after⟩
def d__law_word : FunDs := ⟨211, .glo (PySem.Str.ofString "_law_word"), (PySem.Str.ofString "_law_word"), (PySem.Str.ofString "_law_word"), (top 61), [(PySem.Str.ofString "_law_cell_here"), (PySem.Str.ofString "_law_sides"), (PySem.Str.ofString "_law_most")], c__law_word⟩
def d__law_cell : FunDs := ⟨200, .glo (PySem.Str.ofString "_law_cell"), (PySem.Str.ofString "_law_cell"), (PySem.Str.ofString "_law_cell"), (top 56), [(PySem.Str.ofString "_law_script"), (PySem.Str.ofString "_law_k")], c__law_cell⟩
def d_Hand_throw : FunDs := ⟨16, .met (PySem.Str.ofString "Hand") (PySem.Str.ofString "throw"), (PySem.Str.ofString "throw"), (PySem.Str.ofString "Hand.throw"), (L2.inClass (top 25) 6), [(PySem.Str.ofString "self"), (PySem.Str.ofString "side")], c_Hand_throw⟩
def d_Hand_init : FunDs := ⟨10, .met (PySem.Str.ofString "Hand") (PySem.Str.ofString "__init__"), (PySem.Str.ofString "__init__"), (PySem.Str.ofString "Hand.__init__"), (L2.inClass (top 25) 0), [(PySem.Str.ofString "self"), (PySem.Str.ofString "chooser")], c_Hand_init⟩
def d_Chooser_init : FunDs := ⟨40, .met (PySem.Str.ofString "Chooser") (PySem.Str.ofString "__init__"), (PySem.Str.ofString "__init__"), (PySem.Str.ofString "Chooser.__init__"), (L2.inClass (top 54) 1), [(PySem.Str.ofString "self"), (PySem.Str.ofString "sides"), (PySem.Str.ofString "many"), (PySem.Str.ofString "table")], c_Chooser_init⟩
def d__law_table : FunDs := ⟨203, .glo (PySem.Str.ofString "_law_table"), (PySem.Str.ofString "_law_table"), (PySem.Str.ofString "_law_table"), (top 59), [(PySem.Str.ofString "_law_cell_here"), (PySem.Str.ofString "_law_sides"), (PySem.Str.ofString "_law_many"), (PySem.Str.ofString "_law_draws_here"), (PySem.Str.ofString "_law_inner"), (PySem.Str.ofString "_law_ends"), (PySem.Str.ofString "_law_size"), (PySem.Str.ofString "_law_rows"), (PySem.Str.ofString "_law_state"), (PySem.Str.ofString "_law_row"), (PySem.Str.ofString "_law_side"), (PySem.Str.ofString "_law_turn"), (PySem.Str.ofString "_law_k")], c__law_table⟩
def d_Hand_path_after : FunDs := ⟨15, .met (PySem.Str.ofString "Hand") (PySem.Str.ofString "path_after"), (PySem.Str.ofString "path_after"), (PySem.Str.ofString "Hand.path_after"), (L2.inClass (top 25) 5), [(PySem.Str.ofString "self"), (PySem.Str.ofString "word"), (PySem.Str.ofString "side"), (PySem.Str.ofString "path"), (PySem.Str.ofString "state")], c_Hand_path_after⟩
def d_Chooser_walked : FunDs := ⟨48, .met (PySem.Str.ofString "Chooser") (PySem.Str.ofString "walked"), (PySem.Str.ofString "walked"), (PySem.Str.ofString "Chooser.walked"), (L2.inClass (top 54) 9), [(PySem.Str.ofString "self"), (PySem.Str.ofString "word"), (PySem.Str.ofString "state"), (PySem.Str.ofString "length"), (PySem.Str.ofString "side")], c_Chooser_walked⟩
def d_is_word : FunDs := ⟨38, .glo (PySem.Str.ofString "is_word"), (PySem.Str.ofString "is_word"), (PySem.Str.ofString "is_word"), (top 52), [(PySem.Str.ofString "sides"), (PySem.Str.ofString "value"), (PySem.Str.ofString "side")], c_is_word⟩
def d__law_draws : FunDs := ⟨201, .glo (PySem.Str.ofString "_law_draws"), (PySem.Str.ofString "_law_draws"), (PySem.Str.ofString "_law_draws"), (top 57), [(PySem.Str.ofString "_law_cell_here"), (PySem.Str.ofString "_law_sizes"), (PySem.Str.ofString "_law_found"), (PySem.Str.ofString "_law_left"), (PySem.Str.ofString "_law_size"), (PySem.Str.ofString "_law_k"), (PySem.Str.ofString "_law_mixed")], c__law_draws⟩
def d_Hand_throw_all : FunDs := ⟨17, .met (PySem.Str.ofString "Hand") (PySem.Str.ofString "throw_all"), (PySem.Str.ofString "throw_all"), (PySem.Str.ofString "Hand.throw_all"), (L2.inClass (top 25) 7), [(PySem.Str.ofString "self"), (PySem.Str.ofString "word")], c_Hand_throw_all⟩
def d_Frozen_init : FunDs := ⟨9, .met (PySem.Str.ofString "Frozen") (PySem.Str.ofString "__init__"), (PySem.Str.ofString "__init__"), (PySem.Str.ofString "Frozen.__init__"), (L2.inClass (top 24) 0), [(PySem.Str.ofString "self"), (PySem.Str.ofString "chooser")], c_Frozen_init⟩
def d_Chooser_set_rows : FunDs := ⟨41, .met (PySem.Str.ofString "Chooser") (PySem.Str.ofString "set_rows"), (PySem.Str.ofString "set_rows"), (PySem.Str.ofString "Chooser.set_rows"), (L2.inClass (top 54) 2), [(PySem.Str.ofString "self"), (PySem.Str.ofString "sides"), (PySem.Str.ofString "many"), (PySem.Str.ofString "table")], c_Chooser_set_rows⟩
def d_is_table_by : FunDs := ⟨28, .glo (PySem.Str.ofString "is_table_by"), (PySem.Str.ofString "is_table_by"), (PySem.Str.ofString "is_table_by"), (top 39), [(PySem.Str.ofString "sides"), (PySem.Str.ofString "many"), (PySem.Str.ofString "value"), (PySem.Str.ofString "state")], c_is_table_by⟩
def d_check_many : FunDs := ⟨24, .glo (PySem.Str.ofString "check_many"), (PySem.Str.ofString "check_many"), (PySem.Str.ofString "check_many"), (top 35), [(PySem.Str.ofString "value")], c_check_many⟩
def d_check_sides : FunDs := ⟨22, .glo (PySem.Str.ofString "check_sides"), (PySem.Str.ofString "check_sides"), (PySem.Str.ofString "check_sides"), (top 31), [(PySem.Str.ofString "value")], c_check_sides⟩
def d_is_between : FunDs := ⟨1, .glo (PySem.Str.ofString "is_between"), (PySem.Str.ofString "is_between"), (PySem.Str.ofString "is_between"), (top 15), [(PySem.Str.ofString "value"), (PySem.Str.ofString "low"), (PySem.Str.ofString "high")], c_is_between⟩
def d_solved : FunDs := ⟨31, .glo (PySem.Str.ofString "solved"), (PySem.Str.ofString "solved"), (PySem.Str.ofString "solved"), (top 42), [(PySem.Str.ofString "sides"), (PySem.Str.ofString "many"), (PySem.Str.ofString "table"), (PySem.Str.ofString "shares"), (PySem.Str.ofString "constants"), (PySem.Str.ofString "place"), (PySem.Str.ofString "own"), (PySem.Str.ofString "rest"), (PySem.Str.ofString "later"), (PySem.Str.ofString "part"), (PySem.Str.ofString "before"), (PySem.Str.ofString "result"), (PySem.Str.ofString "known"), (PySem.Str.ofString "mine"), (PySem.Str.ofString "its")], c_solved⟩
def d_deciding : FunDs := ⟨27, .glo (PySem.Str.ofString "deciding"), (PySem.Str.ofString "deciding"), (PySem.Str.ofString "deciding"), (top 38), [(PySem.Str.ofString "table"), (PySem.Str.ofString "result"), (PySem.Str.ofString "place"), (PySem.Str.ofString "state"), (PySem.Str.ofString "before"), (PySem.Str.ofString "later")], c_deciding⟩
def d_reached_from : FunDs := ⟨26, .glo (PySem.Str.ofString "reached_from"), (PySem.Str.ofString "reached_from"), (PySem.Str.ofString "reached_from"), (top 37), [(PySem.Str.ofString "table"), (PySem.Str.ofString "start"), (PySem.Str.ofString "result"), (PySem.Str.ofString "done"), (PySem.Str.ofString "state"), (PySem.Str.ofString "later")], c_reached_from⟩
def d_is_state : FunDs := ⟨25, .glo (PySem.Str.ofString "is_state"), (PySem.Str.ofString "is_state"), (PySem.Str.ofString "is_state"), (top 36), [(PySem.Str.ofString "sides"), (PySem.Str.ofString "many"), (PySem.Str.ofString "size"), (PySem.Str.ofString "value"), (PySem.Str.ofString "later")], c_is_state⟩
def d_is_integer : FunDs := ⟨0, .glo (PySem.Str.ofString "is_integer"), (PySem.Str.ofString "is_integer"), (PySem.Str.ofString "is_integer"), (top 14), [(PySem.Str.ofString "value")], c_is_integer⟩
def d_plus : FunDs := ⟨4, .glo (PySem.Str.ofString "plus"), (PySem.Str.ofString "plus"), (PySem.Str.ofString "plus"), (top 18), [(PySem.Str.ofString "one"), (PySem.Str.ofString "other")], c_plus⟩
def d_times : FunDs := ⟨6, .glo (PySem.Str.ofString "times"), (PySem.Str.ofString "times"), (PySem.Str.ofString "times"), (top 20), [(PySem.Str.ofString "one"), (PySem.Str.ofString "other")], c_times⟩
def d_put_in : FunDs := ⟨30, .glo (PySem.Str.ofString "put_in"), (PySem.Str.ofString "put_in"), (PySem.Str.ofString "put_in"), (top 41), [(PySem.Str.ofString "shares"), (PySem.Str.ofString "constants"), (PySem.Str.ofString "place"), (PySem.Str.ofString "other"), (PySem.Str.ofString "own"), (PySem.Str.ofString "share"), (PySem.Str.ofString "later"), (PySem.Str.ofString "part"), (PySem.Str.ofString "known"), (PySem.Str.ofString "mine"), (PySem.Str.ofString "its")], c_put_in⟩
def d_over : FunDs := ⟨7, .glo (PySem.Str.ofString "over"), (PySem.Str.ofString "over"), (PySem.Str.ofString "over"), (top 21), [(PySem.Str.ofString "one"), (PySem.Str.ofString "other")], c_over⟩
def d_minus : FunDs := ⟨5, .glo (PySem.Str.ofString "minus"), (PySem.Str.ofString "minus"), (PySem.Str.ofString "minus"), (top 19), [(PySem.Str.ofString "one"), (PySem.Str.ofString "other")], c_minus⟩
def d_equations : FunDs := ⟨29, .glo (PySem.Str.ofString "equations"), (PySem.Str.ofString "equations"), (PySem.Str.ofString "equations"), (top 40), [(PySem.Str.ofString "sides"), (PySem.Str.ofString "many"), (PySem.Str.ofString "table"), (PySem.Str.ofString "shares"), (PySem.Str.ofString "constants"), (PySem.Str.ofString "state"), (PySem.Str.ofString "own"), (PySem.Str.ofString "known"), (PySem.Str.ofString "outcome"), (PySem.Str.ofString "later")], c_equations⟩
def d_ratio : FunDs := ⟨3, .glo (PySem.Str.ofString "ratio"), (PySem.Str.ofString "ratio"), (PySem.Str.ofString "ratio"), (top 17), [(PySem.Str.ofString "top"), (PySem.Str.ofString "bottom"), (PySem.Str.ofString "divisor")], c_ratio⟩
def d_greatest_divisor : FunDs := ⟨2, .glo (PySem.Str.ofString "greatest_divisor"), (PySem.Str.ofString "greatest_divisor"), (PySem.Str.ofString "greatest_divisor"), (top 16), [(PySem.Str.ofString "one"), (PySem.Str.ofString "other")], c_greatest_divisor⟩
def ds : Ds where
  funs := [d_law, d_Hand_word, d__law_is_same, d_Hand_tried, d__law_tried, d_Hand_chances, d_Chooser_chances, d_Hand_outcome, d_Hand_state, d__law_wrong_sides, d__law_is_cut, d_Chooser_after, d__law_word, d__law_cell, d_Hand_throw, d_Hand_init, d_Chooser_init, d__law_table, d_Hand_path_after, d_Chooser_walked, d_is_word, d__law_draws, d_Hand_throw_all, d_Frozen_init, d_Chooser_set_rows, d_is_table_by, d_check_many, d_check_sides, d_is_between, d_solved, d_deciding, d_reached_from, d_is_state, d_is_integer, d_plus, d_times, d_put_in, d_over, d_minus, d_equations, d_ratio, d_greatest_divisor]
  cls := [⟨(PySem.Str.ofString "Hand"), 1, 10, [(10, (PySem.Str.ofString "path_after"), 15), (11, (PySem.Str.ofString "throw"), 16), (12, (PySem.Str.ofString "throw_all"), 17), (24, (PySem.Str.ofString "tried"), 19)], [(6, (PySem.Str.ofString "word"), 11), (7, (PySem.Str.ofString "state"), 12), (8, (PySem.Str.ofString "outcome"), 13), (9, (PySem.Str.ofString "chances"), 14)], [(3, (PySem.Str.ofString "course")), (4, (PySem.Str.ofString "line")), (5, (PySem.Str.ofString "path"))]⟩,
    ⟨(PySem.Str.ofString "Chooser"), 2, 40, [(14, (PySem.Str.ofString "set_rows"), 41), (19, (PySem.Str.ofString "walked"), 48), (20, (PySem.Str.ofString "after"), 50)], [(9, (PySem.Str.ofString "chances"), 46)], [(0, (PySem.Str.ofString "side_count")), (13, (PySem.Str.ofString "outcome_count")), (1, (PySem.Str.ofString "rows")), (2, (PySem.Str.ofString "answers"))]⟩,
    ⟨(PySem.Str.ofString "Frozen"), 0, 9, [], [], [(0, (PySem.Str.ofString "side_count")), (1, (PySem.Str.ofString "rows")), (2, (PySem.Str.ofString "answers"))]⟩]
  exs := [((PySem.Str.ofString "SideError"), 56), ((PySem.Str.ofString "DecidedError"), 57), ((PySem.Str.ofString "WordError"), 55), ((PySem.Str.ofString "TableError"), 54), ((PySem.Str.ofString "OutcomeError"), 53), ((PySem.Str.ofString "SidesError"), 51)]
  con := [((PySem.Str.ofString "MOST_STATES"), 6, (.int 100)), ((PySem.Str.ofString "MOST_OUTCOMES"), 2, (.int 6)), ((PySem.Str.ofString "MOST_SIDES"), 4, (.int 6)), ((PySem.Str.ofString "LEAST_SIDES"), 3, (.int 2)), ((PySem.Str.ofString "ONE"), 1, (.tup [1, 1])), ((PySem.Str.ofString "ZERO"), 0, (.tup [0, 1]))]
  blt := [(PySem.Str.ofString "list"), (PySem.Str.ofString "len"), (PySem.Str.ofString "isinstance"), (PySem.Str.ofString "bool"), (PySem.Str.ofString "int"), (PySem.Str.ofString "str"), (PySem.Str.ofString "tuple"), (PySem.Str.ofString "all"), (PySem.Str.ofString "range"), (PySem.Str.ofString "zip"), (PySem.Str.ofString "enumerate"), (PySem.Str.ofString "any"), (PySem.Str.ofString "dict"), (PySem.Str.ofString "abs")]
  att := [(PySem.Str.ofString "side_count"), (PySem.Str.ofString "rows"), (PySem.Str.ofString "answers"), (PySem.Str.ofString "course"), (PySem.Str.ofString "line"), (PySem.Str.ofString "path"), (PySem.Str.ofString "word"), (PySem.Str.ofString "state"), (PySem.Str.ofString "outcome"), (PySem.Str.ofString "chances"), (PySem.Str.ofString "path_after"), (PySem.Str.ofString "throw"), (PySem.Str.ofString "throw_all"), (PySem.Str.ofString "outcome_count"), (PySem.Str.ofString "set_rows"), (PySem.Str.ofString "sides"), (PySem.Str.ofString "many"), (PySem.Str.ofString "table"), (PySem.Str.ofString "expected"), (PySem.Str.ofString "walked"), (PySem.Str.ofString "after"), (PySem.Str.ofString "decided"), (PySem.Str.ofString "text"), (PySem.Str.ofString "undo"), (PySem.Str.ofString "tried"), (PySem.Str.ofString "twin"), (PySem.Str.ofString "trial"), (PySem.Str.ofString "run"), (PySem.Str.ofString "undecided"), (PySem.Str.ofString "same_as"), (PySem.Str.ofString "longer"), (PySem.Str.ofString "leaves"), (PySem.Str.ofString "open_words"), (PySem.Str.ofString "read"), (PySem.Str.ofString "even"), (PySem.Str.ofString "hand"), (PySem.Str.ofString "turn_count"), (PySem.Str.ofString "round_length"), (PySem.Str.ofString "set_rounds"), (PySem.Str.ofString "set_best"), (PySem.Str.ofString "assign_chances"), (PySem.Str.ofString "goal"), (PySem.Str.ofString "cap"), (PySem.Str.ofString "wanted"), (PySem.Str.ofString "throws")]
theorem tx : (ds.funs.all fun d => txtB ds.T d) = true := by decide +kernel
end PI.K59

set_option maxRecDepth 100000
set_option maxHeartbeats 4000000
/-! K59a: the law's own functions. -/
namespace PI.K59
open PySem
section
variable {P : Pg} {d : Nat} {h : Hh}
theorem tried_v (f : P.fns 100 = some c__law_tried) {aH c : Nat} {fs : List (Nat × D)} {x : D} (hO : h[aH]? = some (.ins 1 fs)) (hl : fs.lookup 24 = none) (k1 : P.isc 1 = true) (m24 : P.meth 1 24 = some 19) {v : D} {h' : Hh} (e : callN P (d + 1) 19 [.ref aH, x] h = .ok v h') : callN P (d + 2) 100 [.ref aH, x] h = .ok v h' := by
  rw [call_eq f (σ := [some (.ref aH), some x]) rfl]
  unfold c__law_tried
  have z := ex_tryT (P := P) (C := callN P (d + 1)) (σ := [some (.ref aH), some x]) (ys := .cons (.ret (.mth (.var 0) 24 (.cons (.var 1) .nil))) .nil) (ks := [56, 57, 55, 54, 53, 51]) (hs := [(56, (.str (PySem.Str.ofString "side"))), (57, (.str (PySem.Str.ofString "decided")))]) (ex_rt (ex_ret ((ev_mth (ev_var rfl) hO k1 hl m24 (evs_cons (ev_var rfl) evs_nil)).trans e)))
  rw [ex_rt z]; rfl
theorem tried_x (f : P.fns 100 = some c__law_tried) {aH : Nat} {fs : List (Nat × D)} {x : D} (hO : h[aH]? = some (.ins 1 fs)) (hl : fs.lookup 24 = none) (k1 : P.isc 1 = true) (m24 : P.meth 1 24 = some 19) {c : Nat} {v : D} (hc : (c = 56 ∧ v = .str (PySem.Str.ofString "side")) ∨ (c = 57 ∧ v = .str (PySem.Str.ofString "decided"))) (e : callN P (d + 1) 19 [.ref aH, x] h = .exc c h) : callN P (d + 2) 100 [.ref aH, x] h = .ok v h := by
  rw [call_eq f (σ := [some (.ref aH), some x]) rfl]
  unfold c__law_tried
  have z := ex_tryX (P := P) (C := callN P (d + 1)) (σ := [some (.ref aH), some x]) (ys := .cons (.ret (.mth (.var 0) 24 (.cons (.var 1) .nil))) .nil) (ks := [56, 57, 55, 54, 53, 51]) (hs := [(56, (.str (PySem.Str.ofString "side"))), (57, (.str (PySem.Str.ofString "decided")))]) (ex_exc (ex_retX ((ev_mth (ev_var rfl) hO k1 hl m24 (evs_cons (ev_var rfl) evs_nil)).trans e))) (by rcases hc with ⟨rfl, _⟩ | ⟨rfl, _⟩ <;> rfl)
  rcases hc with ⟨rfl, rfl⟩ | ⟨rfl, rfl⟩
  · rw [ex_rt (v := .str (PySem.Str.ofString "side")) (h1 := h) (z.trans rfl)]; rfl
  · rw [ex_rt (v := .str (PySem.Str.ofString "decided")) (h1 := h) (z.trans rfl)]; rfl
theorem cut_ok (f : P.fns 101 = some c__law_is_cut) {sides many : Nat} {t : List Row} (g : TabGood sides many t) (h6 : sides ≤ 6) {w p ws : List Nat} {s : Nat} (hp : Path t w p) (hs : p.getLast? = some s) (hw : ∀ x ∈ w ++ ws, x < sides) (hl : (w ++ ws).length ≤ 1000) :
    callN P (d + 1) 101 [tabD t, .tup ((w ++ ws).map nat), nat w.length] h = .ok (.bl (runP t s ws).isNone) h := by
  obtain ⟨q0, rfl, hq0⟩ := hp
  have ql := runP_len _ _ _ hq0
  have whole : runP t 0 (w ++ ws) = (runP t s ws).map (q0 ++ ·) := runP_app ws w 0 s q0 hq0 hs
  have wl : w.length ≤ (w ++ ws).length := by rw [List.length_append]; omega
  rw [call_eq f (σ := [some (tabD t), some (.tup ((w ++ ws).map nat)), some (nat w.length), none, none]) rfl]
  unfold c__law_is_cut
  have pre : ∀ i, i < w.length → ∀ q, runP t 0 ((w ++ ws).take i) = some q → ∀ s', (0 :: q).getLast? = some s' → ∃ l, t.getD s' (.out 0) = .go l := fun i hi q hq s' hs' => by
    have tk : (w ++ ws).take i = w.take i := List.take_append_of_le_length (by omega)
    rw [tk] at hq
    have hx : w[i]? = some w[i] := List.getElem?_eq_getElem hi
    obtain ⟨l, s2, a1, a2, _⟩ := runP_step w 0 q0 hq0 i _ hx
    have e := runP_app (w.drop i) (w.take i) 0 s' q hq hs'
    rw [List.take_append_drop, hq0] at e
    have hd : w.drop i = w[i] :: w.drop (i + 1) := List.drop_eq_getElem_cons hi
    rw [hd] at e
    unfold runP at e
    cases hr : t.getD s' (.out 0) with
    | out o => rw [hr] at e; cases e
    | go l => exact ⟨l, rfl⟩
  generalize hW : w ++ ws = W at *
  rw [ex_nx (σ1 := [some (tabD t), some (.tup (W.map nat)), some (nat w.length), some (nat 0), none]) (h1 := h) rfl]
  have ln := ev_len (P := P) (C := callN P d) (σ := [some (tabD t), some (.tup (W.map nat)), some (nat w.length), some (nat 0), none]) (h := h) (a := .var 1) (x := .tup (W.map nat)) (xs := W.map nat) (ev_var rfl) rfl
  rw [List.length_map] at ln
  obtain ⟨iv, ei, wk⟩ := it_rng1 (n := W.length) ln (by omega)
  have lp := for_x (P := P) (C := callN P d) (t := .nm 4) (b := (.cons (.if_ (.not (.isi (.idx (.var 0) (.var 3)) .tuple)) (.cons (.ret (.cmp .ge (.var 4) (.var 2))) .nil) .nil) (.cons (.set (.nm 3) (.idx (.idx (.var 0) (.var 3)) (.idx (.var 1) (.var 4)))) .nil))) ei wk
    (fun i σ h' => h' = h ∧ ∃ (s' : Nat) (s4 : Option D) (q : List Nat), σ = [some (tabD t), some (.tup (W.map nat)), some (nat w.length), some (nat s'), s4] ∧ s' < t.length ∧ runP t 0 (W.take i) = some q ∧ (0 :: q).getLast? = some s')
    (fun rr => rr = .ok (.rt (.bl true)) h ∧ runP t s ws = none) (fun _ _ _ _ => trivial) (fun i σ h' hi hI => by
      obtain ⟨rfl, s', s4, q, rfl, hs', hq, hl'⟩ := hI
      have hx : W[i]? = some W[i] := List.getElem?_eq_getElem hi
      have hxs := hw W[i] (List.getElem_mem _)
      have hdrop : W.drop i = W[i] :: W.drop (i + 1) := List.drop_eq_getElem_cons hi
      have htake : W.take (i + 1) = W.take i ++ [W[i]] := by rw [List.take_add_one, hx]; rfl
      generalize W[i] = x at *
      generalize hσ : [some (tabD t), some (.tup (W.map nat)), some (nat w.length), some (nat s'), some (nat i)] = σ
      refine ⟨σ, by rw [← hσ]; rfl, ?_⟩
      have e0 : ev P (callN P d) (.idx (.var 0) (.var 3)) σ h' = .ok (t.getD s' (.out 0)).d h' := by
        rw [← hσ]
        exact ev_idx (ev_var rfl) (ev_var rfl) (row_idx hs' (by have := g.le; omega) h')
      have rok := g.ok _ (List.mem_of_getElem? (getD_tab hs'))
      have ein := ev_not (isi_rowE e0)
      have all : runP t 0 W = (runP t s' (W.drop i)).map (q ++ ·) := by
        have := runP_app (W.drop i) (W.take i) 0 s' q hq hl'
        rwa [List.take_append_drop] at this
      cases hr : t.getD s' (.out 0) with
      | out o =>
        rw [hr] at ein
        right; right
        have hi2 : w.length ≤ i := by
          by_cases hlt : i < w.length
          · obtain ⟨l, hl2⟩ := pre i hlt q hq s' hl'
            rw [hl2] at hr; cases hr
          · omega
        have c : ev P (callN P d) (.cmp .ge (.var 4) (.var 2)) σ h' = .ok (.bl true) h' := by
          refine ev_cmp (x := nat i) (y := nat w.length) (by rw [← hσ]; exact ev_var rfl) (by rw [← hσ]; exact ev_var rfl) ?_
          show some (decide (((w.length : Nat) : Int) ≤ (i : Nat))) = some true
          rw [decide_eq_true (by omega)]
        refine ⟨.bl true, h', ex_rt ((ex_ifT ein).trans (ex_rt (ex_ret c))), rfl, ?_⟩
        have nn : runP t s' (x :: W.drop (i + 1)) = none := by
          unfold runP
          rw [hr]
        rw [hdrop, nn, whole] at all
        cases hz : runP t s ws with
        | none => rfl
        | some y => rw [hz] at all; cases all
      | go l =>
        rw [hr] at ein e0 rok
        left
        have hxl : x < l.length := by rw [rok.1]; exact hxs
        have ig : idxop (Row.go l).d (nat x) h' = some (nat (l.getD x 0)) := by
          refine atI_nat (xs := l.map nat) ?_ (by omega)
          rw [List.getElem?_map, List.getElem?_eq_getElem hxl, List.getD_eq_getElem?_getD, List.getElem?_eq_getElem hxl]; rfl
        have hn : l.getD x 0 < t.length := by
          rw [List.getD_eq_getElem?_getD, List.getElem?_eq_getElem hxl]
          exact rok.2 _ (List.getElem_mem _)
        have ewx : ev P (callN P d) (.idx (.var 1) (.var 4)) σ h' = .ok (nat x) h' :=
          ev_idx (x := .tup (W.map nat)) (y := nat i) (by rw [← hσ]; exact ev_var rfl) (by rw [← hσ]; exact ev_var rfl) (atI_nat (xs := W.map nat) (by rw [List.getElem?_map, hx]; rfl) (by omega))
        have e1 : exec P (callN P d) (.set (.nm 3) (.idx (.idx (.var 0) (.var 3)) (.idx (.var 1) (.var 4)))) σ h' = .ok (.nx [some (tabD t), some (.tup (W.map nat)), some (nat w.length), some (nat (l.getD x 0)), some (nat i)]) h' :=
          ex_set (ev_idx e0 ewx ig) (by rw [← hσ]; rfl)
        refine ⟨_, _, (ex_nx (ex_ifF0 ein)).trans ((ex_nx e1).trans ex_nil), rfl, l.getD x 0, some (nat i), q ++ [l.getD x 0], rfl, hn, ?_, by rw [← List.cons_append, List.getLast?_concat]⟩
        rw [htake, runP_app [x] _ 0 s' q hq hl']
        unfold runP
        rw [hr]; rfl)
    ⟨rfl, 0, none, [], rfl, g.pos, by rw [List.take_zero]; rfl, rfl⟩
  rcases lp with ⟨σ', h', q1, rfl, s', s4, q, rfl, hs', hq, hl'⟩ | ⟨q1, q2⟩
  · rw [List.take_length, whole] at hq
    rw [ex_nx q1, ex_rt (ex_ret (show ev P (callN P d) (.bl false) _ h' = .ok (.bl false) h' from by rw [ev]))]
    cases hz : runP t s ws with
    | none => rw [hz] at hq; cases hq
    | some y => rfl
  · rw [ex_rt q1, q2]; rfl
end
end PI.K59

set_option maxRecDepth 100000
set_option maxHeartbeats 4000000
/-! K59law: what the interpreter says of the law. -/
namespace PI.K59
open PySem
theorem strFacts : PyData.strOk (PySem.Str.ofString "decided") = true ∧ PyData.strOk (PySem.Str.ofString "side") = true := by decide +kernel
theorem str_self (s : PySem.Str) : (s == s) = true := by simp
abbrev st (ns : List Int) (sides many : Nat) (t : List Row) (aC aH : Nat) (w : List Nat) (v7 : Option D) (k : D) (v9 v10 v11 v12 v13 v14 : Option D) : Sto := [some (.scr ns), some (nat sides), some (nat many), some (tabD t), some (.ref aC), some (.ref aH), some (.tup (w.map nat)), v7, some k, v9, v10, v11, v12, v13, v14]
structure All (h : Hh) (aC aH aF r sides : Nat) (t : List Row) (X : Nat → List Rat) (w p : List Nat) (s : Nat) : Prop where
  hd : Hd h aH aF r sides t X w p
  ch : ChAt h aC 2 r sides t X
  hs : p.getLast? = some s
theorem All.keep {h h' : Hh} {aC aH aF r sides : Nat} {t : List Row} {X : Nat → List Rat} {w p : List Nat} {s : Nat} (g : All h aC aH aF r sides t X w p s) (k : Kp h h') : All h' aC aH aF r sides t X w p s := ⟨g.hd.keep k, g.ch.keep k, g.hs⟩
structure Has (P : Pg) : Prop extends HasO P where
  f14 : P.fns 14 = some c_Hand_chances
  g9 : P.attr 1 9 = .prop 14
  f19 : P.fns 19 = some c_Hand_tried
  m24 : P.meth 1 24 = some 19
  f50 : P.fns 50 = some c_Chooser_after
  m20 : P.meth 2 20 = some 50
  w : HasW P 2
  f211 : P.fns 211 = some c__law_word
  f212 : P.fns 212 = some c__law_wrong_sides
  f100 : P.fns 100 = some c__law_tried
  f101 : P.fns 101 = some c__law_is_cut
  f102 : P.fns 102 = some c_law
section
variable {P : Pg} {h : Hh} {aC aH aF r sides many s : Nat} {t : List Row} {X : Nat → List Rat} {w p : List Nat}
/-- what is wanted of a word -/
def wantD (t : List Row) (X : Nat → List Rat) (s : Nat) (ws : List Nat) : D := match runP t s ws with
  | none => .str (PySem.Str.ofString "decided")
  | some q => chD X ((s :: q).getLast (by simp))
theorem run_last {p q : List Nat} {s : Nat} (hs : p.getLast? = some s) : (p ++ q).getLast? = some ((s :: q).getLast (by simp)) := by
  cases q with
  | nil => rw [List.append_nil]; exact hs
  | cons y q => rw [List.getLast?_append, List.getLast?_eq_some_getLast (l := y :: q) (by simp)]; simp
theorem last_lt (tg : TabGood sides many t) {ws q : List Nat} (g : All h aC aH aF r sides t X w p s) (hws : ∀ x ∈ ws, x < sides) (hq : runP t s ws = some q) : (s :: q).getLast (by simp) < t.length :=
  (g.hd.path.app g.hs hq).lt tg (fun x hx => by
    rcases List.mem_append.mp hx with z | z
    · exact g.hd.side x z
    · exact hws x z) _ (List.mem_of_getLast? (run_last g.hs))
theorem want_pu (tg : TabGood sides many t) (an : Ans sides many t X) (hm : many ≤ 6) {ws : List Nat} (g : All h aC aH aF r sides t X w p s) (hws : ∀ x ∈ ws, x < sides) : Pu 2 (wantD t X s ws) := by
  unfold wantD
  split
  · exact .str _ strFacts.1
  · rename_i q hq
    exact pu_chD (by rw [an.len _ (last_lt tg g hws hq)]; omega)
theorem tried_want (a : Has P) (tg : TabGood sides many t) (h6 : sides ≤ 6) (g : All h aC aH aF r sides t X w p s) {ws : List Nat} (hws : ∀ x ∈ ws, x < sides) (hl : ws.length ≤ 100) (wl : w.length ≤ 100) : callN P 20 100 [.ref aH, .tup (ws.map nat)] h = .ok (wantD t X s ws) h := by
  have pl := g.hd.path.len
  unfold wantD
  split
  · rename_i hq
    exact tried_x (d := 18) a.f100 g.hd.hand rfl a.k1 a.m24 (.inr ⟨rfl, rfl⟩) (tried_done (d := 15) a.toHasH a.f19 tg h6 g.hd g.hs hws (by omega) hq)
  · rename_i q hq
    exact tried_v (c := 1) (d := 18) a.f100 g.hd.hand rfl a.k1 a.m24 (tried_good (d := 15) a.toHasH a.f19 tg h6 g.hd g.hs hws (by omega) hq (run_last g.hs))
theorem after_want (a : Has P) (tg : TabGood sides many t) (h6 : sides ≤ 6) (g : All h aC aH aF r sides t X w p s) {ws q : List Nat} (hws : ∀ x ∈ ws, x < sides) (hl : ws.length ≤ 100) (wl : w.length ≤ 100) (hq : runP t s ws = some q) : callN P 20 50 [.ref aC, .tup ((w ++ ws).map nat)] h = .ok (wantD t X s ws) h := by
  rw [after_ok (d := 16) a.toHasA a.w a.f50 tg h6 g.ch (fun x hx => by
    rcases List.mem_append.mp hx with z | z
    · exact g.hd.side x z
    · exact hws x z) (by rw [List.length_append]; omega), walk_path (g.hd.path.app g.hs hq) (run_last g.hs)]
  unfold wantD
  split
  · rename_i hn; rw [hq] at hn; cases hn
  · rename_i q' hq'
    rw [hq] at hq'; cases hq'; rfl
theorem tried_no (a : Has P) {v : D} {k : Kd} (g : All h aC aH aF r sides t X w p s) (hk : kdOf h v = some k) (hni : ∀ c, k ≠ .ins c) (hnt : kdIs k .tuple = false) : callN P 20 100 [.ref aH, v] h = .ok (.str (PySem.Str.ofString "side")) h :=
  tried_x (d := 18) a.f100 g.hd.hand rfl a.k1 a.m24 (.inl ⟨rfl, rfl⟩) (tried_kind (d := 18) a.f19 hk hni hnt)
theorem tried_side (a : Has P) {xs : List D} (g : All h aC aH aF r sides t X w p s) (hpl : ∀ v ∈ xs, Plain h v) (hb : xs.all (intB 0 ((sides : Int) - 1)) = false) (hl : xs.length ≤ 1000) : callN P 20 100 [.ref aH, .tup xs] h = .ok (.str (PySem.Str.ofString "side")) h :=
  tried_x (d := 18) a.f100 g.hd.hand rfl a.k1 a.m24 (.inl ⟨rfl, rfl⟩) (tried_bad (d := 15) a.toHasH a.f19 g.hd hpl hb hl)
/-- the last two statements of a turn -/
theorem turn_end (a : Has P) (tg : TabGood sides many t) (an : Ans sides many t X) (hm : many ≤ 6) {ns : List Int} {v7 v9 v12 v13 v14 : Option D} {xs : List D} {W : D} (g : All h aC aH aF r sides t X w p s) (wl : w.length ≤ 100) (hl : xs.length ≤ 100) (hW : Pu 2 W) (e : callN P 20 100 [.ref aH, .tup xs] h = .ok W h) {N : Sto → Hh → Prop} {Z : R Fl → Prop} (hn : ∀ h', Kp h h' → N (st ns sides many t aC aH w v7 (fourD t X w s) v9 (some (.tup xs)) (some W) v12 v13 v14) h') :
    Wp (execs P (callN P 20) (.cons (.if_ (.not (.call 202 (.cons (.call 100 (.cons (.var 5) (.cons (.var 10) .nil))) (.cons (.var 11) .nil)))) (.cons (.ret (.bl false)) .nil) .nil) (.cons (.if_ (.or (.cmp .ne (.call 100 (.cons (.var 5) (.cons (.lst (.of (.var 10))) .nil))) (.str (PySem.Str.ofString "side"))) (.cmp .ne (.tup (.cons (.fld (.var 5) 6) (.cons (.fld (.var 5) 7) (.cons (.fld (.var 5) 8) (.cons (.fld (.var 5) 9) .nil))))) (.var 8))) (.cons (.ret (.bl false)) .nil) .nil) .nil)) (st ns sides many t aC aH w v7 (fourD t X w s) v9 (some (.tup xs)) (some W) v12 v13 v14) h) N Z := by
  refine wp_ifF (ev_not (same_ev (d := 14) a.toHasL hW (by omega) ((ev_call (evs_cons (ev_var rfl) (evs_cons (ev_var rfl) evs_nil))).trans e) (ev_var rfl))) ?_
  have k := Kp.app h [.lst xs]
  have l1 : ev P (callN P 20) (.lst (.of (.var 10))) (st ns sides many t aC aH w v7 (fourD t X w s) v9 (some (.tup xs)) (some W) v12 v13 v14) h = .ok (.ref h.length) (h ++ [.lst xs]) := by
    rw [ev, evL_of (ev_var rfl), R.bnd_ok]
    rfl
  have g2 := g.keep k
  have gl := last_get h (O.lst xs)
  generalize h ++ [O.lst xs] = h2 at *
  have t1 := tried_no a (v := .ref h.length) (k := .lst) g2 (by unfold kdOf; dsimp only; rw [gl]) (fun c z => by cases z) rfl
  have c1 := ev_cmp ((ev_call (evs_cons (ev_var (i := 5) rfl) (evs_cons l1 evs_nil))).trans t1) ev_str (cmp_str strFacts.2 strFacts.2 h2).2
  rw [str_self] at c1
  have hlt := g.hd.lt tg g.hs
  have c2 := ev_cmp (four_ev (d := 19) (σ := st ns sides many t aC aH w v7 (fourD t X w s) v9 (some (.tup xs)) (some W) v12 v13 v14) (im := 5) a.toHasO a.f14 a.g9 tg g2.hd g2.hs rfl) (ev_var (i := 8) rfl) (eq_self (four_pu an hm (by omega) hlt) (by omega) h2).2
  exact wp_ifF ((ev_orF c1).trans c2) (hn _ k)
theorem law_ok (a : Has P) (ns : List Int) : ∃ h, callN P 21 102 [.scr ns] [] = .ok (.bl true) h := by
  refine law_wp (σ := some (.scr ns) :: none :: none :: none :: [none, none, none, none, none, none, none, none, none, none, none]) a.f102 rfl ?_
  unfold c_law
  obtain ⟨sides, many, t, h1, s2, s6, m1, m6, tg, tl, k1, e1⟩ := pre_ok (d := 18) (h := []) a.toHasL ns (σr := [none, none, none, none, none, none, none, none, none, none, none]) (rest := _)
  rw [e1]
  -- the chooser and the hand
  obtain ⟨X, h2, r, q1, k2, c1, r1, ans, an⟩ := chooser_ok (d := 13) (h := h1) a.toHasC tg s2 s6 m1 m6
  refine wp_ss (v := .ref h1.length) (h1 := h2) (by rw [ev, evs_cons (ev_var rfl) (evs_cons (ev_var rfl) (evs_cons (ev_var rfl) evs_nil)), R.bnd_ok]; exact q1) rfl ?_
  have hk := hand_ok (d := 18) (h := h2) (sides := sides) (t := t) (r := r) a.toHasH c1 a.k2 ⟨a.a2.1, a.a2.2.2.1, a.a2.2.2.2⟩ rfl rfl rfl
  refine wp_ss (by rw [ev, evs_cons (ev_var rfl) evs_nil, R.bnd_ok]; exact hk) rfl ?_
  have k3 := Kp.app h2 [.ins 1 [(3, .ref (h2.length + 1)), (4, .tup []), (5, .tup [nat 0])], .ins 0 [(0, nat sides), (1, tabD t), (2, .ref r)]]
  have lr := get_lt ans
  have lc := get_lt c1
  have hd : Hd (h2 ++ [O.ins 1 [(3, .ref (h2.length + 1)), (4, .tup []), (5, .tup [nat 0])], .ins 0 [(0, nat sides), (1, tabD t), (2, .ref r)]]) h2.length (h2.length + 1) r sides t X [] [0] :=
    ⟨get_at0, get_at1, get_app ans, Path.nil t, by simp, ⟨by omega, by omega⟩⟩
  have ch := ChAt.keep (aC := h1.length) (c := 2) ⟨⟨_, c1, rfl, rfl, rfl, rfl, rfl⟩, ans⟩ k3
  have nC : h1.length ≠ h2.length := by omega
  have nr : r ≠ h2.length := by omega
  generalize h2 ++ [O.ins 1 [(3, .ref (h2.length + 1)), (4, .tup []), (5, .tup [nat 0])], .ins 0 [(0, nat sides), (1, tabD t), (2, .ref r)]] = h3 at *
  generalize h2.length = aH at *
  generalize aH + 1 = aF at *
  generalize h1.length = aC at *
  clear q1 hk k3 c1 ans lr lc
  refine wp_ss (v := .tup []) rfl rfl ?_
  -- the first throws
  obtain ⟨ws, h4, e3, k4, wsl, wsb⟩ := word_ok (d := 18) (h := h3) a.l1 a.f211 (cell ns 2) (sides := sides) (most := 6) (by omega) (by omega)
  have e3' := (ev_call (σ := [some (.scr ns), some (nat sides), some (nat many), some (tabD t), some (.ref aC), some (.ref aH), some (.tup []), none, none, none, none, none, none, none, none]) (evs_cons (cell_ev (d := 19) (x := .int 2) (k := 2) a.l0 rfl (by omega) ev_int) (evs_cons (a := .var 1) (ev_var rfl) (evs_cons (a := .int 6) ev_int evs_nil)))).trans e3
  obtain ⟨w, p, s, v, h5, e4, hd5, hs5, wl5, off5, len5⟩ := first_throws (d := 15) (vm := 5) (vw := 6) (vs := 7) a.toHasO tg s6 e3' (hd.keep k4) rfl rfl (by decide) (by decide) (by decide) (by simp) wsb (by omega)
  refine wp_nx e4 ?_
  have g5 : All h5 aC aH aF r sides t X w p s := by
    obtain ⟨fs, o1, o2⟩ := (ch.keep k4).obj
    exact ⟨hd5, ⟨⟨fs, by rw [off5 _ nC]; exact o1, o2⟩, by rw [off5 _ nr]; exact (ch.keep k4).ans⟩, hs5⟩
  have wl : w.length ≤ 100 := by omega
  clear e4 e3' e3 hd ch
  -- what is kept
  refine wp_ss (four_ev (d := 19) a.toHasO a.f14 a.g9 tg g5.hd g5.hs rfl) rfl ?_
  -- the words
  show Wp (execs P (callN P 20) _ (st ns sides many t aC aH w v (fourD t X w s) none none none none none none) h5) _ _
  have sl : ev P (callN P 20) (.sl (.var 0) (.some (.int 3)) (.some (.int 11))) (st ns sides many t aC aH w v (fourD t X w s) none none none none none none) h5 = .ok (.ref h5.length) (h5 ++ [.lst (cutD (ns.map .int) (some 3) (some 11))]) := rfl
  have ci : ∀ x ∈ cutD (ns.map D.int) (some 3) (some 11), ∃ i, x = .int i := fun x hx => by
    unfold cutD at hx
    have h1 := List.mem_of_mem_drop (List.mem_of_mem_take hx)
    obtain ⟨i, _, rfl⟩ := List.mem_map.mp h1
    exact ⟨i, rfl⟩
  generalize cutD (ns.map D.int) (some 3) (some 11) = xs at *
  have g6 := g5.keep (Kp.app h5 [.lst xs])
  have gL := last_get h5 (O.lst xs)
  generalize h5 ++ [O.lst xs] = h6 at *
  generalize h5.length = aL at *
  obtain ⟨iv, ei, wk⟩ := it_seq (evL_of sl) (items_lst gL)
  refine wp_for ei wk (fun i σ h' => ∃ v9 v10 v11 v12 v13, σ = st ns sides many t aC aH w v (fourD t X w s) v9 v10 v11 v12 v13 none ∧ All h' aC aH aF r sides t X w p s ∧ h'[aL]? = some (.lst xs))
    (fun i σ h' hI => by obtain ⟨_, _, _, _, _, _, _, z⟩ := hI; exact items_lst z) ⟨_, _, _, _, _, rfl, g6, gL⟩ (fun i σ h' hi hI => ?_) (fun σ h' hI => ?_)
  · obtain ⟨v9, v10, v11, v12, v13, rfl, g, hL⟩ := hI
    obtain ⟨z, hz⟩ := ci (nth xs i) (List.mem_of_getElem? (nth_get hi))
    rw [hz]
    refine ⟨st ns sides many t aC aH w v (fourD t X w s) (some (.int z)) v10 v11 v12 v13 none, rfl, ?_⟩
    obtain ⟨ws, h4, q1, k4, wm, wb⟩ := word_ok (d := 18) (h := h') a.l1 a.f211 (z / (4 : Nat)) (sides := sides) (most := 12) (by omega) (by omega)
    refine wp_ss (σ1 := st ns sides many t aC aH w v (fourD t X w s) (some (.int z)) (some (.tup (ws.map nat))) v11 v12 v13 none) ((ev_call (evs_cons (fdiv_ok (m := 4) (ev_var rfl) ev_int (by decide) (by decide)) (evs_cons (ev_var rfl) (evs_cons ev_int evs_nil)))).trans q1) rfl ?_
    have g4 := g.keep k4
    have hL4 := k4.get hL
    refine wp_ss (σ1 := st ns sides many t aC aH w v (fourD t X w s) (some (.int z)) (some (.tup (ws.map nat))) (some (.str (PySem.Str.ofString "decided"))) v12 v13 none) ev_str rfl ?_
    -- what is wanted
    have ea : ∀ (σ : Sto), σ[6]? = some (some (.tup (w.map nat))) → σ[10]? = some (some (.tup (ws.map nat))) → ev P (callN P 20) (.bin .add (.var 6) (.var 10)) σ h4 = .ok (.tup ((w ++ ws).map nat)) h4 := fun σ z6 z10 => ev_bin (ev_var z6) (ev_var z10) (by
      show (if (w.map nat).length + (ws.map nat).length ≤ LIM then R.ok (D.tup _) h4 else .bad) = _
      rw [if_pos (by simp [LIM]; omega), List.map_append])
    have ln := ev_len (P := P) (C := callN P 20) (σ := st ns sides many t aC aH w v (fourD t X w s) (some (.int z)) (some (.tup (ws.map nat))) (some (.str (PySem.Str.ofString "decided"))) v12 v13 none) (h := h4) (a := .var 6) (x := .tup (w.map nat)) (xs := w.map nat) (ev_var rfl) rfl
    rw [List.length_map] at ln
    have hcut := cut_ok (d := 19) (P := P) (h := h4) a.f101 tg s6 (ws := ws) g4.hd.path g4.hs (fun x hx => by
      rcases List.mem_append.mp hx with z | z
      · exact g4.hd.side x z
      · exact wb x z) (by rw [List.length_append]; omega)
    refine wp_seq (M := fun σ1 h1 => h1 = h4 ∧ ((runP t s ws).isNone = false ∨ True) ∧ σ1 = st ns sides many t aC aH w v (fourD t X w s) (some (.int z)) (some (.tup (ws.map nat))) (some (wantD t X s ws)) v12 v13 none) (wp_ifx (ev_not ((ev_call (evs_cons (ev_var rfl) (evs_cons (ea _ rfl rfl) (evs_cons ln evs_nil)))).trans hcut)) (fun hc => ?_) (fun hc => ?_)) ?_
    · cases hq : runP t s ws with
      | none => rw [hq] at hc; cases hc
      | some q =>
        obtain ⟨fs, o1, o2, o3, o4, o5, o6⟩ := g4.ch.obj
        have ea2 : ev P (callN P 20) (.bin .add (.fld (.var 5) 6) (.var 10)) (st ns sides many t aC aH w v (fourD t X w s) (some (.int z)) (some (.tup (ws.map nat))) (some (.str (PySem.Str.ofString "decided"))) v12 v13 none) h4 = .ok (.tup ((w ++ ws).map nat)) h4 := ev_bin (ev_word (d := 19) a.toHasH g4.hd (ev_var rfl)) (ev_var rfl) (by
          show (if (w.map nat).length + (ws.map nat).length ≤ LIM then R.ok (D.tup _) h4 else .bad) = _
          rw [if_pos (by simp [LIM]; omega), List.map_append])
        refine wp_ss ((ev_mth (ev_var rfl) o1 a.k2 o6 a.m20 (evs_cons ea2 evs_nil)).trans (after_want a tg s6 g4 wb (by omega) wl hq)) rfl ?_
        exact wp_nil ⟨rfl, .inr trivial, rfl⟩
    · cases hq : runP t s ws with
      | some q => rw [hq] at hc; cases hc
      | none =>
        refine wp_nil ⟨rfl, .inr trivial, ?_⟩
        unfold wantD
        rw [hq]
    rintro σ1 h1 ⟨rfl, _, rfl⟩
    have pw := want_pu (ws := ws) tg an m6 g4 wb
    have tw := tried_want (ws := ws) a tg s6 g4 wb (by omega) wl
    refine wp_seq (M := fun σ1 hh => Kp h1 hh ∧ ∃ xs W v12 v13, σ1 = st ns sides many t aC aH w v (fourD t X w s) (some (.int z)) (some (.tup xs)) (some W) v12 v13 none ∧ xs.length ≤ 100 ∧ Pu 2 W ∧ callN P 20 100 [.ref aH, .tup xs] hh = .ok W hh) (wp_ifx (odd_cond rfl rfl (by omega)) (fun hc => ?_) (fun hc => ?_)) ?_
    · have hne : ws ≠ [] := by
        rw [Bool.and_eq_true] at hc
        simpa using hc.2
      obtain ⟨od, h5, ro, q5, k5, go, _, odd5, oddk⟩ := wrong_ok (d := 19) (h := h1) a.f212 sides
      refine wp_ss (σ1 := st ns sides many t aC aH w v (fourD t X w s) (some (.int z)) (some (.tup (ws.map nat))) (some (wantD t X s ws)) (some (.ref ro)) v13 none) ((ev_call (evs_cons (ev_var rfl) evs_nil)).trans q5) rfl ?_
      obtain ⟨at_, hat, eat⟩ := at_ev (P := P) (C := callN P 20) (h := h5) (σ := st ns sides many t aC aH w v (fourD t X w s) (some (.int z)) (some (.tup (ws.map nat))) (some (wantD t X s ws)) (some (.ref ro)) v13 none) (im := 10) (ic := 9) (ws := ws) (z := z) rfl rfl hne
      refine wp_ss (σ1 := st ns sides many t aC aH w v (fourD t X w s) (some (.int z)) (some (.tup (ws.map nat))) (some (wantD t X s ws)) (some (.ref ro)) (some (nat at_)) none) eat rfl ?_
      obtain ⟨mx, emx, lmx, pmx, bmx⟩ := mixed_ev (P := P) (C := callN P 20) (h := h5) (σ := st ns sides many t aC aH w v (fourD t X w s) (some (.int z)) (some (.tup (ws.map nat))) (some (wantD t X s ws)) (some (.ref ro)) (some (nat at_)) none) (im := 10) (ic := 9) (io := 12) (ia := 13) rfl rfl rfl rfl go odd5 hat (by omega)
      refine wp_ss (σ1 := st ns sides many t aC aH w v (fourD t X w s) (some (.int z)) (some (.tup mx)) (some (wantD t X s ws)) (some (.ref ro)) (some (nat at_)) none) emx rfl (wp_ss ev_str rfl (wp_nil ?_))
      exact ⟨k5, mx, _, _, _, rfl, by omega, .str _ strFacts.2, tried_side a (g4.keep k5) pmx bmx (by omega)⟩
    · exact wp_nil ⟨Kp.refl _, _, _, _, _, rfl, by simp; omega, pw, tw⟩
    rintro σ2 h2 ⟨k2, xs', W, v12', v13', rfl, lx, pW, eW⟩
    refine turn_end a tg an m6 (g4.keep k2) wl lx pW eW fun h3 k3 => ?_
    exact ⟨_, _, _, _, _, rfl, (g4.keep k2).keep k3, k3.get (k2.get hL4)⟩
  · obtain ⟨v9, v10, v11, v12, v13, rfl, g, hL⟩ := hI
    have el : evL P (callN P 20) (.lit (.cons (.lst (.lit .nil)) (.cons (.lst (.lit (.cons (.int 0) .nil))) (.cons .non (.cons (.int 0) (.cons (.str (PySem.Str.ofString "0")) (.cons (.bl true) (.cons .dict .nil)))))))) (st ns sides many t aC aH w v (fourD t X w s) v9 v10 v11 v12 v13 none) h' = .ok (.new [.ref h'.length, .ref (h'.length + 1), .non, .int 0, .str (PySem.Str.ofString "0"), .bl true, .ref (h'.length + 2)]) (h' ++ [.lst []] ++ [.lst [.int 0]] ++ [.dct []]) := by
      have z1 : (h' ++ [O.lst []]).length = h'.length + 1 := by simp
      have z2 : (h' ++ [O.lst []] ++ [O.lst [.int 0]]).length = h'.length + 2 := by simp
      rw [← z2, ← z1]; rfl
    have g2 := g.keep ((Kp.app h' [.lst []]).trans ((Kp.app _ [.lst [.int 0]]).trans (Kp.app _ [.dct []])))
    have d0 : (h' ++ [.lst []] ++ [.lst [.int 0]] ++ [O.dct []])[h'.length]? = some (.lst []) := get_app (get_app (last_get _ _))
    have d1 : (h' ++ [.lst []] ++ [.lst [.int 0]] ++ [O.dct []])[h'.length + 1]? = some (.lst [.int 0]) := by
      have z := last_get (h' ++ [O.lst []]) (O.lst [.int 0])
      rw [List.length_append] at z
      exact get_app z
    have d2 : (h' ++ [.lst []] ++ [.lst [.int 0]] ++ [O.dct []])[h'.length + 2]? = some (.dct []) := by
      have z := last_get (h' ++ [O.lst []] ++ [O.lst [.int 0]]) (O.dct [])
      rw [List.length_append, List.length_append] at z
      exact z
    generalize h' ++ [.lst []] ++ [.lst [.int 0]] ++ [O.dct []] = h2 at *
    obtain ⟨iv, ei, wk⟩ := it_seq (xs := [.ref h'.length, .ref (h'.length + 1), .non, .int 0, .str (PySem.Str.ofString "0"), .bl true, .ref (h'.length + 2)]) el rfl
    refine wp_for ei wk (fun i σ h' => ∃ v14, σ = st ns sides many t aC aH w v (fourD t X w s) v9 v10 v11 v12 v13 v14 ∧ h' = h2) (fun i σ h' hI => rfl) ⟨_, rfl, rfl⟩ (fun i σ h3 hi hI => ?_) (fun σ h3 hI => ?_)
    · obtain ⟨v14, rfl, rfl⟩ := hI
      refine ⟨st ns sides many t aC aH w v (fourD t X w s) v9 v10 v11 v12 v13 (some (nth _ i)), rfl, ?_⟩
      have kd : ∃ k, kdOf h3 (nth [.ref h'.length, .ref (h'.length + 1), .non, .int 0, .str (PySem.Str.ofString "0"), .bl true, .ref (h'.length + 2)] i) = some k ∧ (∀ c, k ≠ .ins c) ∧ kdIs k .tuple = false := by
        have hm := List.mem_of_getElem? (nth_get hi)
        generalize nth [.ref h'.length, .ref (h'.length + 1), .non, .int 0, .str (PySem.Str.ofString "0"), .bl true, .ref (h'.length + 2)] i = x at hm
        simp only [List.mem_cons, List.not_mem_nil, or_false] at hm
        rcases hm with rfl | rfl | rfl | rfl | rfl | rfl | rfl
        · exact ⟨.lst, by unfold kdOf; dsimp only; rw [d0], (fun c z => by cases z), rfl⟩
        · exact ⟨.lst, by unfold kdOf; dsimp only; rw [d1], (fun c z => by cases z), rfl⟩
        · exact ⟨.non, rfl, (fun c z => by cases z), rfl⟩
        · exact ⟨.int, rfl, (fun c z => by cases z), rfl⟩
        · exact ⟨.str, rfl, (fun c z => by cases z), rfl⟩
        · exact ⟨.bl, rfl, (fun c z => by cases z), rfl⟩
        · exact ⟨.dct, by unfold kdOf; dsimp only; rw [d2], (fun c z => by cases z), rfl⟩
      generalize nth [.ref h'.length, .ref (h'.length + 1), .non, .int 0, .str (PySem.Str.ofString "0"), .bl true, .ref (h'.length + 2)] i = x at *
      obtain ⟨k, kd1, kd2, kd3⟩ := kd
      have c1 := ev_cmp (P := P) (C := callN P 20) (a := .call 100 (.cons (.var 5) (.cons (.var 14) .nil))) (σ := st ns sides many t aC aH w v (fourD t X w s) v9 v10 v11 v12 v13 (some x)) ((ev_call (evs_cons (ev_var rfl) (evs_cons (ev_var rfl) evs_nil))).trans (tried_no a g2 kd1 kd2 kd3)) ev_str (cmp_str strFacts.2 strFacts.2 h3).2
      rw [str_self] at c1
      exact wp_ifF c1 (wp_nil ⟨_, rfl, rfl⟩)
    · obtain ⟨v14, rfl, rfl⟩ := hI
      have hlt := g2.hd.lt tg g2.hs
      have pl := g2.hd.path.len
      have t0 := tried_good (d := 16) (ws := []) (q := []) a.toHasH a.f19 tg s6 g2.hd g2.hs (by simp) (by simp; omega) rfl (by rw [List.append_nil]; exact g2.hs)
      have x1 := same_ev (d := 14) (σ := st ns sides many t aC aH w v (fourD t X w s) v9 v10 v11 v12 v13 v14) a.toHasL (pu_chD (by rw [an.len s hlt]; omega)) (by omega) ((ev_mth (ev_var (i := 5) rfl) g2.hd.hand a.k1 rfl a.m24 (evs_cons (ev_tup evs_nil (by simp [LIM])) evs_nil)).trans t0) (ev_idx (ev_var (i := 8) rfl) (show ev P (callN P 20) (.int 3) _ h3 = .ok (nat 3) h3 from ev_int) rfl)
      have x2 := ev_cmp (P := P) (C := callN P 20) (σ := st ns sides many t aC aH w v (fourD t X w s) v9 v10 v11 v12 v13 v14) (ev_word (d := 19) a.toHasH g2.hd (ev_var (i := 5) rfl)) (ev_idx (a := .var 8) (ev_var rfl) (show ev P (callN P 20) (.int 0) _ h3 = .ok (nat 0) h3 from ev_int) rfl) (eq_self (Pu.nats 1 (by omega)) (by omega) h3).1
      exact wp_ret ((ev_andT x1).trans x2) rfl
end
end PI.K59

set_option maxRecDepth 100000
set_option maxHeartbeats 4000000
namespace PI.K59
open PySem
theorem has : Has ds.P where
  f0 := rfl
  f1 := rfl
  f2 := rfl
  f3 := rfl
  f4 := rfl
  f5 := rfl
  f6 := rfl
  f7 := rfl
  f22 := rfl
  f24 := rfl
  f25 := rfl
  f26 := rfl
  f27 := rfl
  f28 := rfl
  f29 := rfl
  f30 := rfl
  f31 := rfl
  g0 := rfl
  g1 := rfl
  g2 := rfl
  g3 := rfl
  g4 := rfl
  g6 := rfl
  f40 := rfl
  f41 := rfl
  k2 := rfl
  i2 := rfl
  a2 := ⟨rfl, rfl, rfl, rfl⟩
  m2 := rfl
  f9 := rfl
  f10 := rfl
  f11 := rfl
  f12 := rfl
  f15 := rfl
  f17 := rfl
  k0 := rfl
  k1 := rfl
  i0 := rfl
  i1 := rfl
  a0 := ⟨rfl, rfl, rfl⟩
  a1 := ⟨rfl, rfl, rfl⟩
  p1 := ⟨rfl, rfl⟩
  m1 := ⟨rfl, rfl⟩
  l0 := rfl
  l1 := rfl
  l2 := rfl
  l3 := rfl
  f13 := rfl
  f16 := rfl
  m11 := rfl
  g8 := rfl
  f14 := rfl
  g9 := rfl
  f19 := rfl
  m24 := rfl
  f50 := rfl
  m20 := rfl
  w := ⟨rfl, rfl, rfl, ⟨rfl, rfl, rfl⟩, rfl⟩
  f211 := rfl
  f212 := rfl
  f100 := rfl
  f101 := rfl
  f102 := rfl
theorem lawOk : LawOk ds 102 20 63 := fun ns _ _ => law_ok has ns
end PI.K59

set_option maxRecDepth 100000
set_option maxHeartbeats 0
namespace PI.K59
open PySem PySem.W PySem.Calls PyProof.Rows
abbrev R : OpenRow := OpenLaw.row PySem.Challenge.rw_flipchoice_k59_words_that_are_tried
abbrev qv : Program := view R.prog [64]
def names1 : List PySem.Str := ["_wall", "__name__", "ChoiceError", "SidesError", "ThrowsError", "OutcomeError", "TableError", "WordError", "SideError", "DecidedError", "TextError", "ZERO", "ONE", "is_integer", "is_between", "greatest_divisor", "ratio", "plus", "minus", "times"]
def names2 : List PySem.Str := ["over", "power", "Frozen", "Hand", "MOST_OUTCOMES", "LEAST_SIDES", "MOST_SIDES", "MOST_THROWS", "check_sides", "check_throws", "MOST_STATES", "check_many", "is_state", "reached_from", "deciding", "is_table_by", "equations", "put_in", "solved", "DIGITS"]
def names3 : List PySem.Str := ["state_text", "chooser_text", "number_in", "state_in", "head_in", "chooser_in", "is_word", "counted", "Chooser", "_law_cell", "_law_draws", "_law_is_same", "_law_table", "_law_wrong_sides", "_law_word", "_law_tried", "_law_is_cut"]
def names : List PySem.Str := names1 ++ names2 ++ names3
abbrev hk : Hook := hookP 5 ds
def ob (s : SharedT) : He.AlD := obsPG 5 ds (HandSHeadRun.getT s)
theorem ob_eq (s : SharedT) : ob s = hk.obs s.abs := obsPG_eq (HandSHeadRun.getT_eq s)
theorem run (w : World) : HandSHeadRun.RunEq R qv hk ob 6000 names w := by
  intro os
  kernel_rfl
end PI.K59

set_option maxRecDepth 100000
set_option maxHeartbeats 0
open PySem PySem.W PySem.Calls PyProof.Rows
theorem PySem.Challenge.cw_flipchoice_k59_words_that_are_tried_holds : PySem.Challenge.rw_flipchoice_k59_words_that_are_tried.Holds := by
  w_on; o_law
  refine HandSHeadRun.head_any (r := OpenLaw.row PySem.Challenge.rw_flipchoice_k59_words_that_are_tried) (q := PI.K59.qv) (H := PI.K59.hk) (ob := PI.K59.ob) (M := 6000) (loose := PI.K59.names) (d := HandSHeadRun.topDef (OpenLaw.row PySem.Challenge.rw_flipchoice_k59_words_that_are_tried).prog 64) (kwd := []) PI.K59.ob_eq
    (by kernel_rfl) (fun s => by kernel_rfl) PI.K59.run (by kernel_rfl) (by kernel_rfl) (by kernel_rfl) (by rfl) (by first | assumption | decide +kernel) (by decide +kernel) ⟨rfl, rfl, rfl, rfl, rfl, by decide +kernel⟩ ?hw ?hc
  case hw => w_witness2
  case hc =>
    exact PI.walk_law (S := PI.K59.ds) (l := PySem.Challenge.rw_flipchoice_k59_words_that_are_tried) (n := 20) (most := 63) (k := PI.K59.d_law) rfl (by decide) (by kernel_rfl) (by decide) (List.Mem.head _) (by kernel_rfl) rfl rfl rfl (by decide) ⟨rfl, by decide, by decide⟩ PI.K59.tx rfl PI.K59.lawOk
