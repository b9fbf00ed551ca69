import PyProof.Rows.All
import Wide.All
import OpenK.AllK
import Wide.FinOn
import HandS.ForMost
import HandS.IsInst
import HandS.TupAny
import HandS.TupMul
import HandS.Zip
import HandS.Deep
import HandS.Flow
import HandS.DictComp
import HandS.Conv
import HandS.Style
import HandS.Small
import HandS.TupLen
import HandS.SortInts
import HandS.Exc
import HandS.SetFor
import HandS.More
import HandS.Text
import HandS.Replace
import HandS.Lambda
import HandS.EndTab
import KE.KTupSum
import PyProof.DictUpdate
import KE.DataFind
import HandS.ExcInit
import HandS.ExcOwn
import HandS.SuiteRaise
import HandS.ExcIs
import PyProof.EnumMake
import PyProof.Draws
import KE.GoesEnum
import KE.GoesMore
import HandS.Zip0
import KE.KRevSl
import PyProof.ReprRoads
import PyProof.ReprBulk
import PyProof.FitsInt
import HandS.Ends
import PyProof.Walk
import PySem.Challenge.RW_stripturns_k79_whole_rows_on_layings
set_option linter.all false
set_option Elab.async false
set_option autoImplicit false
set_option maxRecDepth 1000000
/-! Cl, part A: a small language of clean values, its evaluator. -/
namespace Cl
open PySem L2

/-- a value that never changes again -/
inductive D where
  | non | bl (b : Bool) | int (i : Int) | str (s : Str)
  | tup (xs : List D) | lst (xs : List D)
  | dk (kvs : List (Key × D)) | dt (kvs : List (List Key × D))
  | obj (c : Nat) (fs : List D) | fn (f : Nat) | scr (ns : List Int)

/-- a value, or a new list (dict) that nobody else holds -/
inductive W where
  | d (v : D) | fl (xs : List D) | fk (kvs : List (Key × D)) | ft (kvs : List (List Key × D)) | fo (c : Nat) (fs : List D)
def W.toD : W → D
  | .d v => v
  | .fl xs => .lst xs
  | .fk kvs => .dk kvs
  | .ft kvs => .dt kvs
  | .fo c fs => .obj c fs
def W.own : W → Bool
  | .d _ => false
  | _ => true
def W.kind : W → Nat
  | .d _ => 0
  | .fl _ => 1
  | .fk _ => 2
  | .ft _ => 3
  | .fo _ _ => 4
@[simp] theorem W.toD_d (v : D) : (W.d v).toD = v := rfl
@[simp] theorem W.toD_fl (v : List D) : (W.fl v).toD = .lst v := rfl
@[simp] theorem W.toD_fk (v : List (Key × D)) : (W.fk v).toD = .dk v := rfl
@[simp] theorem W.toD_ft (v : List (List Key × D)) : (W.ft v).toD = .dt v := rfl
@[simp] theorem W.toD_fo (c : Nat) (v : List D) : (W.fo c v).toD = .obj c v := rfl

abbrev Sg := List (Option W)

inductive R (S : Type) (α : Type) where
  | ok (a : α) (s : S) | exc (c : Nat) (ds : List D) (s : S) | bad
def R.bind {S α β : Type} : R S α → (α → S → R S β) → R S β
  | .ok a s, f => f a s
  | .exc c ds s, _ => .exc c ds s
  | .bad, _ => .bad
@[simp] theorem R.bind_ok {S α β : Type} (a : α) (s : S) (f : α → S → R S β) : (R.ok a s).bind f = f a s := rfl
@[simp] theorem R.bind_exc {S α β : Type} (c : Nat) (ds : List D) (s : S) (f : α → S → R S β) : (R.exc c ds s).bind f = .exc c ds s := rfl
@[simp] theorem R.bind_bad {S α β : Type} (f : α → S → R S β) : (R.bad).bind f = .bad := rfl

inductive Out where
  | nx (s : Sg) | rt (w : W) (s : Sg) | exc (c : Nat) (ds : List D) (s : Sg) | bad

inductive Bop where | add | sub | mul | fdiv | mod | pow
inductive Cop where | eq | ne | lt | le | gt | ge | isN | notN | isin | notin
inductive Blt where | len | abs | int | all | any | sum | tuple | list | min | max | sorted | dict
/-- classes for isinstance -/
inductive Cls1 where | int | bool | str | tuple | list | dict | own (c : Nat)
inductive Mth where | lcount | scount | join | sindex | lindex
inductive Mut where | append | pop | popAt | extend | update
/-- on which kind of new thing -/
def Mut.kd : Mut → Nat
  | .update => 2
  | _ => 1

inductive Tg where
  | nm (i : Nat) | tp (ts : List Tg)

inductive Ex where
  | var (i : Nat) | io (i : Nat)
  | con (d : D)
  | bin (o : Bop) (a b : Ex) | neg (a : Ex)
  | not (a : Ex) | and (a b : Ex) | or (a b : Ex)
  | cmp (o : Cop) (a b : Ex) | chn (o p : Cop) (a b c : Ex)
  | ite (c a b : Ex)
  | call (f : Nat) (as : List Ex)
  | blt (b : Blt) (as : List Ex)
  | isi (a : Ex) (tp : Bool) (cs : List Cls1)
  | mth (m : Mth) (o : Ex) (as : List Ex)
  | mut (m : Mut) (i : Nat) (as : List Ex)
  | ix (a b : Ex) | sl (a : Ex) (lo hi : Option Ex) | rev (a : Ex)
  | fld (a : Ex) (ks : List (Nat × Nat))
  | tup (as : List Ex) | lst (as : List Ex)
  | dk (kvs : List Ex) | dt (kvs : List Ex)
  | rng (as : List Ex) | enm (a : Ex) | zip (a b : Ex) | lrg (tp : Bool) (as : List Ex)
  | lc (own : List Nat) (t : Tg) (it : Ex) (c : Option Ex) (e : Ex)
  | dc (own : List Nat) (t : Tg) (it : Ex) (c : Option Ex) (k v : Ex)
  /-- whether the held error is of a class -/
  | ise (i : Nat) (b : Bool)
  /-- g(lambda: e) -/
  | lamc (g : Nat) (e : Ex)
  /-- repr(e) -/
  | rpr (a : Ex)

inductive St where
  | pas
  | expr (e : Ex)
  | set (i : Nat) (e : Ex)
  | par (is : List Nat) (es : List Ex)
  | unp (t : Tg) (e : Ex)
  | six (i : Nat) (k e : Ex)
  | aug (i : Nat) (o : Bop) (e : Ex)
  | aix (i : Nat) (k : Ex) (o : Bop) (e : Ex)
  | sfl (i c k : Nat) (e : Ex)
  | ret (e : Ex) | retn
  | ite (c : Ex) (a b : List St)
  | whl (n : Nat) (c : Ex) (b : List St)
  | fr (t : Tg) (it : Ex) (b : List St)
  | rse (c : Nat) (as : List Ex)
  /-- what the call told: nothing, or an error of class k: then b, the error's name at i; else r -/
  | tel (i k : Nat) (b : List St) (r : St)
  /-- x[k], name = e (a tuple of two) -/
  | psx (i : Nat) (k : Ex) (j : Nat) (e : Ex)
  | nev

/-! ### == -/
mutual
def D.py : D → PyData
  | .bl b => .bool b
  | .int i => .int i
  | .str x => .str x
  | .tup xs => .tuple (D.pys xs)
  | .lst xs => .list (D.pys xs)
  | _ => .none
def D.pys : List D → List PyData
  | [] => []
  | x :: xs => D.py x :: D.pys xs
end
mutual
/-- has == by PyData, at most so deep -/
def D.okN : Nat → D → Bool
  | _, .non => true
  | _, .bl _ => true
  | _, .int _ => true
  | _, .str x => PyData.strOk x
  | n + 1, .tup xs => D.okNs n xs
  | n + 1, .lst xs => D.okNs n xs
  | _, _ => false
def D.okNs : Nat → List D → Bool
  | _, [] => true
  | n, x :: xs => D.okN n x && D.okNs n xs
end
def D.ok (d : D) : Bool := D.okN 60 d
mutual
def D.eqb : D → D → Bool
  | .non, .non => true
  | .bl a, .bl b => a == b
  | .bl a, .int j => (if a then 1 else 0) == j
  | .int i, .bl b => i == (if b then 1 else 0)
  | .int i, .int j => decide (i = j)
  | .str x, .str y => decide (x = y)
  | .tup xs, .tup ys => D.eqbs xs ys
  | .lst xs, .lst ys => D.eqbs xs ys
  | _, _ => false
def D.eqbs : List D → List D → Bool
  | [], [] => true
  | x :: xs, y :: ys => D.eqb x y && D.eqbs xs ys
  | _, _ => false
end
def eqD (x y : D) : Option Bool := match x, y with
  | .str a, .str b => some (decide (a = b))
  | _, _ => if x.ok && y.ok then some (D.eqb x y) else none
mutual
/-- ints are short -/
def D.nar : D → Bool
  | .non => true
  | .bl _ => true
  | .int i => decide (i.natAbs < 10 ^ 60)
  | .str _ => true
  | .tup xs => D.nars xs
  | .lst xs => D.nars xs
  | _ => false
def D.nars : List D → Bool
  | [] => true
  | x :: xs => D.nar x && D.nars xs
end
mutual
/-- how much of it there is -/
def D.blk : D → Nat
  | .str x => x.cps.size
  | .tup xs => D.blks xs
  | .lst xs => D.blks xs
  | _ => 0
def D.blks : List D → Nat
  | [] => 0
  | x :: xs => D.blk x + 1 + D.blks xs
end
def rprD (d : D) : Option Str := if d.ok && d.nar && decide (d.blk ≤ 100000) then some d.py.shown else none

def flatD : D → Bool
  | .non => true
  | .bl _ => true
  | .int _ => true
  | .str _ => true
  | _ => false

/-! ### keys -/
def keyD : D → Option Key
  | .int i => some (.inl i)
  | .str x => some (.inr x)
  | _ => none
def keysD : List D → Option (List Key)
  | [] => some []
  | x :: xs => match keyD x, keysD xs with
    | some k, some ks => some (k :: ks)
    | _, _ => none
def tkeyD : D → Option (List Key)
  | .tup xs => keysD xs
  | _ => none
def dKey : Key → D
  | .inl i => .int i
  | .inr x => .str x

section
variable {κ : Type} [DecidableEq κ]
def dget (kvs : List (κ × D)) (k : κ) : Option D := (kvs.find? fun kv => decide (kv.1 = k)).map (·.2)
def dput (kvs : List (κ × D)) (k : κ) (v : D) : List (κ × D) :=
  if kvs.any (fun kv => decide (kv.1 = k)) then kvs.map (fun kv => if kv.1 = k then (kv.1, v) else kv) else kvs ++ [(k, v)]
/-- k1, v1, k2, v2 .. put, one behind the other -/
def putAll (f : D → Option κ) : List (κ × D) → List D → Option (List (κ × D))
  | acc, [] => some acc
  | acc, [_] => none
  | acc, k :: v :: r => match f k with
    | some k => putAll f (dput acc k v) r
    | none => none
end

/-! ### operations by values -/
def cutD (xs : List D) (lo hi : Option Int) : List D := (xs.drop (HT.sIx xs.length 0 lo)).take (HT.sIx xs.length xs.length hi - HT.sIx xs.length 0 lo)
def cutI (xs : List Int) (lo hi : Option Int) : List Int := (xs.drop (HT.sIx xs.length 0 lo)).take (HT.sIx xs.length xs.length hi - HT.sIx xs.length 0 lo)

def binop : Bop → D → D → Option W
  | .add, .int a, .int b => some (.d (.int (a + b)))
  | .add, .str a, .str b => if a.length + b.length ≤ sizeLine then some (.d (.str (a ++ b))) else none
  | .add, .tup a, .tup b => if a.length + b.length ≤ sizeLine then some (.d (.tup (a ++ b))) else none
  | .add, .lst a, .lst b => if a.length + b.length ≤ sizeLine then some (.fl (a ++ b)) else none
  | .sub, .int a, .int b => some (.d (.int (a - b)))
  | .mul, .int a, .int b => if (-(2 ^ 64) < a ∧ a < 2 ^ 64) ∨ (-(2 ^ 64) < b ∧ b < 2 ^ 64) then some (.d (.int (a * b))) else none
  | .mul, .lst a, .int k => if -(2 ^ 63) ≤ k ∧ k < 2 ^ 63 ∧ a.length * k.toNat ≤ sizeLine then some (.fl (List.replicate k.toNat a).flatten) else none
  | .mul, .tup a, .int k => if a ≠ [] ∧ 1 ≤ k ∧ k ≤ 1000 ∧ a.length ≤ 1000 then some (.d (.tup (List.replicate k.toNat a).flatten)) else none
  | .fdiv, .int a, .int b => if 0 < b ∧ b < 1073741824 then some (.d (.int (a / b))) else none
  | .mod, .int a, .int b => if 0 < b then some (.d (.int (a % b))) else none
  | .pow, .int a, .int b => if 0 ≤ b ∧ b ≤ 1000000 ∧ a.natAbs < 2 ^ 64 then some (.d (.int (a ^ b.toNat))) else none
  | _, _, _ => none

def inD (x : D) (y : D) : Option Bool := match y with
  | .lst ys => if flatD x && ys.all flatD then some (ys.any fun z => D.eqb z x) else if x.ok && (D.lst ys).ok then some (ys.any fun z => D.eqb z x) else none
  | .tup ys => if flatD x && ys.all flatD then some (ys.any fun z => D.eqb z x) else none
  | .dk kvs => (keyD x).map fun k => (dget kvs k).isSome
  | .dt kvs => (tkeyD x).map fun k => (dget kvs k).isSome
  | _ => none

def D.isNon : D → Bool
  | .non => true
  | _ => false
def cmpop : Cop → D → D → Option Bool
  | .eq, x, y => eqD x y
  | .ne, x, y => (eqD x y).map (!·)
  | .lt, .int a, .int b => some (decide (a < b))
  | .le, .int a, .int b => some (decide (a ≤ b))
  | .gt, .int a, .int b => some (decide (b < a))
  | .ge, .int a, .int b => some (decide (b ≤ a))
  | .isN, .bl a, .bl b => some (decide (a = b))
  | .notN, .bl a, .bl b => some (!decide (a = b))
  | .isN, x, .non => some x.isNon
  | .notN, x, .non => some (!x.isNon)
  | .isin, x, y => inD x y
  | .notin, x, y => (inD x y).map (!·)
  | _, _, _ => none

def truth : D → Option Bool
  | .non => some false
  | .bl b => some b
  | .int i => some (i != 0)
  | .tup xs => some (!xs.isEmpty)
  | .lst xs => some (!xs.isEmpty)
  | _ => none

def isiD : D → Cls1 → Bool
  | .bl _, .int => true
  | .bl _, .bool => true
  | .int _, .int => true
  | .str _, .str => true
  | .tup _, .tuple => true
  | .lst _, .list => true
  | .scr _, .list => true
  | .dk _, .dict => true
  | .dt _, .dict => true
  | .obj c _, .own c' => c == c'
  | _, _ => false
def objBelow (n : Nat) : D → Bool
  | .obj c _ => decide (c < n)
  | _ => true
/-- isinstance is asked of these alone -/
def isiOk : D → Bool
  | .fn _ => false
  | _ => true

def intsD : List D → Option (List Int)
  | [] => some []
  | .int i :: r => (intsD r).map (i :: ·)
  | _ :: _ => none
def blsD : List D → Option (List Bool)
  | [] => some []
  | .bl b :: r => (blsD r).map (b :: ·)
  | _ :: _ => none

/-- ints put in order -/
def insI (x : Int) : List Int → List Int
  | [] => [x]
  | y :: r => if x ≤ y then x :: y :: r else y :: insI x r
def sortI : List Int → List Int
  | [] => []
  | x :: r => insI x (sortI r)
def maxI (m : Int) : List Int → Int
  | [] => m
  | x :: r => maxI (if m < x then x else m) r
def minI (m : Int) : List Int → Int
  | [] => m
  | x :: r => minI (if x < m then x else m) r
def keysI : List (Key × D) → Option (List Int)
  | [] => some []
  | (.inl i, _) :: r => (keysI r).map (i :: ·)
  | _ => none
def lenD : D → Option Nat
  | .str x => if x.length ≤ sizeLine then some x.length else none
  | .tup xs => some xs.length
  | .lst xs => some xs.length
  | .scr ns => some ns.length
  | .dk kvs => some kvs.length
  | .dt kvs => some kvs.length
  | _ => none

/-- pairs (key, value) -/
def pairsD : List D → Option (List (Key × D))
  | [] => some []
  | .tup [k, v] :: r => match keyD k, pairsD r with
    | some k, some kvs => some ((k, v) :: kvs)
    | _, _ => none
  | _ => none
def strsD : List D → Option (List Str)
  | [] => some []
  | .str x :: r => (strsD r).map (x :: ·)
  | _ :: _ => none
def bltop : Blt → List D → Option W
  | .len, [x] => (lenD x).map fun (n : Nat) => W.d (D.int (n : Int))
  | .abs, [.int i] => some (.d (.int (if i < 0 then -i else i)))
  | .int, [.int i] => some (.d (.int i))
  | .int, [.bl b] => some (.d (.int (if b then 1 else 0)))
  | .all, [.lst xs] => (blsD xs).map fun bs => .d (.bl (bs.all id))
  | .any, [.lst xs] => (blsD xs).map fun bs => .d (.bl (bs.any id))
  | .sum, [.lst xs] => (intsD xs).map fun ns => .d (.int ns.sum)
  | .sum, [.tup xs] => (intsD xs).map fun ns => .d (.int ns.sum)
  | .max, [.lst xs] => match intsD xs with
    | some (n :: ns) => some (.d (.int (maxI n ns)))
    | _ => none
  | .min, [.lst xs] => match intsD xs with
    | some (n :: ns) => some (.d (.int (minI n ns)))
    | _ => none
  | .sorted, [.lst xs] => (intsD xs).map fun ns => .fl ((sortI ns).map D.int)
  | .sorted, [.dk kvs] => if kvs.length < 64 then (keysI kvs).map fun ns => .fl ((sortI ns).map D.int) else none
  | .tuple, [.lst xs] => some (.d (.tup xs))
  | .tuple, [.tup xs] => some (.d (.tup xs))
  | .list, [.lst xs] => some (.fl xs)
  | .list, [.tup xs] => some (.fl xs)
  | .list, [.dk kvs] => some (.fl (kvs.map fun kv => dKey kv.1))
  | .dict, [.lst xs] => (pairsD xs).map fun kvs => .fk (kvs.foldl (fun acc kv => dput acc kv.1 kv.2) [])
  | _, _ => none

def ixD (x : D) (k : D) : Option D := match x, k with
  | .lst xs, .int i => atI xs i
  | .tup xs, .int i => atI xs i
  | .scr ns, .int i => (atI ns i).map D.int
  | .str z, .int i => if z.length ≤ sizeLine then (atI z.cps.toList i).map fun c => .str ⟨#[c]⟩ else none
  | .dk kvs, k => (keyD k).bind fun k => dget kvs k
  | .dt kvs, k => (tkeyD k).bind fun k => dget kvs k
  | _, _ => none

def slD (x : D) (lo hi : Option Int) : Option W := match x with
  | .lst xs => some (.fl (cutD xs lo hi))
  | .tup xs => some (.d (.tup (cutD xs lo hi)))
  | .scr ns => some (.fl ((cutI ns lo hi).map D.int))
  | .str z => if z.length ≤ sizeLine then some (.d (.str (cutS z lo hi))) else none
  | _ => none

/-- what is numbered -/
def seqD : D → Option (List D)
  | .lst xs => some xs
  | .tup xs => some xs
  | .scr ns => some (ns.map D.int)
  | _ => none
def itemsD : D → Option (List D)
  | .lst xs => some xs
  | .tup xs => some xs
  | .scr ns => some (ns.map D.int)
  | .str z => some (z.cps.toList.map fun c => .str ⟨#[c]⟩)
  | _ => none

def rngD : List D → Option (List D)
  | [.int j] => if -(2 ^ 62) ≤ j ∧ j.toNat ≤ 16777216 then some ((List.range j.toNat).map fun (i : Nat) => D.int i) else none
  | [.int i, .int j] => if -(2 ^ 62) ≤ i ∧ i.toNat ≤ 16777216 ∧ -(2 ^ 62) ≤ j ∧ j.toNat ≤ 16777216 ∧ (j - i).toNat ≤ 16777216 then some ((List.range (j - i).toNat).map fun (n : Nat) => D.int (i + n)) else none
  | _ => none

def enmL (xs : List D) : List D := xs.zipIdx.map fun p => D.tup [.int p.2, p.1]
def zipD : D → D → Option (List D)
  | .lst xs, .lst ys => some (List.zipWith (fun x y => D.tup [x, y]) xs ys)
  | .tup xs, .tup ys => some (List.zipWith (fun x y => D.tup [x, y]) xs ys)
  | .lst xs, .tup ys => some (List.zipWith (fun x y => D.tup [x, y]) xs ys)
  | .tup xs, .lst ys => some (List.zipWith (fun x y => D.tup [x, y]) xs ys)
  | _, _ => none

/-- a op= b -/
def augop : Bop → D → D → Option D
  | .add, .int a, .int b => some (.int (a + b))
  | .add, .str a, .str b => if a.length + b.length ≤ sizeLine then some (.str (a ++ b)) else none
  | .sub, .int a, .int b => some (.int (a - b))
  | _, _, _ => none

/-! ### operands -/
inductive Opd where | val (d : D) | ref (i : Nat)
def rd (σ : Sg) : Opd → Option D
  | .val d => some d
  | .ref i => match σ[i]? with
    | some (some w) => some w.toD
    | _ => none
def ofO {S α : Type} (o : Option α) (s : S) : R S α := match o with
  | some a => .ok a s
  | none => .bad
@[simp] theorem ofO_some {S α : Type} (a : α) (s : S) : ofO (some a) s = .ok a s := rfl
@[simp] theorem ofO_none {S α : Type} (s : S) : (ofO none s : R S α) = .bad := rfl

def opd (e : Ex) (f : Sg → R Sg W) (σ : Sg) : R Sg Opd := match e with
  | .var i => match σ[i]? with
    | some (some _) => .ok (.ref i) σ
    | _ => .bad
  | _ => (f σ).bind fun w σ' => .ok (.val w.toD) σ'
def tst (e : Ex) (f : Sg → R Sg W) (σ : Sg) : R Sg Bool := (opd e f σ).bind fun x σ' => ofO ((rd σ' x).bind truth) σ'

def rds (σ : Sg) : List Opd → Option (List D)
  | [] => some []
  | x :: xs => match rd σ x, rds σ xs with
    | some d, some ds => some (d :: ds)
    | _, _ => none

/-! ### targets -/
mutual
def asg : Tg → D → Sg → Option Sg
  | .nm i, d, σ => if i < σ.length then some (σ.set i (some (.d d))) else none
  | .tp ts, .tup ds, σ => asgs ts ds σ
  | .tp _, _, _ => none
def asgs : List Tg → List D → Sg → Option Sg
  | [], [], σ => some σ
  | t :: ts, d :: ds, σ => (asg t d σ).bind fun σ' => asgs ts ds σ'
  | _, _, _ => none
end

def wipeS (σ : Sg) : List Nat → Sg
  | [] => σ
  | v :: vs => (wipeS σ vs).set v none

/-- no own slot holds a list that may change -/
def plainAt (σ : Sg) (i : Nat) : Bool := match σ[i]? with
  | some (some w) => !w.own
  | _ => true
/-- the own slots as they were -/
def backS (σ0 σ : Sg) : List Nat → Sg
  | [] => σ
  | v :: vs => (backS σ0 σ vs).set v (σ0[v]?.join)

/-! ### loops -/
/-- a comprehension's turns -/
def lcL (f : D → Sg → R Sg (Option D)) : List D → List D → Sg → R Sg (List D)
  | [], acc, σ => .ok acc σ
  | x :: xs, acc, σ => match f x σ with
    | .ok (some y) σ' => lcL f xs (acc ++ [y]) σ'
    | .ok none σ' => lcL f xs acc σ'
    | _ => .bad
def dcL (f : D → Sg → R Sg (Option (Key × D))) : List D → List (Key × D) → Sg → R Sg (List (Key × D))
  | [], acc, σ => .ok acc σ
  | x :: xs, acc, σ => match f x σ with
    | .ok (some y) σ' => dcL f xs (dput acc y.1 y.2) σ'
    | .ok none σ' => dcL f xs acc σ'
    | _ => .bad
def frL (f : D → Sg → Out) : List D → Sg → Out
  | [], σ => .nx σ
  | x :: xs, σ => match f x σ with
    | .nx σ' => frL f xs σ'
    | o => o
def whL (t : Sg → R Sg Bool) (f : Sg → Out) : Nat → Sg → Out
  | 0, _ => .bad
  | n + 1, σ => match t σ with
    | .ok true σ1 => match f σ1 with
      | .nx σ' => whL t f n σ'
      | o => o
    | .ok false σ1 => .nx σ1
    | .exc c ds σ1 => .exc c ds σ1
    | .bad => .bad

/-! ### changing methods on the list (dict) at a slot -/
def mutop (m : Mut) (w : W) (ds : List D) : Option (D × W) := match m, w, ds with
  | .append, .fl xs, [d] => if xs.length < sizeLine then some (.non, .fl (xs ++ [d])) else none
  | .pop, .fl xs, [] => match xs[xs.length - 1]? with
    | some y => some (y, .fl xs.dropLast)
    | none => none
  | .popAt, .fl xs, [.int i] => if -(2 ^ 63) ≤ i ∧ i < 2 ^ 63 then match seqIndex? i xs.length with
      | some k => match xs[k]? with
        | some y => some (y, .fl (xs.eraseIdx k))
        | none => none
      | none => none
    else none
  | .extend, .fl xs, [.lst zs] => if xs.length + zs.length ≤ sizeLine then some (.non, .fl (xs ++ zs)) else none
  | .update, .fk kvs, [.dk ys] => if kvs.length + ys.length ≤ sizeLine then some (.non, .fk (ys.foldl (fun acc kv => dput acc kv.1 kv.2) kvs)) else none
  | _, _, _ => none
/-- x[k] = v -/
def setop (w : W) (k v : D) : Option W := match w with
  | .fl xs => match k with
    | .int i => (ixN xs.length i).map fun j => .fl (xs.set j v)
    | _ => none
  | .fk kvs => match keyD k with
    | some k => if kvs.length < sizeLine then some (.fk (dput kvs k v)) else none
    | none => none
  | .ft kvs => match tkeyD k with
    | some k => if kvs.length < sizeLine then some (.ft (dput kvs k v)) else none
    | none => none
  | _ => none

/-- an attribute: in which place each class has it -/
def fldD (x : D) (ks : List (Nat × Nat)) : Option D := match x with
  | .obj c fs => match ks.lookup c with
    | some k => fs[k]?
    | none => none
  | _ => none
/-- whose method -/
def mthTy : Mth → D → Bool
  | .lcount, .lst _ => true
  | .lindex, .lst _ => true
  | .scount, .str _ => true
  | .join, .str _ => true
  | .sindex, .str _ => true
  | _, _ => false
def mthop : Mth → D → List D → Option W
  | .lcount, .lst xs, [.int k] => (intsD xs).map fun ns => .d (.int (ns.count k : Nat))
  | .lcount, .lst xs, [.bl b] => (blsD xs).map fun bs => .d (.int (bs.count b : Nat))
  | .lindex, .lst xs, [y] => if flatD y && xs.all flatD then (xs.findIdx? fun z => D.eqb z y).map fun (j : Nat) => .d (.int (j : Nat)) else none
  | .scount, .str a, [.str b] => some (.d (.int (Txt.count a b)))
  | .join, .str a, [.lst xs] => (strsD xs).bind fun ys => if (ys.map (·.length)).sum + ys.length * a.length ≤ 16777216 then some (.d (.str (Txt.join a ys))) else none
  | .join, .str a, [.tup xs] => (strsD xs).bind fun ys => if (ys.map (·.length)).sum + ys.length * a.length ≤ 16777216 then some (.d (.str (Txt.join a ys))) else none
  | .sindex, .str a, [.str b] => match Builtin.Str.occurrences a b 0 a.length 1 with
    | i :: _ => some (.d (.int (i : Nat)))
    | [] => none
  | _, _, _ => none

/-! ### calls: which arguments are handed over to be changed -/
inductive Ag where | io (i : Nat) | d (v : D)
def agW (σ : Sg) : Ag → Option W
  | .d v => some (.d v)
  | .io i => match σ[i]? with
    | some (some (.fl xs)) => some (.fl xs)
    | some (some (.fk xs)) => some (.fk xs)
    | some (some (.ft xs)) => some (.ft xs)
    | some (some (.fo c fs)) => some (.fo c fs)
    | _ => none
def agWs (σ : Sg) : List Ag → Option (List W)
  | [] => some []
  | a :: as => match agW σ a, agWs σ as with
    | some w, some ws => some (w :: ws)
    | _, _ => none
/-- the slots handed over -/
def ioS : List Ag → List Nat
  | [] => []
  | .io i :: r => i :: ioS r
  | .d _ :: r => ioS r
def putBack (σ : Sg) : List Nat → List W → Option Sg
  | [], [] => some σ
  | i :: is, w :: ws => if w.own then putBack (σ.set i (some w)) is ws else none
  | _, _ => none

def unw (fs : List W) : List D := fs.map W.toD
abbrev Calls := Nat → List W → R (List W) W
/-- nothing that stands anywhere -/
def simpleW : W → Bool
  | .d .non => true
  | .d (.bl _) => true
  | .d (.int _) => true
  | .d (.str _) => true
  | _ => false
def simpleS (σ : Sg) : Bool := σ.all fun o => match o with
  | none => true
  | some w => simpleW w
def lamR (cl : Calls) (g : Nat) (x : D) (σ : Sg) : R Sg W := match cl g [.d x] with
  | .ok w _ => if simpleW w then .ok w σ else .bad
  | _ => .bad
def callS (cl : Calls) (f : Nat) (ags : List Ag) (σ : Sg) : R Sg W :=
  if (ioS ags).Nodup then match agWs σ ags with
    | some ws => match cl f ws with
      | .ok w outs => match putBack σ (ioS ags) outs with
        | some σ' => .ok w σ'
        | none => .bad
      | .exc c ds outs => match putBack σ (ioS ags) outs with
        | some σ' => .exc c ds σ'
        | none => .bad
      | .bad => .bad
    | none => .bad
  else .bad

section
variable (nc : Nat) (cl : Calls)
/-- one turn of a comprehension -/
def lcTurn (own : List Nat) (t : Tg) (c : Option (Sg → R Sg Bool)) (e : Sg → R Sg W) (x : D) (σ : Sg) : R Sg (Option D) :=
  match asg t x (wipeS σ own) with
  | none => .bad
  | some σ1 => match c with
    | none => (e σ1).bind fun w σ2 => .ok (some w.toD) (wipeS σ2 own)
    | some c => (c σ1).bind fun b σ2 => if b then (e σ2).bind fun w σ3 => .ok (some w.toD) (wipeS σ3 own) else .ok none (wipeS σ2 own)
def dcTurn (own : List Nat) (t : Tg) (c : Option (Sg → R Sg Bool)) (k v : Sg → R Sg W) (x : D) (σ : Sg) : R Sg (Option (Key × D)) :=
  let fin := fun σ1 => (k σ1).bind fun wk σ2 => (v σ2).bind fun wv σ3 => match keyD wk.toD with
    | some kk => R.ok (some (kk, wv.toD)) (wipeS σ3 own)
    | none => .bad
  match asg t x (wipeS σ own) with
  | none => .bad
  | some σ1 => match c with
    | none => fin σ1
    | some c => (c σ1).bind fun b σ2 => if b then fin σ2 else .ok none (wipeS σ2 own)

mutual
def ev : Ex → Sg → R Sg W
  | .var i, σ => match σ[i]? with
    | some (some w) => if w.own then .ok (.d w.toD) (σ.set i (some (.d w.toD))) else .ok w σ
    | _ => .bad
  | .io _, _ => .bad
  | .con d, σ => .ok (.d d) σ
  | .ise i b, σ => match σ[i]? with
    | some (some (.d (.fn n))) => if n = 999 then .ok (.d (.bl b)) σ else .bad
    | _ => .bad
  | .lamc g e, σ => match ev e σ with
    | .ok _ σ1 => lamR cl g .non σ1
    | .exc k _ σ1 => lamR cl g (.int (k : Int)) σ1
    | .bad => .bad
  | .rpr a, σ => (opd a (ev a) σ).bind fun x σ1 => ofO ((rd σ1 x).bind fun x => (rprD x).map fun t => W.d (.str t)) σ1
  | .bin o a b, σ => (opd a (ev a) σ).bind fun x σ1 => (opd b (ev b) σ1).bind fun y σ2 =>
      ofO ((rd σ2 x).bind fun x => (rd σ2 y).bind fun y => binop o x y) σ2
  | .neg a, σ => (opd a (ev a) σ).bind fun x σ1 => ofO ((rd σ1 x).bind fun x => match x with | .int i => some (.d (.int (-i))) | _ => none) σ1
  | .not a, σ => (tst a (ev a) σ).bind fun b σ1 => .ok (.d (.bl (!b))) σ1
  | .and a b, σ => (ev a σ).bind fun x σ1 => match x with
    | .d (.bl true) => (ev b σ1).bind fun y σ2 => match y with
      | .d (.bl c) => .ok (.d (.bl c)) σ2
      | _ => .bad
    | .d (.bl false) => .ok (.d (.bl false)) σ1
    | _ => .bad
  | .or a b, σ => (ev a σ).bind fun x σ1 => match x with
    | .d (.bl false) => (ev b σ1).bind fun y σ2 => match y with
      | .d (.bl c) => .ok (.d (.bl c)) σ2
      | _ => .bad
    | .d (.bl true) => .ok (.d (.bl true)) σ1
    | _ => .bad
  | .cmp o a b, σ => (opd a (ev a) σ).bind fun x σ1 => (opd b (ev b) σ1).bind fun y σ2 =>
      ofO ((rd σ2 x).bind fun x => (rd σ2 y).bind fun y => (cmpop o x y).map fun b => .d (.bl b)) σ2
  | .chn o p a b c, σ => (opd a (ev a) σ).bind fun x σ1 => (opd b (ev b) σ1).bind fun y σ2 =>
      (ofO ((rd σ2 x).bind fun x => (rd σ2 y).bind fun y => cmpop o x y) σ2).bind fun k σ3 =>
        if k then (opd c (ev c) σ3).bind fun z σ4 => ofO ((rd σ4 y).bind fun y => (rd σ4 z).bind fun z => (cmpop p y z).map fun b => .d (.bl b)) σ4
        else .ok (.d (.bl false)) σ3
  | .ite c a b, σ => (tst c (ev c) σ).bind fun k σ1 => if k then ev a σ1 else ev b σ1
  | .call f as, σ => (evAs as σ).bind fun ags σ1 => callS cl f ags σ1
  | .blt b as, σ => (evOs as σ).bind fun xs σ1 => ofO ((rds σ1 xs).bind fun ds => bltop b ds) σ1
  | .isi a tp cs, σ => (opd a (ev a) σ).bind fun x σ1 => ofO ((rd σ1 x).bind fun x => if isiOk x && objBelow nc x then some (.d (.bl (cs.any fun c => isiD x c))) else none) σ1
  | .mth m o as, σ => (opd o (ev o) σ).bind fun x σ1 => match rd σ1 x with
    | some d => if mthTy m d then (evOs as σ1).bind fun ys σ2 => ofO ((rd σ2 x).bind fun x => (rds σ2 ys).bind fun ys => mthop m x ys) σ2 else .bad
    | none => .bad
  | .mut m i as, σ => match σ[i]? with
    | some (some w0) => if w0.kind = m.kd then (evDs as σ).bind fun ds σ1 => match σ1[i]? with
      | some (some w) => match mutop m w ds with
        | some (y, w') => .ok (.d y) (σ1.set i (some w'))
        | none => .bad
      | _ => .bad
      else .bad
    | _ => .bad
  | .ix a b, σ => (opd a (ev a) σ).bind fun x σ1 => (opd b (ev b) σ1).bind fun y σ2 =>
      ofO ((rd σ2 x).bind fun x => (rd σ2 y).bind fun y => (ixD x y).map W.d) σ2
  | .sl a lo hi, σ => (opd a (ev a) σ).bind fun x σ1 => (evI lo σ1).bind fun l σ2 => (evI hi σ2).bind fun h σ3 =>
      ofO ((rd σ3 x).bind fun x => slD x l h) σ3
  | .rev a, σ => (opd a (ev a) σ).bind fun x σ1 => ofO ((rd σ1 x).bind fun x => match x with
      | .lst xs => some (.fl xs.reverse)
      | .tup xs => some (.d (.tup xs.reverse))
      | _ => none) σ1
  | .fld a ks, σ => (opd a (ev a) σ).bind fun x σ1 => ofO ((rd σ1 x).bind fun x => (fldD x ks).map W.d) σ1
  | .tup as, σ => (evDs as σ).bind fun ds σ1 => .ok (.d (.tup ds)) σ1
  | .lst as, σ => (evDs as σ).bind fun ds σ1 => .ok (.fl ds) σ1
  | .dk kvs, σ => (evDs kvs σ).bind fun ds σ1 => ofO ((putAll keyD [] ds).map W.fk) σ1
  | .dt kvs, σ => (evDs kvs σ).bind fun ds σ1 => ofO ((putAll tkeyD [] ds).map W.ft) σ1
  | .rng as, σ => (evOs as σ).bind fun xs σ1 => ofO ((rds σ1 xs).bind fun ds => (rngD ds).map W.fl) σ1
  | .lrg tp as, σ => (evOs as σ).bind fun xs σ1 => ofO ((rds σ1 xs).bind fun ds => (rngD ds).map fun ys => if tp then W.d (.tup ys) else W.fl ys) σ1
  | .enm a, σ => (ev a σ).bind fun w σ1 => ofO ((seqD w.toD).map fun xs => W.fl (enmL xs)) σ1
  | .zip a b, σ => (ev a σ).bind fun x σ1 => (ev b σ1).bind fun y σ2 => ofO ((zipD x.toD y.toD).map W.fl) σ2
  | .lc own t it c e, σ => (ev it σ).bind fun w σ1 => match itemsD w.toD with
    | some xs => if own.all (plainAt σ1) ∧ xs.length ≤ sizeLine then
        (lcL (lcTurn own t (evC c) (ev e)) xs [] (wipeS σ1 own)).bind fun ys σ2 => .ok (.fl ys) (backS σ1 σ2 own)
      else .bad
    | none => .bad
  | .dc own t it c k v, σ => (ev it σ).bind fun w σ1 => match itemsD w.toD with
    | some xs => if own.all (plainAt σ1) ∧ xs.length ≤ sizeLine then
        (dcL (dcTurn own t (evC c) (ev k) (ev v)) xs [] (wipeS σ1 own)).bind fun ys σ2 => .ok (.fk ys) (backS σ1 σ2 own)
      else .bad
    | none => .bad
def evC : Option Ex → Option (Sg → R Sg Bool)
  | none => none
  | some c => some (tst c (ev c))
/-- values, held fast -/
def evDs : List Ex → Sg → R Sg (List D)
  | [], σ => .ok [] σ
  | e :: es, σ => (ev e σ).bind fun w σ1 => (evDs es σ1).bind fun ds σ2 => .ok (w.toD :: ds) σ2
/-- operands, looked at later -/
def evOs : List Ex → Sg → R Sg (List Opd)
  | [], σ => .ok [] σ
  | e :: es, σ => (opd e (ev e) σ).bind fun x σ1 => (evOs es σ1).bind fun xs σ2 => .ok (x :: xs) σ2
def evAs : List Ex → Sg → R Sg (List Ag)
  | [], σ => .ok [] σ
  | .io i :: es, σ => match σ[i]? with
    | some (some _) => (evAs es σ).bind fun xs σ2 => .ok (.io i :: xs) σ2
    | _ => .bad
  | e :: es, σ => (ev e σ).bind fun w σ1 => (evAs es σ1).bind fun xs σ2 => .ok (.d w.toD :: xs) σ2
def evI : Option Ex → Sg → R Sg (Option Int)
  | none, σ => .ok none σ
  | some e, σ => (opd e (ev e) σ).bind fun x σ1 => ofO ((rd σ1 x).bind fun x => match x with | .int i => some (some i) | _ => none) σ1
end
/-- new values kept apart -/
def evWs : List Ex → Sg → R Sg (List W)
  | [], σ => .ok [] σ
  | e :: es, σ => (ev nc cl e σ).bind fun w σ1 => (evWs es σ1).bind fun ds σ2 => .ok (w :: ds) σ2

def Out.ofR {α : Type} (r : R Sg α) (f : α → Sg → Out) : Out := match r with
  | .ok a σ => f a σ
  | .exc c ds σ => .exc c ds σ
  | .bad => .bad
@[simp] theorem Out.ofR_ok {α : Type} (a : α) (σ : Sg) (f : α → Sg → Out) : Out.ofR (.ok a σ) f = f a σ := rfl
@[simp] theorem Out.ofR_exc {α : Type} (c : Nat) (ds : List D) (σ : Sg) (f : α → Sg → Out) : Out.ofR (.exc c ds σ) f = .exc c ds σ := rfl
@[simp] theorem Out.ofR_bad {α : Type} (f : α → Sg → Out) : Out.ofR .bad f = .bad := rfl
def setS (σ : Sg) (i : Nat) (w : W) : Out := if i < σ.length then .nx (σ.set i (some w)) else .bad
def setSs : List Nat → List W → Sg → Out
  | [], [], σ => .nx σ
  | i :: is, w :: ws, σ => if i < σ.length then setSs is ws (σ.set i (some w)) else .bad
  | _, _, _ => .bad
def Out.seq (o : Out) (f : Sg → Out) : Out := match o with
  | .nx σ => f σ
  | o => o
@[simp] theorem Out.seq_nx (σ : Sg) (f : Sg → Out) : (Out.nx σ).seq f = f σ := rfl
@[simp] theorem Out.seq_rt (w : W) (σ : Sg) (f : Sg → Out) : (Out.rt w σ).seq f = .rt w σ := rfl
@[simp] theorem Out.seq_exc (c : Nat) (ds : List D) (σ : Sg) (f : Sg → Out) : (Out.exc c ds σ).seq f = .exc c ds σ := rfl
@[simp] theorem Out.seq_bad (f : Sg → Out) : (Out.bad).seq f = .bad := rfl

mutual
def run : St → Sg → Out
  | .pas, σ => .nx σ
  | .expr e, σ => .ofR (ev nc cl e σ) fun _ σ' => .nx σ'
  | .set i e, σ => .ofR (ev nc cl e σ) fun w σ' => setS σ' i w
  | .par is es, σ => .ofR (evWs nc cl es σ) fun ws σ' => if is.Nodup then setSs is ws σ' else .bad
  | .unp t e, σ => .ofR (ev nc cl e σ) fun w σ' => match asg t w.toD σ' with
    | some σ2 => .nx σ2
    | none => .bad
  | .six i k e, σ => match σ[i]? with
    | some (some _) => .ofR (ev nc cl e σ) fun w σ1 => .ofR (opd k (ev nc cl k) σ1) fun x σ2 => match rd σ2 x, σ2[i]? with
      | some kd, some (some w0) => match setop w0 kd w.toD with
        | some w1 => .nx (σ2.set i (some w1))
        | none => .bad
      | _, _ => .bad
    | _ => .bad
  | .psx i k j e, σ => match σ[i]? with
    | some (some _) => .ofR (ev nc cl e σ) fun w σ1 => match w.toD with
      | .tup [d1, d2] => .ofR (opd k (ev nc cl k) σ1) fun x σ2 => match rd σ2 x, σ2[i]? with
        | some kd, some (some w0) => match setop w0 kd d1 with
          | some w1 => setS (σ2.set i (some w1)) j (.d d2)
          | none => .bad
        | _, _ => .bad
      | _ => .bad
    | _ => .bad
  | .aug i o e, σ => match σ[i]? with
    | some (some (.d x)) => .ofR (ev nc cl e σ) fun w σ1 => match augop o x w.toD with
      | some r => setS σ1 i (.d r)
      | _ => .bad
    | _ => .bad
  | .aix i k o e, σ => match σ[i]? with
    | some (some _) => .ofR (ev nc cl k σ) fun kw σ1 => match kw.toD, σ1[i]? with
      | .int n, some (some (.fl xs)) => if 0 ≤ n then match xs[n.toNat]? with
          | some x => .ofR (ev nc cl e σ1) fun w σ2 => match augop o x w.toD, σ2[i]? with
            | some r, some (some w1) => match setop w1 (.int n) r with
              | some w2 => .nx (σ2.set i (some w2))
              | none => .bad
            | _, _ => .bad
          | none => .bad
        else .bad
      | _, _ => .bad
    | _ => .bad
  | .sfl i c k e, σ => .ofR (ev nc cl e σ) fun w σ1 => match σ1[i]? with
    | some (some (.fo c' fs)) => if c' = c ∧ fs.length = k then .nx (σ1.set i (some (.fo c' (fs ++ [w.toD])))) else .bad
    | _ => .bad
  | .ret (.var i), σ => match σ[i]? with
    | some (some w) => .rt w (σ.set i none)
    | _ => .bad
  | .ret e, σ => .ofR (ev nc cl e σ) fun w σ' => .rt w σ'
  | .retn, σ => .rt (.d .non) σ
  | .ite c a b, σ => .ofR (tst c (ev nc cl c) σ) fun k σ1 => if k then runs a σ1 else runs b σ1
  | .whl n c b, σ => whL (tst c (ev nc cl c)) (runs b) n σ
  | .fr t it b, σ => .ofR (ev nc cl it σ) fun w σ1 => match itemsD w.toD with
    | some xs => if xs.length ≤ sizeLine then frL (fun x σ => match asg t x σ with
        | some σ' => runs b σ'
        | none => .bad) xs σ1 else .bad
    | none => .bad
  | .rse c as, σ => .ofR (evDs nc cl as σ) fun ds σ1 => .exc c ds σ1
  | .tel i k b r, σ => match σ[(0 : Nat)]? with
    | some (some (.d .non)) => .nx (σ.set 0 none)
    | some (some (.d (.int n))) => if n = (k : Int) then (runs b ((σ.set 0 none).set i (some (.d (.fn 999))))).seq fun σ1 => if simpleS (σ1.set i none) then .nx (σ1.set i none) else .bad else run r σ
    | _ => .bad
  | .nev, _ => .bad
def runs : List St → Sg → Out
  | [], σ => .nx σ
  | s :: ss, σ => (run s σ).seq fun σ' => runs ss σ'
end
end

/-- a def: how many parameters, which are handed over to be changed, how many names, the body -/
structure Fd where
  np : Nat
  io : List Nat
  nn : Nat
  body : List St
  /-- a class: its number, its __init__ -/
  mkC : Option (Nat × Nat) := none
  /-- it is told a lambda -/
  lm : Bool := false
abbrev Pg := List Fd
/-- what the handed-over parameters hold at the end -/
def outsOf (σ : Sg) : List Nat → Option (List W)
  | [] => some []
  | i :: is => match σ[i]?, outsOf σ is with
    | some (some w), some ws => if w.own then some (w :: ws) else none
    | _, _ => none
/-- the places of what is handed over to be changed -/
def ownIx : Nat → List W → List Nat
  | _, [] => []
  | n, w :: ws => if w.own then n :: ownIx (n + 1) ws else ownIx (n + 1) ws
def ioOk (ws : List W) (io : List Nat) : Bool := (List.range ws.length).all fun i => match ws[i]? with
  | some w => w.own == io.contains i
  | none => true
/-- what stands behind __init__ -/
def mkRes (c : Nat) : R (List W) W → R (List W) W
  | .ok (.d .non) [.fo c' fs] => if c' = c then .ok (.d (.obj c fs)) [] else .bad
  | .exc e ds [.fo _ _] => .exc e ds []
  | _ => .bad
theorem mkRes_ok {c : Nat} {w w' : W} {os os' : List W} (h : mkRes c (.ok w os) = .ok w' os') : ∃ fs, w = .d .non ∧ os = [.fo c fs] ∧ w' = .d (.obj c fs) ∧ os' = [] := by
  unfold mkRes at h
  split at h
  · rename_i c' fs e
    cases e
    split at h
    · rename_i e
      subst e
      cases h
      exact ⟨fs, rfl, rfl, rfl, rfl⟩
    · cases h
  · cases h
  · cases h
theorem mkRes_okx {c : Nat} {w : W} {os : List W} {e : Nat} {ds : List D} {os' : List W} (h : mkRes c (.ok w os) = .exc e ds os') : False := by
  unfold mkRes at h
  split at h
  · split at h <;> cases h
  · rename_i q; cases q
  · cases h
theorem mkRes_exc {c : Nat} {e : Nat} {ds : List D} {os os' : List W} {e' : Nat} {ds' : List D} (h : mkRes c (.exc e ds os) = .exc e' ds' os') : e' = e ∧ ds' = ds ∧ os' = [] := by
  unfold mkRes at h
  split at h
  · rename_i q; cases q
  · rename_i q
    cases q
    cases h
    exact ⟨rfl, rfl, rfl⟩
  · cases h
theorem mkRes_excx {c : Nat} {e : Nat} {ds : List D} {os : List W} {w : W} {os' : List W} (h : mkRes c (.exc e ds os) = .ok w os') : False := by
  unfold mkRes at h
  split at h
  · rename_i q; cases q
  · cases h
  · cases h
def callN (P : Pg) (nc : Nat) : Nat → Calls
  | 0, _, _ => .bad
  | k + 1, f, ws => match P[f]? with
    | none => .bad
    | some fd => match fd.mkC with
     | some (c, i) => if ws.length = fd.np ∧ ws.all (fun w => !w.own) then mkRes c (callN P nc k i (.fo c [] :: ws)) else .bad
     | none => if ws.length = fd.np ∧ fd.np ≤ fd.nn ∧ ioOk ws fd.io then
        match runs nc (callN P nc k) fd.body (ws.map some ++ List.replicate (fd.nn - fd.np) none) with
        | .nx σ => match outsOf σ (ownIx 0 ws) with
          | some os => .ok (.d .non) os
          | none => .bad
        | .rt w σ => match outsOf σ (ownIx 0 ws) with
          | some os => .ok w os
          | none => .bad
        | .exc c ds σ => match outsOf σ (ownIx 0 ws) with
          | some os => .exc c ds os
          | none => .bad
        | .bad => .bad
      else .bad
end Cl

/-! Cl, part B: how clean values stand in the abstract heap. -/
namespace Cl
open PySem L2

/-- where the text's things stand -/
structure Tb where
  K : PySem.W.Frag
  fa : Nat → Addr
  ca : Nat → Addr
  cf : Nat → List Str
  tl : List (Addr × Str) := []
  /-- what stands for sure -/
  ob : List (Addr × HO) := []
  /-- the errors' classes, and what each keeps -/
  xa : Nat → Addr := fun _ => 0
  xf : Nat → List Str := fun _ => []

mutual
/-- d is v in the frozen heap F -/
inductive DR (T : Tb) (F : Hp) : D → V → Prop
  | non : DR T F .non .non
  | bl (b : Bool) : DR T F (.bl b) (.bl b)
  | int (i : Int) : DR T F (.int i) (.int i)
  | str (x : Str) : DR T F (.str x) (.str x)
  | tup {a : Addr} {ds : List D} {vs : List V} : F a = some (.tup vs) → DRs T F ds vs → DR T F (.tup ds) (.ref a)
  | lst {a : Addr} {ds : List D} {vs : List V} : F a = some (.lst vs) → DRs T F ds vs → DR T F (.lst ds) (.ref a)
  | dk {a : Addr} {kvs : List (Key × D)} {kv' : List (Key × V)} : F a = some (.dK kv') → kv'.map (·.1) = kvs.map (·.1) → DRs T F (kvs.map (·.2)) (kv'.map (·.2)) → DR T F (.dk kvs) (.ref a)
  | dt {a : Addr} {kvs : List (List Key × D)} {kv' : List (List Key × V)} : F a = some (.dT kv') → kv'.map (·.1) = kvs.map (·.1) → DRs T F (kvs.map (·.2)) (kv'.map (·.2)) → DR T F (.dt kvs) (.ref a)
  | obj {a dx : Addr} {c : Nat} {fs : List D} {vs : List V} : F a = some (.ins (T.ca c) dx ((T.cf c).zip vs)) → F dx = some (.own a) → DRs T F fs vs → vs.length ≤ (T.cf c).length → DR T F (.obj c fs) (.ref a)
  | fn (f : Nat) : DR T F (.fn f) (.ref (T.fa f))
  | scr {a : Addr} {ns : List Int} : SqL T.K F a (ns.map V.int) → DR T F (.scr ns) (.ref a)
inductive DRs (T : Tb) (F : Hp) : List D → List V → Prop
  | nil : DRs T F [] []
  | cons {d : D} {v : V} {ds : List D} {vs : List V} : DR T F d v → DRs T F ds vs → DRs T F (d :: ds) (v :: vs)
end

section
variable {T : Tb} {F F' H H' : Hp}
theorem SqL.grow {K : PySem.W.Frag} {a : Addr} {xs : List V} (g : ∀ a o, F a = some o → F' a = some o) (h : SqL K F a xs) : SqL K F' a xs := by
  rcases h with (h | ⟨o, h⟩) | h
  · exact .inl (.inl (g _ _ h))
  · exact .inl (.inr ⟨o, g _ _ h⟩)
  · exact .inr h
mutual
theorem DR.grow (g : ∀ a o, F a = some o → F' a = some o) : ∀ {d : D} {v : V}, DR T F d v → DR T F' d v
  | _, _, .non => .non
  | _, _, .bl b => .bl b
  | _, _, .int i => .int i
  | _, _, .str x => .str x
  | _, _, .tup h r => .tup (g _ _ h) (DRs.grow g r)
  | _, _, .lst h r => .lst (g _ _ h) (DRs.grow g r)
  | _, _, .dk h e r => .dk (g _ _ h) e (DRs.grow g r)
  | _, _, .dt h e r => .dt (g _ _ h) e (DRs.grow g r)
  | _, _, .obj h h' r e => .obj (g _ _ h) (g _ _ h') (DRs.grow g r) e
  | _, _, .fn f => .fn f
  | _, _, .scr h => .scr (SqL.grow g h)
theorem DRs.grow (g : ∀ a o, F a = some o → F' a = some o) : ∀ {ds : List D} {vs : List V}, DRs T F ds vs → DRs T F' ds vs
  | _, _, .nil => .nil
  | _, _, .cons r t => .cons (DR.grow g r) (DRs.grow g t)
end
theorem DRs.length : ∀ {ds : List D} {vs : List V}, DRs T F ds vs → ds.length = vs.length
  | _, _, .nil => rfl
  | _, _, .cons _ t => by simp [DRs.length t]
theorem DRs.get : ∀ {ds : List D} {vs : List V} {i : Nat} {d : D}, DRs T F ds vs → ds[i]? = some d → ∃ v, vs[i]? = some v ∧ DR T F d v
  | _, _, _, _, .nil, e => by simp at e
  | _, _, 0, _, .cons r _, e => by simp at e; subst e; exact ⟨_, rfl, r⟩
  | _, _, i + 1, d, .cons _ t, e => by
    obtain ⟨v, h1, h2⟩ := DRs.get (i := i) (d := d) t (by simpa using e)
    exact ⟨v, by simpa using h1, h2⟩
theorem DRs.get' : ∀ {ds : List D} {vs : List V} {i : Nat} {v : V}, DRs T F ds vs → vs[i]? = some v → ∃ d, ds[i]? = some d ∧ DR T F d v
  | _, _, _, _, .nil, e => by simp at e
  | _, _, 0, _, .cons r _, e => by simp at e; subst e; exact ⟨_, rfl, r⟩
  | _, _, i + 1, d, .cons _ t, e => by
    obtain ⟨v, h1, h2⟩ := DRs.get' (i := i) (v := d) t (by simpa using e)
    exact ⟨v, by simpa using h1, h2⟩
theorem DRs.append : ∀ {ds es : List D} {vs us : List V}, DRs T F ds vs → DRs T F es us → DRs T F (ds ++ es) (vs ++ us)
  | _, _, _, _, .nil, s => s
  | _, _, _, _, .cons r t, s => .cons r (DRs.append t s)
theorem DRs.take : ∀ {ds : List D} {vs : List V} (n : Nat), DRs T F ds vs → DRs T F (ds.take n) (vs.take n)
  | _, _, 0, _ => .nil
  | _, _, _ + 1, .nil => .nil
  | _, _, n + 1, .cons r t => .cons r (DRs.take n t)
theorem DRs.drop : ∀ {ds : List D} {vs : List V} (n : Nat), DRs T F ds vs → DRs T F (ds.drop n) (vs.drop n)
  | _, _, 0, r => r
  | _, _, _ + 1, .nil => .nil
  | _, _, n + 1, .cons _ t => DRs.drop n t
theorem DRs.set {d : D} {v : V} (r : DR T F d v) : ∀ {ds : List D} {vs : List V} (i : Nat), DRs T F ds vs → DRs T F (ds.set i d) (vs.set i v)
  | _, _, _, .nil => .nil
  | _, _, 0, .cons _ t => .cons r t
  | _, _, i + 1, .cons q t => .cons q (DRs.set r i t)
theorem DRs.eraseIdx : ∀ {ds : List D} {vs : List V} (i : Nat), DRs T F ds vs → DRs T F (ds.eraseIdx i) (vs.eraseIdx i)
  | _, _, _, .nil => .nil
  | _, _, 0, .cons _ t => t
  | _, _, i + 1, .cons r t => .cons r (DRs.eraseIdx i t)
theorem DRs.dropLast {ds : List D} {vs : List V} (r : DRs T F ds vs) : DRs T F ds.dropLast vs.dropLast := by
  rw [List.dropLast_eq_take, List.dropLast_eq_take, r.length]
  exact r.take _
theorem DRs.reverse {ds : List D} {vs : List V} (r : DRs T F ds vs) : DRs T F ds.reverse vs.reverse := by
  induction ds generalizing vs with
  | nil => cases r; exact .nil
  | cons d ds ih =>
    cases r with
    | cons r t =>
      rw [List.reverse_cons, List.reverse_cons]
      exact (ih t).append (.cons r .nil)
theorem DRs.rep {ds : List D} {vs : List V} (r : DRs T F ds vs) : ∀ k : Nat, DRs T F (List.replicate k ds).flatten (List.replicate k vs).flatten
  | 0 => .nil
  | k + 1 => by
    rw [List.replicate_succ, List.replicate_succ, List.flatten_cons, List.flatten_cons]
    exact r.append (r.rep k)
theorem DRs.ints : ∀ {ds : List D} {vs : List V} {ns : List Int}, DRs T F ds vs → intsD ds = some ns → vs = ns.map V.int
  | _, _, _, .nil, e => by simp [intsD] at e; subst e; rfl
  | .int i :: r, v :: vs, ns, .cons q t, e => by
    cases q
    simp only [intsD, Option.map_eq_some_iff] at e
    obtain ⟨ns', e', rfl⟩ := e
    rw [List.map_cons, DRs.ints t e']
  | .non :: _, _, _, _, e => by simp [intsD] at e
  | .bl _ :: _, _, _, _, e => by simp [intsD] at e
  | .str _ :: _, _, _, _, e => by simp [intsD] at e
  | .tup _ :: _, _, _, _, e => by simp [intsD] at e
  | .lst _ :: _, _, _, _, e => by simp [intsD] at e
  | .dk _ :: _, _, _, _, e => by simp [intsD] at e
  | .dt _ :: _, _, _, _, e => by simp [intsD] at e
  | .obj _ _ :: _, _, _, _, e => by simp [intsD] at e
  | .fn _ :: _, _, _, _, e => by simp [intsD] at e
  | .scr _ :: _, _, _, _, e => by simp [intsD] at e
theorem DRs.bls : ∀ {ds : List D} {vs : List V} {ns : List Bool}, DRs T F ds vs → blsD ds = some ns → vs = ns.map V.bl
  | _, _, _, .nil, e => by simp [blsD] at e; subst e; rfl
  | .bl i :: r, v :: vs, ns, .cons q t, e => by
    cases q
    simp only [blsD, Option.map_eq_some_iff] at e
    obtain ⟨ns', e', rfl⟩ := e
    rw [List.map_cons, DRs.bls t e']
  | .non :: _, _, _, _, e => by simp [blsD] at e
  | .int _ :: _, _, _, _, e => by simp [blsD] at e
  | .str _ :: _, _, _, _, e => by simp [blsD] at e
  | .tup _ :: _, _, _, _, e => by simp [blsD] at e
  | .lst _ :: _, _, _, _, e => by simp [blsD] at e
  | .dk _ :: _, _, _, _, e => by simp [blsD] at e
  | .dt _ :: _, _, _, _, e => by simp [blsD] at e
  | .obj _ _ :: _, _, _, _, e => by simp [blsD] at e
  | .fn _ :: _, _, _, _, e => by simp [blsD] at e
  | .scr _ :: _, _, _, _, e => by simp [blsD] at e
theorem DRs.of_ints : ∀ ns : List Int, DRs T F (ns.map D.int) (ns.map V.int)
  | [] => .nil
  | i :: r => .cons (.int i) (DRs.of_ints r)
theorem DRs.atI {ds : List D} {vs : List V} {i : Int} {d : D} (r : DRs T F ds vs) (e : atI ds i = some d) : ∃ v, L2.atI vs i = some v ∧ DR T F d v := by
  unfold L2.atI at e ⊢
  rw [r.length] at e
  cases q : ixN vs.length i with
  | none => rw [q] at e; cases e
  | some j =>
    rw [q] at e
    exact r.get e

/-- a value, or a new list (dict): where it stands -/
def RS (T : Tb) (F H : Hp) : W → V → Prop
  | .d x, v => DR T F x v
  | .fl xs, v => ∃ a vs, v = .ref a ∧ F a = none ∧ H a = some (.lst vs) ∧ DRs T F xs vs
  | .fk kvs, v => ∃ (a : Addr) (kv' : List (Key × V)), v = .ref a ∧ F a = none ∧ H a = some (.dK kv') ∧ kv'.map (·.1) = kvs.map (·.1) ∧ DRs T F (kvs.map (·.2)) (kv'.map (·.2))
  | .ft kvs, v => ∃ (a : Addr) (kv' : List (List Key × V)), v = .ref a ∧ F a = none ∧ H a = some (.dT kv') ∧ kv'.map (·.1) = kvs.map (·.1) ∧ DRs T F (kvs.map (·.2)) (kv'.map (·.2))
  | .fo c fs, v => ∃ (a dx : Addr) (vs : List V), v = .ref a ∧ F a = none ∧ H a = some (.ins (T.ca c) dx ((T.cf c).zip vs)) ∧ F dx = some (.own a) ∧ DRs T F fs vs ∧ vs.length ≤ (T.cf c).length
/-- what slots may own: lists, dicts, instances -/
def isOwn : HO → Bool
  | .lst _ => true
  | .dK _ => true
  | .dT _ => true
  | .ins _ _ _ => true
  | _ => false
/-- nothing (but a table of code objects) stands there -/
def NV (H : Hp) (a : Addr) : Prop := ∀ o, H a = some o → ∃ ps, o = .tbl ps
theorem NV.none {a : Addr} (h : H a = none) : NV H a := fun o e => by rw [h] at e; cases e
theorem NV.no {a : Addr} {o : HO} (h : NV H a) (e : H a = some o) (i : isOwn o = true) : False := by
  obtain ⟨ps, rfl⟩ := h o e
  cases i
theorem RS.own_at {w : W} {v : V} (r : RS T F H w v) (o : w.own = true) : ∃ a, v = .ref a ∧ F a = none ∧ ∃ x, H a = some x ∧ isOwn x = true := by
  cases w with
  | d x => cases o
  | fl xs => obtain ⟨a, vs, e, f, h, _⟩ := r; exact ⟨a, e, f, _, h, rfl⟩
  | fk xs => obtain ⟨a, vs, e, f, h, _⟩ := r; exact ⟨a, e, f, _, h, rfl⟩
  | ft xs => obtain ⟨a, vs, e, f, h, _⟩ := r; exact ⟨a, e, f, _, h, rfl⟩
  | fo c fs => obtain ⟨a, dx, vs, e, f, h, _⟩ := r; exact ⟨a, e, f, _, h, rfl⟩
/-- it stays where its own address stays new and as it was -/
theorem RS.keep {w : W} {v : V} (r : RS T F H w v) (g : ∀ a o, F a = some o → F' a = some o) (f : ∀ a, w.own = true → v = .ref a → F' a = none) (h : ∀ a o, w.own = true → v = .ref a → H a = some o → H' a = some o) : RS T F' H' w v := by
  cases w with
  | d x => exact DR.grow g r
  | fl xs => obtain ⟨a, vs, e, f0, h0, r⟩ := r; exact ⟨a, vs, e, f a rfl e, h a _ rfl e h0, r.grow g⟩
  | fk xs => obtain ⟨a, vs, e, f0, h0, e', r⟩ := r; exact ⟨a, vs, e, f a rfl e, h a _ rfl e h0, e', r.grow g⟩
  | ft xs => obtain ⟨a, vs, e, f0, h0, e', r⟩ := r; exact ⟨a, vs, e, f a rfl e, h a _ rfl e h0, e', r.grow g⟩
  | fo c fs => obtain ⟨a, dx, vs, e, f0, h0, e', r, l⟩ := r; exact ⟨a, dx, vs, e, f a rfl e, h a _ rfl e h0, g _ _ e', r.grow g, l⟩

theorem own_kind {w u : W} (e : w.kind = u.kind) : w.own = u.own := by cases w <;> cases u <;> first | rfl | cases e
/-- the addresses that the slots own -/
def OwnA (c : Sg) (σ : L2.St) (a : Addr) : Prop := ∃ (i : Nat) (w : W), c[i]? = some (some w) ∧ w.own = true ∧ σ[i]? = some (some (.ref a))

/-- tables stay where a list (dict, instance) is written -/
theorem _root_.LamX.Tabs.own {tl : List (Addr × PySem.Str)} {H : Hp} {a : Addr} {o x : HO} (t : LamX.Tabs tl H) (ha : H a = some x) (io : isOwn x = true) : LamX.Tabs tl (upd H a o) := fun p hp => by
  obtain ⟨ps, h1, h2, h3⟩ := t p hp
  have ne : ∀ b u, H b = some u → isOwn u = false → upd H a o b = some u := fun b u h n => by
    rw [upd_ne fun z => by rw [z, ha] at h; cases h; rw [io] at n; cases n]
    exact h
  refine ⟨ps, ne _ _ h1 rfl, h2, fun pos cv hc => ?_⟩
  obtain ⟨c, e1, e2⟩ := h3 pos cv hc
  exact ⟨c, e1, ne _ _ e2 rfl⟩
/-- the tables, and what stands for sure -/
def TB (T : Tb) (H : Hp) : Prop := LamX.Tabs T.tl H ∧ ∀ p ∈ T.ob, isOwn p.2 = false ∧ (∀ ps, p.2 ≠ .tbl ps) ∧ H p.1 = some p.2
theorem TB.ext {T : Tb} {H H' : Hp} (t : TB T H) (e : ∀ b o, H b = some o → H' b = some o) : TB T H' := ⟨t.1.ext e, fun p hp => ⟨(t.2 p hp).1, (t.2 p hp).2.1, e _ _ (t.2 p hp).2.2⟩⟩
theorem TB.own {T : Tb} {H : Hp} {a : Addr} {o x : HO} (t : TB T H) (ha : H a = some x) (io : isOwn x = true) : TB T (upd H a o) := ⟨t.1.own ha io, fun p hp => by
  obtain ⟨h1, h2, h3⟩ := t.2 p hp
  refine ⟨h1, h2, ?_⟩
  rw [upd_ne fun z => by rw [z, ha] at h3; cases h3; rw [io] at h1; cases h1]
  exact h3⟩
theorem TB.extN {T : Tb} {H H' : Hp} (t : TB T H) (e : LamX.ExtN H H') (h : LamX.Tabs T.tl H') : TB T H' := ⟨h, fun p hp => ⟨(t.2 p hp).1, (t.2 p hp).2.1, e _ _ (t.2 p hp).2.2 (t.2 p hp).2.1⟩⟩
structure Sim (T : Tb) (F : Hp) (c : Sg) (σ : L2.St) (H : Hp) : Prop where
  sub : ∀ a o, F a = some o → H a = some o
  len : c.length = σ.length
  at_ : ∀ (i : Nat) (w : W), c[i]? = some (some w) → ∃ v, σ[i]? = some (some v) ∧ RS T F H w v
  inj : ∀ (i j : Nat) (w u : W) (a : Addr), c[i]? = some (some w) → w.own = true → c[j]? = some (some u) → u.own = true → σ[i]? = some (some (.ref a)) → σ[j]? = some (some (.ref a)) → i = j
  ft : ∀ a ps, F a ≠ some (.tbl ps)
  tb : TB T H

/-- what an expression does to the state -/
structure Stp (T : Tb) (σ : L2.St) (F : Hp) (c : Sg) (H : Hp) (F' : Hp) (c' : Sg) (H' : Hp) : Prop where
  gr : ∀ a o, F a = some o → F' a = some o
  sim : Sim T F' c' σ H'
  fr : ∀ a o, H a = some o → (∀ ps, o ≠ .tbl ps) → ¬ OwnA c σ a → H' a = some o
  os : ∀ (i : Nat) (w : W), c'[i]? = some (some w) → w.own = true → ∃ w0 : W, c[i]? = some (some w0) ∧ w0.own = true
  dom : ∀ a, NV H' a → NV H a
  nf : ∀ a o, F' a = some o → F a = some o ∨ NV H a ∨ OwnA c σ a
variable {σ : L2.St} {c c' c2 : Sg} {F2 H2 : Hp}
theorem Stp.refl (s : Sim T F c σ H) : Stp T σ F c H F c H := ⟨fun _ _ h => h, s, fun _ _ h _ _ => h, fun i w h o => ⟨w, h, o⟩, fun _ h => h, fun _ _ h => .inl h⟩
theorem Stp.osA (s : Stp T σ F c H F' c' H') {a : Addr} (h : OwnA c' σ a) : OwnA c σ a := by
  obtain ⟨i, w, h1, h2, h3⟩ := h
  obtain ⟨w0, q1, q2⟩ := s.os i w h1 h2
  exact ⟨i, w0, q1, q2, h3⟩
theorem Stp.trans (s : Stp T σ F c H F' c' H') (t : Stp T σ F' c' H' F2 c2 H2) : Stp T σ F c H F2 c2 H2 where
  gr := fun a o h => t.gr a o (s.gr a o h)
  sim := t.sim
  fr := fun a o h p n => t.fr a o (s.fr a o h p n) p fun q => n (s.osA q)
  os := fun i w h o => by
    obtain ⟨w1, h1, o1⟩ := t.os i w h o
    exact s.os i w1 h1 o1
  dom := fun a h => s.dom a (t.dom a h)
  nf := fun a o h => by
    rcases t.nf a o h with h | h | h
    · exact s.nf a o h
    · exact .inr (.inl (s.dom a h))
    · exact .inr (.inr (s.osA h))

theorem Sim.own_at (s : Sim T F c σ H) {a : Addr} (h : OwnA c σ a) : F a = none ∧ ∃ o, H a = some o ∧ isOwn o = true := by
  obtain ⟨i, w, h1, h2, h3⟩ := h
  obtain ⟨v, q1, q2⟩ := s.at_ i w h1
  rw [h3] at q1
  cases q1
  obtain ⟨b, e, f, o⟩ := q2.own_at h2
  cases e
  exact ⟨f, o⟩
/-- new things at places that were free, tracked as frozen -/
theorem Sim.more (s : Sim T F c σ H) (G : Hp) (hF : ∀ a o, F a = some o → G a = some o) (hH : ∀ a o, H a = some o → H' a = some o) (hG : ∀ a o, G a = some o → H' a = some o) (hn : ∀ a o, G a = some o → F a = none → H a = none) (ht : ∀ a ps, G a ≠ some (.tbl ps)) : Stp T σ F c H G c H' where
  gr := hF
  sim := {
    sub := hG
    len := s.len
    at_ := fun i w h => by
      obtain ⟨v, h1, h2⟩ := s.at_ i w h
      refine ⟨v, h1, h2.keep hF (fun a o e => ?_) fun a o _ e h => hH a o h⟩
      obtain ⟨b, e', f, x, hx, _⟩ := h2.own_at o
      rw [e] at e'
      cases e'
      cases q : G a with
      | none => rfl
      | some y =>
        have := hn a y q f
        rw [hx] at this
        cases this
    inj := s.inj
    ft := ht
    tb := s.tb.ext hH }
  fr := fun a o h _ _ => hH a o h
  os := fun i w h o => ⟨w, h, o⟩
  dom := fun a h o q => h o (hH a o q)
  nf := fun a o h => by
    cases q : F a with
    | some u => left; rw [← hF a u q, h]
    | none => exact .inr (.inl (.none (hn a o h q)))
theorem upd_old {p : Addr} {o : HO} (hp : H p = none) : ∀ a u, H a = some u → upd H p o a = some u := fun a u h => by
  rw [upd_ne (ne_of_none h hp)]; exact h
/-- a new frozen object -/
theorem Sim.newF (s : Sim T F c σ H) {p : Addr} {o : HO} (hp : H p = none) (ht : ∀ ps, o ≠ .tbl ps := by intro _ h; cases h) : Stp T σ F c H (upd F p o) c (upd H p o) := by
  have fp : F p = none := by
    cases q : F p with
    | none => rfl
    | some u => rw [s.sub _ _ q] at hp; cases hp
  refine s.more _ (upd_old fp) (upd_old hp) (fun a u h => ?_) (fun a u h f => ?_) fun a ps h => ?_
  · by_cases e : a = p
    · subst e; rw [upd_same] at h ⊢; exact h
    · rw [upd_ne e] at h ⊢; exact s.sub _ _ h
  · by_cases e : a = p
    · rw [e]; exact hp
    · rw [upd_ne e, f] at h; cases h
  · by_cases e : a = p
    · rw [e, upd_same] at h; exact ht ps (Option.some.inj h)
    · rw [upd_ne e] at h; exact s.ft a ps h
/-- a new object that is not frozen -/
theorem Sim.newH (s : Sim T F c σ H) {p : Addr} {o : HO} (hp : H p = none) : Stp T σ F c H F c (upd H p o) :=
  s.more F (fun _ _ h => h) (upd_old hp) (fun a u h => upd_old hp a u (s.sub a u h)) (fun a u h f => by rw [f] at h; cases h) s.ft
theorem Sim.notF (s : Sim T F c σ H) {p : Addr} (hp : H p = none) : F p = none := by
  cases q : F p with
  | none => rfl
  | some u => rw [s.sub _ _ q] at hp; cases hp

theorem get_set {α : Type} {l : List α} {i j : Nat} {x : α} : (l.set i x)[j]? = if i = j ∧ i < l.length then some x else l[j]? := by
  by_cases h : i = j
  · subst h
    by_cases hl : i < l.length
    · rw [List.getElem?_set_self hl, if_pos ⟨rfl, hl⟩]
    · rw [if_neg (fun z => hl z.2), List.getElem?_eq_none (by simpa using Nat.le_of_not_lt hl), List.getElem?_eq_none (by simpa using Nat.le_of_not_lt hl)]
  · rw [List.getElem?_set_ne h, if_neg (fun z => h z.1)]
theorem lt_of_get {α : Type} {l : List α} {i : Nat} {x : α} (h : l[i]? = some x) : i < l.length := (List.getElem?_eq_some_iff.mp h).1
/-- the thing at a slot is changed -/
theorem Sim.write (S : Sim T F c σ H) {i : Nat} {w w' : W} {a : Addr} {o : HO} (hi : c[i]? = some (some w)) (hw : w.own = true) (hσ : σ[i]? = some (some (.ref a))) (hk : w'.kind = w.kind) (r : RS T F (upd H a o) w' (.ref a)) :
    Stp T σ F c H F (c.set i (some w')) (upd H a o) := by
  have hl := lt_of_get hi
  obtain ⟨fa, oa, ha, io⟩ := S.own_at ⟨i, w, hi, hw, hσ⟩
  have fne : ∀ b u, F b = some u → b ≠ a := fun b u h e => by rw [e, fa] at h; cases h
  refine ⟨fun _ _ h => h, ⟨fun b u h => ?_, by rw [List.length_set]; exact S.len, fun j u h => ?_, fun j k u u' b h1 o1 h2 o2 h3 h4 => ?_, S.ft, S.tb.own ha io⟩, fun b u h _ n => ?_, fun j u h ou => ?_, fun b h => ?_, fun _ _ h => .inl h⟩
  · rw [upd_ne (fne b u h)]; exact S.sub _ _ h
  · rw [get_set] at h
    by_cases e : i = j ∧ i < c.length
    · rw [if_pos e] at h
      cases h
      rw [← e.1]
      exact ⟨_, hσ, r⟩
    · rw [if_neg e] at h
      obtain ⟨v, h1, h2⟩ := S.at_ j u h
      refine ⟨v, h1, h2.keep (fun _ _ q => q) (fun b ob e' => ?_) fun b x ob e' q => ?_⟩
      · obtain ⟨b', e2, f, _⟩ := h2.own_at ob
        rw [e'] at e2; cases e2; exact f
      · have hb : b ≠ a := fun z => by
          subst z
          exact e ⟨S.inj i j w u b hi hw h ob hσ (by rw [h1, e']), hl⟩
        rw [upd_ne hb]; exact q
  · have key : ∀ (n : Nat) (x : W), (c.set i (some w'))[n]? = some (some x) → x.own = true → ∃ y, c[n]? = some (some y) ∧ y.own = true := fun n x h o => by
      rw [get_set] at h
      by_cases e : i = n ∧ i < c.length
      · rw [← e.1]; exact ⟨w, hi, hw⟩
      · rw [if_neg e] at h; exact ⟨x, h, o⟩
    obtain ⟨y1, q1, p1⟩ := key j u h1 o1
    obtain ⟨y2, q2, p2⟩ := key k u' h2 o2
    exact S.inj j k y1 y2 b q1 p1 q2 p2 h3 h4
  · have hb : b ≠ a := fun z => n (by rw [z]; exact ⟨i, w, hi, hw, hσ⟩)
    rw [upd_ne hb]; exact h
  · rw [get_set] at h
    by_cases e : i = j ∧ i < c.length
    · rw [if_pos e] at h
      cases h
      rw [← e.1]
      exact ⟨w, hi, hw⟩
    · rw [if_neg e] at h; exact ⟨u, h, ou⟩
  · by_cases e : b = a
    · rw [e] at h
      obtain ⟨a', e', _, x, hx, ix⟩ := r.own_at (by rw [own_kind hk]; exact hw)
      cases e'
      exact (h.no hx ix).elim
    · intro u q
      exact h u (by rw [upd_ne e]; exact q)
/-- a slot's own thing is frozen -/
theorem Sim.freezeSlot (S : Sim T F c σ H) {i : Nat} {w : W} (hi : c[i]? = some (some w)) (hw : w.own = true) : ∃ F' v, σ[i]? = some (some v) ∧ DR T F' w.toD v ∧ Stp T σ F c H F' (c.set i (some (.d w.toD))) H := by
  obtain ⟨v, h1, h2⟩ := S.at_ i w hi
  obtain ⟨a, e, fa, o, ha, io⟩ := h2.own_at hw
  subst e
  have hl := lt_of_get hi
  have g : ∀ b u, F b = some u → upd F a o b = some u := upd_old fa
  have r : DR T (upd F a o) w.toD (.ref a) := by
    cases w with
    | d x => cases hw
    | fl xs =>
      obtain ⟨b, vs, e, _, hb, q⟩ := h2
      cases e
      rw [ha] at hb; cases hb
      exact .lst upd_same (q.grow g)
    | fk xs =>
      obtain ⟨b, vs, e, _, hb, e', q⟩ := h2
      cases e
      rw [ha] at hb; cases hb
      exact .dk upd_same e' (q.grow g)
    | ft xs =>
      obtain ⟨b, vs, e, _, hb, e', q⟩ := h2
      cases e
      rw [ha] at hb; cases hb
      exact .dt upd_same e' (q.grow g)
    | fo c fs =>
      obtain ⟨b, dx, vs, e, _, hb, e', q, l⟩ := h2
      cases e
      rw [ha] at hb; cases hb
      exact .obj upd_same (g _ _ e') (q.grow g) l
  have key : ∀ (n : Nat) (x : W), (c.set i (some (.d w.toD)))[n]? = some (some x) → x.own = true → c[n]? = some (some x) ∧ n ≠ i := fun n x h o => by
    rw [get_set] at h
    by_cases e : i = n ∧ i < c.length
    · rw [if_pos e] at h; cases h; cases o
    · rw [if_neg e] at h; exact ⟨h, fun z => e ⟨z.symm, hl⟩⟩
  refine ⟨_, _, h1, r, g, ⟨fun b u h => ?_, by rw [List.length_set]; exact S.len, fun j u h => ?_, fun j k u u' b q1 o1 q2 o2 h3 h4 => ?_, fun b ps h => ?_, S.tb⟩, fun _ _ h _ _ => h, fun j u h ou => ⟨u, (key j u h ou).1, ou⟩, fun _ h => h, fun b u h => ?_⟩
  · by_cases e : b = a
    · rw [e, upd_same] at h; cases h; rw [e]; exact ha
    · rw [upd_ne e] at h; exact S.sub _ _ h
  · rw [get_set] at h
    by_cases e : i = j ∧ i < c.length
    · rw [if_pos e] at h
      cases h
      rw [← e.1]
      exact ⟨_, h1, r⟩
    · rw [if_neg e] at h
      obtain ⟨v, p1, p2⟩ := S.at_ j u h
      refine ⟨v, p1, p2.keep g (fun b ob e' => ?_) fun _ _ _ _ q => q⟩
      obtain ⟨b', e2, f, _⟩ := p2.own_at ob
      rw [e'] at e2; cases e2
      have hb : b ≠ a := fun z => by
        subst z
        exact e ⟨S.inj i j w u b hi hw h ob h1 (by rw [p1, e']), hl⟩
      rw [upd_ne hb]; exact f
  · exact S.inj j k u u' b (key j u q1 o1).1 o1 (key k u' q2 o2).1 o2 h3 h4
  · by_cases e : b = a
    · rw [e, upd_same] at h
      cases h
      cases io
    · rw [upd_ne e] at h; exact S.ft b ps h
  · by_cases e : b = a
    · rw [e]; exact .inr (.inr ⟨i, w, hi, hw, h1⟩)
    · rw [upd_ne e] at h; exact .inl h

/-- a result: new lists are new to H -/
def RW (T : Tb) (F' H H' : Hp) (w : W) (v : V) : Prop := RS T F' H' w v ∧ (w.own = true → ∀ a, v = .ref a → NV H a)
end
end Cl

set_option maxHeartbeats 4000000
/-! Cl, part Ba: a tuple taken once (t * 1). -/
namespace Cl
open PySem PySem.Spec PyProof.Rows L2
/-- t * 1: the tuple itself -/
theorem tup_once (l : Addr) (its : Array Value) (n : Nat) (dd : Option Addr) (sl : Array (Option Value)) (u : Tok) :
    Meets (Builtin.«tuple.__mul__» ⟨[.ref l, .int 1 u], []⟩) (fun _ R s => s.heap.get? l = some { cls := .type "tuple", dict := dd, data := .seq its n, slots := sl } ∧ R (.ok (.ret (Value.ref l))) s) :=
  .of_wp fun prog w A R s h => by
    obtain ⟨hp, g, d, tk, os⟩ := s
    obtain ⟨hl, h⟩ := h
    have f1 := AutoSeq1.idx_int
    have c0 : (decide ((1 : Int) < -(2 ^ 63)) || decide ((1 : Int) ≥ 2 ^ 63)) = false := by decide
    have c1 : (its.isEmpty || ((1 : Int) == 1)) = true := by simp
    wp_walk using wpAny_loadPart' hl
    repeat (first
      | (refine wpAny_ite_false (decide_eq_false (by rw [c0]; exact Bool.false_ne_true)) ?_
         wp_walk using wpAny_loadPart' hl)
      | (refine wpAny_ite_true (decide_eq_true (by rw [c1])) ?_
         wp_walk using wpAny_loadPart' hl))
    exact ⟨_, rfl, h⟩
def rRepOne (K : PySem.W.Frag) : R2 := fun x y H Q => ∃ l xs, x = .ref l ∧ y = .int 1 ∧ SqT K H l xs ∧ Q (.ref l) H
theorem op_repOne {X : Cx} : OpR X (binaryOp .Mult) (rRepOne X.K) := by
  intro pins s σ H x y v u Q I rx ry h
  obtain ⟨l, xs, rfl, rfl, hT, q⟩ := h
  cases rx
  obtain ⟨t, rfl⟩ := ry
  obtain ⟨its, r, ⟨⟨cls, dd, data, sl⟩, ho, hc, n, hd⟩, hs⟩ := I.tuple hT
  simp only at hc hd
  subst hc hd
  have h0 := F.slot_int_rmul
  refine wpAny_binaryOp_repeat_ref (T := "tuple") (U := "int") (by decide) ⟨_, ho, rfl⟩ (fun s' => typeIs_int s' 1 t) noFill_tuple_mul F.fills_int_mul h0 repeat_tuple F.slot_int_index.lookup ?_
  refine call_meets h0 (typeIs_int s 1 t) F.entry_int_rmul (F.args_int_rmul_2 _ _) (int_rmul_tuple 1 t l its.toArray n dd sl) ⟨ho, rfl, ⟨_, ho, rfl⟩, ?_⟩
  refine call_meets F.slot_tuple_mul ⟨_, ho, rfl⟩ F.entry_tuple_mul (F.args_tuple_mul_2 _ _) (tup_once l its.toArray n dd sl t) ⟨ho, ?_⟩
  exact ⟨.ref l, H, I, rfl, q⟩
end Cl

/-! Cl, part C: readings of clean programs; operations by values. -/
namespace Cl
open PySem L2
section
variable {T : Tb} {F F' H H' : Hp} {c c' : Sg} {σ : L2.St}

/-- an error object: class, fields -/
def XR (T : Tb) (F H : Hp) (k : Nat) (ds : List D) (cls : Value) (d : Option Addr) : Prop :=
  cls = .ref (T.xa k) ∧ ((ds = [] ∧ d = none) ∨ ∃ dd vs, d = some dd ∧ H dd = some (.xd ((T.xf k).zip vs)) ∧ DRs T F ds vs ∧ vs.length = (T.xf k).length)

def PostP (T : Tb) (Wx : WX) (σ : L2.St) {α : Type} (F : Hp) (c : Sg) (H : Hp) (r : R Sg α) (K : α → Hp → Sg → Hp → Prop) : Prop :=
  match r with
  | .ok a c' => ∀ F' H', Stp T σ F c H F' c' H' → K a F' c' H'
  | .exc k ds c' => ∀ F' cls d H', Stp T σ F c H F' c' H' → XR T F' H' k ds cls d → Wx cls d σ H'
  | .bad => False
variable {Wx : WX} {α β : Type}
theorem PostP.later {r : R Sg α} {K : α → Hp → Sg → Hp → Prop} (h : PostP T Wx σ F c H r K) (s : Stp T σ F c H F' c' H') : PostP T Wx σ F' c' H' r K := by
  cases r with
  | ok a c2 => exact fun F2 H2 t => h F2 H2 (s.trans t)
  | exc k ds c2 => exact fun F2 cls d H2 t => h F2 cls d H2 (s.trans t)
  | bad => exact h
theorem PostP.bind {r : R Sg α} {f : α → Sg → R Sg β} {K : β → Hp → Sg → Hp → Prop} (h : PostP T Wx σ F c H (r.bind f) K) :
    PostP T Wx σ F c H r fun a F1 c1 H1 => PostP T Wx σ F1 c1 H1 (f a c1) K := by
  cases r with
  | ok a c1 => exact fun F1 H1 s => h.later s
  | exc k ds c2 => exact h
  | bad => exact h
theorem PostP.bind' {r : R Sg α} {f : α → Sg → R Sg β} {K : β → Hp → Sg → Hp → Prop} {a : α} {c1 : Sg} {F2 H2 : Hp} (h : PostP T Wx σ F c H (r.bind f) K) (e : r = .ok a c1) (s : Stp T σ F c H F2 c1 H2) : PostP T Wx σ F2 c1 H2 (f a c1) K := by
  subst e
  exact PostP.later (r := f a c1) h s
theorem PostP.mono {r : R Sg α} {K K' : α → Hp → Sg → Hp → Prop} (h : PostP T Wx σ F c H r K) (m : ∀ a F' c' H', r = .ok a c' → Stp T σ F c H F' c' H' → K a F' c' H' → K' a F' c' H') : PostP T Wx σ F c H r K' := by
  cases r with
  | ok a c1 => exact fun F1 H1 s => m a F1 c1 H1 rfl s (h F1 H1 s)
  | exc k ds c2 => exact h
  | bad => exact h
theorem PostP.ofO {o : Option α} {K : α → Hp → Sg → Hp → Prop} (h : PostP T Wx σ F c H (ofO o c) K) : ∃ a, o = some a ∧ ∀ F' H', Stp T σ F c H F' c H' → K a F' c H' := by
  cases o with
  | none => exact h.elim
  | some a => exact ⟨a, rfl, h⟩

/-! ### readings -/
def tE (T : Tb) (Wx : WX) (f : Sg → R Sg W) : TE := fun σ H Q => ∃ F c, Sim T F c σ H ∧ PostP T Wx σ F c H (f c) fun w F' _ H' => ∀ v, RW T F' H H' w v → Q v H'
def RO (T : Tb) (F : Hp) (σ : L2.St) : Opd → V → Prop
  | .val d, v => DR T F d v
  | .ref i, v => σ[i]? = some (some v)
def tO (T : Tb) (Wx : WX) (f : Sg → R Sg Opd) : TE := fun σ H Q => ∃ F c, Sim T F c σ H ∧ PostP T Wx σ F c H (f c) fun x F' _ H' => ∀ v, RO T F' σ x v → Q v H'
def tT (T : Tb) (Wx : WX) (f : Sg → R Sg Bool) : TT := fun σ H Q => ∃ F c, Sim T F c σ H ∧ PostP T Wx σ F c H (f c) fun b _ _ H' => Q b H'
theorem RO.grow (g : ∀ a o, F a = some o → F' a = some o) {x : Opd} {v : V} (r : RO T F σ x v) : RO T F' σ x v := by
  cases x with
  | val d => exact DR.grow g r
  | ref i => exact r
inductive ROs (T : Tb) (F : Hp) (σ : L2.St) : List Opd → List V → Prop
  | nil : ROs T F σ [] []
  | cons {x : Opd} {v : V} {xs : List Opd} {vs : List V} : RO T F σ x v → ROs T F σ xs vs → ROs T F σ (x :: xs) (v :: vs)
theorem ROs.grow (g : ∀ a o, F a = some o → F' a = some o) : ∀ {xs : List Opd} {vs : List V}, ROs T F σ xs vs → ROs T F' σ xs vs
  | _, _, .nil => .nil
  | _, _, .cons r t => .cons (r.grow g) (ROs.grow g t)
def tOs (T : Tb) (Wx : WX) (f : Sg → R Sg (List Opd)) : TA := fun σ H Q => ∃ F c, Sim T F c σ H ∧ PostP T Wx σ F c H (f c) fun xs F' _ H' => ∀ vs, ROs T F' σ xs vs → Q vs H'
def tDs (T : Tb) (Wx : WX) (f : Sg → R Sg (List D)) : TA := fun σ H Q => ∃ F c, Sim T F c σ H ∧ PostP T Wx σ F c H (f c) fun xs F' _ H' => ∀ vs, DRs T F' xs vs → Q vs H'

theorem _root_.L2.PE.impC {X : Cx} {e : Expr} {t t' : TE} (h : PE X e t) (i : ∀ σ H Q, t' σ H Q → t σ H Q) : PE X e t' := ⟨fun pins s σ H Q I q => h.run pins s σ H Q I (i σ H Q q)⟩
theorem _root_.L2.PT.impC {X : Cx} {e : Expr} {t t' : TT} (h : PT X e t) (i : ∀ σ H Q, t' σ H Q → t σ H Q) : PT X e t' := ⟨fun pins s σ H Q I q => h.run pins s σ H Q I (i σ H Q q)⟩
theorem _root_.L2.PW.impC {X : Cx} {e : Expr} {t t' : TT} (h : PW X e t) (i : ∀ σ H Q, t' σ H Q → t σ H Q) : PW X e t' := ⟨fun whole pins s σ H Q I q => h.run whole pins s σ H Q I (i σ H Q q)⟩
theorem _root_.L2.PA.impC {X : Cx} {e : List Expr} {t t' : TA} (h : PA X e t) (i : ∀ σ H Q, t' σ H Q → t σ H Q) : PA X e t' := ⟨fun pos pins s σ H Q I q => h.run pos pins s σ H Q I (i σ H Q q)⟩
theorem _root_.L2.PS.impC {X : Cx} {e : Stmt} {t t' : TS} (h : PS X e t) (i : ∀ D σ H, t' D σ H → t D σ H) : PS X e t' := ⟨fun pins s σ H D I q => h.run pins s σ H D I (i D σ H q)⟩
theorem _root_.L2.PSs.impC {X : Cx} {e : List Stmt} {t t' : TS} (h : PSs X e t) (i : ∀ D σ H, t' D σ H → t D σ H) : PSs X e t' := ⟨fun pins s σ H D I q => h.run pins s σ H D I (i D σ H q)⟩
theorem _root_.L2.PI.impC {X : Cx} {tg e : Expr} {t t' : TI} (h : PI X tg e t) (i : ∀ σ H Q, t' σ H Q → t σ H Q) : PI X tg e t' := ⟨fun pins s σ H Q I q => h.run pins s σ H Q I (i σ H Q q)⟩

/-! ### freezing -/
theorem Sim.freezeAt (s : Sim T F c σ H) {a : Addr} {o : HO} (fa : F a = none) (ha : H a = some o) (ht : ∀ ps, o ≠ .tbl ps) (no : ¬ OwnA c σ a) : Sim T (upd F a o) c σ H where
  sub := fun b u h => by
    by_cases e : b = a
    · subst e; rw [upd_same] at h; cases h; exact ha
    · rw [upd_ne e] at h; exact s.sub _ _ h
  len := s.len
  at_ := fun i w h => by
    obtain ⟨v, h1, h2⟩ := s.at_ i w h
    refine ⟨v, h1, h2.keep (upd_old fa) (fun b ow e => ?_) fun _ _ _ _ q => q⟩
    obtain ⟨b', e', f, _⟩ := h2.own_at ow
    rw [e] at e'; cases e'
    have hb : b ≠ a := fun q => by
      subst q
      exact no ⟨i, w, h, ow, by rw [h1, e]⟩
    rw [upd_ne hb]; exact f
  inj := s.inj
  ft := fun b ps h => by
    by_cases e : b = a
    · subst e; rw [upd_same] at h; exact ht ps (Option.some.inj h)
    · rw [upd_ne e] at h; exact s.ft b ps h
  tb := s.tb
theorem Stp.freeze (S : Sim T F c σ H) {w : W} {v : V} (s : Stp T σ F c H F' c' H') (r : RW T F' H H' w v) : ∃ F2, Stp T σ F c H F2 c' H' ∧ DR T F2 w.toD v ∧ ∀ a o, F' a = some o → F2 a = some o := by
  have key : ∀ (a : Addr) (o : HO), F' a = none → H' a = some o → (∀ ps, o ≠ .tbl ps) → NV H a → Stp T σ F c H (upd F' a o) c' H' := fun a o fa ha ht hn => by
    have nown : ¬ OwnA c' σ a := fun q => by
      obtain ⟨_, o', h, i⟩ := S.own_at (s.osA q)
      exact hn.no h i
    exact ⟨fun b u h => upd_old fa b u (s.gr b u h), s.sim.freezeAt fa ha ht nown, s.fr, s.os, s.dom, fun b u h => by
      by_cases e : b = a
      · rw [e]; exact .inr (.inl hn)
      · rw [upd_ne e] at h; exact s.nf b u h⟩
  obtain ⟨r, hn⟩ := r
  cases w with
  | d x => exact ⟨F', s, r, fun _ _ h => h⟩
  | fl xs =>
    obtain ⟨a, vs, e, f, h, q⟩ := r
    subst e
    exact ⟨_, key a _ f h (by intro _ z; cases z) (hn rfl a rfl), .lst upd_same (q.grow (upd_old f)), upd_old f⟩
  | fk xs =>
    obtain ⟨a, vs, e, f, h, e', q⟩ := r
    subst e
    exact ⟨_, key a _ f h (by intro _ z; cases z) (hn rfl a rfl), .dk upd_same e' (q.grow (upd_old f)), upd_old f⟩
  | ft xs =>
    obtain ⟨a, vs, e, f, h, e', q⟩ := r
    subst e
    exact ⟨_, key a _ f h (by intro _ z; cases z) (hn rfl a rfl), .dt upd_same e' (q.grow (upd_old f)), upd_old f⟩
  | fo c fs =>
    obtain ⟨a, dx, vs, e, f, h, e', q, l⟩ := r
    subst e
    exact ⟨_, key a _ f h (by intro _ z; cases z) (hn rfl a rfl), .obj upd_same (upd_old f _ _ e') (q.grow (upd_old f)) l, upd_old f⟩

/-! ### a value as it stands now -/
def DT (T : Tb) (F H : Hp) (d : D) (v : V) : Prop := DR T F d v ∨ ∃ w, w.own = true ∧ w.toD = d ∧ RS T F H w v
theorem rd_ok (S : Sim T F c σ H) {x : Opd} {v : V} {d : D} (r : RO T F σ x v) (e : rd c x = some d) : DT T F H d v := by
  cases x with
  | val y => cases e; exact .inl r
  | ref i =>
    simp only [rd] at e
    split at e
    · rename_i w hw
      cases e
      obtain ⟨u, h1, h2⟩ := S.at_ i w hw
      rw [(show σ[i]? = some (some v) from r)] at h1
      cases h1
      cases hw' : w.own with
      | false => cases w with
        | d x => exact .inl h2
        | fl _ => cases hw'
        | fk _ => cases hw'
        | ft _ => cases hw'
        | fo _ _ => cases hw'
      | true => exact .inr ⟨w, hw', rfl, h2⟩
    · cases e
section
variable {v : V}
theorem DT.non (h : DT T F H .non v) : v = .non := by
  rcases h with h | ⟨w, o, e, h⟩
  · cases h; rfl
  · cases w <;> first | (cases o; done) | (cases e; done)
theorem DT.bl {b : Bool} (h : DT T F H (.bl b) v) : v = .bl b := by
  rcases h with h | ⟨w, o, e, h⟩
  · cases h; rfl
  · cases w <;> first | (cases o; done) | (cases e; done)
theorem DT.int {b : Int} (h : DT T F H (.int b) v) : v = .int b := by
  rcases h with h | ⟨w, o, e, h⟩
  · cases h; rfl
  · cases w <;> first | (cases o; done) | (cases e; done)
theorem DT.str {b : Str} (h : DT T F H (.str b) v) : v = .str b := by
  rcases h with h | ⟨w, o, e, h⟩
  · cases h; rfl
  · cases w <;> first | (cases o; done) | (cases e; done)
theorem DT.tup {ds : List D} (h : DT T F H (.tup ds) v) : ∃ a vs, v = .ref a ∧ F a = some (.tup vs) ∧ DRs T F ds vs := by
  rcases h with h | ⟨w, o, e, h⟩
  · cases h with | tup h1 h2 => exact ⟨_, _, rfl, h1, h2⟩
  · cases w <;> first | (cases o; done) | (cases e; done)
theorem DT.lst (sub : ∀ a o, F a = some o → H a = some o) {ds : List D} (h : DT T F H (.lst ds) v) : ∃ a vs, v = .ref a ∧ H a = some (.lst vs) ∧ DRs T F ds vs := by
  rcases h with h | ⟨w, o, e, h⟩
  · cases h with | lst h1 h2 => exact ⟨_, _, rfl, sub _ _ h1, h2⟩
  · cases w with
    | fl xs => cases e; obtain ⟨a, vs, e, _, h, r⟩ := h; exact ⟨a, vs, e, h, r⟩
    | _ => first | (cases o; done) | (cases e; done)
theorem DT.dk (sub : ∀ a o, F a = some o → H a = some o) {kvs : List (Key × D)} (h : DT T F H (.dk kvs) v) : ∃ (a : Addr) (kv' : List (Key × V)), v = .ref a ∧ H a = some (.dK kv') ∧ kv'.map (·.1) = kvs.map (·.1) ∧ DRs T F (kvs.map (·.2)) (kv'.map (·.2)) := by
  rcases h with h | ⟨w, o, e, h⟩
  · cases h with | dk h1 h2 h3 => exact ⟨_, _, rfl, sub _ _ h1, h2, h3⟩
  · cases w with
    | fk xs => cases e; obtain ⟨a, vs, e, _, h, r⟩ := h; exact ⟨a, vs, e, h, r⟩
    | _ => first | (cases o; done) | (cases e; done)
theorem DT.dt (sub : ∀ a o, F a = some o → H a = some o) {kvs : List (List Key × D)} (h : DT T F H (.dt kvs) v) : ∃ (a : Addr) (kv' : List (List Key × V)), v = .ref a ∧ H a = some (.dT kv') ∧ kv'.map (·.1) = kvs.map (·.1) ∧ DRs T F (kvs.map (·.2)) (kv'.map (·.2)) := by
  rcases h with h | ⟨w, o, e, h⟩
  · cases h with | dt h1 h2 h3 => exact ⟨_, _, rfl, sub _ _ h1, h2, h3⟩
  · cases w with
    | ft xs => cases e; obtain ⟨a, vs, e, _, h, r⟩ := h; exact ⟨a, vs, e, h, r⟩
    | _ => first | (cases o; done) | (cases e; done)
theorem DT.scr (sub : ∀ a o, F a = some o → H a = some o) {ns : List Int} (h : DT T F H (.scr ns) v) : ∃ a, v = .ref a ∧ SqL T.K H a (ns.map V.int) := by
  rcases h with h | ⟨w, o, e, h⟩
  · cases h with | scr h1 => exact ⟨_, rfl, SqL.grow sub h1⟩
  · cases w <;> first | (cases o; done) | (cases e; done)
theorem DT.obj (sub : ∀ a o, F a = some o → H a = some o) {k : Nat} {fs : List D} (h : DT T F H (.obj k fs) v) : ∃ a dx vs, v = .ref a ∧ H a = some (.ins (T.ca k) dx ((T.cf k).zip vs)) ∧ DRs T F fs vs ∧ vs.length ≤ (T.cf k).length := by
  rcases h with h | ⟨w, o, e, h⟩
  · cases h with | obj h1 h2 h3 h4 => exact ⟨_, _, _, rfl, sub _ _ h1, h3, h4⟩
  · cases w with
    | fo c fs => cases e; obtain ⟨a, dx, vs, e, _, h, _, r, l⟩ := h; exact ⟨a, dx, vs, e, h, r, l⟩
    | _ => first | (cases o; done) | (cases e; done)
end

/-! ### new things -/
section
variable {Q : VK} {p : Addr}
/-- what follows an operation -/
def Kont (T : Tb) (σ : L2.St) (F : Hp) (c : Sg) (H : Hp) (Q : VK) (w : W) : Prop := ∀ F' v H', Stp T σ F c H F' c H' → RW T F' H H' w v → Q v H'
theorem Kont.same {d : D} {v : V} (k : Kont T σ F c H Q (.d d)) (S : Sim T F c σ H) (r : DR T F d v) : Q v H := k F v H (.refl S) ⟨r, fun z => nomatch z⟩
theorem Kont.tup {ds : List D} {vs : List V} (k : Kont T σ F c H Q (.d (.tup ds))) (S : Sim T F c σ H) (r : DRs T F ds vs) (hp : H p = none) : Q (.ref p) (upd H p (.tup vs)) :=
  k _ _ _ (S.newF hp) ⟨.tup upd_same (r.grow (upd_old (S.notF hp))), fun z => nomatch z⟩
theorem Kont.lst {ds : List D} {vs : List V} (k : Kont T σ F c H Q (.fl ds)) (S : Sim T F c σ H) (r : DRs T F ds vs) (hp : H p = none) : Q (.ref p) (upd H p (.lst vs)) :=
  k _ _ _ (S.newH hp) ⟨⟨p, vs, rfl, S.notF hp, upd_same, r⟩, fun _ a e => by cases e; exact .none hp⟩
theorem Kont.dict {kvs : List (Key × D)} {kv' : List (Key × V)} (k : Kont T σ F c H Q (.fk kvs)) (S : Sim T F c σ H) (e : kv'.map (·.1) = kvs.map (·.1)) (r : DRs T F (kvs.map (·.2)) (kv'.map (·.2))) (hp : H p = none) : Q (.ref p) (upd H p (.dK kv')) :=
  k _ _ _ (S.newH hp) ⟨⟨p, kv', rfl, S.notF hp, upd_same, e, r⟩, fun _ a e => by cases e; exact .none hp⟩
end

/-! ### arithmetic, joining -/
def bopO : Bop → Operator
  | .add => .Add | .sub => .Sub | .mul => .Mult | .fdiv => .FloorDiv | .mod => .Mod | .pow => .Pow
def rBin (K : PySem.W.Frag) : Bop → R2
  | .add => fun x y H Q => (rI0 (fun i j => .int (i + j)) x y H Q ∨ (fun x y H Q => ∃ i j, x = .str i ∧ y = .str j ∧ i.length + j.length ≤ sizeLine ∧ Q (.str (i ++ j)) H) x y H Q) ∨ (rCatA K x y H Q ∨ rCat x y H Q)
  | .sub => rI0 fun i j => .int (i - j)
  | .mul => fun x y H Q => rI CMul (fun i j => .int (i * j)) x y H Q ∨ (rRep x y H Q ∨ (rRepT K x y H Q ∨ rRepOne K x y H Q))
  | .fdiv => rI CDiv fun i j => .int (i / j)
  | .mod => rI (fun _ j => 0 < j) fun i j => .int (i % j)
  | .pow => rI CPow fun i j => .int (i ^ j.toNat)
theorem op_bin {X : Cx} : ∀ o : Bop, OpR X (binaryOp (bopO o)) (rBin X.K o)
  | .add => (op_add.or op_add_str).or (op_catA.or op_cat)
  | .sub => op_sub
  | .mul => op_mul.or (op_rep.or (op_repT.or op_repOne))
  | .fdiv => op_fdiv
  | .mod => op_mod
  | .pow => op_pow
theorem bin_ok {Q : VK} (S : Sim T F c σ H) {o : Bop} {x y : D} {v u : V} {w : W} (hx : DT T F H x v) (hy : DT T F H y u) (e : binop o x y = some w) (k : Kont T σ F c H Q w) : rBin T.K o v u H Q := by
  unfold binop at e
  split at e
  · cases e; cases hx.int; cases hy.int
    exact .inl (.inl ⟨_, _, rfl, rfl, k.same S (.int _)⟩)
  · cases hx.str; cases hy.str
    split at e
    · cases e
      exact .inl (.inr ⟨_, _, rfl, rfl, ‹_›, k.same S (.str _)⟩)
    · cases e
  · obtain ⟨a, vs, rfl, h1, r1⟩ := hx.tup
    obtain ⟨b, us, rfl, h2, r2⟩ := hy.tup
    split at e
    · cases e
      rename_i hl
      refine .inr (.inl ⟨a, b, vs, us, rfl, rfl, .of (S.sub _ _ h1), .of (S.sub _ _ h2), by rw [← r1.length, ← r2.length]; exact hl, fun z => ?_, fun _ z => ?_, fun _ _ p hp => k.tup S (r1.append r2) hp⟩)
      · subst z; cases r1; exact k.same S (.tup h2 r2)
      · subst z; cases r2; rw [List.append_nil] at k; exact k.same S (.tup h1 r1)
    · cases e
  · obtain ⟨a, vs, rfl, h1, r1⟩ := hx.lst S.sub
    obtain ⟨b, us, rfl, h2, r2⟩ := hy.lst S.sub
    split at e
    · cases e
      rename_i hl
      exact .inr (.inr ⟨a, b, vs, us, rfl, rfl, h1, h2, by rw [← r1.length, ← r2.length]; exact hl, fun p hp => k.lst S (r1.append r2) hp⟩)
    · cases e
  · cases e; cases hx.int; cases hy.int
    exact ⟨_, _, rfl, rfl, k.same S (.int _)⟩
  · cases hx.int; cases hy.int
    split at e
    · cases e
      exact .inl ⟨_, _, rfl, rfl, ‹_›, k.same S (.int _)⟩
    · cases e
  · obtain ⟨a, vs, rfl, h1, r1⟩ := hx.lst S.sub
    cases hy.int
    split at e
    · cases e
      rename_i hl
      exact .inr (.inl ⟨a, _, vs, rfl, rfl, h1, hl.1, hl.2.1, by rw [← r1.length]; exact hl.2.2, fun p hp => k.lst S (r1.rep _) hp⟩)
    · cases e
  · obtain ⟨a, vs, rfl, h1, r1⟩ := hx.tup
    cases hy.int
    split at e
    · cases e
      rename_i hl
      rename_i ds k0
      by_cases h2 : (2 : Int) ≤ k0
      · exact .inr (.inr (.inl ⟨a, _, vs, rfl, rfl, .of (S.sub _ _ h1), fun z => by subst z; cases r1; exact hl.1 rfl, h2, hl.2.2.1, by rw [← r1.length]; exact hl.2.2.2, fun p hp => k.tup S (r1.rep _) hp⟩))
      · have e1 : k0 = 1 := by omega
        subst e1
        refine .inr (.inr (.inr ⟨a, vs, rfl, rfl, .of (S.sub _ _ h1), k.same S ?_⟩))
        have e2 : (List.replicate (1 : Int).toNat ds).flatten = ds := by simp
        rw [e2]
        exact .tup h1 r1
    · cases e
  · cases hx.int; cases hy.int
    split at e
    · cases e
      exact ⟨_, _, rfl, rfl, ‹_›, k.same S (.int _)⟩
    · cases e
  · cases hx.int; cases hy.int
    split at e
    · cases e
      exact ⟨_, _, rfl, rfl, ‹_›, k.same S (.int _)⟩
    · cases e
  · cases hx.int; cases hy.int
    split at e
    · cases e
      exact ⟨_, _, rfl, rfl, ‹_›, k.same S (.int _)⟩
    · cases e
  · cases e
end
end Cl

/-! Cl, part D: comparisons, truth, isinstance, built-ins, subscripts by values. -/
namespace Cl
open PySem L2
section
variable {T : Tb} {F F' H H' : Hp} {c c' : Sg} {σ : L2.St} {Wx : WX}

/-! ### == -/
mutual
theorem DR.dp (sub : ∀ a o, F a = some o → H a = some o) : ∀ {n : Nat} {d : D} {v : V}, DR T F d v → D.okN n d = true → Dp T.K H v d.py
  | n, .non, _, h, _ => by cases h; exact .non
  | n, .bl b, _, h, _ => by cases h; exact .bl b
  | n, .int i, _, h, _ => by cases h; exact .int i
  | n, .str x, _, h, _ => by cases h; exact .str x
  | 0, .tup ds, _, _, o => by simp [D.okN] at o
  | n + 1, .tup ds, _, h, o => by
    cases h with
    | tup h1 h2 => exact .tup (.of (sub _ _ h1)) (DRs.dp sub (n := n) h2 (by simpa [D.okN] using o))
  | 0, .lst ds, _, _, o => by simp [D.okN] at o
  | n + 1, .lst ds, _, h, o => by
    cases h with
    | lst h1 h2 => exact .lst (.of (sub _ _ h1)) (DRs.dp sub (n := n) h2 (by simpa [D.okN] using o))
  | n, .dk _, _, _, o => by simp [D.okN] at o
  | n, .dt _, _, _, o => by simp [D.okN] at o
  | n, .obj _ _, _, _, o => by simp [D.okN] at o
  | n, .fn _, _, _, o => by simp [D.okN] at o
  | n, .scr _, _, _, o => by simp [D.okN] at o
theorem DRs.dp (sub : ∀ a o, F a = some o → H a = some o) : ∀ {n : Nat} {ds : List D} {vs : List V}, DRs T F ds vs → D.okNs n ds = true → DpAll T.K H vs (D.pys ds)
  | _, [], _, h, _ => by cases h; exact .nil
  | n, d :: ds, _, h, o => by
    cases h with
    | cons r t =>
      have o' : D.okN n d = true ∧ D.okNs n ds = true := by simpa [D.okNs] using o
      exact .cons (DR.dp sub r o'.1) (DRs.dp sub t o'.2)
end
mutual
theorem okN_shape : ∀ (n : Nat) (d : D), D.okN n d = true → d.py.canLay0 = true ∧ d.py.depth ≤ n
  | n, .non, _ => ⟨rfl, Nat.zero_le _⟩
  | n, .bl b, _ => ⟨rfl, Nat.zero_le _⟩
  | n, .int i, _ => ⟨rfl, Nat.zero_le _⟩
  | n, .str x, o => ⟨by simpa [D.py, PyData.canLay0, D.okN] using o, Nat.zero_le _⟩
  | 0, .tup ds, o => by simp [D.okN] at o
  | n + 1, .tup ds, o => by
    have q := okNs_shape n ds (by simpa [D.okN] using o)
    exact ⟨by simpa [D.py, PyData.canLay0] using q.1, by simp only [D.py, PyData.depth]; omega⟩
  | 0, .lst ds, o => by simp [D.okN] at o
  | n + 1, .lst ds, o => by
    have q := okNs_shape n ds (by simpa [D.okN] using o)
    exact ⟨by simpa [D.py, PyData.canLay0] using q.1, by simp only [D.py, PyData.depth]; omega⟩
  | n, .dk _, o => by simp [D.okN] at o
  | n, .dt _, o => by simp [D.okN] at o
  | n, .obj _ _, o => by simp [D.okN] at o
  | n, .fn _, o => by simp [D.okN] at o
  | n, .scr _, o => by simp [D.okN] at o
theorem okNs_shape : ∀ (n : Nat) (ds : List D), D.okNs n ds = true → PyData.canLayAll0 (D.pys ds) = true ∧ PyData.depthAll (D.pys ds) ≤ n
  | n, [], _ => ⟨rfl, Nat.zero_le _⟩
  | n, d :: ds, o => by
    have o' : D.okN n d = true ∧ D.okNs n ds = true := by simpa [D.okNs] using o
    have q1 := okN_shape n d o'.1
    have q2 := okNs_shape n ds o'.2
    exact ⟨by simp [D.pys, PyData.canLayAll0, q1.1, q2.1], by simp only [D.pys, PyData.depthAll]; omega⟩
end
theorem ok_shaped {d : D} (o : d.ok = true) : SeqAt.shaped d.py = true := by
  have q := okN_shape 60 d o
  unfold SeqAt.shaped
  rw [q.1, Bool.true_and]
  exact decide_eq_true (by omega)
mutual
theorem eqb_py : ∀ (n m : Nat) (x y : D), D.okN n x = true → D.okN m y = true → PyData.eqv x.py y.py = D.eqb x y
  | n, m, .non, y, _, o => by cases y <;> first | rfl | (simp [D.okN] at o; done)
  | n, m, .bl a, y, _, o => by cases y <;> first | rfl | (simp [D.okN] at o; done)
  | n, m, .int a, y, _, o => by
    cases y <;> first | rfl | (simp [D.okN] at o; done)
  | n, m, .str a, y, _, o => by
    cases y <;> first | rfl | (simp [D.okN] at o; done) | (simp only [D.py, PyData.eqv, D.eqb]; rename_i b; by_cases h : a = b <;> simp [h])
  | n, m, .tup xs, y, o', o => by
    cases y <;> first | rfl | (simp [D.okN] at o; done) | skip
    cases n <;> cases m <;> first | (simp [D.okN] at o; done) | (simp [D.okN] at o'; done) | skip
    rename_i ys n m
    simp only [D.py, PyData.eqv, D.eqb]
    exact eqbs_py n m xs ys (by simpa [D.okN] using o') (by simpa [D.okN] using o)
  | n, m, .lst xs, y, o', o => by
    cases y <;> first | rfl | (simp [D.okN] at o; done) | skip
    cases n <;> cases m <;> first | (simp [D.okN] at o; done) | (simp [D.okN] at o'; done) | skip
    rename_i ys n m
    simp only [D.py, PyData.eqv, D.eqb]
    exact eqbs_py n m xs ys (by simpa [D.okN] using o') (by simpa [D.okN] using o)
  | n, _, .dk _, _, o, _ => by simp [D.okN] at o
  | n, _, .dt _, _, o, _ => by simp [D.okN] at o
  | n, _, .obj _ _, _, o, _ => by simp [D.okN] at o
  | n, _, .fn _, _, o, _ => by simp [D.okN] at o
  | n, _, .scr _, _, o, _ => by simp [D.okN] at o
theorem eqbs_py : ∀ (n m : Nat) (xs ys : List D), D.okNs n xs = true → D.okNs m ys = true → PyData.eqvAll (D.pys xs) (D.pys ys) = D.eqbs xs ys
  | _, _, [], [], _, _ => rfl
  | _, _, [], _ :: _, _, _ => rfl
  | _, _, _ :: _, [], _, _ => rfl
  | n, m, x :: xs, y :: ys, o, o' => by
    have q : D.okN n x = true ∧ D.okNs n xs = true := by simpa [D.okNs] using o
    have q' : D.okN m y = true ∧ D.okNs m ys = true := by simpa [D.okNs] using o'
    simp only [D.pys, PyData.eqvAll, D.eqbs]
    rw [eqb_py n m x y q.1 q'.1, eqbs_py n m xs ys q.2 q'.2]
end
theorem DT.dp (S : Sim T F c σ H) {d : D} {v : V} (h : DT T F H d v) (o : d.ok = true) : Dp T.K H v d.py := by
  rcases h with h | ⟨w, ow, e, h⟩
  · exact DR.dp S.sub h o
  · cases w with
    | fl xs =>
      cases e
      obtain ⟨a, vs, rfl, _, h, r⟩ := h
      exact .lst (.of h) (DRs.dp S.sub (n := 59) r (by simpa [D.ok, D.okN] using o))
    | fk _ => cases e; simp [D.ok, D.okN] at o
    | ft _ => cases e; simp [D.ok, D.okN] at o
    | fo _ _ => cases e; simp [D.ok, D.okN] at o
    | d _ => cases ow

/-! ### in -/
theorem DR.flat {d : D} {v : V} (h : DR T F d v) (f : flatD d = true) : flatV v = true := by
  cases h <;> first | rfl | cases f
theorem DRs.flat : ∀ {ds : List D} {vs : List V}, DRs T F ds vs → ds.all flatD = true → vs.all flatV = true
  | _, _, .nil, _ => rfl
  | _, _, .cons r t, f => by
    rw [List.all_cons, Bool.and_eq_true] at f ⊢
    exact ⟨r.flat f.1, DRs.flat t f.2⟩
theorem flat_eq {x y : D} {v u : V} (hx : DR T F x v) (hy : DR T F y u) (fx : flatD x = true) (fy : flatD y = true) : eqV v u = D.eqb x y := by
  cases hx <;> cases hy <;> first
    | rfl
    | (cases fx; done)
    | (cases fy; done)
    | (simp only [eqV, D.eqb]; rename_i a b; by_cases h : a = b <;> simp [h])
theorem flat_any {x : D} {v : V} (hx : DR T F x v) (fx : flatD x = true) : ∀ {ds : List D} {vs : List V}, DRs T F ds vs → ds.all flatD = true → inV v vs = ds.any fun z => D.eqb z x
  | _, _, .nil, _ => rfl
  | d :: ds, _, .cons r t, f => by
    rw [List.all_cons, Bool.and_eq_true] at f
    have q := flat_any hx fx t f.2
    unfold inV at q ⊢
    rw [List.any_cons, List.any_cons, q, flat_eq r hx f.1 fx]
theorem DT.flat {d : D} {v : V} (h : DT T F H d v) (f : flatD d = true) : DR T F d v := by
  rcases h with h | ⟨w, o, e, h⟩
  · exact h
  · cases w <;> first | (cases o; done) | (cases e; cases f)
theorem any_py (n m : Nat) {x : D} (ox : D.okN n x = true) : ∀ (ys : List D), D.okNs m ys = true → ((D.pys ys).any fun z => PyData.eqv z x.py) = ys.any fun z => D.eqb z x
  | [], _ => rfl
  | y :: ys, o => by
    have q : D.okN m y = true ∧ D.okNs m ys = true := by simpa [D.okNs] using o
    rw [D.pys, List.any_cons, List.any_cons, any_py n m ox ys q.2, eqb_py m n y x q.1 ox]

theorem map_find {κ : Type} [DecidableEq κ] (k : κ) : ∀ {kvs : List (κ × D)} {kv' : List (κ × V)}, kv'.map (·.1) = kvs.map (·.1) → DRs T F (kvs.map (·.2)) (kv'.map (·.2)) →
    (valV kv' k).isSome = (dget kvs k).isSome ∧ ∀ d, dget kvs k = some d → ∃ v, valV kv' k = some v ∧ DR T F d v
  | [], [], _, _ => ⟨rfl, fun d e => by simp [dget] at e⟩
  | [], _ :: _, e, _ => by simp at e
  | _ :: _, [], e, _ => by simp at e
  | p :: kvs, q :: kv', e, r => by
    rw [List.map_cons, List.map_cons, List.cons.injEq] at e
    rw [List.map_cons, List.map_cons] at r
    cases r with
    | cons r t =>
      have ih := map_find k e.2 t
      unfold dget valV at ih ⊢
      rw [List.find?_cons, List.find?_cons, e.1]
      by_cases h : p.1 = k
      · rw [decide_eq_true h]
        exact ⟨rfl, fun d z => ⟨_, rfl, by cases z; exact r⟩⟩
      · rw [decide_eq_false h]
        exact ih
theorem key_v {d : D} {v : V} {k : Key} (h : DR T F d v) (e : keyD d = some k) : v = kV k := by
  cases h <;> first | (cases e; rfl) | cases e
theorem keys_v : ∀ {ds : List D} {vs : List V} {ks : List Key}, DRs T F ds vs → keysD ds = some ks → vs = ks.map kV
  | _, _, _, .nil, e => by simp [keysD] at e; subst e; rfl
  | _, _, _, .cons r t, e => by
    simp only [keysD] at e
    split at e
    · rename_i k ks e1 e2
      cases e
      rw [List.map_cons, key_v r e1, keys_v t e2]
    · cases e
theorem DT.key {d : D} {v : V} {k : Key} (h : DT T F H d v) (e : keyD d = some k) : v = kV k := by
  have f : flatD d = true := by cases d <;> first | rfl | cases e
  exact key_v (h.flat f) e
theorem DT.tkey (S : Sim T F c σ H) {d : D} {v : V} {ks : List Key} (h : DT T F H d v) (e : tkeyD d = some ks) : ∃ b, v = .ref b ∧ H b = some (.tup (ks.map kV)) := by
  cases d with
  | tup ds =>
    obtain ⟨a, vs, rfl, h1, r⟩ := h.tup
    rw [keys_v r e] at h1
    exact ⟨a, rfl, S.sub _ _ h1⟩
  | _ => cases e
/-- what a dict holds -/
theorem DT.dget (S : Sim T F c σ H) {x k : D} {v u : V} (hx : DT T F H x v) (hk : DT T F H k u) {r : Option D} (e : (match x with
    | .dk kvs => (keyD k).map fun k => dget kvs k
    | .dt kvs => (tkeyD k).map fun k => Cl.dget kvs k
    | _ => none) = some r) : ∃ a o, v = .ref a ∧ DGet H a u o ∧ o.isSome = r.isSome ∧ ∀ d, r = some d → ∃ v', o = some v' ∧ DR T F d v' := by
  cases x with
  | dk kvs =>
    obtain ⟨a, kv', rfl, h1, h2, h3⟩ := hx.dk S.sub
    obtain ⟨kk, e1, e2⟩ := Option.map_eq_some_iff.mp e
    have q := map_find kk h2 h3
    rw [hk.key e1]
    exact ⟨a, _, rfl, DGet.k h1, by rw [← e2]; exact q.1, fun d z => q.2 d (e2.trans z)⟩
  | dt kvs =>
    obtain ⟨a, kv', rfl, h1, h2, h3⟩ := hx.dt S.sub
    obtain ⟨kk, e1, e2⟩ := Option.map_eq_some_iff.mp e
    have q := map_find kk h2 h3
    obtain ⟨b, rfl, hb⟩ := hk.tkey S e1
    exact ⟨a, _, rfl, DGet.t h1 hb, by rw [← e2]; exact q.1, fun d z => q.2 d (e2.trans z)⟩
  | _ => cases e

/-! ### comparisons -/
def copO : Cop → CmpOp
  | .eq => .Eq | .ne => .NotEq | .lt => .Lt | .le => .LtE | .gt => .Gt | .ge => .GtE | .isN => .Is | .notN => .IsNot | .isin => .In | .notin => .NotIn
def rInT : R2 := fun y x H Q => ∃ a o, x = .ref a ∧ DGet H a y o ∧ Q (.bl o.isSome) H
def rNotInT : R2 := fun y x H Q => ∃ a o, x = .ref a ∧ DGet H a y o ∧ Q (.bl (!o.isSome)) H
theorem op_inT {X : Cx} (hu : X.A.units + 1 < cLine) : OpR X (compareOp .In) rInT := by
  intro pins s σ H x y v u Q I rx ry h
  obtain ⟨a, o, rfl, g, q⟩ := h
  cases ry
  exact d_in hu I g rx fun s' I' => ⟨.bl _, H, I', rfl, q⟩
theorem op_notInT {X : Cx} (hu : X.A.units + 1 < cLine) : OpR X (compareOp .NotIn) rNotInT := by
  intro pins s σ H x y v u Q I rx ry h
  obtain ⟨a, o, rfl, g, q⟩ := h
  cases ry
  exact d_notIn hu I g rx fun s' I' => ⟨.bl _, H, I', rfl, q⟩
def rCmp (K : PySem.W.Frag) : Cop → R2
  | .eq => fun x y H Q => rEqD K x y H Q ∨ rEq x y H Q
  | .ne => fun x y H Q => rNeD K x y H Q ∨ rNe x y H Q
  | .lt => rI0 fun i j => .bl (decide (i < j))
  | .le => rI0 fun i j => .bl (decide (i ≤ j))
  | .gt => rI0 fun i j => .bl (decide (j < i))
  | .ge => rI0 fun i j => .bl (decide (j ≤ i))
  | .isN => fun x y H Q => (y = .non ∧ Q (.bl (decide (x = .non))) H) ∨ ∃ a b : Bool, x = .bl a ∧ y = .bl b ∧ Q (.bl (decide (a = b))) H
  | .notN => fun x y H Q => (y = .non ∧ Q (.bl (!decide (x = .non))) H) ∨ ∃ a b : Bool, x = .bl a ∧ y = .bl b ∧ Q (.bl (!decide (a = b))) H
  | .isin => fun x y H Q => (rIn K false x y H Q ∨ rInD K x y H Q) ∨ rInT x y H Q
  | .notin => fun x y H Q => (rIn K true x y H Q ∨ rNotInD K x y H Q) ∨ rNotInT x y H Q
theorem op_cmp {X : Cx} (hu : X.A.units + 65 < cLine) : ∀ o : Cop, OpR X (compareOp (copO o)) (rCmp X.K o)
  | .eq => (op_eqD (by omega)).or op_eq
  | .ne => (op_neD (by omega)).or op_ne
  | .lt => op_lt
  | .le => op_le
  | .gt => op_gt
  | .ge => op_ge
  | .isN => op_isN.or op_isBl
  | .notN => op_notN.or op_notBl
  | .isin => (op_in_seq.or (op_inD hu)).or (op_inT (by omega))
  | .notin => (op_notIn_seq.or (op_notInD hu)).or (op_notInT (by omega))
theorem in_ok (S : Sim T F c σ H) {x y : D} {v u : V} {b neg : Bool} {Q : VK} (hx : DT T F H x v) (hy : DT T F H y u) (e : inD x y = some b) (q : Q (.bl (if neg then !b else b)) H) :
    (rIn T.K neg v u H Q ∨ (if neg then rNotInD T.K v u H Q else rInD T.K v u H Q)) ∨ (if neg then rNotInT v u H Q else rInT v u H Q) := by
  unfold inD at e
  split at e
  · rename_i ys
    split at e
    · rename_i f
      rw [Bool.and_eq_true] at f
      cases e
      obtain ⟨a, vs, rfl, h1, r⟩ := hy.lst S.sub
      exact .inl (.inl ⟨a, vs, rfl, .inl (.of h1), (hx.flat f.1).flat f.1, r.flat f.2, by rw [flat_any (hx.flat f.1) f.1 r f.2]; exact q⟩)
    · split at e
      · rename_i f
        rw [Bool.and_eq_true] at f
        cases e
        refine .inl (.inr ?_)
        have a3 := any_py 60 59 (x := x) f.1 ys (by simpa [D.ok, D.okN] using f.2)
        cases neg with
        | false => exact ⟨x.py, D.pys ys, hx.dp S f.1, hy.dp S f.2, ok_shaped f.1, ok_shaped f.2, by rw [a3]; exact q⟩
        | true => exact ⟨x.py, D.pys ys, hx.dp S f.1, hy.dp S f.2, ok_shaped f.1, ok_shaped f.2, by rw [a3]; exact q⟩
      · cases e
  · rename_i ys
    split at e
    · rename_i f
      rw [Bool.and_eq_true] at f
      cases e
      obtain ⟨a, vs, rfl, h1, r⟩ := hy.tup
      exact .inl (.inl ⟨a, vs, rfl, .inr (.of (S.sub _ _ h1)), (hx.flat f.1).flat f.1, r.flat f.2, by rw [flat_any (hx.flat f.1) f.1 r f.2]; exact q⟩)
    · cases e
  · rename_i kvs
    obtain ⟨k, e1, e2⟩ := Option.map_eq_some_iff.mp e
    obtain ⟨a, o, rfl, g, i, _⟩ := DT.dget S hy hx (r := Cl.dget kvs k) (by show (keyD x).map _ = _; rw [e1]; rfl)
    refine .inr ?_
    cases neg with
    | false => exact ⟨a, o, rfl, g, by rw [i, e2]; exact q⟩
    | true => exact ⟨a, o, rfl, g, by rw [i, e2]; exact q⟩
  · rename_i kvs
    obtain ⟨k, e1, e2⟩ := Option.map_eq_some_iff.mp e
    obtain ⟨a, o, rfl, g, i, _⟩ := DT.dget S hy hx (r := Cl.dget kvs k) (by show (tkeyD x).map _ = _; rw [e1]; rfl)
    refine .inr ?_
    cases neg with
    | false => exact ⟨a, o, rfl, g, by rw [i, e2]; exact q⟩
    | true => exact ⟨a, o, rfl, g, by rw [i, e2]; exact q⟩
  · cases e
theorem isNon_ok {x : D} {v : V} (h : DT T F H x v) : decide (v = .non) = x.isNon := by
  rcases h with h | ⟨w, o, e, h⟩
  · cases h <;> simp [D.isNon]
  · obtain ⟨a, rfl, _⟩ := h.own_at o
    cases w <;> first | (cases o; done) | (cases e; simp [D.isNon])
theorem cmp_ok {Q : VK} (S : Sim T F c σ H) {o : Cop} {x y : D} {v u : V} {b : Bool} (hx : DT T F H x v) (hy : DT T F H y u) (e : cmpop o x y = some b) (q : Q (.bl b) H) : rCmp T.K o v u H Q := by
  have eqs : ∀ {b : Bool}, eqD x y = some b → (Dp T.K H v x.py ∧ Dp T.K H u y.py ∧ SeqAt.shaped x.py = true ∧ SeqAt.shaped y.py = true ∧ PyData.eqv x.py y.py = b) ∨ (scal v u = true ∧ decide (v = u) = b) := fun {b} e => by
    unfold eqD at e
    split at e
    · cases e
      cases hx.str
      cases hy.str
      exact .inr ⟨rfl, by simp⟩
    · split at e
      · rename_i f
        rw [Bool.and_eq_true] at f
        cases e
        exact .inl ⟨hx.dp S f.1, hy.dp S f.2, ok_shaped f.1, ok_shaped f.2, eqb_py 60 60 x y f.1 f.2⟩
      · cases e
  unfold cmpop at e
  split at e
  · rcases eqs e with ⟨h1, h2, h3, h4, h5⟩ | ⟨h1, h2⟩
    · exact .inl ⟨_, _, h1, h2, h3, h4, by rw [h5]; exact q⟩
    · exact .inr ⟨h1, by rw [h2]; exact q⟩
  · obtain ⟨k, e1, rfl⟩ := Option.map_eq_some_iff.mp e
    rcases eqs e1 with ⟨h1, h2, h3, h4, h5⟩ | ⟨h1, h2⟩
    · exact .inl ⟨_, _, h1, h2, h3, h4, by rw [h5]; exact q⟩
    · exact .inr ⟨h1, by rw [h2]; exact q⟩
  · cases e; cases hx.int; cases hy.int; exact ⟨_, _, rfl, rfl, q⟩
  · cases e; cases hx.int; cases hy.int; exact ⟨_, _, rfl, rfl, q⟩
  · cases e; cases hx.int; cases hy.int; exact ⟨_, _, rfl, rfl, q⟩
  · cases e; cases hx.int; cases hy.int; exact ⟨_, _, rfl, rfl, q⟩
  · cases e; cases hx.bl; cases hy.bl; exact .inr ⟨_, _, rfl, rfl, q⟩
  · cases e; cases hx.bl; cases hy.bl; exact .inr ⟨_, _, rfl, rfl, q⟩
  · cases hy.non
    cases e
    refine .inl ⟨rfl, ?_⟩
    rw [isNon_ok hx]
    exact q
  · cases hy.non
    cases e
    refine .inl ⟨rfl, ?_⟩
    rw [isNon_ok hx]
    exact q
  · exact in_ok (neg := false) S hx hy e q
  · obtain ⟨k, e1, rfl⟩ := Option.map_eq_some_iff.mp e
    exact in_ok (neg := true) S hx hy e1 q
  · cases e

/-! ### truth -/
theorem truth_ok (S : Sim T F c σ H) {x : D} {v : V} {b : Bool} (h : DT T F H x v) (e : truth x = some b) : TruV T.K v H b := by
  unfold truth at e
  split at e
  · cases h.non; cases e; rfl
  · cases h.bl; cases e; rfl
  · cases h.int; cases e; rfl
  · obtain ⟨a, vs, rfl, h1, r⟩ := h.tup
    cases e
    exact .inr (.inl ⟨vs, .of (S.sub _ _ h1), by cases r <;> rfl⟩)
  · obtain ⟨a, vs, rfl, h1, r⟩ := h.lst S.sub
    cases e
    exact .inl ⟨vs, .of h1, by cases r <;> rfl⟩
  · cases e
end
end Cl

/-! Cl, part E: isinstance, built-ins, subscripts, slices by values. -/
namespace Cl
open PySem PySem.Spec PyProof.Rows L2
section
variable {T : Tb} {F F' H H' : Hp} {c c' : Sg} {σ : L2.St} {Wx : WX}

theorem drs_putGo {κ : Type} [DecidableEq κ] {k : κ} {d : D} {v : V} (r : DR T F d v) : ∀ {kvs : List (κ × D)} {kvs' : List (κ × V)}, kvs'.map (·.1) = kvs.map (·.1) → DRs T F (kvs.map (·.2)) (kvs'.map (·.2)) →
    (kvs'.map (fun kv => if kv.1 = k then (kv.1, v) else kv)).map (·.1) = (kvs.map (fun kv => if kv.1 = k then (kv.1, d) else kv)).map (·.1) ∧ DRs T F ((kvs.map (fun kv => if kv.1 = k then (kv.1, d) else kv)).map (·.2)) ((kvs'.map (fun kv => if kv.1 = k then (kv.1, v) else kv)).map (·.2))
  | [], [], _, _ => ⟨rfl, .nil⟩
  | [], _ :: _, e, _ => by simp at e
  | _ :: _, [], e, _ => by simp at e
  | (a, x) :: r1, (b, y) :: r2, e, h => by
    simp only [List.map_cons, List.cons.injEq] at e
    obtain ⟨e1, e2⟩ := e
    subst e1
    cases h with
    | cons h1 h2 =>
      obtain ⟨g1, g2⟩ := drs_putGo r e2 h2
      by_cases hk : b = k
      · simp only [List.map_cons, if_pos hk]
        exact ⟨by rw [g1], .cons r g2⟩
      · simp only [List.map_cons, if_neg hk]
        exact ⟨by rw [g1], .cons h1 g2⟩
theorem drs_put {κ : Type} [DecidableEq κ] {k : κ} {d : D} {v : V} (r : DR T F d v) {kvs : List (κ × D)} {kvs' : List (κ × V)} (e : kvs'.map (·.1) = kvs.map (·.1)) (h : DRs T F (kvs.map (·.2)) (kvs'.map (·.2))) :
    (putK kvs' k v).map (·.1) = (dput kvs k d).map (·.1) ∧ DRs T F ((dput kvs k d).map (·.2)) ((putK kvs' k v).map (·.2)) := by
  have e3 : kvs'.any (fun kv => decide (kv.1 = k)) = kvs.any fun kv => decide (kv.1 = k) := by
    have e1 : kvs'.any (fun kv => decide (kv.1 = k)) = (kvs'.map (·.1)).any fun x => decide (x = k) := by rw [List.any_map]; rfl
    have e2 : kvs.any (fun kv => decide (kv.1 = k)) = (kvs.map (·.1)).any fun x => decide (x = k) := by rw [List.any_map]; rfl
    rw [e1, e2, e]
  unfold putK dput
  rw [e3]
  split
  · exact drs_putGo r e h
  · simp only [List.map_append, e]
    exact ⟨rfl, h.append (.cons r .nil)⟩
theorem dput_len {κ : Type} [DecidableEq κ] (kvs : List (κ × D)) (k : κ) (v : D) : (dput kvs k v).length ≤ kvs.length + 1 := by
  unfold dput
  split
  · simp
  · simp
theorem drs_merge {κ : Type} [DecidableEq κ] : ∀ {more : List (κ × D)} {more' : List (κ × V)} {kvs : List (κ × D)} {kvs' : List (κ × V)}, more'.map (·.1) = more.map (·.1) → DRs T F (more.map (·.2)) (more'.map (·.2)) → kvs'.map (·.1) = kvs.map (·.1) → DRs T F (kvs.map (·.2)) (kvs'.map (·.2)) →
    (more'.foldl (fun acc kv => putK acc kv.1 kv.2) kvs').map (·.1) = (more.foldl (fun acc kv => dput acc kv.1 kv.2) kvs).map (·.1) ∧ DRs T F ((more.foldl (fun acc kv => dput acc kv.1 kv.2) kvs).map (·.2)) ((more'.foldl (fun acc kv => putK acc kv.1 kv.2) kvs').map (·.2))
  | [], [], _, _, _, _, e, h => ⟨e, h⟩
  | [], _ :: _, _, _, e, _, _, _ => by simp at e
  | _ :: _, [], _, _, e, _, _, _ => by simp at e
  | p :: r, q :: r', kvs, kvs', e, h, e', h' => by
    rw [List.map_cons, List.map_cons, List.cons.injEq] at e
    rw [List.map_cons, List.map_cons] at h
    cases h with
    | cons h1 h2 =>
      obtain ⟨g1, g2⟩ := drs_put (k := p.1) h1 e' h'
      rw [List.foldl_cons, List.foldl_cons, e.1]
      exact drs_merge e.2 h2 g1 g2

/-! ### isinstance -/
def Cls1.val (T : Tb) : Cls1 → Value
  | .int => .type "int" | .bool => .type "bool" | .str => .type "str" | .tuple => .type "tuple" | .list => .type "list" | .dict => .type "dict" | .own c => .ref (T.ca c)
def Cls1.v (T : Tb) : Cls1 → V
  | .int => .ty "int" | .bool => .ty "bool" | .str => .ty "str" | .tuple => .ty "tuple" | .list => .ty "list" | .dict => .ty "dict" | .own c => .ref (T.ca c)
theorem Cls1.rel (T : Tb) (k : Cls1) : RelV (k.v T) (k.val T) ∧ ClsV (k.v T) (k.val T) := by
  cases k <;> first | exact ⟨rfl, .ty _⟩ | exact ⟨rfl, .own _⟩
/-- what the written part says of an own class (not an exception's) -/
structure ClsF (T : Tb) (n : Nat) (k : Nat) : Prop where
  cl : Cls T.K (T.ca k)
  ha : PySem.W.findIn T.K (.ref (T.ca k)) "__class__" = some (some (.builtin "object.__class__"))
  hn : PySem.W.specialIn T.K (.builtin "object.__class__") "__get__" = some (some (.builtin "getset_descriptor.__get__"))
  ht : PySem.W.takesIn T.K (.builtin "object.__class__") = some true
  hm : PySem.W.mroIn T.K (T.ca k) (.type "object") = some true
  to : ∀ t ∈ (["NoneType", "bool", "int", "str", "list", "tuple", "dict"] : List String), PySem.W.kitOne T.K (.type t) (.ref (T.ca k)) = some false
  of : ∀ t ∈ (["int", "bool", "str", "tuple", "list", "dict"] : List String), PySem.W.kitOne T.K (.ref (T.ca k)) (.type t) = some false
  own : ∀ j < n, PySem.W.kitOne T.K (.ref (T.ca k)) (.ref (T.ca j)) = some (k == j)
  na : ∀ f ∈ T.cf k, NoAttr T.K (T.ca k) f
  nd : (T.cf k).Nodup
  few : (T.cf k).length < 1000
/-- the first n classes are own ones -/
def ClsOk (T : Tb) (n : Nat) : Prop := ∀ k < n, ClsF T n k
def tyD (T : Tb) : D → Option Value
  | .non => some (.type "NoneType") | .bl _ => some (.type "bool") | .int _ => some (.type "int") | .str _ => some (.type "str") | .tup _ => some (.type "tuple")
  | .lst _ => some (.type "list") | .scr _ => some (.type "list") | .dk _ => some (.type "dict") | .dt _ => some (.type "dict") | .obj c _ => some (.ref (T.ca c)) | .fn _ => none
def clsBelow (n : Nat) : Cls1 → Bool
  | .own c => decide (c < n)
  | _ => true
theorem ty_ok (S : Sim T F c σ H) {n : Nat} (C : ClsOk T n) {x : D} {v : V} (h : DT T F H x v) (o : isiOk x = true) (b : objBelow n x = true) : ∃ t, tyD T x = some t ∧ TyX T.K H v t := by
  cases x with
  | non => cases h.non; exact ⟨_, rfl, .base .non⟩
  | bl b => cases h.bl; exact ⟨_, rfl, .base (.bl _)⟩
  | int b => cases h.int; exact ⟨_, rfl, .base (.int _)⟩
  | str b => cases h.str; exact ⟨_, rfl, .base (.str _)⟩
  | tup ds => obtain ⟨a, vs, rfl, h1, _⟩ := h.tup; exact ⟨_, rfl, .base (.tup (S.sub _ _ h1))⟩
  | lst ds => obtain ⟨a, vs, rfl, h1, _⟩ := h.lst S.sub; exact ⟨_, rfl, .base (.lst h1)⟩
  | dk ds => obtain ⟨a, vs, rfl, h1, _⟩ := h.dk S.sub; exact ⟨_, rfl, .base (.dK h1)⟩
  | dt ds => obtain ⟨a, vs, rfl, h1, _⟩ := h.dt S.sub; exact ⟨_, rfl, .base (.dT h1)⟩
  | obj k fs =>
    obtain ⟨a, dx, vs, rfl, h1, _⟩ := h.obj S.sub
    have f := C k (of_decide_eq_true b)
    exact ⟨_, rfl, .base (.ins h1 f.cl f.ha f.hn f.ht f.hm)⟩
  | fn f => cases o
  | scr ns =>
    obtain ⟨a, rfl, h1⟩ := h.scr S.sub
    rcases h1 with (h1 | ⟨ob, h1⟩) | ⟨ob, its, m, h1, h2, _⟩
    · exact ⟨_, rfl, .base (.lst h1)⟩
    · exact ⟨_, rfl, .base (.frz h1)⟩
    · exact ⟨_, rfl, .kList h1 h2⟩
def kitTab (a b : String) : Bool := (a == b) || (a == "bool" && b == "int")
theorem kit_tab : (["NoneType", "bool", "int", "str", "list", "tuple", "dict"].all fun a => ["int", "bool", "str", "tuple", "list", "dict"].all fun b => kitB a b == some (kitTab a b)) = true := by decide +kernel
theorem kit_at {a b : String} (ha : a ∈ (["NoneType", "bool", "int", "str", "list", "tuple", "dict"] : List String)) (hb : b ∈ (["int", "bool", "str", "tuple", "list", "dict"] : List String)) {r : Bool} (e : kitTab a b = r) : PySem.W.kitOne T.K (.type a) (.type b) = some r := by
  have h := List.all_eq_true.mp (List.all_eq_true.mp kit_tab a ha) b hb
  exact kit_ty (by rw [← e]; exact eq_of_beq h)
def nmD : D → Option String
  | .non => some "NoneType" | .bl _ => some "bool" | .int _ => some "int" | .str _ => some "str" | .tup _ => some "tuple"
  | .lst _ => some "list" | .scr _ => some "list" | .dk _ => some "dict" | .dt _ => some "dict" | _ => none
def Cls1.nm : Cls1 → Option String
  | .int => some "int" | .bool => some "bool" | .str => some "str" | .tuple => some "tuple" | .list => some "list" | .dict => some "dict" | .own _ => none
theorem nm_tab (x : D) (k : Cls1) (a b : String) (ha : nmD x = some a) (hb : k.nm = some b) : kitTab a b = isiD x k ∧ a ∈ (["NoneType", "bool", "int", "str", "list", "tuple", "dict"] : List String) ∧ b ∈ (["int", "bool", "str", "tuple", "list", "dict"] : List String) ∧ tyD T x = some (.type a) ∧ k.val T = .type b := by
  cases x <;> cases ha <;> cases k <;> cases hb <;> exact ⟨by simp [kitTab, isiD], by decide, by decide, rfl, rfl⟩
theorem kit_one {n : Nat} (C : ClsOk T n) {x : D} {t : Value} (e : tyD T x = some t) (b : objBelow n x = true) (k : Cls1) (kb : clsBelow n k = true) : PySem.W.kitOne T.K t (k.val T) = some (isiD x k) := by
  cases ha : nmD x with
  | some a =>
    cases hb : k.nm with
    | some z =>
      obtain ⟨h1, h2, h3, h4, h5⟩ := nm_tab (T := T) x k a z ha hb
      rw [e] at h4
      cases h4
      rw [h5]
      exact kit_at h2 h3 h1
    | none =>
      cases k with
      | own j =>
        have hj : j < n := of_decide_eq_true kb
        have q : tyD T x = some (.type a) ∧ a ∈ (["NoneType", "bool", "int", "str", "list", "tuple", "dict"] : List String) ∧ isiD x (.own j) = false := by
          cases x <;> cases ha <;> exact ⟨rfl, by decide, rfl⟩
        rw [e] at q
        cases q.1
        rw [q.2.2]
        exact (C j hj).to _ q.2.1
      | _ => cases hb
  | none =>
    cases x with
    | obj i fs =>
      have hi : i < n := of_decide_eq_true b
      cases e
      cases k with
      | own j => exact (C i hi).own j (of_decide_eq_true kb)
      | _ => exact (C i hi).of _ (by decide)
    | fn f => cases e
    | _ => cases ha
theorem kit_any {n : Nat} (C : ClsOk T n) {x : D} {t : Value} (e : tyD T x = some t) (b : objBelow n x = true) : ∀ ks : List Cls1, ks.all (clsBelow n) = true → PySem.W.kitAny T.K t (ks.map (Cls1.val T)) = some (ks.any fun k => isiD x k)
  | [], _ => kitAny_nil
  | k :: ks, h => by
    rw [List.all_cons, Bool.and_eq_true] at h
    refine kitAny_cons (kit_one C e b k h.1) (fun z => ?_) fun z => ?_
    · rw [List.any_cons, z, Bool.false_or]; exact kit_any C e b ks h.2
    · rw [List.any_cons, z, Bool.true_or]
theorem cls_vals (T : Tb) : ∀ ks : List Cls1, Paired ClsV (ks.map (Cls1.v T)) (ks.map (Cls1.val T))
  | [] => .nil
  | k :: ks => .cons (k.rel T).2 (cls_vals T ks)

/-! ### built-ins -/
/-- sum(t) of a tuple of ints -/
def rSumT (K : PySem.W.Frag) : List V → Hp → VK → Prop := fun vs H Q => ∃ (a : Addr) (ns : List Int), vs = [V.ref a] ∧ SqT K H a (ns.map V.int) ∧ Q (.int ns.sum) H
theorem cr_sumT {X : Cx} (hc : X.calm = true) : CallR X (.builtin "sum") (rSumT X.K) := by
  intro pins s σ H vs us Q I r h
  obtain ⟨a, ns, rfl, hs, q⟩ := h
  obtain ⟨its, rv, hl, _⟩ := I.tuple hs
  rw [Vals.ref1 r]
  obtain ⟨xs, e⟩ := rv.ints.allInts.items
  have hn : numsOf (PySem.intItems xs).toList = ns := by rw [← e]; exact rv.ints.numsOf
  rw [nums_intItems] at hn
  have hl' : s.heap.IsTuple a its.toArray := hl
  rw [e] at hl'
  refine PySem.W.ktm_sumG (I.ok.hd hc) hl' fun h' tk t' hk => ?_
  rw [preSum_eq, List.take_of_length_le (by simp), hn]
  exact ⟨.int _, H, I.kept hk, ⟨_, rfl⟩, q⟩
/-- sorted(d) of a dict with keys ints -/
def rSortedKI : List V → Hp → VK → Prop := fun xs H Q => ∃ (a : Addr) (kvs : List (Key × V)) (ks : List Int), xs = [.ref a] ∧ Rd H a (.dK kvs) ∧ kvs.map (·.1) = ks.map Sum.inl ∧ ks.length < 64 ∧ ∀ (ys : List Int) (p : Addr), ys.Perm ks → ys.Pairwise (· ≤ ·) → H p = none → Q (.ref p) (upd H p (.lst (ys.map V.int)))
theorem insI_perm (x : Int) : ∀ l : List Int, (insI x l).Perm (x :: l)
  | [] => .refl _
  | y :: r => by
    unfold insI
    split
    · exact .refl _
    · exact ((insI_perm x r).cons y).trans (.swap x y r)
theorem sortI_perm : ∀ l : List Int, (sortI l).Perm l
  | [] => .refl _
  | x :: r => (insI_perm x _).trans ((sortI_perm r).cons x)
theorem insI_sorted (x : Int) : ∀ {l : List Int}, l.Pairwise (· ≤ ·) → (insI x l).Pairwise (· ≤ ·)
  | [], _ => by simp [insI]
  | y :: r, h => by
    rw [List.pairwise_cons] at h
    unfold insI
    split
    · rename_i hx
      refine .cons (fun z hz => ?_) (.cons h.1 h.2)
      rcases List.mem_cons.mp hz with rfl | hz
      · exact hx
      · exact Int.le_trans hx (h.1 z hz)
    · rename_i hx
      refine .cons (fun z hz => ?_) (insI_sorted x h.2)
      rcases List.mem_cons.mp ((insI_perm x r).mem_iff.mp hz) with rfl | hz
      · omega
      · exact h.1 z hz
theorem sortI_sorted : ∀ l : List Int, (sortI l).Pairwise (· ≤ ·)
  | [] => .nil
  | x :: r => insI_sorted x (sortI_sorted r)
theorem sorted_eq {a b : List Int} (p : a.Perm b) (ha : a.Pairwise (· ≤ ·)) (hb : b.Pairwise (· ≤ ·)) : a = b := by
  induction a generalizing b with
  | nil => exact p.nil_eq
  | cons x a ih =>
    cases b with
    | nil => exact absurd p.length_eq (by simp)
    | cons y b =>
      rw [List.pairwise_cons] at ha hb
      have e : x = y := by
        have h1 : y ∈ x :: a := p.mem_iff.mpr List.mem_cons_self
        have h2 : x ∈ y :: b := p.mem_iff.mp List.mem_cons_self
        have l1 : x ≤ y := by
          rcases List.mem_cons.mp h1 with h | h
          · omega
          · exact ha.1 _ h
        have l2 : y ≤ x := by
          rcases List.mem_cons.mp h2 with h | h
          · omega
          · exact hb.1 _ h
        omega
      subst e
      rw [ih (List.Perm.cons_inv p) ha.2 hb.2]
theorem sort_is {a l : List Int} (p : a.Perm l) (h : a.Pairwise (· ≤ ·)) : a = sortI l := sorted_eq (p.trans (sortI_perm l).symm) h (sortI_sorted l)
theorem maxI_ge : ∀ (l : List Int) (m : Int), m ≤ maxI m l ∧ (∀ y ∈ l, y ≤ maxI m l) ∧ (maxI m l = m ∨ maxI m l ∈ l)
  | [], m => ⟨Int.le_refl _, by simp, .inl rfl⟩
  | x :: r, m => by
    obtain ⟨h1, h2, h3⟩ := maxI_ge r (if m < x then x else m)
    have e : maxI m (x :: r) = maxI (if m < x then x else m) r := rfl
    rw [e]
    have k1 : m ≤ if m < x then x else m := by split <;> omega
    have k2 : x ≤ if m < x then x else m := by split <;> omega
    refine ⟨by omega, fun y hy => ?_, ?_⟩
    · rcases List.mem_cons.mp hy with rfl | hy
      · exact Int.le_trans k2 h1
      · exact h2 y hy
    · rcases h3 with h3 | h3
      · rw [h3]
        by_cases hm : m < x
        · rw [if_pos hm]; exact .inr List.mem_cons_self
        · rw [if_neg hm]; exact .inl rfl
      · exact .inr (List.mem_cons_of_mem _ h3)
theorem minI_le : ∀ (l : List Int) (m : Int), minI m l ≤ m ∧ (∀ y ∈ l, minI m l ≤ y) ∧ (minI m l = m ∨ minI m l ∈ l)
  | [], m => ⟨Int.le_refl _, by simp, .inl rfl⟩
  | x :: r, m => by
    obtain ⟨h1, h2, h3⟩ := minI_le r (if x < m then x else m)
    have e : minI m (x :: r) = minI (if x < m then x else m) r := rfl
    rw [e]
    have k1 : (if x < m then x else m) ≤ m := by split <;> omega
    have k2 : (if x < m then x else m) ≤ x := by split <;> omega
    refine ⟨by omega, fun y hy => ?_, ?_⟩
    · rcases List.mem_cons.mp hy with rfl | hy
      · exact Int.le_trans h1 k2
      · exact h2 y hy
    · rcases h3 with h3 | h3
      · rw [h3]
        by_cases hm : x < m
        · rw [if_pos hm]; exact .inr List.mem_cons_self
        · rw [if_neg hm]; exact .inl rfl
      · exact .inr (List.mem_cons_of_mem _ h3)
theorem max_is {n : Int} {ns : List Int} {m : Int} (h1 : m ∈ n :: ns) (h2 : ∀ y, y ∈ n :: ns → y ≤ m) : m = maxI n ns := by
  obtain ⟨g1, g2, g3⟩ := maxI_ge ns n
  have a : maxI n ns ≤ m := by
    rcases g3 with g3 | g3
    · rw [g3]; exact h2 n List.mem_cons_self
    · exact h2 _ (List.mem_cons_of_mem _ g3)
  have b : m ≤ maxI n ns := by
    rcases List.mem_cons.mp h1 with rfl | h
    · exact g1
    · exact g2 m h
  omega
theorem min_is {n : Int} {ns : List Int} {m : Int} (h1 : m ∈ n :: ns) (h2 : ∀ y, y ∈ n :: ns → m ≤ y) : m = minI n ns := by
  obtain ⟨g1, g2, g3⟩ := minI_le ns n
  have a : m ≤ minI n ns := by
    rcases g3 with g3 | g3
    · rw [g3]; exact h2 n List.mem_cons_self
    · exact h2 _ (List.mem_cons_of_mem _ g3)
  have b : minI n ns ≤ m := by
    rcases List.mem_cons.mp h1 with rfl | h
    · exact g1
    · exact g2 m h
  omega
theorem keysI_at : ∀ {kvs : List (Key × D)} {ns : List Int}, keysI kvs = some ns → kvs.map (·.1) = ns.map Sum.inl
  | [], ns, e => by simp [keysI] at e; subst e; rfl
  | (.inl i, d) :: r, ns, e => by
    simp only [keysI, Option.map_eq_some_iff] at e
    obtain ⟨ns', e', rfl⟩ := e
    rw [List.map_cons, List.map_cons, keysI_at e']
  | (.inr i, d) :: r, ns, e => by simp [keysI] at e
def Blt.nm : Blt → Str
  | .len => "len" | .abs => "abs" | .int => "int" | .all => "all" | .any => "any" | .sum => "sum" | .tuple => "tuple" | .list => "list" | .min => "min" | .max => "max" | .sorted => "sorted" | .dict => "dict"
def Blt.vl : Blt → Value
  | .len => .builtin "len" | .abs => .builtin "abs" | .int => .type "int" | .all => .builtin "all" | .any => .builtin "any" | .sum => .builtin "sum" | .tuple => .type "tuple" | .list => .type "list" | .min => .builtin "min" | .max => .builtin "max" | .sorted => .builtin "sorted" | .dict => .type "dict"
def rBlt (K : PySem.W.Frag) : Blt → List V → Hp → VK → Prop
  | .len => fun xs H Q => ((∃ x n, xs = [x] ∧ LenV K x H n ∧ Q (.int n) H) ∨ (∃ a kvs, xs = [V.ref a] ∧ H a = some (.dK kvs) ∧ Q (.int kvs.length) H)) ∨ rLenT xs H Q
  | .abs => fun xs H Q => ∃ i, xs = [.int i] ∧ Q (.int (if i < 0 then -i else i)) H
  | .int => fun xs H Q => (∃ i, xs = [.int i] ∧ Q (.int i) H) ∨ ∃ k, xs = [.bl k] ∧ Q (.int (if k then 1 else 0)) H
  | .all => rAll K
  | .any => rAny K
  | .sum => fun xs H Q => rSum K xs H Q ∨ rSumT K xs H Q
  | .tuple => fun xs H Q => ∃ p ys, xs = [.ref p] ∧ ((SqL K H p ys ∧ ∀ l, H l = none → Q (.ref l) (upd H l (.tup ys))) ∨ (SqT K H p ys ∧ Q (.ref p) H))
  | .list => fun xs H Q => (∃ p ys, xs = [.ref p] ∧ (SqL K H p ys ∨ SqT K H p ys) ∧ ∀ l, H l = none → Q (.ref l) (upd H l (.lst ys))) ∨ rListD xs H Q
  | .dict => fun xs H Q => ∃ (a : Addr) (ps : List Addr) (kvs : List (Key × V)), xs = [.ref a] ∧ SqL K H a (ps.map V.ref) ∧ Paired (fun p kv => SqT K H p [kV kv.1, kv.2]) ps kvs ∧
      ∀ p, H p = none → Q (.ref p) (upd H p (.dK (mergeK [] kvs)))
  | .min => rMin K
  | .max => rMax K
  | .sorted => fun xs H Q => rSortedI K xs H Q ∨ rSortedKI xs H Q
theorem call_blt {X : Cx} (hc : X.calm = true) : ∀ b : Blt, CallR X b.vl (rBlt X.K b)
  | .len => (call_len.or call_lenD).or call_len_dT
  | .abs => call_abs
  | .int => call_int1
  | .all => cr_all hc
  | .any => cr_any hc
  | .sum => (cr_sum hc).or (cr_sumT hc)
  | .tuple => call_tuple_of
  | .list => call_list_of.or (call_list_dK hc)
  | .dict => call_dictP hc
  | .min => cr_min hc
  | .max => cr_max hc
  | .sorted => cr_sortedI.or (call_sortedDI hc)
inductive DTs (T : Tb) (F H : Hp) : List D → List V → Prop
  | nil : DTs T F H [] []
  | cons {d : D} {v : V} {ds : List D} {vs : List V} : DT T F H d v → DTs T F H ds vs → DTs T F H (d :: ds) (v :: vs)
theorem rds_ok (S : Sim T F c σ H) : ∀ {xs : List Opd} {vs : List V} {ds : List D}, ROs T F σ xs vs → rds c xs = some ds → DTs T F H ds vs
  | _, _, _, .nil, e => by simp [rds] at e; subst e; exact .nil
  | _, _, _, .cons r t, e => by
    simp only [rds] at e
    split at e
    · rename_i d ds e1 e2
      cases e
      exact .cons (rd_ok S r e1) (rds_ok S t e2)
    · cases e
theorem DTs.one {d : D} {vs : List V} (h : DTs T F H [d] vs) : ∃ v, vs = [v] ∧ DT T F H d v := by
  cases h with | cons r t => cases t; exact ⟨_, rfl, r⟩
theorem DTs.two {d e : D} {vs : List V} (h : DTs T F H [d, e] vs) : ∃ v u, vs = [v, u] ∧ DT T F H d v ∧ DT T F H e u := by
  cases h with | cons r t => cases t with | cons r' t => cases t; exact ⟨_, _, rfl, r, r'⟩
theorem len_map {κ : Type} {kvs : List (κ × D)} {kv' : List (κ × V)} (e : kv'.map (·.1) = kvs.map (·.1)) : kv'.length = kvs.length := by
  have := congrArg List.length e
  simpa using this
theorem DR.key' {F : Hp} {d : D} {v : V} {k : Key} (h : DR T F d v) (e : keyD d = some k) : v = kV k := by
  cases h <;> cases e <;> rfl
theorem keys_rel {F : Hp} {α : Type} : ∀ (kvs : List (Key × α)), DRs T F (kvs.map ((fun k => dKey k) ∘ fun kv => kv.1)) (kvs.map fun kv => kV kv.1)
  | [] => .nil
  | (.inl i, _) :: r => .cons (.int i) (keys_rel r)
  | (.inr x, _) :: r => .cons (.str x) (keys_rel r)
theorem pairs_rel {F H : Hp} {c : Sg} {σ : L2.St} (S : Sim T F c σ H) : ∀ {ds : List D} {vs : List V} {kvs : List (Key × D)}, DRs T F ds vs → pairsD ds = some kvs →
    ∃ (ps : List Addr) (kv' : List (Key × V)), vs = ps.map V.ref ∧ Paired (fun p kv => SqT T.K H p [kV kv.1, kv.2]) ps kv' ∧ kv'.map (·.1) = kvs.map (·.1) ∧ DRs T F (kvs.map (·.2)) (kv'.map (·.2))
  | [], _, _, .nil, e => by simp [pairsD] at e; subst e; exact ⟨[], [], rfl, .nil, rfl, .nil⟩
  | d :: ds, _, kvs, .cons r t, e => by
    unfold pairsD at e
    split at e
    · rename_i q; cases q
    · rename_i kd vd r' q
      cases q
      split at e
      · rename_i k kvs' e1 e2
        cases e
        obtain ⟨ps, kv', rfl, h1, h2, h3⟩ := pairs_rel S t e2
        cases r with
        | tup hb rr =>
          cases rr with
          | cons rk rr =>
            cases rr with
            | cons rv rr =>
              cases rr
              rename_i p _ _
              cases rk.key' e1
              exact ⟨p :: ps, (k, _) :: kv', rfl, .cons (.of (S.sub _ _ hb)) h1, by simp [h2], .cons rv h3⟩
      · cases e
    · cases e
theorem blt_ok (S : Sim T F c σ H) {Q : VK} {b : Blt} {ds : List D} {vs : List V} {w : W} (h : DTs T F H ds vs) (e : bltop b ds = some w) (k : Kont T σ F c H Q w) : rBlt T.K b vs H Q := by
  unfold bltop at e
  split at e
  · obtain ⟨v, rfl, g⟩ := h.one
    rename_i x
    obtain ⟨n, e1, rfl⟩ := Option.map_eq_some_iff.mp e
    unfold lenD at e1
    split at e1
    · cases g.str
      split at e1
      · cases e1; exact .inl (.inl ⟨_, _, rfl, ⟨‹_›, rfl⟩, k.same S (.int _)⟩)
      · cases e1
    · obtain ⟨a, us, rfl, h1, r⟩ := g.tup
      cases e1
      exact .inl (.inl ⟨_, _, rfl, .inr ⟨us, .of (S.sub _ _ h1), r.length⟩, k.same S (.int _)⟩)
    · obtain ⟨a, us, rfl, h1, r⟩ := g.lst S.sub
      cases e1
      exact .inl (.inl ⟨_, _, rfl, .inl ⟨us, .of h1, r.length⟩, k.same S (.int _)⟩)
    · obtain ⟨a, rfl, h1⟩ := g.scr S.sub
      cases e1
      exact .inl (.inl ⟨_, _, rfl, .inl ⟨_, h1, by simp⟩, k.same S (.int _)⟩)
    · obtain ⟨a, us, rfl, h1, h2, r⟩ := g.dk S.sub
      cases e1
      exact .inl (.inr ⟨_, _, rfl, h1, by rw [len_map h2]; exact k.same S (.int _)⟩)
    · obtain ⟨a, us, rfl, h1, h2, r⟩ := g.dt S.sub
      cases e1
      exact .inr ⟨_, _, rfl, h1, by rw [len_map h2]; exact k.same S (.int _)⟩
    · cases e1
  · obtain ⟨v, rfl, g⟩ := h.one
    cases g.int; cases e
    exact ⟨_, rfl, k.same S (.int _)⟩
  · obtain ⟨v, rfl, g⟩ := h.one
    cases g.int; cases e
    exact .inl ⟨_, rfl, k.same S (.int _)⟩
  · obtain ⟨v, rfl, g⟩ := h.one
    cases g.bl; cases e
    exact .inr ⟨_, rfl, k.same S (.int _)⟩
  · obtain ⟨v, rfl, g⟩ := h.one
    obtain ⟨bs, e1, rfl⟩ := Option.map_eq_some_iff.mp e
    obtain ⟨a, us, rfl, h1, r⟩ := g.lst S.sub
    exact ⟨a, bs, rfl, .of (by rw [← r.bls e1]; exact h1), k.same S (.bl _)⟩
  · obtain ⟨v, rfl, g⟩ := h.one
    obtain ⟨bs, e1, rfl⟩ := Option.map_eq_some_iff.mp e
    obtain ⟨a, us, rfl, h1, r⟩ := g.lst S.sub
    exact ⟨a, bs, rfl, .of (by rw [← r.bls e1]; exact h1), k.same S (.bl _)⟩
  · obtain ⟨v, rfl, g⟩ := h.one
    obtain ⟨bs, e1, rfl⟩ := Option.map_eq_some_iff.mp e
    obtain ⟨a, us, rfl, h1, r⟩ := g.lst S.sub
    exact .inl ⟨a, bs, rfl, .of (by rw [← r.ints e1]; exact h1), k.same S (.int _)⟩
  · obtain ⟨v, rfl, g⟩ := h.one
    obtain ⟨bs, e1, rfl⟩ := Option.map_eq_some_iff.mp e
    obtain ⟨a, us, rfl, h1, r⟩ := g.tup
    exact .inr ⟨a, bs, rfl, .of (by rw [← r.ints e1]; exact S.sub _ _ h1), k.same S (.int _)⟩
  · obtain ⟨v, rfl, g⟩ := h.one
    split at e
    · rename_i n ns e1
      cases e
      obtain ⟨a, us, rfl, h1, r⟩ := g.lst S.sub
      exact ⟨a, n :: ns, rfl, .of (by rw [← r.ints e1]; exact h1), by simp, fun m h1 h2 => by rw [max_is h1 h2]; exact k.same S (.int _)⟩
    · cases e
  · obtain ⟨v, rfl, g⟩ := h.one
    split at e
    · rename_i n ns e1
      cases e
      obtain ⟨a, us, rfl, h1, r⟩ := g.lst S.sub
      exact ⟨a, n :: ns, rfl, .of (by rw [← r.ints e1]; exact h1), by simp, fun m h1 h2 => by rw [min_is h1 h2]; exact k.same S (.int _)⟩
    · cases e
  · obtain ⟨v, rfl, g⟩ := h.one
    obtain ⟨bs, e1, rfl⟩ := Option.map_eq_some_iff.mp e
    obtain ⟨a, us, rfl, h1, r⟩ := g.lst S.sub
    refine .inl ⟨a, bs, rfl, .of (by rw [← r.ints e1]; exact h1), fun ns' p hp hw hn => ?_⟩
    rw [sort_is hp hw]
    exact k.lst S (.of_ints _) hn
  · obtain ⟨v, rfl, g⟩ := h.one
    split at e
    · rename_i hl
      obtain ⟨bs, e1, rfl⟩ := Option.map_eq_some_iff.mp e
      obtain ⟨a, us, rfl, h1, h2, r⟩ := g.dk S.sub
      refine .inr ⟨a, us, bs, rfl, .inl h1, by rw [h2]; exact keysI_at e1, ?_, fun ns' p hp hw hn => ?_⟩
      · have := congrArg List.length (keysI_at e1)
        simp at this
        omega
      · rw [sort_is hp hw]
        exact k.lst S (.of_ints _) hn
    · cases e
  · obtain ⟨v, rfl, g⟩ := h.one
    cases e
    obtain ⟨a, us, rfl, h1, r⟩ := g.lst S.sub
    exact ⟨a, us, rfl, .inl ⟨.of h1, fun l hl => k.tup S r hl⟩⟩
  · obtain ⟨v, rfl, g⟩ := h.one
    cases e
    obtain ⟨a, us, rfl, h1, r⟩ := g.tup
    exact ⟨a, us, rfl, .inr ⟨.of (S.sub _ _ h1), k.same S (.tup h1 r)⟩⟩
  · obtain ⟨v, rfl, g⟩ := h.one
    cases e
    obtain ⟨a, us, rfl, h1, r⟩ := g.lst S.sub
    exact .inl ⟨a, us, rfl, .inl (.of h1), fun l hl => k.lst S r hl⟩
  · obtain ⟨v, rfl, g⟩ := h.one
    cases e
    obtain ⟨a, us, rfl, h1, r⟩ := g.tup
    exact .inl ⟨a, us, rfl, .inr (.of (S.sub _ _ h1)), fun l hl => k.lst S r hl⟩
  · obtain ⟨v, rfl, g⟩ := h.one
    cases e
    obtain ⟨a, us, rfl, h1, h2, r⟩ := g.dk S.sub
    refine .inr ⟨a, us, rfl, h1, fun l hl => k.lst S ?_ hl⟩
    have := keys_rel (T := T) (F := F) us
    rw [← List.map_map, h2, List.map_map] at this
    exact this
  · obtain ⟨v, rfl, g⟩ := h.one
    obtain ⟨kvs, e1, rfl⟩ := Option.map_eq_some_iff.mp e
    obtain ⟨a, us, rfl, h1, r⟩ := g.lst S.sub
    obtain ⟨ps, kv', rfl, h2, h3, h4⟩ := pairs_rel S r e1
    refine ⟨a, ps, kv', rfl, .of h1, h2, fun l hl => ?_⟩
    obtain ⟨g1, g2⟩ := drs_merge (T := T) (F := F) (kvs := []) (kvs' := []) h3 h4 rfl .nil
    exact k.dict S g1 g2 hl
  · cases e

/-! ### subscripts -/
def rIxDc : R2 := fun x y H Q => ∃ a v, x = .ref a ∧ DGet H a y (some v) ∧ Q v H
theorem ix_dict {X : Cx} (hu : X.A.units + 1 < cLine) : IxR X rIxDc := by
  intro value slice pins s σ H x y v u Q I rx ry h hs
  obtain ⟨a, z, rfl, g, q⟩ := h
  cases rx
  unfold subscriptTail
  refine wpAny_bind ?_
  rw [getitemInPython_of_ne (dict_typeIs I g).not_modules]
  refine wpAny_bind (wpAny_specialOf (dict_typeIs I g) PySem.F.slot_dict_getitem.lookup ?_)
  have fin : wpAny (model X.prog X.w) X.A (subscripted slice false (.ref a) u) (fun r s₃ => wpAny (model X.prog X.w) X.A (letTemporaryGo value (.ref a) r >>= fun _ => pure r) (EP X pins σ Q) X.xe s₃) X.xe s := by
    rw [hs]
    exact wpAny_operating (d_getItem hu I g ry fun w' s3 I3 rw' => wpAny_bind (wpAny_letTemporaryGo (wpAny_pure ⟨z, H, I3, rw', q⟩)))
  first
    | exact wpAny_pure (wpAny_bind fin)
    | exact wpAny_bind (wpAny_pure (wpAny_bind fin))
    | exact wpAny_bind fin
def rIxA (K : PySem.W.Frag) : R2 := fun x y H Q => ((rIxL K x y H Q ∨ rIxT K x y H Q) ∨ rIxDc x y H Q) ∨ rIxS x y H Q
theorem ix_all {X : Cx} (hu : X.A.units + 1 < cLine) : IxR X (rIxA X.K) := ((ix_list.or ix_tup).or (ix_dict hu)).or ix_str
theorem atI_map {α β : Type} (f : α → β) (xs : List α) (i : Int) : atI (xs.map f) i = (atI xs i).map f := by
  unfold atI
  rw [List.length_map]
  cases ixN xs.length i with
  | none => rfl
  | some j => simp
theorem ix_ok (S : Sim T F c σ H) {Q : VK} {x y d : D} {v u : V} (hx : DT T F H x v) (hy : DT T F H y u) (e : ixD x y = some d) (k : Kont T σ F c H Q (.d d)) : rIxA T.K v u H Q := by
  unfold ixD at e
  split at e
  · obtain ⟨a, vs, rfl, h1, r⟩ := hx.lst S.sub
    cases hy.int
    obtain ⟨z, e1, r1⟩ := r.atI e
    exact .inl (.inl (.inl ⟨a, vs, _, z, rfl, rfl, .of h1, e1, k.same S r1⟩))
  · obtain ⟨a, vs, rfl, h1, r⟩ := hx.tup
    cases hy.int
    obtain ⟨z, e1, r1⟩ := r.atI e
    exact .inl (.inl (.inr ⟨a, vs, _, z, rfl, rfl, .of (S.sub _ _ h1), e1, k.same S r1⟩))
  · obtain ⟨a, rfl, h1⟩ := hx.scr S.sub
    cases hy.int
    obtain ⟨j, e1, rfl⟩ := Option.map_eq_some_iff.mp e
    exact .inl (.inl (.inl ⟨a, _, _, .int j, rfl, rfl, h1, by rw [atI_map, e1]; rfl, k.same S (.int _)⟩))
  · cases hx.str
    cases hy.int
    split at e
    · rename_i hz
      obtain ⟨j, e1, rfl⟩ := Option.map_eq_some_iff.mp e
      exact .inr ⟨_, _, j, rfl, rfl, hz, e1, k.same S (.str _)⟩
    · cases e
  · rename_i kvs
    cases ek : keyD y with
    | none => rw [ek] at e; cases e
    | some kk =>
      rw [ek] at e
      obtain ⟨a, o, rfl, g, _, q⟩ := DT.dget S hx hy (r := some d) (by show (keyD y).map _ = _; rw [ek]; exact congrArg some e)
      obtain ⟨v', rfl, r⟩ := q d rfl
      exact .inl (.inr ⟨a, v', rfl, g, k.same S r⟩)
  · rename_i kvs
    cases ek : tkeyD y with
    | none => rw [ek] at e; cases e
    | some kk =>
      rw [ek] at e
      obtain ⟨a, o, rfl, g, _, q⟩ := DT.dget S hx hy (r := some d) (by show (tkeyD y).map _ = _; rw [ek]; exact congrArg some e)
      obtain ⟨v', rfl, r⟩ := q d rfl
      exact .inl (.inr ⟨a, v', rfl, g, k.same S r⟩)
  · cases e

/-! ### slices -/
def rSlAll (K : PySem.W.Frag) : V → Option Int → Option Int → Hp → VK → Prop := fun x lo hi H Q => (rSlL K x lo hi H Q ∨ rSlA K x lo hi H Q) ∨ rSlS x lo hi H Q
theorem sl_all {X : Cx} : SlR X (rSlAll X.K) := (sl_list.or sl_tupA).or sl_str
theorem cut_rel {ds : List D} {vs : List V} (r : DRs T F ds vs) (lo hi : Option Int) : DRs T F (cutD ds lo hi) (cutV vs lo hi) := by
  unfold cutD cutV
  rw [r.length]
  exact (r.drop _).take _
theorem cut_all {vs : List V} {lo hi : Option Int} (h : HT.sIx vs.length 0 lo = 0 ∧ HT.sIx vs.length vs.length hi = vs.length) {ds : List D} (e : ds.length = vs.length) : cutD ds lo hi = ds := by
  unfold cutD
  rw [e, h.1, h.2]
  simp [← e]
theorem sl_ok (S : Sim T F c σ H) {Q : VK} {x : D} {v : V} {lo hi : Option Int} {w : W} (hx : DT T F H x v) (e : slD x lo hi = some w) (k : Kont T σ F c H Q w) : rSlAll T.K v lo hi H Q := by
  unfold slD at e
  split at e
  · cases e
    obtain ⟨a, vs, rfl, h1, r⟩ := hx.lst S.sub
    exact .inl (.inl ⟨a, vs, rfl, .of h1, fun p hp => k.lst S (cut_rel r lo hi) hp⟩)
  · cases e
    obtain ⟨a, vs, rfl, h1, r⟩ := hx.tup
    refine .inl (.inr ⟨a, vs, rfl, .of (S.sub _ _ h1), fun z => ?_, fun _ p hp => k.tup S (cut_rel r lo hi) hp⟩)
    rw [cut_all z r.length] at k
    exact k.same S (.tup h1 r)
  · cases e
    obtain ⟨a, rfl, h1⟩ := hx.scr S.sub
    rename_i ns
    refine .inl (.inl ⟨a, _, rfl, h1, fun p hp => ?_⟩)
    have e : cutV (ns.map V.int) lo hi = (cutI ns lo hi).map V.int := by
      unfold cutV cutI
      rw [List.length_map, List.map_take, List.map_drop]
    rw [e]
    exact k.lst S (.of_ints _) hp
  · split at e
    · rename_i hz
      cases e
      cases hx.str
      exact .inr ⟨_, rfl, hz, k.same S (.str _)⟩
    · cases e
  · cases e
end
end Cl

/-! Cl, part Ea: list.count of truth values. -/
namespace Cl
open PySem PySem.Spec PyProof.Rows L2
def rCntD (K : PySem.W.Frag) : V → List V → Hp → VK → Prop := fun x xs H Q => ∃ (a : Addr) (y : V) (d : PyData) (ds : List PyData), x = V.ref a ∧ xs = [y] ∧ Dp K H (V.ref a) (.list ds) ∧ Dp K H y d ∧ PyData.plainAll ds = true ∧ d.plain = true ∧ d.depth ≤ 60 ∧
  Q (.int (ds.countP fun z => PyData.eqv z d : Nat)) H
theorem mt_countD {X : Cx} (hu : X.A.units + 65 < cLine) : MtR X "list.count" (rCntD X.K) := by
  intro pins s σ H x xs v us Q I rx rxs h
  obtain ⟨a, y, d, ds, rfl, rfl, hl, hy, pl, pd, hdep, q⟩ := h
  cases rx
  match us, rxs with
  | [uy], .cons ry .nil =>
    obtain ⟨bs, r1⟩ := Dp.reads I d y uy hy ry
    cases hl with
    | lst hs ha =>
      obtain ⟨its, rv, lst, hlen⟩ := I.list hs
      obtain ⟨as, h4⟩ := Dp.readsAll I ds _ its ha rv
      exact PySem.SeqAt.count_list_data lst.isList (by simpa using h4) r1 pl pd (by omega) ⟨.int _, H, I.tok _, ⟨_, rfl⟩, q⟩
def rCntB (K : PySem.W.Frag) : V → List V → Hp → VK → Prop := fun x xs H Q => ∃ (a : Addr) (bs : List Bool) (b : Bool), x = V.ref a ∧ xs = [V.bl b] ∧ SqL K H a (bs.map V.bl) ∧ Q (.int (bs.count b : Nat)) H
theorem bls_dp {K : PySem.W.Frag} {H : Hp} : ∀ bs : List Bool, DpAll K H (bs.map V.bl) (bs.map PyData.bool)
  | [] => .nil
  | b :: bs => .cons (.bl b) (bls_dp bs)
theorem bls_plain : ∀ bs : List Bool, PyData.plainAll (bs.map PyData.bool) = true
  | [] => rfl
  | b :: bs => by
    show (PyData.plain (.bool b) && PyData.plainAll (bs.map PyData.bool)) = true
    rw [bls_plain bs]
    rfl
theorem bls_cnt (b : Bool) : ∀ bs : List Bool, ((bs.map PyData.bool).countP fun z => PyData.eqv z (.bool b)) = bs.count b
  | [] => rfl
  | c :: bs => by
    rw [List.map_cons, List.countP_cons, List.count_cons, bls_cnt b bs]
    cases b <;> cases c <;> rfl
theorem mt_cntB {X : Cx} (hu : X.A.units + 65 < cLine) : MtR X "list.count" (rCntB X.K) := by
  intro pins s σ H x xs v us Q I rx rxs h
  obtain ⟨a, bs, b, rfl, rfl, hs, q⟩ := h
  exact mt_countD hu pins s σ H (.ref a) [.bl b] v us Q I rx rxs ⟨a, .bl b, .bool b, bs.map PyData.bool, rfl, rfl, .lst hs (bls_dp bs), .bl b, bls_plain bs, rfl, Nat.zero_le _, by rw [bls_cnt]; exact q⟩
end Cl

/-! Cl, part F: changing methods; the look at a text (chk); contexts. -/
namespace Cl
open PySem PySem.Spec PyProof.Rows L2
section
variable {T : Tb} {F F' H H' : Hp} {c c' : Sg} {σ : L2.St} {Wx : WX}
/-! ### changing methods -/
def Mut.nm : Mut → Str
  | .append => "append" | .pop => "pop" | .popAt => "pop" | .extend => "extend" | .update => "update"
def rUpdate : V → List V → Hp → VK → Prop := fun x vs H Q => ∃ d o kvs more, x = .ref d ∧ vs = [.ref o] ∧ d ≠ o ∧ H d = some (.dK kvs) ∧ H o = some (.dK more) ∧ kvs.length + more.length ≤ sizeLine ∧ Q .non (upd H d (.dK (mergeK kvs more)))
theorem mt_update {X : Cx} : MtM X "dict.update" rUpdate := by
  intro pins s σ H x vs v us Q I rx rv h
  obtain ⟨d, o, kvs, more, rfl, rfl, hne, hd, ho, hz, q⟩ := h
  cases rx
  obtain ⟨u, rfl, ru⟩ := rv.one
  cases ru
  obtain ⟨z1, nd, vs1, r1, e1⟩ := dk_of I.hok hd
  obtain ⟨z2, no, vs2, r2, e2⟩ := dk_of I.hok ho
  refine call_meetsIn PySem.F.slot_dict_update e1.typeIs PySem.F.entry_dict_update (PySem.F.args_dict_update_2 _ _) (meets_dict_update (mixKind X.prog X.w) d o hne no) ⟨vs1, vs2, e1, e2, by rw [← r1.length, ← r2.length]; exact hz, fun h' hd' _ sb => ?_⟩
  have he : ∃ q, h'.get? d = some q := let ⟨q, _, _, hq, _⟩ := hd'; ⟨q, hq⟩
  have hl : (mergeK kvs more).length ≤ sizeLine := Nat.le_trans (length_mergeK more kvs) hz
  exact ⟨.non, _, d_write I (by rw [hd]; exact True.intro) sb he (dk_new hl nd (KV.merge r2 r1) hd'), rfl, q⟩
/-! ### asking methods -/
def Mth.nm : Mth → Str
  | .lcount => "count" | .scount => "count" | .join => "join" | .sindex => "index" | .lindex => "index"
def Mth.ty : Mth → String
  | .lcount => "list" | .lindex => "list" | .scount => "str" | .join => "str" | .sindex => "str"
def rMth (K : PySem.W.Frag) : Mth → V → List V → Hp → VK → Prop
  | .lcount => fun x xs H Q => rCntI K x xs H Q ∨ rCntB K x xs H Q
  | .lindex => rIndex K
  | .scount => fun x xs H Q => ∃ a b, x = .str a ∧ xs = [.str b] ∧ Q (.int (Txt.count a b)) H
  | .join => fun x xs H Q => ∃ a p, ∃ ys : List Str, x = .str a ∧ xs = [.ref p] ∧ (SqL K H p (ys.map V.str) ∨ SqT K H p (ys.map V.str)) ∧ (ys.map (·.length)).sum + ys.length * a.length ≤ 16777216 ∧ Q (.str (Txt.join a ys)) H
  | .sindex => fun x xs H Q => ∃ a b i rest, x = .str a ∧ xs = [.str b] ∧ Builtin.Str.occurrences a b 0 a.length 1 = i :: rest ∧ Q (.int (i : Nat)) H
theorem mth_ty (S : Sim T F c σ H) {m : Mth} {d : D} {v : V} (h : DT T F H d v) (e : mthTy m d = true) : tyV T.K m.ty v H := by
  cases m <;> cases d <;> first
    | (cases e; done)
    | (obtain ⟨a, us, rfl, h1, _⟩ := h.lst S.sub; exact .inl ⟨rfl, us, .of h1⟩)
    | (cases h.str; rfl)
theorem strs_rel : ∀ {ds : List D} {vs : List V} {ys : List Str}, DRs T F ds vs → strsD ds = some ys → vs = ys.map V.str
  | [], _, _, .nil, e => by simp [strsD] at e; subst e; rfl
  | d :: ds, _, ys, .cons r t, e => by
    cases d <;> simp only [strsD] at e <;> first
      | (cases e; done)
      | (obtain ⟨zs, e1, rfl⟩ := Option.map_eq_some_iff.mp e
         cases r
         rw [strs_rel t e1]; rfl)
theorem eqb_flat {d e : D} {v u : V} (h1 : DR T F d v) (h2 : DR T F e u) (f1 : flatD d = true) (f2 : flatD e = true) : eqV v u = D.eqb d e := by
  cases h1 <;> first
    | (cases f1; done)
    | (cases h2 <;> first | (cases f2; done) | rfl | (simp [eqV, D.eqb]; done) | (rename_i a b; cases a <;> simp [eqV, D.eqb]; done) | (rename_i a b; cases b <;> simp [eqV, D.eqb]; done) | (rename_i a b; cases a <;> cases b <;> rfl))
theorem mth_ok (S : Sim T F c σ H) {Q : VK} {m : Mth} {x : D} {v : V} {ds : List D} {vs : List V} {w : W} (hx : DT T F H x v) (h : DTs T F H ds vs) (e : mthop m x ds = some w) (k : Kont T σ F c H Q w) : rMth T.K m v vs H Q := by
  unfold mthop at e
  split at e
  · obtain ⟨u, rfl, g⟩ := h.one
    cases g.int
    obtain ⟨ns, e1, rfl⟩ := Option.map_eq_some_iff.mp e
    obtain ⟨a, us, rfl, h1, r⟩ := hx.lst S.sub
    exact .inl ⟨a, ns, _, rfl, rfl, .of (by rw [← r.ints e1]; exact h1), k.same S (.int _)⟩
  · obtain ⟨u, rfl, g⟩ := h.one
    cases g.bl
    obtain ⟨bs, e1, rfl⟩ := Option.map_eq_some_iff.mp e
    obtain ⟨a, us, rfl, h1, r⟩ := hx.lst S.sub
    exact .inr ⟨a, bs, _, rfl, rfl, .of (by rw [← r.bls e1]; exact h1), k.same S (.int _)⟩
  · rename_i xs y
    split at e
    · rename_i hf
      rw [Bool.and_eq_true] at hf
      obtain ⟨u, rfl, g⟩ := h.one
      obtain ⟨j, e1, rfl⟩ := Option.map_eq_some_iff.mp e
      obtain ⟨a, us, rfl, h1, r⟩ := hx.lst S.sub
      have gy := g.flat hf.1
      obtain ⟨hj, hp, hm⟩ := List.findIdx?_eq_some_iff_getElem.mp e1
      obtain ⟨z, hz, rz⟩ := r.get (List.getElem?_eq_getElem hj)
      have fl : ∀ (n : Nat) (d : D), xs[n]? = some d → flatD d = true := fun n d hd => List.all_eq_true.mp hf.2 d (List.mem_of_getElem? hd)
      refine ⟨a, us, u, j, z, rfl, rfl, .of h1, gy.flat hf.1, r.flat hf.2, hz, ?_, fun n z' hn hz' => ?_, k.same S (.int _)⟩
      · rw [eqb_flat rz gy (fl _ _ (List.getElem?_eq_getElem hj)) hf.1]; exact hp
      · obtain ⟨d', hd', rd'⟩ := r.get' hz'
        rw [eqb_flat rd' gy (fl _ _ hd') hf.1]
        have := hm n hn
        obtain ⟨hn', ed⟩ := List.getElem?_eq_some_iff.mp hd'
        rw [ed] at this
        simpa using this
    · cases e
  · obtain ⟨u, rfl, g⟩ := h.one
    cases g.str
    cases hx.str
    cases e
    exact ⟨_, _, rfl, rfl, k.same S (.int _)⟩
  · obtain ⟨u, rfl, g⟩ := h.one
    cases hx.str
    obtain ⟨ys, e1, e⟩ := Option.bind_eq_some_iff.mp e
    split at e
    · rename_i hz
      cases e
      obtain ⟨a, us, rfl, h1, r⟩ := g.lst S.sub
      exact ⟨_, a, ys, rfl, rfl, .inl (.of (by rw [← strs_rel r e1]; exact h1)), hz, k.same S (.str _)⟩
    · cases e
  · obtain ⟨u, rfl, g⟩ := h.one
    cases hx.str
    obtain ⟨ys, e1, e⟩ := Option.bind_eq_some_iff.mp e
    split at e
    · rename_i hz
      cases e
      obtain ⟨a, us, rfl, h1, r⟩ := g.tup
      exact ⟨_, a, ys, rfl, rfl, .inr (.of (by rw [← strs_rel r e1]; exact S.sub _ _ h1)), hz, k.same S (.str _)⟩
    · cases e
  · obtain ⟨u, rfl, g⟩ := h.one
    cases g.str
    cases hx.str
    split at e
    · rename_i i rest ho
      cases e
      exact ⟨_, _, i, rest, rfl, rfl, ho, k.same S (.int _)⟩
    · cases e
  · cases e
def rMut : Mut → V → List V → Hp → VK → Prop
  | .append => rAppend | .pop => rPop | .popAt => rPopAt | .extend => rExtend | .update => rUpdate
theorem mut_ok (S : Sim T F c σ H) {Q : VK} {m : Mut} {i : Nat} {w w' : W} {ds : List D} {vs : List V} {d : D} {v : V} (hi : c[i]? = some (some w)) (hv : σ[i]? = some (some v)) (h : DRs T F ds vs) (e : mutop m w ds = some (d, w'))
    (k : ∀ F' r H', Stp T σ F c H F' (c.set i (some w')) H' → DR T F' d r → Q r H') : rMut m v vs H Q ∧ w.kind = m.kd := by
  unfold mutop at e
  split at e
  · split at e
    · rename_i xs d0 hl
      cases e
      obtain ⟨u, h1, h2⟩ := S.at_ i _ hi
      rw [hv] at h1
      cases h1
      obtain ⟨a, us, rfl, fa, ha, r⟩ := h2
      cases h with
      | cons r0 t =>
        cases t
        refine ⟨⟨a, us, _, rfl, rfl, ha, by rw [← r.length]; exact hl, k _ _ _ (S.write hi rfl hv rfl ⟨a, _, rfl, fa, upd_same, r.append (.cons r0 .nil)⟩) .non⟩, rfl⟩
    · cases e
  · split at e
    · rename_i xs y hy
      cases e
      obtain ⟨u, h1, h2⟩ := S.at_ i _ hi
      rw [hv] at h1
      cases h1
      obtain ⟨a, us, rfl, fa, ha, r⟩ := h2
      cases h
      rw [r.length] at hy
      obtain ⟨z, hz, rz⟩ := r.get hy
      exact ⟨⟨a, us, z, rfl, rfl, ha, hz, k _ _ _ (S.write hi rfl hv rfl ⟨a, _, rfl, fa, upd_same, r.dropLast⟩) rz⟩, rfl⟩
    · cases e
  · split at e
    · rename_i xs j hj
      split at e
      · rename_i n hn
        split at e
        · rename_i y hy
          cases e
          obtain ⟨u, h1, h2⟩ := S.at_ i _ hi
          rw [hv] at h1
          cases h1
          obtain ⟨a, us, rfl, fa, ha, r⟩ := h2
          cases h with
          | cons r0 t =>
            cases t
            cases r0
            obtain ⟨z, hz, rz⟩ := r.get hy
            exact ⟨⟨a, us, j, n, z, rfl, rfl, ha, hj.1, hj.2, by rw [← r.length]; exact hn, hz, k _ _ _ (S.write hi rfl hv rfl ⟨a, _, rfl, fa, upd_same, r.eraseIdx n⟩) rz⟩, rfl⟩
        · cases e
      · cases e
    · cases e
  · split at e
    · rename_i xs zs hl
      cases e
      obtain ⟨u, h1, h2⟩ := S.at_ i _ hi
      rw [hv] at h1
      cases h1
      obtain ⟨a, us, rfl, fa, ha, r⟩ := h2
      cases h with
      | cons r0 t =>
        cases t
        cases r0 with
        | lst hb rz =>
          exact ⟨⟨a, _, us, _, rfl, rfl, ha, S.sub _ _ hb, by rw [← r.length, ← rz.length]; exact hl, k _ _ _ (S.write hi rfl hv rfl ⟨a, _, rfl, fa, upd_same, r.append rz⟩) .non⟩, rfl⟩
    · cases e
  · split at e
    · rename_i kvs ys hl
      cases e
      obtain ⟨u, h1, h2⟩ := S.at_ i _ hi
      rw [hv] at h1
      cases h1
      obtain ⟨a, us, rfl, fa, ha, e1, r⟩ := h2
      cases h with
      | cons r0 t =>
        cases t
        cases r0 with
        | dk hb e2 rz =>
          have l1 := congrArg List.length e1
          have l2 := congrArg List.length e2
          simp only [List.length_map] at l1 l2
          obtain ⟨g1, g2⟩ := drs_merge e2 rz e1 r
          refine ⟨⟨a, _, us, _, rfl, rfl, fun z => ?_, ha, S.sub _ _ hb, by omega, k _ _ _ (S.write hi rfl hv rfl ⟨a, _, rfl, fa, upd_same, g1, g2⟩) .non⟩, rfl⟩
          rw [z, hb] at fa; cases fa
    · cases e
  · cases e
end

/-! ### the look -/
/-- names of the module -/
structure Gt where
  fn : List (Str × Nat)
  io : List (List Nat)
  con : List (Str × D)
  cls : List (Str × Nat)
  cfs : List (List Str)
  /-- nothing is being handled -/
  cm : Bool
  /-- the defs that are told a lambda -/
  lm : List (Str × Nat)
  /-- within a suite that holds an error: the error's name, its class -/
  ei : Option (Str × Nat)
  /-- which of the errors are of a class -/
  isx : List (Str × List (Nat × Bool))
  /-- the errors' classes, what each keeps -/
  xc : List (Str × Nat × Option Str)
  /-- the class that the except clauses name, which errors are of it -/
  cat : Option (Str × List Nat)
  /-- no guard is up; the defs that want that -/
  gd : Bool
  fng : List (Str × Nat)
def visB (sc : Scope) (x : Str) : Bool := match sc.names.lookup x with
  | some .local => true
  | some .cell => true
  | some .free => true
  | _ => false
def locB (sc : Scope) (x : Str) : Bool := match sc.names.lookup x with
  | some .local => true
  | some .cell => true
  | _ => false
def varB (N : List Str) (sc : Scope) (i : Nat) : Expr → Bool
  | .Name x _ => decide (N[i]? = some x) && visB sc x && !(x == ("__debug__" : Str)) && !(x == ("__classdict__" : Str))
  | _ => false
def glB (sc : Scope) (x : Str) : Bool := decide (sc.names.lookup x = some .globalImplicit) && !(x == ("__debug__" : Str))
/-- constants -/
def sameD : D → D → Bool
  | .non, .non => true
  | .bl a, .bl b => a == b
  | .int a, .int b => decide (a = b)
  | .str a, .str b => decide (a = b)
  | _, _ => false
theorem sameD_eq {a b : D} (h : sameD a b = true) : a = b := by
  unfold sameD at h
  split at h <;> simp_all
def conD (Γ : Gt) (sc : Scope) : Expr → Option D
  | .Constant (.int n) _ _ => some (.int n)
  | .Constant (.str x) _ _ => some (.str x)
  | .Constant (.bool b) _ _ => some (.bl b)
  | .Constant .none _ _ => some .non
  | .Name x _ => if glB sc x then Γ.con.lookup x else none
  | _ => none
def conB (Γ : Gt) (sc : Scope) (d : D) (e : Expr) : Bool := match conD Γ sc e with
  | some d' => sameD d d'
  | none => false
def clsB (Γ : Gt) (sc : Scope) (k : Cls1) : Expr → Bool
  | .Name x _ => glB sc x && match k with
    | .int => decide (x = "int") | .bool => decide (x = "bool") | .str => decide (x = "str") | .tuple => decide (x = "tuple") | .list => decide (x = "list") | .dict => decide (x = "dict")
    | .own c => decide (Γ.cls.lookup x = some c)
  | _ => false
def clssB (Γ : Gt) (sc : Scope) : List Cls1 → List Expr → Bool
  | [], [] => true
  | k :: ks, e :: es => clsB Γ sc k e && clssB Γ sc ks es
  | _, _ => false
def noSlice : Expr → Bool
  | .Slice _ _ _ _ => false
  | _ => true
def noSet : Expr → Bool
  | .Set _ _ _ => false
  | _ => true
def noStar : Expr → Bool
  | .Starred _ _ => false
  | _ => true
def plainT : Expr → Bool
  | .UnaryOp .Not _ _ => false
  | .BoolOp _ _ _ => false
  | .IfExp _ _ _ _ => false
  | .Compare _ _ _ _ => false
  | _ => true
/-- what yields bools alone -/
def boolE : Ex → Bool
  | .not _ => true
  | .and _ _ => true
  | .or _ _ => true
  | .cmp _ _ _ => true
  | .chn _ _ _ _ _ => true
  | _ => false
def isIo : Ex → Option Nat
  | .io i => some i
  | _ => none
/-- where each class has an attribute -/
def fldB (Γ : Gt) (ks : List (Nat × Nat)) (f : Str) : Bool := ks.all fun p => decide (p.1 < Γ.cfs.length) && decide ((Γ.cfs.getD p.1 [])[p.2]? = some f)
/-- what stands ahead of a method's name -/
def baseB : Expr → Bool
  | .Name _ _ => true
  | .Attribute _ _ _ => true
  | .Subscript _ _ _ => true
  | _ => false

/-- what stands ahead of an asking method's name -/
def baseC : Expr → Bool
  | .Name _ _ => true
  | .Constant (.str _) _ _ => true
  | .Attribute _ _ _ => true
  | .Subscript _ _ _ => true
  | .Call _ (_ :: _) _ _ => true
  | _ => false

mutual
def tgB (N : List Str) (sc : Scope) (pr : List Nat) : Tg → Expr → Bool
  | .nm i, .Name x _ => decide (N[i]? = some x) && locB sc x && !pr.contains i
  | .tp ts, .Tuple es _ _ => tgsB N sc pr ts es
  | _, _ => false
def tgsB (N : List Str) (sc : Scope) (pr : List Nat) : List Tg → List Expr → Bool
  | [], [] => true
  | t :: ts, .Starred _ _ :: es => false
  | t :: ts, e :: es => tgB N sc pr t e && tgsB N sc pr ts es
  | _, _ => false
end
/-- a target stays within the block's own slots -/
def tgOwn (own : List Nat) : Tg → Bool
  | .nm i => own.contains i
  | .tp ts => ts.all fun t => match t with
    | .nm i => own.contains i
    | _ => false
def ownNames (N : List Str) : List Nat → Option (List (Str × Nat))
  | [] => some []
  | i :: r => match N[i]?, ownNames N r with
    | some x, some q => some ((x, i) :: q)
    | _, _ => none

/-- the pattern of [::-1] -/
def isRev : Option Expr → Option Expr → Option Expr → Bool
  | none, none, some (.UnaryOp .USub (.Constant (.int n) _ _) _) => decide (n = 1)
  | _, _, _ => false
/-- the look in mode m (0: a value, 1: a test, 2: walked), of what is looked at as a value -/
def gen (m : Nat) (x : Expr) (v : Bool) : Bool := match m with
  | 0 => v
  | 1 => plainT x && v
  | _ => noSet x && v
/-- no parameters -/
def noPar : Arguments → Bool
  | ⟨[], [], none, [], [], none, []⟩ => true
  | _ => false
mutual
def chk (Γ : Gt) (N : List Str) : Ex → Scope → Nat → Expr → Expr → Bool
  | .var i, sc, m, _, x => gen m x (varB N sc i x)
  | .io _, _, _, _, _ => false
  | .con d, sc, m, _, x => gen m x (conB Γ sc d x)
  | .bin o a b, sc, m, _, x => gen m x (match x with
    | .BinOp l op r _ => decide (op = bopO o) && chk Γ N a sc 0 l l && chk Γ N b sc 0 r r
    | _ => false)
  | .rpr a, sc, m, _, x => gen m x (match x with
    | .Call (.Name x _) [e] [] _ => Γ.gd && glB sc x && decide (x = "repr") && noStar e && chk Γ N a sc 0 e e
    | _ => false)
  | .neg a, sc, m, _, x => gen m x (match x with
    | .UnaryOp .USub e _ => chk Γ N a sc 0 e e
    | _ => false)
  | .not a, sc, m, _, x => decide (m ≤ 1) && match x with
    | .UnaryOp .Not e _ => chk Γ N a sc m e e
    | _ => false
  | .and a b, sc, m, _, x => decide (m ≤ 1) && match x with
    | .BoolOp .And (x :: y :: r) p => chk Γ N a sc m x x && match r with
      | [] => chk Γ N b sc m y y
      | z :: r => chk Γ N b sc m y (.BoolOp .And (y :: z :: r) p)
    | _ => false
  | .or a b, sc, m, _, x => decide (m ≤ 1) && match x with
    | .BoolOp .Or (x :: y :: r) p => chk Γ N a sc m x x && match r with
      | [] => chk Γ N b sc m y y
      | z :: r => chk Γ N b sc m y (.BoolOp .Or (y :: z :: r) p)
    | _ => false
  | .cmp o a b, sc, m, _, x => decide (m ≤ 1) && match x with
    | .Compare l [op] [r] _ => decide (op = copO o) && !behindInMarks op r && chk Γ N a sc 0 l l && chk Γ N b sc 0 r r
    | _ => false
  | .chn o o' a b d, sc, m, _, x => decide (m ≤ 1) && match x with
    | .Compare l [op, op'] [r, s] _ => decide (op = copO o) && decide (op' = copO o') && !lastMarks [op, op'] [r, s] && chk Γ N a sc 0 l l && chk Γ N b sc 0 r r && chk Γ N d sc 0 s s
    | _ => false
  | .ite d a b, sc, m, _, x => gen m x (match x with
    | .IfExp t x y _ => chk Γ N d sc 1 t t && chk Γ N a sc 0 x x && chk Γ N b sc 0 y y
    | _ => false)
  | .call f as, sc, m, _, x => gen m x (match x with
    | .Call (.Name x _) (e :: es) [] _ => glB sc x && (decide (Γ.fn.lookup x = some f) || (Γ.gd && decide (Γ.fng.lookup x = some f))) && chkAs Γ N as sc (e :: es)
    | _ => false)
  | .blt b as, sc, m, _, x => gen m x (match x with
    | .Call (.Name x _) (e :: es) [] _ => Γ.cm && glB sc x && decide (x = b.nm) && chks Γ N as sc (e :: es)
    | _ => false)
  | .isi a tp ks, sc, m, _, x => gen m x (match x with
    | .Call (.Name x _) [e, t] [] _ => glB sc x && decide (x = "isinstance") && chk Γ N a sc 0 e e && noStar e && match tp, ks, t with
      | false, [k], t => clsB Γ sc k t
      | true, ks, .Tuple es _ _ => clssB Γ sc ks es && decide (es.length ≤ 1000)
      | _, _, _ => false
    | _ => false)
  | .mth mm a as, sc, m, _, x => gen m x (match x with
    | .Call (.Attribute o at_ ap) (e :: es) [] p => baseC o && decide (at_ = mm.nm) && (ap.endLine == p.line) && decide (es.length < 9) && chk Γ N a sc 0 o o && chks Γ N as sc (e :: es)
    | _ => false)
  | .mut mm i as, sc, m, _, x => gen m x (match x with
    | .Call (.Attribute o at_ ap) es [] p => varB N sc i o && decide (at_ = mm.nm) && (ap.endLine == p.line) && (match es with
      | [] => (match mm with | .pop => true | _ => false) && (match as with | [] => true | _ => false)
      | _ :: _ => (match mm with | .pop => false | _ => true) && decide (es.length < 10) && chks Γ N as sc es)
    | _ => false)
  | .ix a b, sc, m, _, x => gen m x (match x with
    | .Subscript e s _ => noSlice s && chk Γ N a sc 0 e e && chk Γ N b sc 0 s s
    | _ => false)
  | .sl a lo hi, sc, m, _, x => gen m x (match x with
    | .Subscript e (.Slice l h none _) _ => chk Γ N a sc 0 e e && chkI Γ N lo sc l && chkI Γ N hi sc h
    | _ => false)
  | .rev a, sc, m, _, x => gen m x (match x with
    | .Subscript e (.Slice l h st _) _ => isRev l h st && chk Γ N a sc 0 e e
    | _ => false)
  | .fld a ks, sc, m, _, x => gen m x (match x with
    | .Attribute e f _ => baseB e && fldB Γ ks f && chk Γ N a sc 0 e e
    | _ => false)
  | .tup as, sc, m, _, x => gen m x (match x with
    | .Tuple es _ _ => chks Γ N as sc es && decide (es.length ≤ 1000)
    | _ => false)
  | .lst as, sc, m, _, x => gen m x (match x with
    | .List es _ => chks Γ N as sc es && decide (es.length ≤ 1000)
    | _ => false)
  | .rng as, sc, m, _, x => decide (m = 2) && match x with
    | .Call (.Name x _) (e :: es) [] _ => glB sc x && decide (x = "range") && decide (es.length ≤ 1) && chks Γ N as sc (e :: es)
    | _ => false
  | .lrg tp as, sc, m, _, x => gen m x (match x with
    | .Call (.Name f _) [.Call (.Name r _) (e :: es) [] _] [] _ => Γ.cm && glB sc f && decide (f = if tp then "tuple" else "list") && glB sc r && decide (r = "range") && decide (es.length ≤ 1) && chks Γ N as sc (e :: es)
    | _ => false)
  | .enm a, sc, m, t, x => decide (m = 2) && match t, x with
    | .Tuple _ _ _, .Call (.Name x _) [e] [] _ => glB sc x && decide (x = "enumerate") && noStar e && chk Γ N a sc 0 e e
    | _, _ => false
  | .zip a b, sc, m, t, x => decide (m = 2) && match t, x with
    | .Tuple _ _ _, .Call (.Name x _) [e, e2] [] _ => glB sc x && decide (x = "zip") && noStar e && noStar e2 && chk Γ N a sc 0 e e && chk Γ N b sc 0 e2 e2
    | _, _ => false
  | .lc own t it d e, sc, m, _, x => gen m x (match x with
    | .ListComp elt [⟨tg, iter, ifs, 0⟩] scope _ =>
      Γ.cm && chk Γ N it sc 2 tg iter && (match ownNames N own with
        | some on => blkC N sc scope on
        | none => false) && tgB N scope [] t tg && tgOwn own t && chkC Γ N d (relS scope sc) ifs && chk Γ N e (relS scope sc) 0 elt elt
    | _ => false)
  | .dc own t it d k v, sc, m, _, x => gen m x (match x with
    | .DictComp kx vx [⟨tg, iter, ifs, 0⟩] scope _ =>
      Γ.cm && chk Γ N it sc 2 tg iter && (match ownNames N own with
        | some on => blkC N sc scope on
        | none => false) && tgB N scope [] t tg && tgOwn own t && chkC Γ N d (relS scope sc) ifs && chk Γ N k (relS scope sc) 0 kx kx && chk Γ N v (relS scope sc) 0 vx vx
    | _ => false)
  | .ise i b, sc, m, _, x => gen m x (match x with
    | .Call (.Name f _) [.Name y _, .Name c _] [] _ => glB sc f && decide (f = "isinstance") && (match Γ.ei with
      | some (y', k) => decide (y = y') && decide (N[i]? = some y) && decide (sc.names.lookup y = some .local) && !(y == ("__debug__" : Str)) && !(y == ("__classdict__" : Str)) && glB sc c && (match Γ.isx.lookup c with
        | some bs => decide (bs.lookup k = some b)
        | none => false)
      | none => false)
    | _ => false)
  | .lamc g e, sc, m, _, x => gen m x (match x with
    | .Call (.Name f _) [.Lambda ps body scope _] [] _ => Γ.cm && glB sc f && decide (Γ.lm.lookup f = some g) && LamX.lamSB sc scope && noPar ps && chk { Γ with lm := [], gd := false } N e scope 0 body body
    | _ => false)
  | .dk kvs, sc, m, _, x => gen m x (match x with
    | .Dict [] [] _ => kvs.isEmpty
    | .Dict [some kx] [vx] _ => noStar kx && noStar vx && chks Γ N kvs sc [kx, vx]
    | _ => false)
  | .dt kvs, sc, m, _, x => gen m x (match x with
    | .Dict [] [] _ => kvs.isEmpty
    | .Dict [some kx] [vx] _ => noStar kx && noStar vx && chks Γ N kvs sc [kx, vx]
    | _ => false)
def chks (Γ : Gt) (N : List Str) : List Ex → Scope → List Expr → Bool
  | [], _, x => match x with
    | [] => true
    | _ => false
  | a :: as, sc, x => match x with
    | e :: es => noStar e && chk Γ N a sc 0 e e && chks Γ N as sc es
    | [] => false
def chkAs (Γ : Gt) (N : List Str) : List Ex → Scope → List Expr → Bool
  | [], _, x => match x with
    | [] => true
    | _ => false
  | a :: as, sc, x => match x with
    | e :: es => noStar e && (match isIo a with
      | some i => varB N sc i e
      | none => chk Γ N a sc 0 e e) && chkAs Γ N as sc es
    | [] => false
def chkI (Γ : Gt) (N : List Str) : Option Ex → Scope → Option Expr → Bool
  | none, _, x => match x with
    | none => true
    | _ => false
  | some a, sc, x => match x with
    | some e => chk Γ N a sc 0 e e
    | none => false
def chkC (Γ : Gt) (N : List Str) : Option Ex → Scope → List Expr → Bool
  | none, _, x => match x with
    | [] => true
    | _ => false
  | some a, sc, x => match x with
    | [e] => chk Γ N a sc 1 e e
    | _ => false
termination_by structural x => x
end
end Cl

/-! Cl, part Fa: errors of own classes: what is asked of them. -/
namespace Cl
open PySem PySem.Spec PyProof.Rows L2

/-- an error's class that has no __init__ of its own -/
structure Exc0 (K : PySem.W.Frag) (C : Addr) : Prop where
  ex : PySem.W.excIn K C PySem.HandSPX.veTail "ValueError.__new__" = true
  kp : PySem.W.keepIn K (.ref C) = true
  sb : PySem.W.subIn K (.ref C) (.type "BaseException") = some true
  ty : PySem.W.typeIn K (.ref C) = some (.type "type")
/-- C() -/
theorem pmk_zero {X : Cx} {C : Addr} {x : Str} {p pos : Pos} (R : Exc0 X.K C) (gC : X.mg x = some (.ref C)) (hg : Gl X x) (hdb : (x == ("__debug__" : Str)) = false) : PMk X (.Call (.Name x p) [] [] pos) (fun _ H Q => Q (.ref C) none H) := by
  intro pins s σ H Q I h
  refine wpAny_Call_Name_kw (ld_glob I hg gC ?_ hdb)
  refine PySem.W.callWith_K0 (first := []) I.kIn R.kp ?_
  obtain ⟨bm, N, nm, qn, bs, hdct, sn, sub, ab, col, dd, k0, k1, k2, k3, k5, mN, hC, hN, hni, T⟩ := exc_obj I.kIn R.ex
  refine wpAny_call_exc_subT (rest := []) PySem.F.excBase_ValueError T hC hN hni (fun h' e hm => ?_) (Nat.zero_le _)
  exact mk_of I hm (raises_own R.sb R.ty) h (I.hok.gone hm.new)
/-- the promise of an error's __init__ that keeps its one argument as f -/
def spX (K : PySem.W.Frag) (f : Str) : Sp := fun vs H Q _ => ∃ (a C : Addr) (y : V), vs = [.ref a, y] ∧ OexC K C ∧ PySem.W.findIn K (.ref C) f = some none ∧ H a = some (exo a C none) ∧
  ∀ dx, H dx = none → dx ≠ a → Q .non (upd (upd H dx (exd dx [(f, y)])) a (exo a C (some dx)))
/-- def __init__(self, y): self.f = y -/
def xiB (N : List Str) (f : Str) (st : Stmt) : Bool := match N, defBody st with
  | [n0, n1], [.Assign [.Attribute (.Name a _) g _] (.Name b _) _] => decide (a = n0) && decide (b = n1) && decide (g = f) && decide ((defScope st).names.lookup n0 = some .local) && decide ((defScope st).names.lookup n1 = some .local) &&
      !(n0 == ("__debug__" : Str)) && !(n0 == ("__classdict__" : Str)) && !(n1 == ("__debug__" : Str)) && !(n1 == ("__classdict__" : Str))
  | _, _ => false
end Cl

/-! Cl, part Fb: isinstance of a caught error, with or without a dict (after the kit's rule for one without). -/
namespace Cl
open PySem PySem.Spec PyProof.Rows L2 PySem.W PySem.Calls
section
variable {pg : Program} {wd : World} {B : Around} {Er : Value → Shared → Prop} {z : Shared} {K : Frag} {e D : Addr} {oe : Obj} {od : Option Obj}
theorem fobj_any {C : Addr} {nm : Str} {a g : Value} (h1 : (clsIn K C).isSome = true) (h2 : findIn K (.ref C) nm = some (some a)) (h3 : specialIn K a "__get__" = some (some g)) (h4 : takesIn K a = some true) : findObj K C od nm = some (.bind g a) := by
  obtain ⟨cd, e⟩ := Option.isSome_iff_exists.mp h1
  unfold findObj
  rw [e, Option.bind_some, h2, Option.bind_some]
  simp [h3, h4]
abbrev baseGa : Value := .builtin "BaseException.__getattribute__"
abbrev objGa : Value := .builtin "object.__getattribute__"
theorem cls_of_err {Q : Option Value → Shared → Prop} (C : ExcC K D) (kin : K.In z.heap) (I : InstAt z.heap e oe D od) (q : Q (some (.ref D)) { z with toks := z.toks + 1 }) :
    wpAny (model pg wd) B (getAttr? (.ref e) "__class__") Q Er z := by
  have some_ : (clsIn K D).isSome = true := by
    obtain ⟨cd, hc, _⟩ := any_some C.hd
    rw [hc]
    rfl
  obtain ⟨hp, g, dr, t, os⟩ := z
  have ty := I.type (M := model pg wd)
  have aGa := looks_findIn (M := model pg wd) kin C.hg
  have aGt := looks_findIn (M := model pg wd) kin C.hk
  have aCl := looks_find (M := model pg wd) kin I (fobj_any (od := od) some_ C.ha C.hn C.ht)
  have isX : Looks (model pg wd) hp (isInstance (.ref e) (.type "BaseException")) true :=
    ty.andThen (looks_subIn kin C.hs)
  have n0 : (false && onTheHeap baseGa) = false := rfl
  have n1 : (onTheHeap (Value.ref D) && baseGa == objGa) = false := by
    have : (baseGa == objGa) = false := by decide +kernel
    rw [this]
    rfl
  unfold getAttr?
  unfold getAttrBy?
  unfold getAttrBy
  refine wpAny_bind (wpAny_mkText ?_)
  refine wpAny_bind (wpAny_attempt ?_)
  refine wpAny_holding (wpAny_bind (ty.at ?_))
  refine wpAny_bind (aGa.at ?_)
  show wpAny _ _ (if (onTheHeap (Value.ref D) && baseGa == objGa) = true then _ else _) _ _ _
  rw [n1]
  rw [if_neg Bool.false_ne_true]
  unfold getAttrByItsOwn
  unfold hookBefore
  refine wpAny_bind ?_
  rw [if_pos (show onTheHeap (Value.ref D) = true from rfl)]
  refine aGt.at (wpAny_bind ?_)
  refine wpAny_attempt (wpAny_holding ?_)
  unfold callGetattribute
  rw [n0]
  rw [if_neg Bool.false_ne_true]
  unfold boundAndCalled
  rw [PySem.F.excAttr_ValueError.ga.bind (.ref e)]
  refine wpAny_bind (wpAny_pure ?_)
  show wpAny _ _ (call baseGa [.ref e, .str "__class__" t]) _ _ _
  refine wpAny_call ?_
  refine codeAny_call_builtin PySem.F.excAttr_ValueError.ga.plain PySem.F.entry_bexc_ga ?_
  refine @check_slot (model pg wd) _ _ ⟨hp, g, dr, t + 1, os⟩ "BaseException.__getattribute__" "BaseException" "__getattribute__" (.ref e) [.str "__class__" t] []
    _ (by decide +kernel) (by decide +kernel) isX (PySem.F.args_bexc_ga (.ref e) (.str "__class__" t)) ?_
  unfold Builtin.«object.__getattribute__»
  refine wpAny_bind (wpAny_of_eq (a := ((Value.ref e : Value), [Value.str "__class__" t])) (by first | rfl | (simp only [slotArgs]; rfl)) ?_)
  refine wpAny_bind (wpAny_pure ?_)
  refine wpAny_bind (ty.at ?_)
  refine wpAny_bind (aCl.at ?_)
  show wpAny _ _ (holding [Value.builtin "object.__class__"] (call (.builtin "getset_descriptor.__get__") [.builtin "object.__class__", .ref e, .ref D]) >>= ret) _ _ _
  refine wpAny_bind (wpAny_holding ?_)
  refine wpAny_call (class_get (s := ⟨hp, g, dr, t + 1, os⟩) (ox := oe) (od := od) kin I C.hm ?_)
  refine wpAny_pure ?_
  show wpAny _ _ (handedOut (.ref D)) _ _ _
  rw [handedOut_of (v := .ref D) rfl]
  first
    | exact wpAny_pure (wpAny_pure q)
    | exact wpAny_pure q
    | exact wpAny_pure (wpAny_bind (wpAny_pure (wpAny_pure q)))
theorem kitx_err (C : ExcC K D) : KitX K (.ref e) (.ref D) (fun h => InstAt h e oe D od) := by
  have cl : ∃ c1 c2 c3 c4, K.lookup D = some ⟨c1, c2, .cls c3, c4⟩ := by
    obtain ⟨cd, hc, _⟩ := any_some C.hd
    unfold clsIn at hc
    split at hc
    · rename_i c1 c2 c3 c4 ho
      exact ⟨c1, c2, c3, c4, ho⟩
    · cases hc
  obtain ⟨c1, c2, c3, c4, ho⟩ := cl
  refine ⟨fun _ _ _ I => I.type, fun _ _ X _ => ?_, fun h tp dd its n sl X ht => ?_, fun X I k => cls_of_err C X I k⟩
  · intro A' Q' E' s' k q
    unfold isType
    unfold loadHead
    exact wpAny_bind (wpAny_loadPart (k _ _ (X _ _ ho)) (wpAny_pure q))
  · refine Bool.eq_false_iff.mpr fun q => ?_
    cases Value.ref.inj (beq_iff_eq.mp q)
    cases (X _ _ ho).symm.trans ht
end
/-- the error that the suite holds, as isinstance sees it -/
theorem call_err {X : Cx} {a D : Addr} {oe : Obj} {d : Option Addr} {pn : List (Addr × Obj)} (C : ExcC X.K D) (hz : Zc (.ref D) d oe) (hf : ∃ vs, oe.data = .fields vs) :
    CallR (X.suite a ((a, oe) :: pn)) (.builtin "isinstance") (fun xs H Q => (∀ dd, d = some dd → ∃ fs, H dd = some (.xd fs)) ∧ rIsE X.K D a xs H Q) := by
  intro pins s σ H xs us Q I r h
  obtain ⟨hd, c, cv, b, rfl, hcv, eb, q⟩ := h
  match us, r with
  | [_, _], .cons rx (.cons rt .nil) =>
    cases rx
    cases hcv _ rt
    obtain ⟨at_, _⟩ := I.pin (a, oe) (List.mem_append.mpr (.inl List.mem_cons_self))
    obtain ⟨vs, hv⟩ := hf
    have J : ∃ od, PySem.W.InstAt s.heap a oe D od := by
      obtain ⟨oc, ob, oda, osl⟩ := oe
      obtain ⟨h1, h2⟩ := hz
      dsimp only at h1 h2 hv
      subst h1 h2 hv
      cases ob with
      | none => exact ⟨none, at_, rfl, rfl, trivial⟩
      | some dd =>
        obtain ⟨fs, hx⟩ := hd dd rfl
        obtain ⟨mA, ⟨ob, es, ep, hg, _⟩, _⟩ := I.hok dd _ hx
        exact ⟨some ob, at_, rfl, rfl, hg⟩
    obtain ⟨od, J⟩ := J
    exact PySem.W.kia_one (kitx_err C) I.kIn J eb (fun z => nomatch z) fun tk => ⟨.bl b, H, I.kept (t' := tk) fun _ _ z => z, rfl, q⟩
end Cl

/-! Cl, part Fc: defs that are called where no repr is under way. -/
namespace Cl
open PySem PySem.Spec PyProof.Rows L2

/-- a def's promise, kept wherever no guard is up -/
structure FnG (P : Program) (w : World) (K : PySem.W.Frag) (mg : Str → Option Value) (base : Heap) (CX : CXT) (k : Nat) (f : Addr) (fd : FuncData) (ps : List Str) (sp : Sp) : Prop where
  len : ∀ vs H Q E, sp vs H Q E → vs.length = ps.length
  run : ∀ (A : Around) (outer : List Env) (s : Shared) (H : Hp) (args : Args) (us : List Value) (vs : List V) (Q : VK) (E : XK), A.guards = some [] → Room k A → Env0 P w K mg base A outer s H → BindsTo s fd args (ps.zip us) → Vals vs us → sp vs H Q E →
    codeAny (model P w) A (.call (.ref f) args) (CR CX outer P w H s Q E) s
theorem FnG.of {P : Program} {w : World} {K : PySem.W.Frag} {mg : Str → Option Value} {base : Heap} {CX : CXT} {k : Nat} {f : Addr} {fd : FuncData} {ps : List Str} {sp : Sp} (F : FnOk P w K mg base CX k f fd ps sp) : FnG P w K mg base CX k f fd ps sp :=
  ⟨F.len, fun A outer s H args us vs Q E _ => F.run A outer s H args us vs Q E⟩
/-- a def by its body -/
theorem fnG_of {CX : CXT} {P : Program} {w : World} {K : PySem.W.Frag} {mg : Str → Option Value} {base : Heap} {k : Nat} {f : Addr} {name qual : Str} {params : Arguments} {body : List Stmt} {scope : Scope} {dV kV doc pm cdv ct oc : Value} {an od : Option Addr}
    {osl : Array (Option Value)} {N ps : List Str} {sp : Sp} (lk : K.lookup f = some ⟨oc, od, .func (PySem.W.fnOf name qual params body scope dV kV doc pm an cdv ct), osl⟩) (hcd : PySem.W.codeIn K cdv qual = true) (S : FnScope N ps scope)
    (len : ∀ vs H Q E, sp vs H Q E → vs.length = ps.length)
    (hb : ∀ (A : Around) (outer : List Env) (s : Shared) (H : Hp) (vs : List V) (Q : VK) (E : XK), A.guards = some [] → Room k (A.deeper (envOfC qual scope s.heap.objs.size f cdv)) → sp vs H Q E →
      ∃ t, PSs (cxOf CX P w K mg base N qual scope f cdv A outer s H E) body t ∧ t { nx := fun _ H' => Q .non H', rt := Q } (start N vs) H) :
    FnG P w K mg base CX (k + 1) f (PySem.W.fnOf name qual params body scope dV kV doc pm an cdv ct) ps sp :=
  ⟨len, fun A outer s H args us vs Q E hg hr e0 bd r hsp => LamX.run_ofS lk hcd S hr e0 bd r (len _ _ _ _ hsp) fun hr' => hb A outer s H vs Q E hg hr' hsp⟩
/-- f(e, ..) -/
theorem pe_callG {X : Cx} {CX : CXT} {k : Nat} {f : Addr} {fd : FuncData} {ps : List Str} {sp : Sp} {E : L2.St → XK} {x : Str} {p pos : Pos} {e : Expr} {es : List Expr} {t : TA} (F : FnG X.prog X.w X.K X.mg X.base CX k f fd ps sp) (gd : X.A.guards = some []) (hr : Room k X.A) (hg : Gl X x)
    (hm : X.mg x = some (.ref f)) (hk : PySem.W.keepIn X.K (.ref f) = true) (hb : Binds X.K fd ps []) (hx : ∀ σ, PassesAt CX X σ (E σ)) (ha : PA X (e :: es) t) (hdb : (x == ("__debug__" : Str)) = false) (he : starEach (e :: es) X.env = (false, eval e X.env) :: starEach es X.env)
    (hpl : (backTo pos (starEach es X.env)).any (·.1) = false) : PE X (.Call (.Name x p) (e :: es) [] pos) (tCallS sp E t) := by
  refine ⟨fun pins s σ H Q I h => wpAny_Call_Name_kw (ld_glob I hg hm ?_ hdb)⟩
  refine PySem.W.callWith_K (h₀ := X.base) I.ok.mod.kin hk ?_ he hpl
  refine thn (ha.run pos pins s σ H _ I h) fun us s1 ⟨vs, H1, J, r, q⟩ => ⟨J.kIn, ?_⟩
  have hl : us.length = ps.length := r.length.symm.trans (F.len _ _ _ _ q)
  have bd := hb s1 us J.kIn (by simpa using hl)
  rw [List.append_nil] at bd
  refine wpAny_call (codeAny_mono (F.run X.A X.stack s1 H1 ⟨us, []⟩ us vs Q (E σ) gd hr J.env0 bd r q) fun o s' hq => ?_)
  match o, hq with
  | .error u, hq => exact hx σ pins H1 s1 u s' J hq
  | .ok (.ret u), hq => exact J.after hq
end Cl

/-! Cl, part G: one rule a construct. -/
namespace Cl
open PySem PySem.Spec PyProof.Rows L2

/-- the promise of a def: what its clean run says -/
def spR (T : Tb) (P : Pg) (nc k f : Nat) (np : Nat) : Sp := fun vs H Q E => ∃ F ws, vs.length = np ∧ Sim T F (ws.map some) (vs.map some) H ∧
  match callN P nc k f ws with
  | .ok w os => ∀ F' v H', (∀ a o, F a = some o → F' a = some o) → (∀ a o, F' a = some o → H' a = some o) → (∀ a o, H a = some o → (∀ ps, o ≠ .tbl ps) → ¬ OwnA (ws.map some) (vs.map some) a → H' a = some o) → (∀ a, NV H' a → NV H a) → (∀ a o, F' a = some o → F a = some o ∨ NV H a ∨ OwnA (ws.map some) (vs.map some) a) → (∀ a ps, F' a ≠ some (.tbl ps)) → TB T H' →
      Paired (fun i o => ∃ u, vs[i]? = some u ∧ RS T F' H' o u) (ownIx 0 ws) os → RW T F' H H' w v → Q v H'
  | .exc c ds os => ∀ F' cls d H', (∀ a o, F a = some o → F' a = some o) → (∀ a o, F' a = some o → H' a = some o) → (∀ a o, H a = some o → (∀ ps, o ≠ .tbl ps) → ¬ OwnA (ws.map some) (vs.map some) a → H' a = some o) → (∀ a, NV H' a → NV H a) → (∀ a o, F' a = some o → F a = some o ∨ NV H a ∨ OwnA (ws.map some) (vs.map some) a) → (∀ a ps, F' a ≠ some (.tbl ps)) → TB T H' →
      Paired (fun i o => ∃ u, vs[i]? = some u ∧ RS T F' H' o u) (ownIx 0 ws) os → XR T F' H' c ds cls d → E cls d H'
  | .bad => False

/-- what g says when it is told x -/
def GR (T : Tb) (P : Pg) (nc k g : Nat) (x : D) (F H : Hp) (Q : VK) : Prop := ∃ w os, callN P nc k g [.d x] = .ok w os ∧ simpleW w = true ∧ ∀ F2 v H2, Stp T [] F [] H F2 [] H2 → RS T F2 H2 w v → Q v H2
/-- what g makes of the lambda's reading -/
def TTof (T : Tb) (P : Pg) (nc k g : Nat) : (XK → Hp → VK → Prop) → Hp → VK → Prop := fun tl H Q =>
  tl (fun cls d H' => ∃ F' e ds, Sim T F' [] [] H' ∧ XR T F' H' e ds cls d ∧ GR T P nc k g (.int ((e : Nat) : Int)) F' H' Q) H fun _ H' => ∃ F', Sim T F' [] [] H' ∧ GR T P nc k g .non F' H' Q
/-- what is known of a def g of the name x that is told a lambda, where the maker stands under A -/
structure LamG (T : Tb) (P : Pg) (nc k : Nat) (prog : Program) (w : World) (K : PySem.W.Frag) (mg : Str → Option Value) (base : Heap) (A : Around) (qual : Str) (code : Value) (x : Str) (g : Nat) : Prop where
  room : Room (5 * k + 4) A
  ex : ∃ (pg : Arguments) (bg : List Stmt) (sg : Scope) (dV kV doc pm cdv ct oc : Value) (an od : Option Addr) (osl : Array (Option Value)) (Ng : List Str) (a : Str) (c Pt : Addr),
    mg x = some (.ref (T.fa g)) ∧ PySem.W.keepIn K (.ref (T.fa g)) = true ∧ K.lookup (T.fa g) = some ⟨oc, od, .func (PySem.W.fnOf x x pg bg sg dV kV doc pm an cdv ct), osl⟩ ∧ PySem.W.codeIn K cdv x = true ∧ L2.Binds K (PySem.W.fnOf x x pg bg sg dV kV doc pm an cdv ct) [a] [] ∧
    FnScope Ng [a] sg ∧ Ng[0]? = some a ∧ Vis sg a ∧
    (∀ X' : Cx, X'.prog = prog → X'.w = w → X'.K = K → X'.mg = mg → X'.base = base → X'.A = A → LamX.GivesTo X' Ng x sg (T.fa g) cdv bg a (qual ++ "<lambda>") (TTof T P nc k g)) ∧
    LamX.TabB base mg c Pt ∧ code = .ref c ∧ (Pt, qual ++ "<lambda>") ∈ T.tl ∧ (∀ p ∈ T.tl, p.1 = Pt → p.2 = qual ++ "<lambda>") ∧ (a == ("__debug__" : Str)) = false ∧ (a == ("__classdict__" : Str)) = false
def bnames : List Str := ["isinstance", "range", "enumerate", "zip", "len", "abs", "int", "all", "any", "sum", "tuple", "list", "min", "max", "sorted", "bool", "str", "dict", "repr"]
/-- what a context knows -/
structure Gd (Γ : Gt) (T : Tb) (P : Pg) (nc k : Nat) (Wx : WX) (N : List Str) (sc : Scope) (X : Cx) : Prop where
  kT : X.K = T.K
  hN : X.N = N
  nd : N.Nodup
  hs : X.env.scope = sc
  calm : Γ.cm = true → X.calm = true
  un : X.A.units + 66 < cLine
  room : Γ.cm = true → Room (5 * k + 2) X.A
  blt : ∀ x ∈ bnames, X.mg x = none
  con : ∀ x d, Γ.con.lookup x = some d → ∃ u v, X.mg x = some u ∧ RelV v u ∧ ∀ F, DR T F d v
  cls : ∀ x c, Γ.cls.lookup x = some c → X.mg x = some (.ref (T.ca c)) ∧ c < nc
  fns : ∀ x f, Γ.fn.lookup x = some f → Γ.cm = true ∧ ∃ fd, P[f]? = some fd ∧ ((∃ fdd ps, FnOk X.prog X.w X.K X.mg X.base (CX X.prog X.w) (5 * k) (T.fa f) fdd ps (spR T P nc k f fd.np) ∧ X.mg x = some (.ref (T.fa f)) ∧ PySem.W.keepIn X.K (.ref (T.fa f)) = true ∧ Binds X.K fdd ps []) ∨
    ∃ c i fdd ps, fd.mkC = some (c, i) ∧ FnOk X.prog X.w X.K X.mg X.base (CX X.prog X.w) (5 * (k - 1)) (T.fa i) fdd ps (spR T P nc (k - 1) i (fd.np + 1)) ∧ X.mg x = some (.ref (T.ca c)) ∧ Mk X.K (T.ca c) (T.fa i) ∧ Binds X.K fdd ps [])
  gd : Γ.gd = true → X.A.guards = some []
  fng : ∀ x f, Γ.fng.lookup x = some f → Γ.cm = true ∧ ∃ fd fdd ps, P[f]? = some fd ∧ FnG X.prog X.w X.K X.mg X.base (CX X.prog X.w) (5 * k) (T.fa f) fdd ps (spR T P nc k f fd.np) ∧ X.mg x = some (.ref (T.fa f)) ∧ PySem.W.keepIn X.K (.ref (T.fa f)) = true ∧ Binds X.K fdd ps []
  tk : Takes X Wx
  cok : ClsOk T nc
  cfn : Γ.cfs.length = nc
  cfe : ∀ c, T.cf c = Γ.cfs.getD c []
  eic : Γ.cm = true → Γ.ei = none
  lms : ∀ x g, Γ.lm.lookup x = some g → LamG T P nc k X.prog X.w X.K X.mg X.base X.A X.env.qual X.env.code x g
  ies : ∀ i y n c bs b, Γ.ei = some (y, n) → Γ.isx.lookup c = some bs → bs.lookup n = some b → N[i]? = some y → sc.names.lookup y = some .local → (y == ("__debug__" : Str)) = false → (y == ("__classdict__" : Str)) = false → glB sc c = true → glB sc "isinstance" = true → ∀ p1 p2 p3 p4, PE X (.Call (.Name "isinstance" p1) [.Name y p2, .Name c p3] [] p4) (tE T Wx (ev nc (callN P nc k) (.ise i b)))
  xcs : ∀ x c o, Γ.xc.lookup x = some (c, o) → X.mg x = some (.ref (T.xa c)) ∧ match o with
    | none => Exc0 X.K (T.xa c)
    | some f => T.xf c = [f] ∧ OexC X.K (T.xa c) ∧ PySem.W.findIn X.K (.ref (T.xa c)) f = some none ∧ ∃ fi fdd ps, PySem.W.findIn X.K (.ref (T.xa c)) "__init__" = some (some (.ref fi)) ∧ PySem.W.typeIn X.K (.ref fi) = some (.type "function") ∧ FnOk X.prog X.w X.K X.mg X.base (CX X.prog X.w) 1 fi fdd ps (spX X.K f) ∧ Binds X.K fdd ps []

  kind : sc.kind = .function
section
variable {Γ : Gt} {T : Tb} {P : Pg} {nc k : Nat} {Wx : WX} {N : List Str} {sc : Scope} {X : Cx}
theorem Gd.u65 (G : Gd Γ T P nc k Wx N sc X) : X.A.units + 65 < cLine := by have := G.un; omega
theorem Gd.u1 (G : Gd Γ T P nc k Wx N sc X) : X.A.units + 1 < cLine := by have := G.un; omega
theorem Gd.nd' (G : Gd Γ T P nc k Wx N sc X) : X.N.Nodup := by rw [G.hN]; exact G.nd

abbrev evX (P : Pg) (nc k : Nat) : Ex → Sg → R Sg W := ev nc (callN P nc k)
/-- a value's reading -/
abbrev AE (T : Tb) (P : Pg) (nc k : Nat) (Wx : WX) (X : Cx) (e : Ex) (x : Expr) : Prop := PE X x (tE T Wx (evX P nc k e))
abbrev AO (T : Tb) (P : Pg) (nc k : Nat) (Wx : WX) (X : Cx) (e : Ex) (x : Expr) : Prop := PE X x (tO T Wx (opd e (evX P nc k e)))

theorem gl_of (G : Gd Γ T P nc k Wx N sc X) {x : Str} (h : glB sc x = true) : Gl X x ∧ (x == ("__debug__" : Str)) = false := by
  unfold glB at h
  rw [Bool.and_eq_true] at h
  refine ⟨?_, by simpa using h.2⟩
  show X.env.scope.names.lookup x = _
  rw [G.hs]
  exact of_decide_eq_true h.1
theorem vis_of (G : Gd Γ T P nc k Wx N sc X) {x : Str} (h : visB sc x = true) : Vis X.env.scope x := by
  rw [G.hs]
  unfold visB at h
  split at h <;> first | exact .inl (by assumption) | exact .inr (.inl (by assumption)) | exact .inr (.inr (by assumption)) | cases h
theorem var_ok (G : Gd Γ T P nc k Wx N sc X) {i : Nat} {x : Expr} (h : varB N sc i x = true) : PE X x (tVar i) := by
  unfold varB at h
  split at h
  · simp only [Bool.and_eq_true, Bool.not_eq_true', decide_eq_true_eq] at h
    obtain ⟨⟨⟨h1, h2⟩, h3⟩, h4⟩ := h
    exact pe_var (by rw [G.hN]; exact h1) (vis_of G h2) h3 h4
  · cases h

/-! ### names -/
theorem ae_var (G : Gd Γ T P nc k Wx N sc X) {i : Nat} {x : Expr} (h : varB N sc i x = true) : AE T P nc k Wx X (.var i) x := by
  refine (var_ok G h).impC fun σ H Q ⟨F, c, S, q⟩ => ?_
  simp only [evX, ev] at q
  split at q
  · rename_i w hw
    split at q
    · rename_i ow
      obtain ⟨F', v, h1, r, st⟩ := S.freezeSlot hw ow
      exact ⟨v, h1, q F' H st v ⟨r, fun z => nomatch z⟩⟩
    · rename_i ow
      obtain ⟨v, h1, r⟩ := S.at_ i w hw
      exact ⟨v, h1, q F H (.refl S) v ⟨r, fun z => absurd z ow⟩⟩
  · exact q.elim
theorem ao_of {e : Ex} {x : Expr} (h : AE T P nc k Wx X e x) (hv : ∀ i, e = .var i → PE X x (tVar i)) : AO T P nc k Wx X e x := by
  have gen : (∀ f : Sg → R Sg W, opd e f = fun σ => (f σ).bind fun w σ' => .ok (.val w.toD) σ') → AO T P nc k Wx X e x := fun he => by
    refine h.impC fun σ H Q ⟨F, c, S, q⟩ => ⟨F, c, S, ?_⟩
    rw [he] at q
    refine q.bind.mono fun w F1 c1 H1 he st q1 v r => ?_
    obtain ⟨F2, st2, r2, g2⟩ := st.freeze S r
    exact (q.bind' he st2) F2 H1 (.refl st2.sim) v r2
  cases e with
  | var i =>
    refine (hv i rfl).impC fun σ H Q ⟨F, c, S, q⟩ => ?_
    simp only [opd] at q
    split at q
    · rename_i w hw
      obtain ⟨v, h1, r⟩ := S.at_ i w hw
      exact ⟨v, h1, q F H (.refl S) v h1⟩
    · exact q.elim
  | _ => exact gen fun f => rfl
theorem ae_con (G : Gd Γ T P nc k Wx N sc X) {d : D} {x : Expr} (h : conB Γ sc d x = true) : AE T P nc k Wx X (.con d) x := by
  have fin : ∀ {v : V}, (∀ F, DR T F d v) → ∀ σ H Q, tE T Wx (evX P nc k (.con d)) σ H Q → tC v σ H Q := fun {v} r σ H Q ⟨F, c, S, q⟩ => q F H (.refl S) v ⟨r F, fun z => nomatch z⟩
  unfold conB at h
  split at h
  · rename_i d' e
    cases sameD_eq h
    unfold conD at e
    split at e
    · cases e; exact pe_int.impC (fin fun _ => .int _)
    · cases e; exact pe_str.impC (fin fun _ => .str _)
    · cases e; exact pe_bl.impC (fin fun _ => .bl _)
    · cases e; exact pe_non.impC (fin fun _ => .non)
    · split at e
      · rename_i g
        obtain ⟨u, v, h1, h2, h3⟩ := G.con _ _ e
        obtain ⟨g1, g2⟩ := gl_of G g
        exact (pe_glob g1 h1 h2 g2).impC (fin h3)
      · cases e
    · cases e
  · cases h

/-! ### operators -/
section
variable {σ : L2.St} {F : Hp} {c : Sg} {H : Hp} {Q : VK}
/-- what follows, seen from here -/
theorem Kont.of {F0 : Hp} {c0 : Sg} {H0 : Hp} {w : W} (st : Stp T σ F0 c0 H0 F c H) (q : ∀ F' H', Stp T σ F c H F' c H' → ∀ v, RW T F' H0 H' w v → Q v H') : Kont T σ F c H Q w :=
  fun F' v H' s r => q F' H' s v ⟨r.1, fun o a e => st.dom a (r.2 o a e)⟩
end
theorem ae_bin (G : Gd Γ T P nc k Wx N sc X) {o : Bop} {a b : Ex} {l r : Expr} {p : Pos} (ha : AO T P nc k Wx X a l) (hb : AO T P nc k Wx X b r) : AE T P nc k Wx X (.bin o a b) (.BinOp l (bopO o) r p) := by
  refine (pe_op (op_bin o) ha hb).impC fun σ H Q ⟨F, c, S, q⟩ => ⟨F, c, S, ?_⟩
  simp only [evX, ev] at q
  refine q.bind.mono fun x F1 c1 H1 _ st1 q1 v1 r1 => ⟨F1, c1, st1.sim, q1.bind.mono fun y F2 c2 H2 _ st2 q2 v2 r2 => ?_⟩
  obtain ⟨w, e, q3⟩ := q2.ofO
  obtain ⟨x', ex, e⟩ := Option.bind_eq_some_iff.mp e
  obtain ⟨y', ey, e⟩ := Option.bind_eq_some_iff.mp e
  rw [G.kT]
  exact bin_ok st2.sim (rd_ok st2.sim (r1.grow st2.gr) ex) (rd_ok st2.sim r2 ey) e (.of (st1.trans st2) q3)
theorem ae_neg {a : Ex} {l : Expr} {p : Pos} (ha : AO T P nc k Wx X a l) : AE T P nc k Wx X (.neg a) (.UnaryOp .USub l p) := by
  refine (pe_un un_neg ha).impC fun σ H Q ⟨F, c, S, q⟩ => ⟨F, c, S, ?_⟩
  simp only [evX, ev] at q
  refine q.bind.mono fun x F1 c1 H1 _ st1 q1 v1 r1 => ?_
  obtain ⟨w, e, q3⟩ := q1.ofO
  obtain ⟨x', ex, e⟩ := Option.bind_eq_some_iff.mp e
  split at e
  · cases e
    cases (rd_ok st1.sim r1 ex).int
    exact ⟨_, rfl, (Kont.of st1 q3).same st1.sim (.int _)⟩
  · cases e
theorem cmp_imp (G : Gd Γ T P nc k Wx N sc X) {o : Cop} {a b : Ex} (σ : L2.St) (H : Hp) (Q : VK) (q : tE T Wx (evX P nc k (.cmp o a b)) σ H Q) : tOp (rCmp X.K o) (tO T Wx (opd a (evX P nc k a))) (tO T Wx (opd b (evX P nc k b))) σ H Q := by
  obtain ⟨F, c, S, q⟩ := q
  refine ⟨F, c, S, ?_⟩
  simp only [evX, ev] at q
  refine q.bind.mono fun x F1 c1 H1 _ st1 q1 v1 r1 => ⟨F1, c1, st1.sim, q1.bind.mono fun y F2 c2 H2 _ st2 q2 v2 r2 => ?_⟩
  obtain ⟨w, e, q3⟩ := q2.ofO
  obtain ⟨x', ex, e⟩ := Option.bind_eq_some_iff.mp e
  obtain ⟨y', ey, e⟩ := Option.bind_eq_some_iff.mp e
  obtain ⟨b', eb, rfl⟩ := Option.map_eq_some_iff.mp e
  rw [G.kT]
  exact cmp_ok st2.sim (rd_ok st2.sim (r1.grow st2.gr) ex) (rd_ok st2.sim r2 ey) eb ((Kont.of (st1.trans st2) q3).same st2.sim (.bl _))
theorem ae_cmp (G : Gd Γ T P nc k Wx N sc X) {o : Cop} {a b : Ex} {l r : Expr} {p : Pos} (ha : AO T P nc k Wx X a l) (hb : AO T P nc k Wx X b r) (hm : behindInMarks (copO o) r = false) : AE T P nc k Wx X (.cmp o a b) (.Compare l [copO o] [r] p) :=
  (pe_cmpR (op_cmp G.u65 o) ha hb hm).impC (cmp_imp G)
theorem chn_imp (G : Gd Γ T P nc k Wx N sc X) {o o' : Cop} {a b d : Ex} (σ : L2.St) (H : Hp) (Q : VK) (q : tE T Wx (evX P nc k (.chn o o' a b d)) σ H Q) : tChain (rCmp X.K o) (rCmp X.K o') (tO T Wx (opd a (evX P nc k a))) (tO T Wx (opd b (evX P nc k b))) (tO T Wx (opd d (evX P nc k d))) σ H Q := by
  obtain ⟨F, c, S, q⟩ := q
  refine ⟨F, c, S, ?_⟩
  simp only [evX, ev] at q
  refine q.bind.mono fun x F1 c1 H1 _ st1 q1 v1 r1 => ⟨F1, c1, st1.sim, q1.bind.mono fun y F2 c2 H2 _ st2 q2 v2 r2 => ?_⟩
  have q2' := q2.bind
  obtain ⟨b', e, q3⟩ := q2'.ofO
  obtain ⟨x', ex, e⟩ := Option.bind_eq_some_iff.mp e
  obtain ⟨y', ey, e⟩ := Option.bind_eq_some_iff.mp e
  rw [G.kT]
  refine cmp_ok st2.sim (rd_ok st2.sim (r1.grow st2.gr) ex) (rd_ok st2.sim r2 ey) e ⟨b', rfl, ?_⟩
  have q4 := q3 F2 H2 (.refl st2.sim)
  cases b' with
  | false =>
    rw [if_neg Bool.false_ne_true] at q4 ⊢
    exact q4 F2 H2 (.refl st2.sim) _ ⟨.bl _, fun z => nomatch z⟩
  | true =>
    rw [if_pos rfl] at q4 ⊢
    refine ⟨F2, c2, st2.sim, q4.bind.mono fun z F3 c3 H3 _ st3 q5 v3 r3 => ?_⟩
    obtain ⟨w, e, q6⟩ := q5.ofO
    obtain ⟨y2, ey2, e⟩ := Option.bind_eq_some_iff.mp e
    obtain ⟨z', ez, e⟩ := Option.bind_eq_some_iff.mp e
    obtain ⟨b2, eb, rfl⟩ := Option.map_eq_some_iff.mp e
    exact cmp_ok st3.sim (rd_ok st3.sim (r2.grow st3.gr) ey2) (rd_ok st3.sim r3 ez) eb ((Kont.of ((st1.trans st2).trans st3) q6).same st3.sim (.bl _))
theorem ae_chn (G : Gd Γ T P nc k Wx N sc X) {o o' : Cop} {a b d : Ex} {l r s : Expr} {p : Pos} (ha : AO T P nc k Wx X a l) (hb : AO T P nc k Wx X b r) (hd : AO T P nc k Wx X d s) (hm : lastMarks [copO o, copO o'] [r, s] = false) :
    AE T P nc k Wx X (.chn o o' a b d) (.Compare l [copO o, copO o'] [r, s] p) := by
  exact (pe_chain (op_cmp G.u65 o) (op_cmp G.u65 o') ha hb hd hm).impC (chn_imp G)
theorem ae_ix (G : Gd Γ T P nc k Wx N sc X) {a b : Ex} {l r : Expr} {p : Pos} (ha : AO T P nc k Wx X a l) (hb : AO T P nc k Wx X b r) (hn : noSlice r = true) : AE T P nc k Wx X (.ix a b) (.Subscript l r p) := by
  have hp : PlainIx r := fun o i => by cases r <;> first | rfl | cases hn
  refine (pe_ix (ix_all G.u1) ha hb hp).impC fun σ H Q ⟨F, c, S, q⟩ => ⟨F, c, S, ?_⟩
  simp only [evX, ev] at q
  refine q.bind.mono fun x F1 c1 H1 _ st1 q1 v1 r1 => ⟨F1, c1, st1.sim, q1.bind.mono fun y F2 c2 H2 _ st2 q2 v2 r2 => ?_⟩
  obtain ⟨w, e, q3⟩ := q2.ofO
  obtain ⟨x', ex, e⟩ := Option.bind_eq_some_iff.mp e
  obtain ⟨y', ey, e⟩ := Option.bind_eq_some_iff.mp e
  obtain ⟨d, ed, rfl⟩ := Option.map_eq_some_iff.mp e
  rw [G.kT]
  exact ix_ok st2.sim (rd_ok st2.sim (r1.grow st2.gr) ex) (rd_ok st2.sim r2 ey) ed (.of (st1.trans st2) q3)
def AI (T : Tb) (P : Pg) (nc k : Nat) (Wx : WX) (X : Cx) (e : Option Ex) (x : Option Expr) : Prop := PO X x fun σ H Q => ∃ F c, Sim T F c σ H ∧ PostP T Wx σ F c H (evI nc (callN P nc k) e c) fun i _ _ H' => Q i H'
theorem ai_none : AI T P nc k Wx X none none := by
  refine ⟨fun pins s σ H Q I h => po_none.run pins s σ H Q I ?_⟩
  obtain ⟨F, c, S, q⟩ := h
  exact q F H (.refl S)
theorem ai_some {e : Ex} {x : Expr} (h : AO T P nc k Wx X e x) : AI T P nc k Wx X (some e) (some x) := by
  refine ⟨fun pins s σ H Q I q => (po_some h).run pins s σ H Q I ?_⟩
  obtain ⟨F, c, S, q⟩ := q
  refine ⟨F, c, S, ?_⟩
  simp only [evI] at q
  refine q.bind.mono fun x F1 c1 H1 _ st1 q1 v1 r1 => ?_
  obtain ⟨w, e, q3⟩ := q1.ofO
  obtain ⟨x', ex, e⟩ := Option.bind_eq_some_iff.mp e
  split at e
  · cases e
    cases (rd_ok st1.sim r1 ex).int
    exact ⟨_, rfl, q3 F1 H1 (.refl st1.sim)⟩
  · cases e
theorem ae_sl (G : Gd Γ T P nc k Wx N sc X) {a : Ex} {lo hi : Option Ex} {l : Expr} {x y : Option Expr} {p p2 : Pos} (ha : AO T P nc k Wx X a l) (hl : AI T P nc k Wx X lo x) (hh : AI T P nc k Wx X hi y) : AE T P nc k Wx X (.sl a lo hi) (.Subscript l (.Slice x y none p2) p) := by
  refine (pe_slice sl_all ha hl hh).impC fun σ H Q ⟨F, c, S, q⟩ => ⟨F, c, S, ?_⟩
  simp only [evX, ev] at q
  refine q.bind.mono fun x F1 c1 H1 _ st1 q1 v1 r1 => ⟨F1, c1, st1.sim, q1.bind.mono fun i F2 c2 H2 _ st2 q2 => ⟨F2, c2, st2.sim, q2.bind.mono fun j F3 c3 H3 _ st3 q3 => ?_⟩⟩
  obtain ⟨w, e, q4⟩ := q3.ofO
  obtain ⟨x', ex, e⟩ := Option.bind_eq_some_iff.mp e
  rw [G.kT]
  exact sl_ok st3.sim (rd_ok st3.sim ((r1.grow st2.gr).grow st3.gr) ex) e (.of ((st1.trans st2).trans st3) q4)

/-! ### attributes -/
theorem zip_look {α : Type} : ∀ {ns : List Str} {vs : List α} {k : Nat} {f : Str} {v : α}, ns.Nodup → ns[k]? = some f → vs[k]? = some v → (ns.zip vs).lookup f = some v
  | [], _, k, _, _, _, h, _ => by simp at h
  | _ :: _, [], k, _, _, _, _, h => by simp at h
  | n :: ns, x :: vs, 0, f, v, nd, h1, h2 => by
    simp at h1 h2
    subst h1 h2
    rw [List.zip_cons_cons, List.lookup_cons]
    simp
  | n :: ns, x :: vs, k + 1, f, v, nd, h1, h2 => by
    rw [List.nodup_cons] at nd
    have h1' : ns[k]? = some f := by simpa using h1
    have hne : (f == n) = false := by
      cases hb : f == n with
      | false => rfl
      | true => exact absurd (by rw [← eq_of_beq hb]; exact List.mem_of_getElem? h1') nd.1
    rw [List.zip_cons_cons, List.lookup_cons, hne]
    exact zip_look nd.2 h1' (by simpa using h2)
theorem base_of {x : Expr} (h : baseB x = true) (f : Str) (env : Env) : attributeBase x f env (eval x env) = eval x env := by
  cases x <;> first | rfl | cases h
theorem ae_fld (G : Gd Γ T P nc k Wx N sc X) {a : Ex} {ks : List (Nat × Nat)} {l : Expr} {f : Str} {p : Pos} (ha : AO T P nc k Wx X a l) (hb : baseB l = true) (hk : fldB Γ ks f = true) : AE T P nc k Wx X (.fld a ks) (.Attribute l f p) := by
  refine (pe_fld ha (base_of hb f X.env)).impC fun σ H Q ⟨F, c, S, q⟩ => ⟨F, c, S, ?_⟩
  simp only [evX, ev] at q
  refine q.bind.mono fun x F1 c1 H1 _ st1 q1 v1 r1 => ?_
  obtain ⟨w, e, q3⟩ := q1.ofO
  obtain ⟨x', ex, e⟩ := Option.bind_eq_some_iff.mp e
  obtain ⟨d, ed, rfl⟩ := Option.map_eq_some_iff.mp e
  unfold fldD at ed
  split at ed
  · rename_i j fs
    split at ed
    · rename_i n hn
      obtain ⟨b, dx, vs, rfl, h1, h2, h3⟩ := (rd_ok st1.sim r1 ex).obj st1.sim.sub
      have hm : (j, n) ∈ ks := by
        obtain ⟨l1, l2, e, _⟩ := List.lookup_eq_some_iff.mp hn
        rw [e]; simp
      have hp := List.all_eq_true.mp hk _ hm
      rw [Bool.and_eq_true] at hp
      have hj : j < nc := by rw [← G.cfn]; exact of_decide_eq_true hp.1
      have hf : (T.cf j)[n]? = some f := by rw [G.cfe]; exact of_decide_eq_true hp.2
      have cf := G.cok j hj
      obtain ⟨v, hv, rv⟩ := h2.get ed
      refine ⟨b, _, dx, _, v, rfl, h1, by rw [G.kT]; exact cf.cl, by rw [G.kT]; exact cf.na f (List.mem_of_getElem? hf), zip_look cf.nd hf hv, ?_⟩
      exact (Kont.of st1 q3).same st1.sim rv
    · cases ed
  · cases ed
/-! ### arguments -/
theorem star_of {e : Expr} (h : (match e with | .Starred _ _ => false | _ => true) = true) (es : List Expr) (env : Env) : starEach (e :: es) env = (false, eval e env) :: starEach es env := by
  cases e <;> first | rfl | cases h
theorem star_each {e : Expr} (h : noStar e = true) (es : List Expr) (env : Env) : starEach (e :: es) env = (false, eval e env) :: starEach es env := by
  cases e <;> first | rfl | cases h
theorem star_any {p : Pos} {env : Env} : ∀ {es : List Expr}, es.all noStar = true → (backTo p (starEach es env)).any (·.1) = false
  | [], _ => rfl
  | e :: es, h => by
    rw [List.all_cons, Bool.and_eq_true] at h
    rw [star_each h.1]
    show (false || (backTo p (starEach es env)).any (·.1)) = false
    rw [star_any h.2]
    rfl
theorem star_all {p : Pos} {env : Env} : ∀ {es : List Expr}, es.all noStar = true → (backTo p (starEach es env)).all (fun x => !x.1) = true
  | [], _ => rfl
  | e :: es, h => by
    rw [List.all_cons, Bool.and_eq_true] at h
    rw [star_each h.1]
    show (true && (backTo p (starEach es env)).all (fun x => !x.1)) = true
    rw [star_all h.2]
    rfl
abbrev ADs (T : Tb) (P : Pg) (nc k : Nat) (Wx : WX) (X : Cx) (es : List Ex) (xs : List Expr) : Prop := PA X xs (tDs T Wx (evDs nc (callN P nc k) es))
abbrev AOs (T : Tb) (P : Pg) (nc k : Nat) (Wx : WX) (X : Cx) (es : List Ex) (xs : List Expr) : Prop := PA X xs (tOs T Wx (evOs nc (callN P nc k) es))
theorem ads_nil : ADs T P nc k Wx X [] [] := pa_nil.impC fun σ H Q ⟨F, c, S, q⟩ => q F H (.refl S) [] .nil
theorem ads_cons {e : Ex} {es : List Ex} {x : Expr} {xs : List Expr} (h : AE T P nc k Wx X e x) (hs : ADs T P nc k Wx X es xs) (hn : noStar x = true) : ADs T P nc k Wx X (e :: es) (x :: xs) := by
  refine (pa_cons h hs (star_each hn xs X.env)).impC fun σ H Q ⟨F, c, S, q⟩ => ⟨F, c, S, ?_⟩
  simp only [evDs] at q
  refine q.bind.mono fun w F1 c1 H1 he st1 q1 v1 r1 => ?_
  obtain ⟨F2, st2, r2, g2⟩ := st1.freeze S r1
  refine ⟨F2, c1, st2.sim, (q.bind' he st2).bind.mono fun ds F3 c3 H3 _ st3 q3 vs rs => ?_⟩
  exact q3 F3 H3 (.refl st3.sim) (v1 :: vs) (.cons (r2.grow st3.gr) rs)
theorem aos_nil : AOs T P nc k Wx X [] [] := pa_nil.impC fun σ H Q ⟨F, c, S, q⟩ => q F H (.refl S) [] .nil
theorem aos_cons {e : Ex} {es : List Ex} {x : Expr} {xs : List Expr} (h : AO T P nc k Wx X e x) (hs : AOs T P nc k Wx X es xs) (hn : noStar x = true) : AOs T P nc k Wx X (e :: es) (x :: xs) := by
  refine (pa_cons h hs (star_each hn xs X.env)).impC fun σ H Q ⟨F, c, S, q⟩ => ⟨F, c, S, ?_⟩
  simp only [evOs] at q
  refine q.bind.mono fun w F1 c1 H1 _ st1 q1 v1 r1 => ⟨F1, c1, st1.sim, q1.bind.mono fun ds F3 c3 H3 _ st3 q3 vs rs => ?_⟩
  exact q3 F3 H3 (.refl st3.sim) (v1 :: vs) (.cons (r1.grow st3.gr) rs)

/-! ### displays -/
theorem small_line {n : Nat} (h : n ≤ 1000) : n ≤ sizeLine := by rw [sizeLine_eq]; omega
theorem evDs_len {cl : Calls} : ∀ {es : List Ex} {c : Sg} {ds : List D} {c' : Sg}, evDs nc cl es c = .ok ds c' → ds.length = es.length
  | [], c, ds, c', h => by simp only [evDs] at h; cases h; rfl
  | e :: es, c, ds, c', h => by
    simp only [evDs] at h
    cases h1 : ev nc cl e c with
    | bad => rw [h1] at h; cases h
    | exc _ _ _ => rw [h1] at h; cases h
    | ok w c1 =>
      rw [h1, R.bind_ok] at h
      cases h2 : evDs nc cl es c1 with
      | bad => rw [h2] at h; cases h
      | exc _ _ _ => rw [h2] at h; cases h
      | ok ds' c2 =>
        rw [h2, R.bind_ok] at h
        cases h
        rw [List.length_cons, List.length_cons, evDs_len h2]
theorem ae_tup {es : List Ex} {xs : List Expr} {n : Nat} {p : Pos} (h : ADs T P nc k Wx X es xs) (hl : es.length ≤ 1000) : AE T P nc k Wx X (.tup es) (.Tuple xs n p) := by
  refine (pe_tup h).impC fun σ H Q ⟨F, c, S, q⟩ => ⟨F, c, S, ?_⟩
  simp only [evX, ev] at q
  refine q.bind.mono fun ds F1 c1 H1 he st1 q1 vs rs => ⟨?_, fun p hp => ?_⟩
  · rw [← rs.length, evDs_len he]; exact small_line hl
  · exact (Kont.of st1 q1).tup st1.sim rs hp
theorem ae_lst {es : List Ex} {xs : List Expr} {p : Pos} (h : ADs T P nc k Wx X es xs) (hl : es.length ≤ 1000) : AE T P nc k Wx X (.lst es) (.List xs p) := by
  refine (pe_lst h).impC fun σ H Q ⟨F, c, S, q⟩ => ⟨F, c, S, ?_⟩
  simp only [evX, ev] at q
  refine q.bind.mono fun ds F1 c1 H1 he st1 q1 vs rs => ⟨?_, fun p hp => ?_⟩
  · rw [← rs.length, evDs_len he]; exact small_line hl
  · exact (Kont.of st1 q1).lst st1.sim rs hp
theorem ae_dk0 {p : Pos} : AE T P nc k Wx X (.dk []) (.Dict [] [] p) := by
  refine pe_dnewK.impC fun σ H Q ⟨F, c, S, q⟩ p hp => ?_
  simp only [evX, ev, evDs, R.bind_ok, putAll, Option.map_some, ofO_some] at q
  exact q F _ (S.newH hp) _ ⟨⟨p, [], rfl, S.notF hp, upd_same, rfl, .nil⟩, fun _ a e => by cases e; exact .none hp⟩
theorem ae_dt0 {p : Pos} : AE T P nc k Wx X (.dt []) (.Dict [] [] p) := by
  refine pe_dnewT.impC fun σ H Q ⟨F, c, S, q⟩ p hp => ?_
  simp only [evX, ev, evDs, R.bind_ok, putAll, Option.map_some, ofO_some] at q
  exact q F _ (S.newH hp) _ ⟨⟨p, [], rfl, S.notF hp, upd_same, rfl, .nil⟩, fun _ a e => by cases e; exact .none hp⟩

/-! ### built-ins, isinstance, changing methods -/
theorem blt_mem (b : Blt) : b.nm ∈ bnames := by cases b <;> decide +kernel
theorem blt_boot (b : Blt) : bootBuiltins b.nm = some b.vl := by cases b <;> decide +kernel
theorem ae_blt (G : Gd Γ T P nc k Wx N sc X) {b : Blt} {es : List Ex} {x : Expr} {xs : List Expr} {p p2 : Pos} (h : AOs T P nc k Wx X es (x :: xs)) (hg : glB sc b.nm = true) (hn : (x :: xs).all noStar = true) (cm : Γ.cm = true) : AE T P nc k Wx X (.blt b es) (.Call (.Name b.nm p2) (x :: xs) [] p) := by
  obtain ⟨g1, g2⟩ := gl_of G hg
  have hn' : noStar x = true ∧ xs.all noStar = true := by rw [List.all_cons, Bool.and_eq_true] at hn; exact hn
  have nm : b.nm ≠ "__name__" := by cases b <;> decide +kernel
  have main : PE X (.Call (.Name b.nm p2) (x :: xs) [] p) (tCB (rBlt X.K b) (tOs T Wx (evOs nc (callN P nc k) es))) := by
    have hm := G.blt _ (blt_mem b)
    have hv := blt_boot b
    have hc := call_blt (G.calm cm) b
    cases b <;> first
      | exact pe_callB hc g1 hm hv h nm g2 (star_each hn'.1 _ _) (star_any hn'.2)
      | exact pe_callTy hc g1 hm hv h nm g2 (star_each hn'.1 _ _) (star_any hn'.2)
  refine main.impC fun σ H Q ⟨F, c, S, q⟩ => ⟨F, c, S, ?_⟩
  simp only [evX, ev] at q
  refine q.bind.mono fun ys F1 c1 H1 _ st1 q1 vs rs => ?_
  obtain ⟨w, e, q3⟩ := q1.ofO
  obtain ⟨ds, ed, e⟩ := Option.bind_eq_some_iff.mp e
  rw [G.kT]
  exact blt_ok st1.sim (rds_ok st1.sim rs ed) e (.of st1 q3)
end
end Cl

/-! Cl, part H: one rule a construct, on. -/
namespace Cl
open PySem PySem.Spec PyProof.Rows L2
section
variable {Γ : Gt} {T : Tb} {P : Pg} {nc k : Nat} {Wx : WX} {N : List Str} {sc : Scope} {X : Cx}

theorem DT.keep {F H H' : Hp} {d : D} {v : V} (h : DT T F H d v) (m : ∀ a o, H a = some o → H' a = some o) : DT T F H' d v := by
  rcases h with h | ⟨w, o, e, h⟩
  · exact .inl h
  · exact .inr ⟨w, o, e, h.keep (fun _ _ q => q) (fun a o' e' => by
      obtain ⟨b, e2, f, _⟩ := h.own_at o
      rw [e'] at e2; cases e2; exact f) fun a x _ _ q => m a x q⟩
theorem RW.later {F' H0 H H' : Hp} {w : W} {v : V} (r : RW T F' H H' w v) (dom : ∀ a, NV H a → NV H0 a) : RW T F' H0 H' w v := ⟨r.1, fun o a e => dom a (r.2 o a e)⟩
/-- a reading asked from here on -/
theorem tE_on {f : Sg → R Sg W} {σ : L2.St} {F F1 H H1 : Hp} {c c1 : Sg} {Q : VK} (st : Stp T σ F c H F1 c1 H1) (q : PostP T Wx σ F1 c1 H1 (f c1) fun w F' _ H' => ∀ v, RW T F' H H' w v → Q v H') : tE T Wx f σ H1 Q :=
  ⟨F1, c1, st.sim, q.mono fun w F2 c2 H2 _ _ q2 v r => q2 v (r.later st.dom)⟩

/-! ### isinstance -/
theorem cls_ok (G : Gd Γ T P nc k Wx N sc X) {c : Cls1} {x : Expr} (h : clsB Γ sc c x = true) : PE X x (tC (c.v T)) ∧ clsBelow nc c = true := by
  unfold clsB at h
  split at h
  · rw [Bool.and_eq_true] at h
    obtain ⟨g1, g2⟩ := gl_of G h.1
    cases c with
    | own j =>
      obtain ⟨m, hj⟩ := G.cls _ _ (of_decide_eq_true h.2)
      exact ⟨pe_glob g1 m rfl g2, decide_eq_true hj⟩
    | int => cases of_decide_eq_true h.2; exact ⟨pe_bltn g1 (G.blt _ (by decide +kernel)) (u := .type "int") (by decide +kernel) rfl (by decide +kernel) g2, rfl⟩
    | bool => cases of_decide_eq_true h.2; exact ⟨pe_bltn g1 (G.blt _ (by decide +kernel)) (u := .type "bool") (by decide +kernel) rfl (by decide +kernel) g2, rfl⟩
    | str => cases of_decide_eq_true h.2; exact ⟨pe_bltn g1 (G.blt _ (by decide +kernel)) (u := .type "str") (by decide +kernel) rfl (by decide +kernel) g2, rfl⟩
    | tuple => cases of_decide_eq_true h.2; exact ⟨pe_bltn g1 (G.blt _ (by decide +kernel)) (u := .type "tuple") (by decide +kernel) rfl (by decide +kernel) g2, rfl⟩
    | list => cases of_decide_eq_true h.2; exact ⟨pe_bltn g1 (G.blt _ (by decide +kernel)) (u := .type "list") (by decide +kernel) rfl (by decide +kernel) g2, rfl⟩
    | dict => cases of_decide_eq_true h.2; exact ⟨pe_bltn g1 (G.blt _ (by decide +kernel)) (u := .type "dict") (by decide +kernel) rfl (by decide +kernel) g2, rfl⟩
  · cases h
theorem cls_noStar {c : Cls1} {x : Expr} (h : clsB Γ sc c x = true) : noStar x = true := by
  unfold clsB at h
  split at h
  · rfl
  · cases h
theorem clss_ok (G : Gd Γ T P nc k Wx N sc X) : ∀ {ks : List Cls1} {xs : List Expr}, clssB Γ sc ks xs = true → PA X xs (fun _ H Q => Q (ks.map (Cls1.v T)) H) ∧ ks.all (clsBelow nc) = true ∧ ks.length = xs.length
  | [], [], _ => ⟨pa_nil, rfl, rfl⟩
  | [], _ :: _, h => by simp [clssB] at h
  | _ :: _, [], h => by simp [clssB] at h
  | c :: ks, x :: xs, h => by
    simp only [clssB, Bool.and_eq_true] at h
    obtain ⟨h1, h2⟩ := cls_ok G h.1
    obtain ⟨h3, h4, h5⟩ := clss_ok G h.2
    exact ⟨pa_cons h1 h3 (star_each (cls_noStar h.1) xs X.env), by rw [List.all_cons, h2, h4]; rfl, by simp [h5]⟩
theorem isi_boot : bootBuiltins "isinstance" = some (.builtin "isinstance") := by decide +kernel
theorem ae_isi1 (G : Gd Γ T P nc k Wx N sc X) {a : Ex} {c : Cls1} {x t : Expr} {p p2 : Pos} (ha : AO T P nc k Wx X a x) (hn : noStar x = true) (hg : glB sc "isinstance" = true) (hc : clsB Γ sc c t = true) : AE T P nc k Wx X (.isi a false [c]) (.Call (.Name "isinstance" p2) [x, t] [] p) := by
  obtain ⟨g1, g2⟩ := gl_of G hg
  obtain ⟨h1, h2⟩ := cls_ok G hc
  have nt := cls_noStar hc
  refine (pe_callB call_isi g1 (G.blt _ (by decide +kernel)) isi_boot (pa_cons ha (pa_cons h1 pa_nil (star_each nt [] X.env)) (star_each hn [t] X.env)) (by decide +kernel) g2 (star_each hn [t] X.env) (star_any (by simp [nt]))).impC fun σ H Q ⟨F, cc, S, q⟩ => ⟨F, cc, S, ?_⟩
  simp only [evX, ev] at q
  refine q.bind.mono fun y F1 c1 H1 _ st1 q1 v1 r1 => ?_
  obtain ⟨w, e, q3⟩ := q1.ofO
  obtain ⟨d, ed, e⟩ := Option.bind_eq_some_iff.mp e
  split at e
  · rename_i o
    rw [Bool.and_eq_true] at o
    cases e
    obtain ⟨ty, e1, e2⟩ := ty_ok st1.sim G.cok (rd_ok st1.sim r1 ed) o.1 o.2
    refine ⟨v1, c.v T, ty, c.val T, _, rfl, (c.rel T).2, by rw [G.kT]; exact e2, by rw [G.kT]; exact kit_one G.cok e1 o.2 c h2, ?_⟩
    have := (Kont.of st1 q3).same st1.sim (.bl _)
    simpa using this
  · cases e
theorem ae_isi2 (G : Gd Γ T P nc k Wx N sc X) {a : Ex} {cs : List Cls1} {x : Expr} {xs : List Expr} {p p2 p3 : Pos} {n : Nat} (ha : AO T P nc k Wx X a x) (hn : noStar x = true) (hg : glB sc "isinstance" = true) (hc : clssB Γ sc cs xs = true) (hl : xs.length ≤ 1000) :
    AE T P nc k Wx X (.isi a true cs) (.Call (.Name "isinstance" p2) [x, .Tuple xs n p3] [] p) := by
  obtain ⟨g1, g2⟩ := gl_of G hg
  obtain ⟨h1, h2, h3⟩ := clss_ok G hc
  refine (pe_callB call_isiT g1 (G.blt _ (by decide +kernel)) isi_boot (pa_cons ha (pa_cons (pe_tup h1) pa_nil rfl) (star_each hn _ X.env)) (by decide +kernel) g2 (star_each hn _ X.env) rfl).impC fun σ H Q ⟨F, cc, S, q⟩ => ⟨F, cc, S, ?_⟩
  simp only [evX, ev] at q
  refine q.bind.mono fun y F1 c1 H1 _ st1 q1 v1 r1 => ⟨by rw [List.length_map, h3]; exact small_line hl, fun p hp => ?_⟩
  obtain ⟨w, e, q3⟩ := q1.ofO
  obtain ⟨d, ed, e⟩ := Option.bind_eq_some_iff.mp e
  split at e
  · rename_i o
    rw [Bool.and_eq_true] at o
    cases e
    have st2 := st1.sim.newH (p := p) (o := .tup (cs.map (Cls1.v T))) hp
    obtain ⟨ty, e1, e2⟩ := ty_ok st2.sim G.cok ((rd_ok st1.sim r1 ed).keep (upd_old hp)) o.1 o.2
    refine ⟨v1, p, _, ty, _, _, rfl, upd_same, cls_vals T cs, by rw [G.kT]; exact e2, by rw [G.kT]; exact kit_any G.cok e1 o.2 cs h2, ?_⟩
    exact q3 _ _ st2 _ ⟨.bl _, fun z => nomatch z⟩
  · cases e

/-! ### not, and, or, if .. else -/
theorem tst_post {e : Ex} {f : Sg → R Sg W} {σ : L2.St} {F H : Hp} {c : Sg} {K : Bool → Hp → Sg → Hp → Prop} (q : PostP T Wx σ F c H (tst e f c) K) :
    PostP T Wx σ F c H (opd e f c) fun x F1 c1 H1 => ∀ v, RO T F1 σ x v → ∃ b, TruV T.K v H1 b ∧ K b F1 c1 H1 := by
  unfold tst at q
  refine q.bind.mono fun x F1 c1 H1 _ st q1 v r => ?_
  obtain ⟨b, e, q2⟩ := q1.ofO
  obtain ⟨d, ed, e⟩ := Option.bind_eq_some_iff.mp e
  exact ⟨b, truth_ok st.sim (rd_ok st.sim r ed) e, q2 F1 H1 (.refl st.sim)⟩
theorem ae_not (G : Gd Γ T P nc k Wx N sc X) {a : Ex} {x : Expr} {p : Pos} (ha : AO T P nc k Wx X a x) : AE T P nc k Wx X (.not a) (.UnaryOp .Not x p) := by
  refine (pe_notT ha).impC fun σ H Q ⟨F, c, S, q⟩ => ⟨F, c, S, ?_⟩
  simp only [evX, ev] at q
  refine (tst_post q.bind).mono fun y F1 c1 H1 _ st1 q1 v1 r1 => ?_
  obtain ⟨b, t, q2⟩ := q1 v1 r1
  exact ⟨b, by rw [G.kT]; exact t, q2 F1 H1 (.refl st1.sim) _ ⟨.bl _, fun z => nomatch z⟩⟩
theorem ae_and {a b : Ex} {x y : Expr} {rest : List Expr} {p : Pos} (ha : AE T P nc k Wx X a x) (hb : AE T P nc k Wx X b (.BoolOp .And (y :: rest) p)) : AE T P nc k Wx X (.and a b) (.BoolOp .And (x :: y :: rest) p) := by
  refine (pe_and ha hb).impC fun σ H Q ⟨F, c, S, q⟩ => ⟨F, c, S, ?_⟩
  simp only [evX, ev] at q
  refine q.bind.mono fun w F1 c1 H1 _ st1 q1 v1 r1 => ?_
  split at q1
  · cases r1.1
    refine ⟨true, rfl, ?_⟩
    rw [if_pos rfl]
    refine ⟨F1, c1, st1.sim, q1.bind.mono fun w2 F2 c2 H2 _ st2 q2 v2 r2 => ?_⟩
    split at q2
    · exact q2 F2 H2 (.refl st2.sim) v2 (r2.later st1.dom)
    · exact q2.elim
  · cases r1.1
    refine ⟨false, rfl, ?_⟩
    rw [if_neg Bool.false_ne_true]
    exact q1 F1 H1 (.refl st1.sim) _ ⟨.bl _, fun z => nomatch z⟩
  · exact q1.elim
theorem ae_or {a b : Ex} {x y : Expr} {rest : List Expr} {p : Pos} (ha : AE T P nc k Wx X a x) (hb : AE T P nc k Wx X b (.BoolOp .Or (y :: rest) p)) : AE T P nc k Wx X (.or a b) (.BoolOp .Or (x :: y :: rest) p) := by
  refine (pe_or ha hb).impC fun σ H Q ⟨F, c, S, q⟩ => ⟨F, c, S, ?_⟩
  simp only [evX, ev] at q
  refine q.bind.mono fun w F1 c1 H1 _ st1 q1 v1 r1 => ?_
  split at q1
  · cases r1.1
    refine ⟨false, rfl, ?_⟩
    rw [if_neg Bool.false_ne_true]
    refine ⟨F1, c1, st1.sim, q1.bind.mono fun w2 F2 c2 H2 _ st2 q2 v2 r2 => ?_⟩
    split at q2
    · exact q2 F2 H2 (.refl st2.sim) v2 (r2.later st1.dom)
    · exact q2.elim
  · cases r1.1
    refine ⟨true, rfl, ?_⟩
    rw [if_pos rfl]
    exact q1 F1 H1 (.refl st1.sim) _ ⟨.bl _, fun z => nomatch z⟩
  · exact q1.elim

/-! ### tests -/
def tTb (T : Tb) (Wx : WX) (f : Sg → R Sg W) : TT := fun σ H Q => ∃ F c, Sim T F c σ H ∧ PostP T Wx σ F c H (f c) fun w _ _ H' => ∃ b, w = .d (.bl b) ∧ Q b H'
abbrev BT (T : Tb) (P : Pg) (nc k : Nat) (Wx : WX) (X : Cx) (e : Ex) (x : Expr) : Prop := PT X x (tTb T Wx (evX P nc k e))
abbrev BW (T : Tb) (P : Pg) (nc k : Nat) (Wx : WX) (X : Cx) (e : Ex) (x : Expr) : Prop := PW X x (tTb T Wx (evX P nc k e))
abbrev CT (T : Tb) (P : Pg) (nc k : Nat) (Wx : WX) (X : Cx) (e : Ex) (x : Expr) : Prop := PT X x (tT T Wx (tst e (evX P nc k e)))
theorem plain_is {x : Expr} (h : plainT x = true) (env : Env) (whole : Sem Value) : isTrue x env whole = (do let v ← whole; standAt x.pos; holding [v] (truthy v)) := by
  cases x <;> first | rfl | (cases h; done) | (rename_i op _ _; cases op <;> first | rfl | (cases h; done))
theorem ct_plain (G : Gd Γ T P nc k Wx N sc X) {e : Ex} {x : Expr} (h : AO T P nc k Wx X e x) (hp : plainT x = true) : CT T P nc k Wx X e x := by
  refine (pt_truth h (plain_is hp X.env)).impC fun σ H Q ⟨F, c, S, q⟩ => ⟨F, c, S, ?_⟩
  refine (tst_post q).mono fun y F1 c1 H1 _ st1 q1 v1 r1 => ?_
  obtain ⟨b, t, q2⟩ := q1 v1 r1
  exact ⟨b, by rw [G.kT]; exact t, q2⟩
theorem bt_plain {e : Ex} {x : Expr} (h : AE T P nc k Wx X e x) (hp : plainT x = true) : BT T P nc k Wx X e x := by
  refine (pt_val h (plain_is hp X.env)).impC fun σ H Q ⟨F, c, S, q⟩ => ⟨F, c, S, q.mono fun w F1 c1 H1 _ st1 q1 v1 r1 => ?_⟩
  obtain ⟨b, rfl, q2⟩ := q1
  cases r1.1
  exact ⟨b, rfl, q2⟩
theorem ct_bt {e : Ex} {x : Expr} (h : BT T P nc k Wx X e x) (hv : ∀ i, e ≠ .var i) (hb : ∀ c w c', evX P nc k e c = .ok w c' → ∃ b, w = .d (.bl b)) : CT T P nc k Wx X e x := by
  refine h.impC fun σ H Q ⟨F, c, S, q⟩ => ⟨F, c, S, ?_⟩
  have he : opd e (evX P nc k e) c = (evX P nc k e c).bind fun w σ' => .ok (.val w.toD) σ' := by
    cases e <;> first | rfl | exact absurd rfl (hv _)
  unfold tst at q
  rw [he] at q
  refine q.bind.bind.mono fun w F1 c1 H1 hw st q1 => ?_
  obtain ⟨b, rfl⟩ := hb _ _ _ hw
  exact ⟨b, rfl, q1 F1 H1 (.refl st.sim) F1 H1 (.refl st.sim)⟩
theorem bt_not {a : Ex} {x : Expr} {p : Pos} (ha : CT T P nc k Wx X a x) : BT T P nc k Wx X (.not a) (.UnaryOp .Not x p) := by
  refine (pt_not ha).impC fun σ H Q ⟨F, c, S, q⟩ => ⟨F, c, S, ?_⟩
  simp only [evX, ev] at q
  refine q.bind.mono fun b F1 c1 H1 _ st1 q1 => ?_
  obtain ⟨b', e, q2⟩ := q1 F1 H1 (.refl st1.sim)
  cases e
  exact q2
theorem tTest_bt {e : Ex} {te : TE} {x : Expr} (h : PT X x (tTest te)) (i : ∀ σ H Q, tE T Wx (evX P nc k e) σ H Q → te σ H Q) : BT T P nc k Wx X e x := by
  refine h.impC fun σ H Q ⟨F, c, S, q⟩ => i σ H _ ⟨F, c, S, q.mono fun w F1 c1 H1 _ st1 q1 v1 r1 => ?_⟩
  obtain ⟨b, rfl, q2⟩ := q1
  cases r1.1
  exact ⟨b, rfl, q2⟩
theorem bw_and {a b : Ex} {x y : Expr} {rest : List Expr} {p : Pos} (ha : BT T P nc k Wx X a x) (hb : BW T P nc k Wx X b (.BoolOp .And (y :: rest) p)) : BW T P nc k Wx X (.and a b) (.BoolOp .And (x :: y :: rest) p) := by
  refine (pw_and ha hb).impC fun σ H Q ⟨F, c, S, q⟩ => ⟨F, c, S, ?_⟩
  simp only [evX, ev] at q
  refine q.bind.mono fun w F1 c1 H1 _ st1 q1 => ?_
  split at q1
  · refine ⟨true, rfl, ?_⟩
    show if _ then _ else _
    rw [if_pos rfl]
    refine ⟨F1, c1, st1.sim, q1.bind.mono fun w2 F2 c2 H2 _ st2 q2 => ?_⟩
    split at q2
    · obtain ⟨b, e, q3⟩ := q2 F2 H2 (.refl st2.sim)
      cases e
      exact ⟨_, rfl, q3⟩
    · exact q2.elim
  · refine ⟨false, rfl, ?_⟩
    show if _ then _ else _
    rw [if_neg Bool.false_ne_true]
    obtain ⟨b, e, q3⟩ := q1 F1 H1 (.refl st1.sim)
    cases e
    exact q3
  · exact q1.elim
theorem bw_or {a b : Ex} {x y : Expr} {rest : List Expr} {p : Pos} (ha : BT T P nc k Wx X a x) (hb : BW T P nc k Wx X b (.BoolOp .Or (y :: rest) p)) : BW T P nc k Wx X (.or a b) (.BoolOp .Or (x :: y :: rest) p) := by
  refine (pw_or ha hb).impC fun σ H Q ⟨F, c, S, q⟩ => ⟨F, c, S, ?_⟩
  simp only [evX, ev] at q
  refine q.bind.mono fun w F1 c1 H1 _ st1 q1 => ?_
  split at q1
  · refine ⟨false, rfl, ?_⟩
    show if _ then _ else _
    rw [if_neg Bool.false_ne_true]
    refine ⟨F1, c1, st1.sim, q1.bind.mono fun w2 F2 c2 H2 _ st2 q2 => ?_⟩
    split at q2
    · obtain ⟨b, e, q3⟩ := q2 F2 H2 (.refl st2.sim)
      cases e
      exact ⟨_, rfl, q3⟩
    · exact q2.elim
  · refine ⟨true, rfl, ?_⟩
    show if _ then _ else _
    rw [if_pos rfl]
    obtain ⟨b, e, q3⟩ := q1 F1 H1 (.refl st1.sim)
    cases e
    exact q3
  · exact q1.elim
theorem bw_one {a : Ex} {x : Expr} {p : Pos} {op : BoolOp} (ha : BT T P nc k Wx X a x) : BW T P nc k Wx X a (.BoolOp op [x] p) := by
  cases op with
  | And => exact pw_and1 ha
  | Or => exact pw_or1 ha
theorem R.bind_ok_iff {S α β : Type} {r : R S α} {f : α → S → R S β} {b : β} {s : S} (h : r.bind f = .ok b s) : ∃ a s1, r = .ok a s1 ∧ f a s1 = .ok b s := by
  cases r with
  | ok a s1 => exact ⟨a, s1, rfl, h⟩
  | exc _ _ _ => cases h
  | bad => cases h
theorem ofO_ok_iff {S α : Type} {o : Option α} {s s' : S} {a : α} (h : ofO o s = .ok a s') : o = some a ∧ s = s' := by
  cases o with
  | none => cases h
  | some b => cases h; exact ⟨rfl, rfl⟩
theorem bool_ev {cl : Calls} {e : Ex} (h : boolE e = true) {c : Sg} {w : W} {c' : Sg} (he : ev nc cl e c = .ok w c') : ∃ b, w = .d (.bl b) := by
  cases e with
  | not a =>
    simp only [ev] at he
    obtain ⟨b, s1, _, h2⟩ := R.bind_ok_iff he
    cases h2
    exact ⟨_, rfl⟩
  | and a b =>
    simp only [ev] at he
    obtain ⟨b, s1, _, h2⟩ := R.bind_ok_iff he
    split at h2
    · obtain ⟨b, s1, _, h3⟩ := R.bind_ok_iff h2
      split at h3
      · cases h3; exact ⟨_, rfl⟩
      · cases h3
    · cases h2; exact ⟨_, rfl⟩
    · cases h2
  | or a b =>
    simp only [ev] at he
    obtain ⟨b, s1, _, h2⟩ := R.bind_ok_iff he
    split at h2
    · obtain ⟨b, s1, _, h3⟩ := R.bind_ok_iff h2
      split at h3
      · cases h3; exact ⟨_, rfl⟩
      · cases h3
    · cases h2; exact ⟨_, rfl⟩
    · cases h2
  | cmp o a b =>
    simp only [ev] at he
    obtain ⟨x, s1, _, h2⟩ := R.bind_ok_iff he
    obtain ⟨y, s2, _, h3⟩ := R.bind_ok_iff h2
    obtain ⟨h4, _⟩ := ofO_ok_iff h3
    obtain ⟨x', ex, e⟩ := Option.bind_eq_some_iff.mp h4
    obtain ⟨y', ey, e⟩ := Option.bind_eq_some_iff.mp e
    obtain ⟨b', eb, rfl⟩ := Option.map_eq_some_iff.mp e
    exact ⟨_, rfl⟩
  | chn o o' a b d =>
    simp only [ev] at he
    obtain ⟨x, s1, _, h2⟩ := R.bind_ok_iff he
    obtain ⟨y, s2, _, h3⟩ := R.bind_ok_iff h2
    obtain ⟨z, s3, _, h4⟩ := R.bind_ok_iff h3
    split at h4
    · obtain ⟨z, s3, _, h5⟩ := R.bind_ok_iff h4
      obtain ⟨h6, _⟩ := ofO_ok_iff h5
      obtain ⟨x', ex, e⟩ := Option.bind_eq_some_iff.mp h6
      obtain ⟨y', ey, e⟩ := Option.bind_eq_some_iff.mp e
      obtain ⟨b', eb, rfl⟩ := Option.map_eq_some_iff.mp e
      exact ⟨_, rfl⟩
    · cases h4; exact ⟨_, rfl⟩
  | _ => cases h
theorem bt_cmp (G : Gd Γ T P nc k Wx N sc X) {o : Cop} {a b : Ex} {l r : Expr} {p : Pos} (ha : AO T P nc k Wx X a l) (hb : AO T P nc k Wx X b r) (hm : behindInMarks (copO o) r = false) : BT T P nc k Wx X (.cmp o a b) (.Compare l [copO o] [r] p) :=
  tTest_bt (pt_cmpR (op_cmp G.u65 o) ha hb hm) (cmp_imp G)
theorem bt_chn (G : Gd Γ T P nc k Wx N sc X) {o o' : Cop} {a b d : Ex} {l r s : Expr} {p : Pos} (ha : AO T P nc k Wx X a l) (hb : AO T P nc k Wx X b r) (hd : AO T P nc k Wx X d s) (hm : lastMarks [copO o, copO o'] [r, s] = false) :
    BT T P nc k Wx X (.chn o o' a b d) (.Compare l [copO o, copO o'] [r, s] p) :=
  tTest_bt (pt_chain (op_cmp G.u65 o) (op_cmp G.u65 o') ha hb hd hm) (chn_imp G)
theorem ct_bool {e : Ex} {x : Expr} (h : BT T P nc k Wx X e x) (hb : boolE e = true) : CT T P nc k Wx X e x :=
  ct_bt h (fun i z => by rw [z] at hb; cases hb) fun c w c' he => bool_ev hb he
theorem ae_ite {d a b : Ex} {t x y : Expr} {p : Pos} (hd : CT T P nc k Wx X d t) (ha : AE T P nc k Wx X a x) (hb : AE T P nc k Wx X b y) : AE T P nc k Wx X (.ite d a b) (.IfExp t x y p) := by
  refine (pe_ifExp hd ha hb).impC fun σ H Q ⟨F, c, S, q⟩ => ⟨F, c, S, ?_⟩
  simp only [evX, ev] at q
  refine q.bind.mono fun b' F1 c1 H1 _ st1 q1 => ?_
  cases b' with
  | true =>
    rw [if_pos rfl] at q1 ⊢
    exact tE_on st1 q1
  | false =>
    rw [if_neg Bool.false_ne_true] at q1 ⊢
    exact tE_on st1 q1

/-! ### changing methods -/
def Mut.ty : Mut → String
  | .update => "dict"
  | _ => "list"
theorem mut_ty {F H : Hp} {m : Mut} {w : W} {v : V} (r : RS T F H w v) (hk : w.kind = m.kd) : tyV X.K m.ty v H := by
  cases w with
  | d x => cases m <;> cases hk
  | fl xs =>
    obtain ⟨a, us, rfl, fa, ha, _⟩ := r
    cases m <;> first | (cases hk; done) | exact .inl ⟨rfl, us, .of ha⟩
  | fk xs =>
    obtain ⟨a, us, rfl, fa, ha, _⟩ := r
    cases m <;> first | (cases hk; done) | exact .inr (.inr (.inl ⟨rfl, .inl ⟨us, ha⟩⟩))
  | ft xs => cases m <;> cases hk
  | fo c fs => cases m <;> cases hk
theorem ae_mut (G : Gd Γ T P nc k Wx N sc X) {m : Mut} {i : Nat} {es : List Ex} {o x : Expr} {xs : List Expr} {ap p : Pos} (ho : varB N sc i o = true) (h : ADs T P nc k Wx X es (x :: xs)) (hn : (x :: xs).all noStar = true) (hl : (ap.endLine == p.line) = true) (hs : (x :: xs).length < 10) :
    AE T P nc k Wx X (.mut m i es) (.Call (.Attribute o m.nm ap) (x :: xs) [] p) := by
  have hn' : noStar x = true ∧ xs.all noStar = true := by rw [List.all_cons, Bool.and_eq_true] at hn; exact hn
  have hbase : attributeBase o m.nm X.env (eval o X.env) = eval o X.env := by
    unfold varB at ho
    split at ho
    · rfl
    · cases ho
  have hfew : ((backTo p (starEach (x :: xs) X.env)).all (fun x => !x.1) && (backToKw p (keywordEach [] X.env)).all (fun x => x.1.isSome)
      && decide ((x :: xs).length + ([] : List Keyword).length + (if ([] : List Keyword).isEmpty then 0 else 1) < 30)) = true := by
    rw [star_all hn]
    have : (x :: xs).length < 30 := by omega
    simp only [List.length_nil, List.isEmpty_nil, if_true, Nat.add_zero, decide_eq_true this, Bool.true_and, Bool.and_true]
    rfl
  have main : PE X (.Call (.Attribute o m.nm ap) (x :: xs) [] p) (tBM X.K m.ty (rMut m) (tVar i) (tDs T Wx (evDs nc (callN P nc k) es))) := by
    cases m with
    | append => exact pe_bm PySem.F.plainAttrs_list PySem.F.slot_list_append PySem.F.type_list_append mt_append (var_ok G ho) h hbase hfew hl (star_each hn'.1 _ _) (star_any hn'.2)
    | pop => exact pe_bm PySem.F.plainAttrs_list PySem.F.slot_list_pop PySem.F.type_list_pop mt_pop (var_ok G ho) h hbase hfew hl (star_each hn'.1 _ _) (star_any hn'.2)
    | popAt => exact pe_bm PySem.F.plainAttrs_list PySem.F.slot_list_pop PySem.F.type_list_pop mt_popAt (var_ok G ho) h hbase hfew hl (star_each hn'.1 _ _) (star_any hn'.2)
    | extend => exact pe_bm PySem.F.plainAttrs_list PySem.F.slot_list_extend PySem.F.type_list_extend mt_extend (var_ok G ho) h hbase hfew hl (star_each hn'.1 _ _) (star_any hn'.2)
    | update => exact pe_bm PySem.F.plainAttrs_dict PySem.F.slot_dict_update PySem.F.type_dict_update mt_update (var_ok G ho) h hbase hfew hl (star_each hn'.1 _ _) (star_any hn'.2)
  refine main.impC fun σ H Q ⟨F, c, S, q⟩ => ?_
  simp only [evX, ev] at q
  split at q
  · rename_i w0 hz
    split at q
    · rename_i hk
      obtain ⟨v, h1, h2⟩ := S.at_ i _ hz
      refine ⟨v, h1, mut_ty h2 hk, F, c, S, q.bind.mono fun ds F1 c1 H1 _ st1 q1 vs rs => ?_⟩
      split at q1
      · rename_i w hw
        split at q1
        · rename_i d w' hm
          refine (mut_ok st1.sim hw h1 rs hm fun F' r H' s' r' => ?_).1
          exact q1 F' H' s' r ⟨r', fun z => nomatch z⟩
        · exact q1.elim
      · exact q1.elim
    · exact q.elim
  · exact q.elim
theorem base_call {x : Expr} (h : baseC x = true) (f : Str) (env : Env) : attributeBase x f env (eval x env) = eval x env := by
  cases x with
  | Call g as ks q => cases as with
    | nil => cases h
    | cons a as => cases g <;> rfl
  | _ => first | rfl | (cases h; done)
theorem ae_mth (G : Gd Γ T P nc k Wx N sc X) {m : Mth} {a : Ex} {es : List Ex} {o x : Expr} {xs : List Expr} {ap p : Pos} (ho : baseC o = true) (ha : AO T P nc k Wx X a o) (h : AOs T P nc k Wx X es (x :: xs)) (hn : (x :: xs).all noStar = true) (hl : (ap.endLine == p.line) = true) (hs : (x :: xs).length < 10) :
    AE T P nc k Wx X (.mth m a es) (.Call (.Attribute o m.nm ap) (x :: xs) [] p) := by
  have hn' : noStar x = true ∧ xs.all noStar = true := by rw [List.all_cons, Bool.and_eq_true] at hn; exact hn
  have hbase := fun f => base_call ho f X.env
  have hfew : ((backTo p (starEach (x :: xs) X.env)).all (fun x => !x.1) && (backToKw p (keywordEach [] X.env)).all (fun x => x.1.isSome)
      && decide ((x :: xs).length + ([] : List Keyword).length + (if ([] : List Keyword).isEmpty then 0 else 1) < 30)) = true := by
    rw [star_all hn]
    have : (x :: xs).length < 30 := by omega
    simp only [List.length_nil, List.isEmpty_nil, if_true, Nat.add_zero, decide_eq_true this, Bool.true_and, Bool.and_true]
    rfl
  have main : PE X (.Call (.Attribute o m.nm ap) (x :: xs) [] p) (tBM X.K m.ty (rMth X.K m) (tO T Wx (opd a (evX P nc k a))) (tOs T Wx (evOs nc (callN P nc k) es))) := by
    cases m with
    | lcount => exact pe_bm PySem.F.plainAttrs_list PySem.F.slot_list_count PySem.F.type_list_count (mt_lcount.or (mt_cntB G.u65)) ha h (hbase _) hfew hl (star_each hn'.1 _ _) (star_any hn'.2)
    | lindex => exact pe_bm PySem.F.plainAttrs_list PySem.F.slot_list_index PySem.F.type_list_index mt_index ha h (hbase _) hfew hl (star_each hn'.1 _ _) (star_any hn'.2)
    | scount => exact pe_bm PySem.F.plainAttrs_str PySem.F.slot_str_count PySem.F.type_str_count mt_count ha h (hbase _) hfew hl (star_each hn'.1 _ _) (star_any hn'.2)
    | join => exact pe_bm PySem.F.plainAttrs_str PySem.F.slot_str_join PySem.F.type_str_join mt_join ha h (hbase _) hfew hl (star_each hn'.1 _ _) (star_any hn'.2)
    | sindex => exact pe_bm PySem.F.plainAttrs_str PySem.F.slot_str_index PySem.F.type_str_index mt_sindex ha h (hbase _) hfew hl (star_each hn'.1 _ _) (star_any hn'.2)
  refine main.impC fun σ H Q ⟨F, c, S, q⟩ => ⟨F, c, S, ?_⟩
  simp only [evX, ev] at q
  refine q.bind.mono fun y F1 c1 H1 _ st1 q1 v1 r1 => ?_
  split at q1
  · rename_i d ed
    split at q1
    · rename_i ht
      rw [G.kT]
      refine ⟨mth_ty st1.sim (rd_ok st1.sim r1 ed) ht, F1, c1, st1.sim, q1.bind.mono fun ys F2 c2 H2 _ st2 q2 vs rs => ?_⟩
      obtain ⟨w, e, q3⟩ := q2.ofO
      obtain ⟨x', ex, e⟩ := Option.bind_eq_some_iff.mp e
      obtain ⟨ds, ey, e⟩ := Option.bind_eq_some_iff.mp e
      exact mth_ok st2.sim (rd_ok st2.sim (r1.grow st2.gr) ex) (rds_ok st2.sim rs ey) e (.of (st1.trans st2) q3)
    · exact q1.elim
  · exact q1.elim
theorem ae_pop (G : Gd Γ T P nc k Wx N sc X) {i : Nat} {o : Expr} {ap p : Pos} (ho : varB N sc i o = true) (hl : (ap.endLine == p.line) = true) : AE T P nc k Wx X (.mut .pop i []) (.Call (.Attribute o Mut.pop.nm ap) [] [] p) := by
  have hbase : attributeBase o Mut.pop.nm X.env (eval o X.env) = eval o X.env := by
    unfold varB at ho
    split at ho
    · rfl
    · cases ho
  refine (pe_bm0 PySem.F.plainAttrs_list PySem.F.slot_list_pop PySem.F.type_list_pop mt_pop (var_ok G ho) hbase hl).impC fun σ H Q ⟨F, c, S, q⟩ => ?_
  simp only [evX, ev, evDs, R.bind_ok] at q
  split at q
  · rename_i w0 hz
    split at q
    · rename_i hk
      obtain ⟨v, h1, h2⟩ := S.at_ i _ hz
      refine ⟨v, h1, mut_ty (m := .pop) h2 hk, ?_⟩
      simp only at q
      split at q
      · rename_i d w' hm
        refine (mut_ok (m := .pop) S hz h1 .nil hm fun F' r H' s' r' => ?_).1
        exact q F' H' s' r ⟨r', fun z => nomatch z⟩
      · exact q.elim
    · exact q.elim
  · exact q.elim
end
end Cl

/-! Cl, part I: calls of the text's own defs. -/
namespace Cl
open PySem PySem.Spec PyProof.Rows L2
section
variable {Γ : Gt} {T : Tb} {P : Pg} {nc k : Nat} {Wx : WX} {N : List Str} {sc : Scope} {X : Cx}
def RA (T : Tb) (F : Hp) (σ : L2.St) : Ag → V → Prop
  | .d x, v => DR T F x v
  | .io i, v => σ[i]? = some (some v)
inductive RAs (T : Tb) (F : Hp) (σ : L2.St) : List Ag → List V → Prop
  | nil : RAs T F σ [] []
  | cons {a : Ag} {v : V} {as : List Ag} {vs : List V} : RA T F σ a v → RAs T F σ as vs → RAs T F σ (a :: as) (v :: vs)
theorem RA.grow {F F' : Hp} {σ : L2.St} (g : ∀ a o, F a = some o → F' a = some o) {a : Ag} {v : V} (r : RA T F σ a v) : RA T F' σ a v := by
  cases a with
  | d x => exact DR.grow g r
  | io i => exact r
def tAs (T : Tb) (Wx : WX) (f : Sg → R Sg (List Ag)) : TA := fun σ H Q => ∃ F c, Sim T F c σ H ∧ PostP T Wx σ F c H (f c) fun xs F' _ H' => ∀ vs, RAs T F' σ xs vs → Q vs H'
abbrev AAs (T : Tb) (P : Pg) (nc k : Nat) (Wx : WX) (X : Cx) (es : List Ex) (xs : List Expr) : Prop := PA X xs (tAs T Wx (evAs nc (callN P nc k) es))
theorem aas_nil : AAs T P nc k Wx X [] [] := pa_nil.impC fun σ H Q ⟨F, c, S, q⟩ => q F H (.refl S) [] .nil
theorem aas_io {i : Nat} {es : List Ex} {x : Expr} {xs : List Expr} (h : PE X x (tVar i)) (hs : AAs T P nc k Wx X es xs) (hn : noStar x = true) : AAs T P nc k Wx X (.io i :: es) (x :: xs) := by
  refine (pa_cons h hs (star_each hn xs X.env)).impC fun σ H Q ⟨F, c, S, q⟩ => ?_
  simp only [evAs] at q
  split at q
  · rename_i w hw
    obtain ⟨v, h1, _⟩ := S.at_ i w hw
    exact ⟨v, h1, F, c, S, q.bind.mono fun as F1 c1 H1 _ st1 q1 vs rs => q1 F1 H1 (.refl st1.sim) (v :: vs) (.cons h1 rs)⟩
  · exact q.elim
theorem aas_cons {e : Ex} {es : List Ex} {x : Expr} {xs : List Expr} (h : AE T P nc k Wx X e x) (hs : AAs T P nc k Wx X es xs) (hn : noStar x = true) (hi : ∀ i, e ≠ .io i) : AAs T P nc k Wx X (e :: es) (x :: xs) := by
  refine (pa_cons h hs (star_each hn xs X.env)).impC fun σ H Q ⟨F, c, S, q⟩ => ⟨F, c, S, ?_⟩
  have he : evAs nc (callN P nc k) (e :: es) c = (ev nc (callN P nc k) e c).bind fun w σ1 => (evAs nc (callN P nc k) es σ1).bind fun xs σ2 => .ok (.d w.toD :: xs) σ2 := by
    cases e <;> first | rfl | exact absurd rfl (hi _)
  rw [he] at q
  refine q.bind.mono fun w F1 c1 H1 he st1 q1 v1 r1 => ?_
  obtain ⟨F2, st2, r2, g2⟩ := st1.freeze S r1
  refine ⟨F2, c1, st2.sim, (q.bind' he st2).bind.mono fun ds F3 c3 H3 _ st3 q3 vs rs => ?_⟩
  exact q3 F3 H3 (.refl st3.sim) (v1 :: vs) (.cons (DR.grow st3.gr r2) rs)

/-! ### handing over -/
section
variable {F H : Hp} {c : Sg} {σ : L2.St}
/-- argument n: its value, the slot it came of -/
theorem ags_at (S : Sim T F c σ H) : ∀ {ags : List Ag} {vs : List V} {ws : List W}, RAs T F σ ags vs → agWs c ags = some ws →
    ws.length = vs.length ∧ ags.length = ws.length ∧ ∀ (n : Nat) (w : W), ws[n]? = some w → ∃ v, vs[n]? = some v ∧ RS T F H w v ∧ (w.own = true → ∃ i, ags[n]? = some (.io i) ∧ c[i]? = some (some w) ∧ σ[i]? = some (some v))
  | _, _, _, .nil, e => by simp [agWs] at e; subst e; exact ⟨rfl, rfl, fun n w h => by simp at h⟩
  | a :: as, _, ws, .cons r t, e => by
    simp only [agWs] at e
    split at e
    · rename_i w ws' e1 e2
      cases e
      obtain ⟨l1, l2, ih⟩ := ags_at S t e2
      refine ⟨by simp [l1], by simp [l2], fun n u h => ?_⟩
      cases n with
      | zero =>
        simp at h
        subst h
        refine ⟨_, rfl, ?_⟩
        cases a with
        | d x => cases e1; exact ⟨r, fun z => nomatch z⟩
        | io i =>
          have hc : c[i]? = some (some w) ∧ w.own = true := by
            simp only [agW] at e1
            split at e1 <;> first | (cases e1; exact ⟨by assumption, rfl⟩) | cases e1
          obtain ⟨v', h1, h2⟩ := S.at_ i w hc.1
          rw [(show σ[i]? = some (some _) from r)] at h1
          cases h1
          exact ⟨h2, fun _ => ⟨i, rfl, hc.1, r⟩⟩
      | succ n =>
        obtain ⟨v, h1, h2, h3⟩ := ih n u (by simpa using h)
        exact ⟨v, by simpa using h1, h2, fun o => by simpa using h3 o⟩
    · cases e
theorem ioS_mem : ∀ {ags : List Ag} {i : Nat}, i ∈ ioS ags ↔ ∃ n : Nat, ags[n]? = some (.io i)
  | [], i => ⟨fun h => by simp [ioS] at h, fun ⟨n, h⟩ => by simp at h⟩
  | .io j :: as, i => by
    rw [ioS, List.mem_cons, ioS_mem]
    constructor
    · rintro (rfl | ⟨n, h⟩)
      · exact ⟨0, rfl⟩
      · exact ⟨n + 1, by simpa using h⟩
    · rintro ⟨n, h⟩
      cases n with
      | zero => simp at h; exact .inl h.symm
      | succ n => exact .inr ⟨n, by simpa using h⟩
  | .d x :: as, i => by
    rw [ioS, ioS_mem]
    constructor
    · rintro ⟨n, h⟩; exact ⟨n + 1, by simpa using h⟩
    · rintro ⟨n, h⟩
      cases n with
      | zero => simp at h
      | succ n => exact ⟨n, by simpa using h⟩
theorem ioS_inj : ∀ {ags : List Ag}, (ioS ags).Nodup → ∀ {i n m : Nat}, ags[n]? = some (.io i) → ags[m]? = some (.io i) → n = m
  | [], _, _, n, _, h, _ => by simp at h
  | a :: as, nd, i, n, m, h1, h2 => by
    have nd' : (ioS as).Nodup ∧ (∀ j, a = .io j → j ∉ ioS as) := by
      cases a with
      | io j => rw [ioS, List.nodup_cons] at nd; exact ⟨nd.2, fun j' e => by cases e; exact nd.1⟩
      | d x => exact ⟨nd, fun j e => nomatch e⟩
    cases n with
    | zero =>
      cases m with
      | zero => rfl
      | succ m =>
        simp at h1
        exact absurd (ioS_mem.mpr ⟨m, by simpa using h2⟩) (nd'.2 i h1)
    | succ n =>
      cases m with
      | zero =>
        simp at h2
        exact absurd (ioS_mem.mpr ⟨n, by simpa using h1⟩) (nd'.2 i h2)
      | succ m => rw [ioS_inj nd'.1 (i := i) (n := n) (m := m) (by simpa using h1) (by simpa using h2)]
/-- the arguments as a state of their own -/
theorem args_sim (S : Sim T F c σ H) {ags : List Ag} {vs : List V} {ws : List W} (r : RAs T F σ ags vs) (e : agWs c ags = some ws) (nd : (ioS ags).Nodup) : Sim T F (ws.map some) (vs.map some) H := by
  obtain ⟨l1, l2, at_⟩ := ags_at S r e
  have got : ∀ (n : Nat) (w : W), (ws.map some)[n]? = some (some w) → ws[n]? = some w := fun n w h => by
    rw [List.getElem?_map] at h
    cases q : ws[n]? with
    | none => rw [q] at h; cases h
    | some u => rw [q] at h; cases h; rfl
  have gotv : ∀ (n : Nat) (v : V), (vs.map some)[n]? = some (some v) → vs[n]? = some v := fun n w h => by
    rw [List.getElem?_map] at h
    cases q : vs[n]? with
    | none => rw [q] at h; cases h
    | some u => rw [q] at h; cases h; rfl
  refine ⟨S.sub, by simp [l1], fun n w h => ?_, fun n m w u a h1 o1 h2 o2 h3 h4 => ?_, ?_, ?_⟩
  · obtain ⟨v, q1, q2, _⟩ := at_ n w (got n w h)
    exact ⟨v, by rw [List.getElem?_map, q1]; rfl, q2⟩
  · obtain ⟨v, q1, q2, q3⟩ := at_ n w (got n w h1)
    obtain ⟨v', p1, p2, p3⟩ := at_ m u (got m u h2)
    rw [gotv n _ h3] at q1
    rw [gotv m _ h4] at p1
    cases q1
    cases p1
    obtain ⟨i, i1, i2, i3⟩ := q3 o1
    obtain ⟨j, j1, j2, j3⟩ := p3 o2
    have : i = j := S.inj i j w u a i2 o1 j2 o2 i3 j3
    subst this
    exact ioS_inj nd i1 j1
  · exact S.ft
  · exact S.tb
/-- slots and places of what is handed over -/
theorem own_pairs (S : Sim T F c σ H) : ∀ {ags : List Ag} {vs : List V} {ws : List W} (b : Nat), RAs T F σ ags vs → agWs c ags = some ws →
    Paired (fun i n => ∃ m, n = b + m ∧ ags[m]? = some (.io i) ∧ ∃ v, vs[m]? = some v ∧ σ[i]? = some (some v)) (ioS ags) (ownIx b ws)
  | _, _, _, _, .nil, e => by simp [agWs] at e; subst e; exact .nil
  | a :: as, v0 :: vs0, ws, b, .cons r t, e => by
    simp only [agWs] at e
    split at e
    · rename_i w ws' e1 e2
      cases e
      have ih := own_pairs S (b + 1) t e2
      have ih' : Paired (fun i n => ∃ m, n = b + m ∧ (a :: as)[m]? = some (.io i) ∧ ∃ v, (v0 :: vs0)[m]? = some v ∧ σ[i]? = some (some v)) (ioS as) (ownIx (b + 1) ws') :=
        Paired.mapP ih fun i n ⟨m, h1, h2, v, h3, h4⟩ => ⟨m + 1, by omega, by simpa using h2, v, by simpa using h3, h4⟩
      cases a with
      | d x => cases e1; exact ih'
      | io i =>
        have hw : w.own = true := by
          simp only [agW] at e1
          split at e1 <;> first | (cases e1; rfl) | cases e1
        rw [ioS, ownIx, if_pos hw]
        exact .cons ⟨0, rfl, rfl, _, rfl, r⟩ ih'
    · cases e
/-- what stands behind putBack -/
theorem putBack_at : ∀ {is : List Nat} {os : List W} {c c' : Sg}, is.Nodup → putBack c is os = some c' → c'.length = c.length ∧ (∀ w ∈ os, w.own = true) ∧ is.length = os.length ∧
    (∀ j, j ∉ is → c'[j]? = c[j]?) ∧ ∀ (n i : Nat) (o : W), is[n]? = some i → os[n]? = some o → i < c.length → c'[i]? = some (some o)
  | [], [], c, c', _, h => by simp [putBack] at h; subst h; exact ⟨rfl, by simp, rfl, fun _ _ => rfl, fun n i o h => by simp at h⟩
  | [], _ :: _, _, _, _, h => by simp [putBack] at h
  | _ :: _, [], _, _, _, h => by simp [putBack] at h
  | i :: is, o :: os, c, c', nd, h => by
    rw [List.nodup_cons] at nd
    simp only [putBack] at h
    split at h
    · rename_i ow
      obtain ⟨h1, h2, h3, h4, h5⟩ := putBack_at nd.2 h
      rw [List.length_set] at h1
      refine ⟨h1, fun w hw => ?_, by simp [h3], fun j hj => ?_, fun n j u hj hu hl => ?_⟩
      · rcases List.mem_cons.mp hw with rfl | hw
        · exact ow
        · exact h2 w hw
      · rw [List.mem_cons, not_or] at hj
        rw [h4 j hj.2, List.getElem?_set_ne (Ne.symm hj.1)]
      · cases n with
        | zero =>
          simp at hj hu
          subst hj hu
          rw [h4 i nd.1, List.getElem?_set_self hl]
        | succ n =>
          exact h5 n j u (by simpa using hj) (by simpa using hu) (by rw [List.length_set]; exact hl)
    · cases h
theorem Paired.at_ {α β : Type} {R : α → β → Prop} : ∀ {xs : List α} {ys : List β}, Paired R xs ys → xs.length = ys.length ∧ ∀ (n : Nat) (x : α), xs[n]? = some x → ∃ y, ys[n]? = some y ∧ R x y
  | _, _, .nil => ⟨rfl, fun n x h => by simp at h⟩
  | _, _, .cons r t => by
    obtain ⟨l, at_⟩ := Paired.at_ t
    refine ⟨by simp [l], fun n x h => ?_⟩
    cases n with
    | zero => simp at h; subst h; exact ⟨_, rfl, r⟩
    | succ n => simpa using at_ n x (by simpa using h)

/-- behind a call -/
theorem back_stp (S : Sim T F c σ H) {ags : List Ag} {vs : List V} {ws : List W} {os : List W} {c' : Sg} {F' H' : Hp} (r : RAs T F σ ags vs) (e : agWs c ags = some ws) (nd : (ioS ags).Nodup) (pb : putBack c (ioS ags) os = some c')
    (gr : ∀ a o, F a = some o → F' a = some o) (sub : ∀ a o, F' a = some o → H' a = some o) (fr : ∀ a o, H a = some o → (∀ ps, o ≠ .tbl ps) → ¬ OwnA (ws.map some) (vs.map some) a → H' a = some o) (dom : ∀ a, NV H' a → NV H a)
    (nf : ∀ a o, F' a = some o → F a = some o ∨ NV H a ∨ OwnA (ws.map some) (vs.map some) a) (ft : ∀ a ps, F' a ≠ some (.tbl ps)) (tb : TB T H') (outs : Paired (fun i o => ∃ u, vs[i]? = some u ∧ RS T F' H' o u) (ownIx 0 ws) os) : Stp T σ F c H F' c' H' := by
  obtain ⟨l1, l2, at_⟩ := ags_at S r e
  have prs := own_pairs S 0 r e
  obtain ⟨p1, p2, p3, p4, p5⟩ := putBack_at nd pb
  obtain ⟨q1, q2⟩ := Paired.at_ prs
  obtain ⟨o1, o2⟩ := Paired.at_ outs
  have got : ∀ {α : Type} (l : List α) (n : Nat) (w : α), (l.map some)[n]? = some (some w) → l[n]? = some w := fun l n w h => by
    rw [List.getElem?_map] at h
    cases q : l[n]? with
    | none => rw [q] at h; cases h
    | some u => rw [q] at h; cases h; rfl
  -- what is handed over is of ours
  have ours : ∀ a, OwnA (ws.map some) (vs.map some) a → ∃ i ∈ ioS ags, ∃ w : W, c[i]? = some (some w) ∧ w.own = true ∧ σ[i]? = some (some (.ref a)) := fun a ⟨n, w, h1, h2, h3⟩ => by
    obtain ⟨v, z1, z2, z3⟩ := at_ n w (got ws n w h1)
    rw [got vs n _ h3] at z1
    cases z1
    obtain ⟨i, i1, i2, i3⟩ := z3 h2
    exact ⟨i, ioS_mem.mpr ⟨n, i1⟩, w, i2, h2, i3⟩
  have oursA : ∀ a, OwnA (ws.map some) (vs.map some) a → OwnA c σ a := fun a h => by
    obtain ⟨i, _, w, h1, h2, h3⟩ := ours a h
    exact ⟨i, w, h1, h2, h3⟩
  -- a slot that was handed over
  have slot : ∀ i ∈ ioS ags, ∃ w o v, c[i]? = some (some w) ∧ w.own = true ∧ c'[i]? = some (some o) ∧ o.own = true ∧ σ[i]? = some (some v) ∧ RS T F' H' o v ∧ RS T F H w v := fun i hi => by
    obtain ⟨n, hn⟩ := List.getElem?_of_mem hi
    obtain ⟨m, hm, m', em, a1, v, v1, v2⟩ := q2 n i hn
    obtain ⟨o, ho, u, u1, u2⟩ := o2 n m hm
    have e' : m = m' := by omega
    subst e'
    rw [u1] at v1
    cases v1
    have hl : m < ws.length := by
      have := lt_of_get a1
      omega
    obtain ⟨v', z1, z2, z3⟩ := at_ m ws[m] (List.getElem?_eq_getElem hl)
    rw [u1] at z1
    cases z1
    have ow : (ws[m]).own = true := by
      cases hh : (ws[m]).own with
      | true => rfl
      | false =>
        -- an argument of this kind is no slot
        exfalso
        have hg : agW c (.io i) = some ws[m] := by
          have key : ∀ {ags : List Ag} {ws : List W}, agWs c ags = some ws → ∀ (n : Nat) (a : Ag), ags[n]? = some a → ∃ w, ws[n]? = some w ∧ agW c a = some w := by
            intro ags
            induction ags with
            | nil => intro ws e n a h; simp at h
            | cons b bs ih =>
              intro ws e n a h
              simp only [agWs] at e
              split at e
              · rename_i w ws' e1 e2
                cases e
                cases n with
                | zero => simp at h; subst h; exact ⟨w, rfl, e1⟩
                | succ n => simpa using ih e2 n a (by simpa using h)
              · cases e
          obtain ⟨w, k1, k2⟩ := key e m _ a1
          rw [List.getElem?_eq_getElem hl] at k1
          cases k1
          exact k2
        simp only [agW] at hg
        split at hg <;> first | (cases hg; done) | (have hg' := Option.some.inj hg; rw [← hg'] at hh; cases hh)
    obtain ⟨i', i1, i2, i3⟩ := z3 ow
    rw [a1] at i1
    cases i1
    have oo : o.own = true := p2 o (List.mem_of_getElem? ho)
    exact ⟨ws[m], o, _, i2, ow, p5 n i o hn ho (lt_of_get i2), oo, v2, u2, z2⟩
  have kindOf : ∀ (j : Nat) (w : W), c'[j]? = some (some w) → w.own = true → ∃ w0 : W, c[j]? = some (some w0) ∧ w0.own = true := fun j w h o => by
    by_cases hj : j ∈ ioS ags
    · obtain ⟨w0, _, _, h1, h2, _⟩ := slot j hj
      exact ⟨w0, h1, h2⟩
    · rw [p4 j hj] at h; exact ⟨w, h, o⟩
  refine ⟨gr, ⟨sub, by rw [p1]; exact S.len, fun j w h => ?_, fun i j w u a h1 o1' h2 o2' h3 h4 => ?_, ft, tb⟩, fun a o h p n => fr a o h p fun z => n (oursA a z), fun j w h o => ?_, dom, fun a o h => ?_⟩
  · by_cases hj : j ∈ ioS ags
    · obtain ⟨w0, o, v, h1, h2, h3, h4, h5, h6, _⟩ := slot j hj
      rw [h3] at h
      cases h
      exact ⟨v, h5, h6⟩
    · rw [p4 j hj] at h
      obtain ⟨v, h1, h2⟩ := S.at_ j w h
      have apart : ∀ b, w.own = true → v = .ref b → ¬ OwnA (ws.map some) (vs.map some) b := fun b ob eb z => by
        obtain ⟨i, hi, w', i1, i2, i3⟩ := ours b z
        have : j = i := S.inj j i w w' b h ob i1 i2 (by rw [h1, eb]) i3
        exact hj (this ▸ hi)
      refine ⟨v, h1, h2.keep gr (fun b ob eb => ?_) fun b x ob eb q => ?_⟩
      rotate_left
      · obtain ⟨b', e', f, y, hy, iy⟩ := h2.own_at ob
        rw [eb] at e'
        cases e'
        have q' := q
        rw [hy] at q'
        rw [← Option.some.inj q']
        exact fr b y hy (fun ps z => by rw [z] at iy; cases iy) (apart b ob eb)
      obtain ⟨b', e', f, x, hx, ix⟩ := h2.own_at ob
      rw [eb] at e'
      cases e'
      cases q : F' b with
      | none => rfl
      | some y =>
        rcases nf b y q with z | z | z
        · rw [f] at z; cases z
        · exact (z.no hx ix).elim
        · exact absurd z (apart b ob eb)
  · obtain ⟨w0, k1, k2⟩ := kindOf i w h1 o1'
    obtain ⟨u0, m1, m2⟩ := kindOf j u h2 o2'
    exact S.inj i j w0 u0 a k1 k2 m1 m2 h3 h4
  · by_cases hj : j ∈ ioS ags
    · obtain ⟨w0, o', v, h1, h2, h3, h4, h5, h6, h7⟩ := slot j hj
      rw [h3] at h
      cases h
      exact ⟨w0, h1, h2⟩
    · rw [p4 j hj] at h; exact ⟨w, h, o⟩
  · rcases nf a o h with z | z | z
    · exact .inl z
    · exact .inr (.inl z)
    · exact .inr (.inr (oursA a z))
end

theorem callN_len {f : Nat} {ws : List W} {fd : Fd} (hp : P[f]? = some fd) (h : callN P nc k f ws ≠ .bad) : ws.length = fd.np := by
  cases k with
  | zero => exact absurd rfl h
  | succ k =>
    simp only [callN, hp] at h
    split at h
    · split at h
      · rename_i q; exact q.1
      · exact absurd rfl h
    · split at h
      · rename_i q; exact q.1
      · exact absurd rfl h
/-! ### new instances -/
def tMakeS (C : Addr) (sp : Sp) (E : L2.St → XK) (t : TA) : TE := fun σ H Q => t σ H fun vs H1 => ∀ x dx, H1 x = none → H1 dx = none → dx ≠ x →
  sp (.ref x :: vs) (upd (upd H1 dx (.own x)) x (.ins C dx [])) (fun v H2 => v = .non ∧ Q (.ref x) H2) (E σ)
theorem run_makeS {X : Cx} {CX : CXT} {k : Nat} {f C : Addr} {fd : FuncData} {ps : List Str} {sp : Sp} {E : L2.St → XK} {pins : List (Addr × Obj)} {σ : L2.St} {H : Hp} {s : Shared} {Q : VK} {us : List Value} {vs : List V} (M : Mk X.K C f) (F : FnOk X.prog X.w X.K X.mg X.base CX k f fd ps sp) (hr : Room (k + 1) X.A) (hb : Binds X.K fd ps [])
    (hx : PassesAt CX X σ (E σ)) (I : Inv X pins σ H s) (r : Vals vs us)
    (h : ∀ x dx, H x = none → H dx = none → dx ≠ x → sp (.ref x :: vs) (upd (upd H dx (.own x)) x (.ins C dx [])) (fun v H2 => v = .non ∧ Q (.ref x) H2) (E σ)) :
    wpAny (model X.prog X.w) X.A (call (.ref C) us) (EP X pins σ Q) X.xe s := by
  have hq := h (s.heap.objs.size + 1) s.heap.objs.size (I.hok.fresh (Nat.le_succ _)) (I.hok.fresh (Nat.le_refl _)) (Nat.ne_of_lt (Nat.lt_succ_self _))
  have I2 := Inv.made (C := C) I
  have r2 : Vals (V.ref (s.heap.objs.size + 1) :: vs) (Value.ref (s.heap.objs.size + 1) :: us) := .cons rfl r
  have hl : (Value.ref (s.heap.objs.size + 1) :: us ++ []).length = ps.length := by
    have e := r2.length
    rw [F.len _ _ _ _ hq] at e
    rw [List.append_nil]
    exact e.symm
  have hb2 := hb { s with heap := (s.heap.push PySem.W.emptyDict).push (PySem.W.instObj C s.heap.objs.size) } (Value.ref (s.heap.objs.size + 1) :: us) I2.kIn hl
  rw [List.append_nil] at hb2
  refine wpAny_call (make_map (f := f) I.kIn M.makes M.init (beq_iff_eq.mp M.fn) (codeAny_mono (F.run _ X.stack _ _ ⟨Value.ref (s.heap.objs.size + 1) :: us, []⟩ (Value.ref (s.heap.objs.size + 1) :: us) _ _ (E σ) (hr.make C us [])
    (I2.env0.make C us []) hb2 r2 hq) fun r s' hq' => ?_))
  cases r with
  | error e => exact hx pins _ _ e s' I2 hq'
  | ok fl =>
    cases fl with
    | ret u =>
      obtain ⟨v, H', I3, rv, ev, q3⟩ := I2.after hq'
      subst ev
      exact ⟨rv, ⟨V.ref (s.heap.objs.size + 1), H', I3, rfl, q3⟩⟩
    | next => exact False.elim hq'
    | brk => exact False.elim hq'
    | cont => exact False.elim hq'
theorem pe_makeS {X : Cx} {CX : CXT} {k : Nat} {f C : Addr} {fd : FuncData} {ps : List Str} {sp : Sp} {E : L2.St → XK} {x : Str} {p pos : Pos} {e : Expr} {es : List Expr} {t : TA} (M : Mk X.K C f) (F : FnOk X.prog X.w X.K X.mg X.base CX k f fd ps sp) (hr : Room (k + 1) X.A) (hg : Gl X x) (hm : X.mg x = some (.ref C)) (hb : Binds X.K fd ps [])
    (hx : ∀ σ, PassesAt CX X σ (E σ))
    (ha : PA X (e :: es) t) (hdb : (x == ("__debug__" : Str)) = false) (he : starEach (e :: es) X.env = (false, eval e X.env) :: starEach es X.env) (hpl : (backTo pos (starEach es X.env)).any (·.1) = false) :
    PE X (.Call (.Name x p) (e :: es) [] pos) (tMakeS C sp E t) := by
  refine ⟨fun pins s σ H Q I h => ?_⟩
  refine wpAny_Call_Name_kw (ld_glob I hg hm ?_ hdb)
  refine PySem.W.callWith_K (h₀ := X.base) I.ok.mod.kin M.kp (thn (ha.run pos pins s σ H _ I h) fun us s1 ⟨vs, H1, I1, r, q⟩ => ⟨I1.kIn, ?_⟩) he hpl
  exact run_makeS M F hr hb (hx σ) I1 r q
section
variable {F H : Hp} {c : Sg} {σ : L2.St}
/-- behind what changes one new thing alone -/
theorem Sim.byNew (S : Sim T F c σ H) {F' H' : Hp} {x : Addr} (hx : H x = none) (gr : ∀ a o, F a = some o → F' a = some o) (sub : ∀ a o, F' a = some o → H' a = some o) (fr : ∀ a o, H a = some o → (∀ ps, o ≠ .tbl ps) → H' a = some o) (dom : ∀ a, NV H' a → NV H a)
    (nf : ∀ a o, F' a = some o → F a = some o ∨ NV H a) (ft : ∀ a ps, F' a ≠ some (.tbl ps)) (tb : TB T H') : Stp T σ F c H F' c H' := by
  refine ⟨gr, ⟨sub, S.len, fun j w h => ?_, S.inj, ft, tb⟩, fun a o h p _ => fr a o h p, fun j w h o => ⟨w, h, o⟩, dom, fun a o h => (nf a o h).imp id .inl⟩
  obtain ⟨v, h1, h2⟩ := S.at_ j w h
  refine ⟨v, h1, h2.keep gr (fun b ob eb => ?_) fun b o ob eb q => ?_⟩
  rotate_left
  · obtain ⟨b', e', f, y, hy, iy⟩ := h2.own_at ob
    rw [eb] at e'
    cases e'
    have q' := q
    rw [hy] at q'
    rw [← Option.some.inj q']
    exact fr b y hy (fun ps z => by rw [z] at iy; cases iy)
  obtain ⟨b', e', f, o, ho, io⟩ := h2.own_at ob
  rw [eb] at e'
  cases e'
  cases q : F' b with
  | none => rfl
  | some y =>
    rcases nf b y q with z | z
    · rw [f] at z; cases z
    · exact (z.no ho io).elim
theorem ownIx_none : ∀ {n : Nat} {ws : List W}, ws.all (fun w => !w.own) = true → ownIx n ws = []
  | _, [], _ => rfl
  | n, w :: ws, h => by
    rw [List.all_cons, Bool.and_eq_true] at h
    have h1 : w.own = false := by simpa using h.1
    rw [ownIx, h1, if_neg Bool.false_ne_true, ownIx_none h.2]
theorem own_none {ws : List W} (h : ws.all (fun w => !w.own) = true) {n : Nat} {w : W} (hw : ws[n]? = some w) : w.own = false := by
  have := List.all_eq_true.mp h w (List.mem_of_getElem? hw)
  simpa using this
end
theorem call_imp {f : Nat} {fd : Fd} (hp : P[f]? = some fd) {es : List Ex} {σ : L2.St} {H : Hp} {Q : VK} (q : tE T Wx (evX P nc k (.call f es)) σ H Q) : tCallS (spR T P nc k f fd.np) (WE Wx) (tAs T Wx (evAs nc (callN P nc k) es)) σ H Q := by
  obtain ⟨F, c, S, q⟩ := q
  refine ⟨F, c, S, ?_⟩
  simp only [evX, ev] at q
  refine q.bind.mono fun ags F1 c1 H1 _ st1 q1 vs rs => ?_
  unfold callS at q1
  split at q1
  · rename_i nd
    split at q1
    · rename_i ws hws
      have l := ags_at st1.sim rs hws
      have sim := args_sim st1.sim rs hws nd
      have hlen : vs.length = fd.np := by
        rw [← l.1]
        refine callN_len (nc := nc) (k := k) hp fun (z : callN P nc k f ws = .bad) => ?_
        rw [z] at q1
        exact q1
      refine ⟨F1, ws, hlen, sim, ?_⟩
      cases hr : callN P nc k f ws with
      | bad => rw [hr] at q1; exact q1
      | ok w os =>
        rw [hr] at q1
        simp only at q1
        split at q1
        · rename_i c' pb
          intro F' v H' gr sub fr dom nf ft tb outs rw'
          exact q1 F' H' (back_stp st1.sim rs hws nd pb gr sub fr dom nf ft tb outs) v (rw'.later st1.dom)
        · exact q1.elim
      | exc e ds os =>
        rw [hr] at q1
        simp only at q1
        split at q1
        · rename_i c' pb
          intro F' cls d H' gr sub fr dom nf ft tb outs xr
          exact q1 F' cls d H' (back_stp st1.sim rs hws nd pb gr sub fr dom nf ft tb outs) xr
        · exact q1.elim
    · exact q1.elim
  · exact q1.elim
theorem ae_call (G : Gd Γ T P nc k Wx N sc X) {f : Nat} {es : List Ex} {x : Expr} {xs : List Expr} {g : Str} {p p2 : Pos} (h : AAs T P nc k Wx X es (x :: xs)) (hg : glB sc g = true) (hf : Γ.fn.lookup g = some f) (hn : (x :: xs).all noStar = true) :
    AE T P nc k Wx X (.call f es) (.Call (.Name g p2) (x :: xs) [] p) := by
  obtain ⟨g1, g2⟩ := gl_of G hg
  have hn' : noStar x = true ∧ xs.all noStar = true := by rw [List.all_cons, Bool.and_eq_true] at hn; exact hn
  obtain ⟨cm, fd, hp, ⟨fdd, ps, Fk, hm, hk, hb⟩ | ⟨cc, ini, fdd, ps, hmk, Fk, hm, M, hb⟩⟩ := G.fns g f hf
  rotate_left
  · refine (pe_makeS M Fk ((G.room cm).mono (by omega)) g1 hm hb (fun σ => passAt G.tk σ) h g2 (star_each hn'.1 _ _) (star_any hn'.2)).impC fun σ H Q ⟨F, c, S, q⟩ => ⟨F, c, S, ?_⟩
    simp only [evX, ev] at q
    refine q.bind.mono fun ags F1 c1 H1 _ st1 q1 vs rs x0 dx hx hdx hne => ?_
    unfold callS at q1
    split at q1
    · rename_i nd
      split at q1
      · rename_i ws hws
        have l := ags_at st1.sim rs hws
        have sim0 := args_sim st1.sim rs hws nd
        cases k with
        | zero => exact q1.elim
        | succ k =>
          simp only [callN, hp, hmk] at q1
          by_cases hc : ws.length = fd.np ∧ ws.all (fun w => !w.own) = true
          · rw [if_pos hc] at q1
            have noio : ioS ags = [] := by
              cases hio : ioS ags with
              | nil => rfl
              | cons i r =>
                obtain ⟨n, hn⟩ := ioS_mem.mp (by rw [hio]; exact List.mem_cons_self : i ∈ ioS ags)
                exfalso
                have key : ∀ {ags : List Ag} {ws : List W}, agWs c1 ags = some ws → ∀ (n i : Nat), ags[n]? = some (.io i) → ∃ w, ws[n]? = some w ∧ w.own = true := by
                  intro ags
                  induction ags with
                  | nil => intro ws e n i h; simp at h
                  | cons b bs ih =>
                    intro ws e n i h
                    simp only [agWs] at e
                    split at e
                    · rename_i w ws' e1 e2
                      cases e
                      cases n with
                      | zero =>
                        simp at h
                        subst h
                        refine ⟨w, rfl, ?_⟩
                        simp only [agW] at e1
                        split at e1 <;> first | (cases e1; rfl) | cases e1
                      | succ n => simpa using ih e2 n i (by simpa using h)
                    · cases e
                obtain ⟨w, w1, w2⟩ := key hws n i hn
                rw [own_none hc.2 w1] at w2
                cases w2
            have hF1 := st1.sim.notF hdx
            have hxF : F1 x0 = none := st1.sim.notF hx
            have s1 := st1.sim.newF (p := dx) (o := .own x0) hdx
            have hx1 : upd H1 dx (.own x0) x0 = none := by rw [upd_ne (Ne.symm hne)]; exact hx
            have s2 := s1.trans (s1.sim.newH (p := x0) (o := .ins (T.ca cc) dx []) hx1)
            -- the state of __init__'s arguments
            have hF2 : upd F1 dx (.own x0) x0 = none := by rw [upd_ne (Ne.symm hne)]; exact hxF
            have simA := (sim0.newF (p := dx) (o := .own x0) hdx).trans ((sim0.newF (p := dx) (o := .own x0) hdx).sim.newH (p := x0) (o := .ins (T.ca cc) dx []) hx1)
            have simB : Sim T (upd F1 dx (.own x0)) ((W.fo cc [] :: ws).map some) ((V.ref x0 :: vs).map some) (upd (upd H1 dx (.own x0)) x0 (.ins (T.ca cc) dx [])) := by
              refine ⟨simA.sim.sub, by simpa using simA.sim.len, fun i w hw => ?_, fun i j w u a h1 o1 h2 o2 h3 h4 => ?_, simA.sim.ft, simA.sim.tb⟩
              · cases i with
                | zero =>
                  simp at hw
                  subst hw
                  exact ⟨_, rfl, x0, dx, [], rfl, hF2, by rw [upd_same]; simp, upd_same, .nil, by simp⟩
                | succ i => simpa using simA.sim.at_ i w (by simpa using hw)
              · have z : ∀ (n : Nat) (y : W), ((W.fo cc [] :: ws).map some)[n]? = some (some y) → y.own = true → n = 0 := fun n y hy oy => by
                  cases n with
                  | zero => rfl
                  | succ n =>
                    have hy' : ws[n]? = some y := by
                      have : (ws.map some)[n]? = some (some y) := by simpa using hy
                      rw [List.getElem?_map] at this
                      cases q : ws[n]? with
                      | none => rw [q] at this; cases this
                      | some u => rw [q] at this; cases this; rfl
                    rw [own_none hc.2 hy'] at oy
                    cases oy
                rw [z i w h1 o1, z j u h2 o2]
            have ownB : ∀ a, OwnA ((W.fo cc [] :: ws).map some) ((V.ref x0 :: vs).map some) a → a = x0 := fun a ⟨i, w, h1, h2, h3⟩ => by
              cases i with
              | zero => simp at h3; exact h3.symm
              | succ n =>
                have hy' : ws[n]? = some w := by
                  have : (ws.map some)[n]? = some (some w) := by simpa using h1
                  rw [List.getElem?_map] at this
                  cases q : ws[n]? with
                  | none => rw [q] at this; cases this
                  | some u => rw [q] at this; cases this; rfl
                rw [own_none hc.2 hy'] at h2
                cases h2
            have hix : ownIx 0 (W.fo cc [] :: ws) = [0] := by
              rw [ownIx, if_pos (by rfl), ownIx_none hc.2]
            refine ⟨upd F1 dx (.own x0), .fo cc [] :: ws, ?_, simB, ?_⟩
            · show (V.ref x0 :: vs).length = fd.np + 1
              rw [List.length_cons, ← l.1, hc.1]
            -- behind __init__
            have after : ∀ {F' H' : Hp} {G' : Hp}, (∀ a o, upd F1 dx (.own x0) a = some o → F' a = some o) → (∀ a o, F' a = some o → H' a = some o) →
                (∀ a o, (upd (upd H1 dx (.own x0)) x0 (.ins (T.ca cc) dx [])) a = some o → (∀ ps, o ≠ .tbl ps) → ¬ OwnA ((W.fo cc [] :: ws).map some) ((V.ref x0 :: vs).map some) a → H' a = some o) →
                (∀ a, NV H' a → NV (upd (upd H1 dx (.own x0)) x0 (.ins (T.ca cc) dx [])) a) →
                (∀ a o, F' a = some o → upd F1 dx (.own x0) a = some o ∨ NV (upd (upd H1 dx (.own x0)) x0 (.ins (T.ca cc) dx [])) a ∨ OwnA ((W.fo cc [] :: ws).map some) ((V.ref x0 :: vs).map some) a) →
                (∀ a o, F' a = some o → G' a = some o) → (∀ a o, G' a = some o → H' a = some o) → (∀ a o, G' a = some o → F' a = some o ∨ a = x0) → (∀ a ps, G' a ≠ some (.tbl ps)) → TB T H' → Stp T σ F1 c1 H1 G' c1 H' := fun {F' H' G'} gr sub fr dom nf g1 g2 g3 g4 g5 => by
              have up : ∀ a o, H1 a = some o → (upd (upd H1 dx (.own x0)) x0 (.ins (T.ca cc) dx [])) a = some o := fun a o h => by
                rw [upd_ne (ne_of_none h hx), upd_ne (ne_of_none h hdx)]; exact h
              refine st1.sim.byNew hx (fun a o h => g1 a o (gr a o (upd_old hF1 a o h))) g2 (fun a o h p => fr a o (up a o h) p fun z => ?_) (fun a h => ?_) (fun a o h => ?_) g4 g5
              · have := ownB a z
                rw [this, hx] at h; cases h
              · exact fun o q => dom a h o (up a o q)
              · rcases g3 a o h with h | h
                · rcases nf a o h with z | z | z
                  · by_cases e : a = dx
                    · rw [e]; exact .inr (.none hdx)
                    · rw [upd_ne e] at z; exact .inl z
                  · exact .inr fun o q => z o (up a o q)
                  · rw [ownB a z]; exact .inr (.none hx)
                · rw [h]; exact .inr (.none hx)
            show match callN P nc (k + 1 - 1) ini (W.fo cc [] :: ws) with
              | .ok w os => _
              | .exc c ds os => _
              | .bad => False
            rw [Nat.add_sub_cancel]
            cases hr : callN P nc k ini (W.fo cc [] :: ws) with
            | bad => rw [hr] at q1; exact q1
            | ok w os =>
              rw [hr] at q1
              cases hm2 : mkRes cc (R.ok w os) with
              | bad => rw [hm2] at q1; exact q1.elim
              | exc e ds os' => exact (mkRes_okx hm2).elim
              | ok w' os' =>
                obtain ⟨fs, rfl, rfl, rfl, rfl⟩ := mkRes_ok hm2
                rw [hm2] at q1
                simp only at q1
                rw [noio] at q1
                simp only [putBack] at q1
                intro F' v H' gr sub fr dom nf ft tb outs rw'
                rw [hix] at outs
                cases outs with
                | cons o1 o2 =>
                  cases o2
                  obtain ⟨u, hu, r⟩ := o1
                  have hu' : u = V.ref x0 := by simpa using hu.symm
                  subst hu'
                  obtain ⟨b, dx', us, eb, fb, hb', fd', rr, lr⟩ := r
                  cases eb
                  cases rw'.1
                  refine ⟨rfl, ?_⟩
                  have gF : ∀ a o, F' a = some o → upd F' x0 (.ins (T.ca cc) dx' ((T.cf cc).zip us)) a = some o := upd_old fb
                  refine q1 _ H' (after gr sub fr dom nf gF (fun a o h => ?_) (fun a o h => ?_) (fun a ps h => ?_) tb) (.ref x0) ⟨.obj upd_same (gF _ _ fd') (rr.grow gF) lr, fun z => nomatch z⟩
                  · by_cases e : a = x0
                    · rw [e, upd_same] at h; cases h; rw [e]; exact hb'
                    · rw [upd_ne e] at h; exact sub a o h
                  · by_cases e : a = x0
                    · exact .inr e
                    · rw [upd_ne e] at h; exact .inl h
                  · by_cases e : a = x0
                    · rw [e, upd_same] at h; cases h
                    · rw [upd_ne e] at h; exact ft a ps h
            | exc e ds os =>
              rw [hr] at q1
              cases hm2 : mkRes cc (R.exc e ds os) with
              | bad => rw [hm2] at q1; exact q1.elim
              | ok w' os' => exact (mkRes_excx hm2).elim
              | exc e' ds' os' =>
                obtain ⟨rfl, rfl, rfl⟩ := mkRes_exc hm2
                rw [hm2] at q1
                simp only at q1
                rw [noio] at q1
                simp only [putBack] at q1
                intro F' cls d H' gr sub fr dom nf ft tb outs xr
                exact q1 F' cls d H' (after gr sub fr dom nf (fun _ _ h => h) sub (fun a o h => .inl h) ft tb) xr
          · rw [if_neg hc] at q1
            exact q1.elim
      · exact q1.elim
    · exact q1.elim
  exact (pe_callS Fk ((G.room cm).mono (by omega)) g1 hm hk hb (fun σ => passAt G.tk σ) h g2 (star_each hn'.1 _ _) (star_any hn'.2)).impC fun σ H Q q => call_imp hp q
theorem ae_callG (G : Gd Γ T P nc k Wx N sc X) {f : Nat} {es : List Ex} {x : Expr} {xs : List Expr} {g : Str} {p p2 : Pos} (h : AAs T P nc k Wx X es (x :: xs)) (hg : glB sc g = true) (hf : Γ.fng.lookup g = some f) (hgd : Γ.gd = true) (hn : (x :: xs).all noStar = true) :
    AE T P nc k Wx X (.call f es) (.Call (.Name g p2) (x :: xs) [] p) := by
  obtain ⟨g1, g2⟩ := gl_of G hg
  have hn' : noStar x = true ∧ xs.all noStar = true := by rw [List.all_cons, Bool.and_eq_true] at hn; exact hn
  obtain ⟨cm, fd, fdd, ps, hp, Fk, hm, hk, hb⟩ := G.fng g f hf
  exact (pe_callG Fk (G.gd hgd) ((G.room cm).mono (by omega)) g1 hm hk hb (fun σ => passAt G.tk σ) h g2 (star_each hn'.1 _ _) (star_any hn'.2)).impC fun σ H Q q => call_imp hp q
end
end Cl

/-! Cl, part J: targets, what is walked, comprehensions. -/
namespace Cl
open PySem PySem.Spec PyProof.Rows L2
section
variable {T : Tb} {F F' H H' : Hp} {c c' : Sg} {σ : L2.St}

/-! ### slots set -/
theorem Sim.setD (S : Sim T F c σ H) {i : Nat} {d : D} {v : V} (hi : i < c.length) (r : DR T F d v) : Sim T F (c.set i (some (.d d))) (σ.set i (some v)) H := by
  have hσ : i < σ.length := by rw [← S.len]; exact hi
  have key : ∀ (n : Nat) (x : W), (c.set i (some (.d d)))[n]? = some (some x) → x.own = true → n ≠ i ∧ c[n]? = some (some x) := fun n x h o => by
    rw [get_set] at h
    by_cases e : i = n ∧ i < c.length
    · rw [if_pos e] at h; cases h; cases o
    · rw [if_neg e] at h; exact ⟨fun z => e ⟨z.symm, hi⟩, h⟩
  refine ⟨S.sub, by rw [List.length_set, List.length_set]; exact S.len, fun j w h => ?_, fun j k w u a h1 o1 h2 o2 h3 h4 => ?_, S.ft, S.tb⟩
  · rw [get_set] at h
    by_cases e : i = j ∧ i < c.length
    · rw [if_pos e] at h
      cases h
      rw [← e.1]
      exact ⟨v, List.getElem?_set_self hσ, r⟩
    · rw [if_neg e] at h
      obtain ⟨u, h1, h2⟩ := S.at_ j w h
      exact ⟨u, by rw [List.getElem?_set_ne (fun z => e ⟨z, hi⟩)]; exact h1, h2⟩
  · obtain ⟨n1, q1⟩ := key j w h1 o1
    obtain ⟨n2, q2⟩ := key k u h2 o2
    rw [List.getElem?_set_ne (Ne.symm n1)] at h3
    rw [List.getElem?_set_ne (Ne.symm n2)] at h4
    exact S.inj j k w u a q1 o1 q2 o2 h3 h4
/-- what a target does to the slots -/
structure AsgR (s : List Nat) (c c' : Sg) (σ σ' : L2.St) : Prop where
  lc : c'.length = c.length
  lσ : σ'.length = σ.length
  out : ∀ j, j ∉ s → c'[j]? = c[j]? ∧ σ'[j]? = σ[j]?
  own : ∀ (j : Nat) (w : W), c'[j]? = some (some w) → w.own = true → c[j]? = some (some w) ∧ σ'[j]? = σ[j]?
theorem AsgR.trans {s t : List Nat} {c c1 c2 : Sg} {σ σ1 σ2 : L2.St} (a : AsgR s c c1 σ σ1) (b : AsgR t c1 c2 σ1 σ2) : AsgR (s ++ t) c c2 σ σ2 where
  lc := b.lc.trans a.lc
  lσ := b.lσ.trans a.lσ
  out := fun j h => by
    rw [List.mem_append, not_or] at h
    obtain ⟨h1, h2⟩ := b.out j h.2
    obtain ⟨h3, h4⟩ := a.out j h.1
    exact ⟨h1.trans h3, h2.trans h4⟩
  own := fun j w h o => by
    obtain ⟨h1, h2⟩ := b.own j w h o
    obtain ⟨h3, h4⟩ := a.own j w h1 o
    exact ⟨h3, h2.trans h4⟩
mutual
def tgS : Tg → List Nat
  | .nm i => [i]
  | .tp ts => tgSs ts
def tgSs : List Tg → List Nat
  | [] => []
  | t :: ts => tgS t ++ tgSs ts
end
mutual
def gOf (K : PySem.W.Frag) : Tg → TG
  | .nm i => gName i
  | .tp ts => gTup K ts.length (gsOf K ts)
def gsOf (K : PySem.W.Frag) : List Tg → TGs
  | [] => gNil
  | t :: ts => gCons (gOf K t) (gsOf K ts)
end
mutual
theorem gOf_ok : ∀ (t : Tg) {d : D} {v : V} {F : Hp} {c c' : Sg} {σ : L2.St} {H : Hp} {Q : L2.St → Hp → Prop}, Sim T F c σ H → DR T F d v → asg t d c = some c' → (∀ σ', Sim T F c' σ' H → AsgR (tgS t) c c' σ σ' → Q σ' H) → gOf T.K t v σ H Q
  | .nm i, d, v, F, c, c', σ, H, Q, S, r, e, q => by
    simp only [asg] at e
    split at e
    · rename_i hi
      cases e
      refine q _ (S.setD hi r) ⟨by rw [List.length_set], by rw [List.length_set], fun j hj => ?_, fun j w h o => ?_⟩
      · have hj' : i ≠ j := fun z => hj (by rw [tgS, z]; exact List.mem_singleton.mpr rfl)
        exact ⟨List.getElem?_set_ne hj', List.getElem?_set_ne hj'⟩
      · rw [get_set] at h
        by_cases e : i = j ∧ i < c.length
        · rw [if_pos e] at h; cases h; cases o
        · rw [if_neg e] at h
          exact ⟨h, List.getElem?_set_ne fun z => e ⟨z, hi⟩⟩
    · cases e
  | .tp ts, d, v, F, c, c', σ, H, Q, S, r, e, q => by
    cases d with
    | tup ds =>
      simp only [asg] at e
      cases r with
      | tup h1 r =>
        refine ⟨_, _, rfl, .of (S.sub _ _ h1), ?_, gsOf_ok ts S r e q⟩
        rw [← r.length]
        exact asgs_len ts ds e
    | _ => simp [asg] at e
theorem asgs_len : ∀ (ts : List Tg) (ds : List D) {c c' : Sg}, asgs ts ds c = some c' → ds.length = ts.length
  | [], [], _, _, _ => rfl
  | [], _ :: _, _, _, e => by simp [asgs] at e
  | _ :: _, [], _, _, e => by simp [asgs] at e
  | t :: ts, d :: ds, c, c', e => by
    simp only [asgs] at e
    obtain ⟨c1, e1, e2⟩ := Option.bind_eq_some_iff.mp e
    simp [asgs_len ts ds e2]
theorem gsOf_ok : ∀ (ts : List Tg) {ds : List D} {vs : List V} {F : Hp} {c c' : Sg} {σ : L2.St} {H : Hp} {Q : L2.St → Hp → Prop}, Sim T F c σ H → DRs T F ds vs → asgs ts ds c = some c' → (∀ σ', Sim T F c' σ' H → AsgR (tgSs ts) c c' σ σ' → Q σ' H) → gsOf T.K ts vs σ H Q
  | [], ds, vs, F, c, c', σ, H, Q, S, r, e, q => by
    cases r with
    | nil => simp [asgs] at e; subst e; exact ⟨rfl, q σ S ⟨rfl, rfl, fun _ _ => ⟨rfl, rfl⟩, fun _ _ h _ => ⟨h, rfl⟩⟩⟩
    | cons _ _ => simp [asgs] at e
  | t :: ts, ds, vs, F, c, c', σ, H, Q, S, r, e, q => by
    cases r with
    | nil => simp [asgs] at e
    | cons r1 r2 =>
      simp only [asgs] at e
      obtain ⟨c1, e1, e2⟩ := Option.bind_eq_some_iff.mp e
      refine ⟨_, _, rfl, gOf_ok t S r1 e1 fun σ1 S1 a1 => ?_⟩
      exact gsOf_ok ts S1 r2 e2 fun σ2 S2 a2 => q σ2 S2 (a1.trans a2)
end
def Fnx (X : Cx) (sc : Scope) : Prop := ∀ x, sc.names.lookup x = some .cell → X.fn x = true
mutual
theorem pg_of {X : Cx} {N : List Str} {sc : Scope} {pr : List Nat} (hK : X.K = T.K) (hc : X.calm = true) (hN : X.N = N) (nd : N.Nodup) (hs : ∀ x, (sc.names.lookup x = some .local → X.env.scope.names.lookup x = some .local) ∧ (sc.names.lookup x = some .cell → X.env.scope.names.lookup x = some .cell)) (fx : Fnx X sc) :
    ∀ (t : Tg) (e : Expr), tgB N sc pr t e = true → PG X e (gOf T.K t)
  | .nm i, e, h => by
    cases e with
    | Name x p =>
      simp only [tgB, Bool.and_eq_true, decide_eq_true_eq] at h
      obtain ⟨⟨h1, h2⟩, h3⟩ := h
      unfold locB at h2
      split at h2
      · rename_i q
        exact pg_name (by rw [hN]; exact nd) (by rw [hN]; exact h1) (.inl ((hs x).1 q)) (.inr ((hs x).1 q))
      · rename_i q
        exact pg_name (by rw [hN]; exact nd) (by rw [hN]; exact h1) (.inr ((hs x).2 q)) (.inl (fx x q))
      · cases h2
    | _ => simp [tgB] at h
  | .tp ts, e, h => by
    cases e with
    | Tuple es n p =>
      simp only [tgB] at h
      obtain ⟨h1, h2, h3⟩ := pgs_of hK hc hN nd hs fx ts es h
      have q := pg_tup (k := n) (pos := p) hc h1 h2 h3
      rw [hK] at q
      exact q
    | _ => simp [tgB] at h
theorem pgs_of {X : Cx} {N : List Str} {sc : Scope} {pr : List Nat} (hK : X.K = T.K) (hc : X.calm = true) (hN : X.N = N) (nd : N.Nodup) (hs : ∀ x, (sc.names.lookup x = some .local → X.env.scope.names.lookup x = some .local) ∧ (sc.names.lookup x = some .cell → X.env.scope.names.lookup x = some .cell)) (fx : Fnx X sc) :
    ∀ (ts : List Tg) (es : List Expr), tgsB N sc pr ts es = true → PGs X es (gsOf T.K ts) ∧ (assignEach es X.env).length = ts.length ∧ (assignEach es X.env).findIdx? (·.1) = none
  | [], [], _ => ⟨pgs_nil, rfl, rfl⟩
  | [], _ :: _, h => by simp [tgsB] at h
  | _ :: _, [], h => by simp [tgsB] at h
  | t :: ts, e :: es, h => by
    have ns : noStar e = true := by
      cases e <;> first | rfl | (simp [tgsB] at h)
    have ae : assignEach (e :: es) X.env = (false, assign e X.env) :: assignEach es X.env := by cases e <;> first | rfl | cases ns
    have h' : tgB N sc pr t e = true ∧ tgsB N sc pr ts es = true := by
      cases e <;> first | (cases ns; done) | (simpa [tgsB] using h)
    obtain ⟨h1, h2, h3⟩ := pgs_of hK hc hN nd hs fx ts es h'.2
    refine ⟨pgs_cons (pg_of hK hc hN nd hs fx t e h'.1) h1 (by rw [ae]; rfl), by rw [ae]; simp [h2], ?_⟩
    rw [ae, List.findIdx?_cons]
    simp [h3]
end

/-! ### what is walked -/
def ItOk (T : Tb) (F : Hp) (xs : List D) (J : It) : Prop := ∀ (F' : Hp) (c : Sg) (σ : L2.St) (H : Hp), (∀ a o, F a = some o → F' a = some o) → Sim T F' c σ H →
  (∀ i, xs.length ≤ i → J.stop i H) ∧ ∀ (i : Nat) (d : D), xs[i]? = some d → J.go i H ∧ ∀ x H2, J.yld i H x H2 → ∃ F2, Stp T σ F' c H F2 c H2 ∧ DR T F2 d x
def tI (T : Tb) (Wx : WX) (f : Sg → R Sg W) : TI := fun σ H R => ∃ F c, Sim T F c σ H ∧ PostP T Wx σ F c H (f c) fun w F' _ H' => ∃ xs, itemsD w.toD = some xs ∧ ∀ J, ItOk T F' xs J → R J H'
theorem itl_ok {F : Hp} {a : Addr} {ds : List D} {vs : List V} (h : F a = some (.lst vs)) (r : DRs T F ds vs) : ItOk T F ds (Itl T.K a) := fun F' c σ H g S => by
  have hH : SqL T.K H a vs := .of (S.sub _ _ (g _ _ h))
  refine ⟨fun i hi => ⟨vs, hH, by rw [← r.length]; exact hi⟩, fun i d e => ?_⟩
  obtain ⟨v, h1, h2⟩ := r.get e
  refine ⟨⟨vs, v, hH, h1⟩, fun x H2 y => ?_⟩
  obtain ⟨rfl, y⟩ := y
  have := y vs hH
  rw [h1] at this
  cases this
  exact ⟨F', .refl S, h2.grow g⟩
theorem itt_ok {F : Hp} {a : Addr} {ds : List D} {vs : List V} (h : F a = some (.tup vs)) (r : DRs T F ds vs) : ItOk T F ds (Itt T.K a) := fun F' c σ H g S => by
  have hH : SqT T.K H a vs := .of (S.sub _ _ (g _ _ h))
  refine ⟨fun i hi => ⟨vs, hH, by rw [← r.length]; exact hi⟩, fun i d e => ?_⟩
  obtain ⟨v, h1, h2⟩ := r.get e
  refine ⟨⟨vs, v, hH, h1⟩, fun x H2 y => ?_⟩
  obtain ⟨rfl, y⟩ := y
  have := y vs hH
  rw [h1] at this
  cases this
  exact ⟨F', .refl S, h2.grow g⟩
theorem its_ok {F : Hp} {a : Addr} {ns : List Int} (h : SqL T.K F a (ns.map V.int)) : ItOk T F (ns.map D.int) (Itl T.K a) := fun F' c σ H g S => by
  have hH : SqL T.K H a (ns.map V.int) := SqL.grow S.sub (SqL.grow g h)
  refine ⟨fun i hi => ⟨_, hH, by simpa using hi⟩, fun i d e => ?_⟩
  rw [List.getElem?_map] at e
  cases q : ns[i]? with
  | none => rw [q] at e; cases e
  | some n =>
    rw [q] at e
    cases e
    refine ⟨⟨_, .int n, hH, by rw [List.getElem?_map, q]; rfl⟩, fun x H2 y => ?_⟩
    obtain ⟨rfl, y⟩ := y
    have := y _ hH
    rw [List.getElem?_map, q] at this
    cases this
    exact ⟨F', .refl S, .int n⟩
section
variable {Γ : Gt} {P : Pg} {nc k : Nat} {Wx : WX} {N : List Str} {sc : Scope} {X : Cx}
theorem itsS_ok {F : Hp} (z : Str) : ItOk T F (z.cps.toList.map fun c => D.str ⟨#[c]⟩) (Its z) := fun F' c σ H g S => by
  refine ⟨fun i hi => (by simpa using hi : z.cps.size ≤ i), fun i d e => ?_⟩
  rw [List.getElem?_map, Array.getElem?_toList] at e
  obtain ⟨ch, hc, rfl⟩ := Option.map_eq_some_iff.mp e
  refine ⟨(Array.getElem?_eq_some_iff.mp hc).1, fun x H2 y => ?_⟩
  obtain ⟨rfl, ch', hc', rfl⟩ := y
  rw [hc] at hc'
  cases hc'
  exact ⟨F', .refl S, .str _⟩
/-- a list, a tuple, the script, a text -/
theorem pi_seq (G : Gd Γ T P nc k Wx N sc X) {e : Ex} {tg x : Expr} (h : AE T P nc k Wx X e x) : PI X tg x (tI T Wx (evX P nc k e)) := by
  refine ⟨fun pins s σ H R I hq => ?_⟩
  obtain ⟨F, c, S, q⟩ := hq
  cases hr : evX P nc k e c with
  | bad => rw [hr] at q; exact q.elim
  | exc n ds c1 =>
    refine (pi_list (tg := tg) h).run pins s σ H R I ⟨F, c, S, ?_⟩
    rw [hr] at q ⊢
    exact q
  | ok w c1 =>
    rw [hr] at q
    have lists : (∀ ds, w.toD ≠ .tup ds) → (∀ z, w.toD ≠ .str z) → iList X.K (tE T Wx (evX P nc k e)) σ H R := fun nt ns => by
      refine ⟨F, c, S, ?_⟩
      rw [hr]
      intro F1 H1 st v r
      obtain ⟨F2, st2, r2, g2⟩ := st.freeze S r
      obtain ⟨xs, e1, q1⟩ := q F2 H1 st2
      rw [G.kT]
      cases hd : w.toD with
      | lst ds =>
        rw [hd] at r2 e1
        cases e1
        cases r2 with
        | lst h1 h2 => exact ⟨_, rfl, ⟨_, .of (st2.sim.sub _ _ h1)⟩, q1 _ (itl_ok h1 h2)⟩
      | scr ns =>
        rw [hd] at r2 e1
        cases e1
        cases r2 with
        | scr h1 => exact ⟨_, rfl, ⟨_, SqL.grow st2.sim.sub h1⟩, q1 _ (its_ok h1)⟩
      | tup ds => exact absurd hd (nt ds)
      | str z => exact absurd hd (ns z)
      | _ => rw [hd] at e1; cases e1
    cases hd : w.toD with
    | tup ds =>
      refine (pi_tup (tg := tg) h).run pins s σ H R I ⟨F, c, S, ?_⟩
      rw [hr]
      intro F1 H1 st v r
      obtain ⟨F2, st2, r2, g2⟩ := st.freeze S r
      obtain ⟨xs, e1, q1⟩ := q F2 H1 st2
      rw [G.kT]
      rw [hd] at r2 e1
      cases e1
      cases r2 with
      | tup h1 h2 => exact ⟨_, rfl, ⟨_, .of (st2.sim.sub _ _ h1)⟩, q1 _ (itt_ok h1 h2)⟩
    | str z =>
      refine (pi_str (tg := tg) h).run pins s σ H R I ⟨F, c, S, ?_⟩
      rw [hr]
      intro F1 H1 st v r
      obtain ⟨F2, st2, r2, g2⟩ := st.freeze S r
      obtain ⟨xs, e1, q1⟩ := q F2 H1 st2
      rw [hd] at r2 e1
      cases e1
      cases r2
      exact ⟨_, rfl, q1 _ (itsS_ok z)⟩
    | _ => exact (pi_list (tg := tg) h).run pins s σ H R I (lists (fun ds z => by rw [hd] at z; cases z) fun ds z => by rw [hd] at z; cases z)
theorem itr_ok {F : Hp} (lo : Int) (n : Nat) : ItOk T F ((List.range n).map fun (i : Nat) => D.int (lo + i)) (Itr lo n) := fun F' c σ H g S => by
  refine ⟨fun i hi => (by simpa using hi : n ≤ i), fun i d e => ?_⟩
  rw [List.getElem?_map] at e
  by_cases hi : i < n
  · rw [List.getElem?_range hi] at e
    cases e
    refine ⟨hi, fun x H2 y => ?_⟩
    obtain ⟨rfl, rfl⟩ := y
    exact ⟨F', .refl S, .int _⟩
  · rw [List.getElem?_eq_none (by simpa using hi)] at e
    cases e
theorem evOs_len {cl : Calls} : ∀ {es : List Ex} {c : Sg} {ds : List Opd} {c' : Sg}, evOs nc cl es c = .ok ds c' → ds.length = es.length
  | [], c, ds, c', h => by simp only [evOs] at h; cases h; rfl
  | e :: es, c, ds, c', h => by
    simp only [evOs] at h
    obtain ⟨x, s1, _, h2⟩ := R.bind_ok_iff h
    obtain ⟨y, s2, h3, h4⟩ := R.bind_ok_iff h2
    cases h4
    rw [List.length_cons, List.length_cons, evOs_len h3]
theorem ROs.length {F : Hp} : ∀ {xs : List Opd} {vs : List V}, ROs T F σ xs vs → xs.length = vs.length
  | _, _, .nil => rfl
  | _, _, .cons _ t => by simp [ROs.length t]
theorem DTs.length {F H : Hp} : ∀ {xs : List D} {vs : List V}, DTs T F H xs vs → xs.length = vs.length
  | _, _, .nil => rfl
  | _, _, .cons _ t => by simp [DTs.length t]
theorem pi_rng1 (G : Gd Γ T P nc k Wx N sc X) {a : Ex} {tg x : Expr} {p p2 : Pos} (h : AO T P nc k Wx X a x) (hn : noStar x = true) (hg : glB sc "range" = true) : PI X tg (.Call (.Name "range" p2) [x] [] p) (tI T Wx (evX P nc k (.rng [a]))) := by
  obtain ⟨g1, g2⟩ := gl_of G hg
  have ha : AOs T P nc k Wx X [a] [x] := aos_cons h aos_nil hn
  refine (pi_range1 g1 (G.blt _ (by decide +kernel)) ha (star_each hn [] X.env)).impC fun σ H R ⟨F, c, S, q⟩ => ⟨F, c, S, ?_⟩
  simp only [evX, ev] at q
  refine q.bind.mono fun xs F1 c1 H1 he st1 q1 vs rs => ?_
  obtain ⟨w, e, q2⟩ := q1.ofO
  obtain ⟨ds, ed, e⟩ := Option.bind_eq_some_iff.mp e
  obtain ⟨ys, ey, rfl⟩ := Option.map_eq_some_iff.mp e
  have dt := rds_ok st1.sim rs ed
  unfold rngD at ey
  split at ey
  · split at ey
    · rename_i j hj
      cases ey
      obtain ⟨v, rfl, d⟩ := dt.one
      cases d.int
      refine ⟨j, rfl, hj.1, by omega, ?_⟩
      obtain ⟨zs, ez, q3⟩ := q2 F1 H1 (.refl st1.sim)
      cases ez
      have := itr_ok (T := T) (F := F1) 0 j.toNat
      simp only [Int.zero_add] at this
      exact q3 _ this
    · cases ey
  · have l1 := evOs_len he
    have l2 := rs.length
    have l3 := dt.length
    simp at l1 l3
    omega
  · cases ey
theorem pi_rng2 (G : Gd Γ T P nc k Wx N sc X) {a b : Ex} {tg x y : Expr} {p p2 : Pos} (h : AO T P nc k Wx X a x) (h' : AO T P nc k Wx X b y) (hn : noStar x = true) (hn' : noStar y = true) (hg : glB sc "range" = true) : PI X tg (.Call (.Name "range" p2) [x, y] [] p) (tI T Wx (evX P nc k (.rng [a, b]))) := by
  obtain ⟨g1, g2⟩ := gl_of G hg
  have ha : AOs T P nc k Wx X [a, b] [x, y] := aos_cons h (aos_cons h' aos_nil hn') hn
  refine (pi_range2 g1 (G.blt _ (by decide +kernel)) ha (by rw [star_each hn [y] X.env, star_each hn' [] X.env]; rfl) (star_each hn' [] X.env)).impC fun σ H R ⟨F, c, S, q⟩ => ⟨F, c, S, ?_⟩
  simp only [evX, ev] at q
  refine q.bind.mono fun xs F1 c1 H1 he st1 q1 vs rs => ?_
  obtain ⟨w, e, q2⟩ := q1.ofO
  obtain ⟨ds, ed, e⟩ := Option.bind_eq_some_iff.mp e
  obtain ⟨ys, ey, rfl⟩ := Option.map_eq_some_iff.mp e
  have dt := rds_ok st1.sim rs ed
  unfold rngD at ey
  split at ey
  · have l1 := evOs_len he
    have l2 := rs.length
    have l3 := dt.length
    simp at l1 l3
    omega
  · split at ey
    · rename_i i j hj
      cases ey
      obtain ⟨v, u, rfl, d1, d2⟩ := dt.two
      cases d1.int
      cases d2.int
      refine ⟨i, j, rfl, ⟨hj.1, by omega, hj.2.2.1, by omega⟩, ?_⟩
      obtain ⟨zs, ez, q3⟩ := q2 F1 H1 (.refl st1.sim)
      cases ez
      exact q3 _ (itr_ok i _)
    · cases ey
  · cases ey
end
end
end Cl

/-! Cl, part Ka: zip over any two of lists and tuples. -/
namespace Cl
open PySem PySem.Spec PyProof.Rows L2
/-- a list (k false), a tuple (k true) -/
def SqK (K : PySem.W.Frag) (k : Bool) (H : Hp) (a : Addr) (xs : List V) : Prop := if k then SqT K H a xs else SqL K H a xs
def ItrK (k : Bool) (h : Heap) (i a : Addr) (n : Nat) : Prop := if k then h.IsTupleIter i a n else h.IsListIter i a n
def StsK (k : Bool) (h : Heap) (a : Addr) (its : Array Value) : Prop := if k then h.IsTuple a its else h.IsList a its
theorem sqk_at {X : Cx} {pins : List (Addr × Obj)} {σ : L2.St} {H : Hp} {s : Shared} (I : Inv X pins σ H s) {k : Bool} {a : Addr} {xs : List V} (h : SqK X.K k H a xs) : ∃ its : List Value, Vals xs its ∧ StsK k s.heap a its.toArray ∧ a < s.heap.objs.size := by
  cases k with
  | true =>
    obtain ⟨its, rv, p, _⟩ := I.tuple h
    obtain ⟨o, ho, _⟩ := id p
    exact ⟨its, rv, p, Heap.lt_size ho⟩
  | false =>
    obtain ⟨its, rv, p, _⟩ := I.list h
    exact ⟨its, rv, p.isList, p.lt⟩
theorem itr_keep {k : Bool} {h h' : Heap} {i a : Addr} {n : Nat} (t : ItrK k h i a n) (g : ∀ o, h.get? i = some o → h'.get? i = some o) : ItrK k h' i a n := by
  cases k with
  | true => exact Heap.IsTupleIter.at t fun o e => g o e
  | false => exact Heap.IsListIter.at t fun o e => g o e
theorem itr_live {k : Bool} {h : Heap} {i a : Addr} {n : Nat} (t : ItrK k h i a n) : ∃ o, h.get? i = some o ∧ ∃ fs, o.data = .fields fs := by
  cases k with
  | true => obtain ⟨o, h1, _, h3⟩ := t; exact ⟨o, h1, _, h3⟩
  | false => obtain ⟨o, h1, _, h3⟩ := t; exact ⟨o, h1, _, h3⟩
/-- what draws from one side, at place i -/
theorem drawsK {P : Program} {w : World} {A : Around} {s : Shared} (hh : A.handled = none) {k : Bool} {it a : Addr} (hne : a ≠ it) {its : Array Value} {i : Nat} (h1 : ItrK k s.heap it a i) (h2 : StsK k s.heap a its) :
    ∃ (n : Nat) (Q : Nat → Value → Prop) (St : Nat → Heap → Prop), Draws P w A it [it, a] n Q St ∧ St i s.heap ∧ i ≤ n ∧ (its.size ≤ i → i = n) ∧ (i < its.size → i < n) ∧ (∀ v, Q i v → its[i]? = some v) ∧ ∀ j h, St j h → ItrK k h it a j := by
  rcases Nat.lt_or_ge i its.size with z | z
  · cases k with
    | true =>
      exact ⟨its.size, _, _, Draws.tuple hh it a hne its, ⟨h1, h2⟩, Nat.le_of_lt z, fun q => absurd q (Nat.not_le_of_gt z), fun q => q, fun v q => q, fun j h q => q.1⟩
    | false =>
      exact ⟨its.size, _, _, Draws.list hh it a hne its, ⟨h1, h2⟩, Nat.le_of_lt z, fun q => absurd q (Nat.not_le_of_gt z), fun q => q, fun v q => q, fun j h q => q.1⟩
  · refine ⟨i, fun _ _ => False, fun j h => j = i ∧ ItrK k h it a j ∧ StsK k h a its, ?_, ⟨rfl, h1, h2⟩, Nat.le_refl _, fun _ => rfl, fun q => absurd q (Nat.not_lt_of_ge z), fun v q => q.elim, fun j h q => q.2.1⟩
    refine ⟨fun j h st => let ⟨o, e, _⟩ := itr_live st.2.1; ⟨o, e⟩, fun j h h' st g => ⟨st.1, itr_keep st.2.1 fun o e => g it (by simp) o e, ?_⟩, fun j s Q E hj st _ => absurd st.1 (Nat.ne_of_lt hj), fun s Q E st hE => ?_⟩
    · cases k with
      | true => exact Heap.IsTuple.at st.2.2 fun o e => g a (by simp) o e
      | false => exact Heap.IsList.at st.2.2 fun o e => g a (by simp) o e
    · cases k with
      | true => exact wpAny_nextOf_tuple_end hh st.2.1 st.2.2 (by simp; omega) hE
      | false => exact wpAny_nextOf_list_end hh st.2.1 st.2.2 (by simp; omega) hE
/-- two sequences, side by side -/
def ItzK (K : PySem.W.Frag) (k l : Bool) (a b : Addr) (xs ys : List V) : It :=
  ⟨fun i H => SqK K k H a xs ∧ SqK K l H b ys ∧ i < xs.length ∧ i < ys.length, fun i H v H' => ∃ p x y, v = .ref p ∧ H p = none ∧ H' = upd H p (.tup [x, y]) ∧ xs[i]? = some x ∧ ys[i]? = some y, fun i H => SqK K k H a xs ∧ SqK K l H b ys ∧ (xs.length ≤ i ∨ ys.length ≤ i)⟩
theorem five {P : Addr → Prop} {a b c d e x : Addr} (h : x ∈ [a, b, c, d, e]) (h1 : P a) (h2 : P b) (h3 : P c) (h4 : P d) (h5 : P e) : P x := by
  simp only [List.mem_cons, List.not_mem_nil, or_false] at h
  rcases h with rfl | rfl | rfl | rfl | rfl <;> assumption
theorem not5 {a b c d e x : Addr} (h : x ∉ [a, b, c, d, e]) : x ≠ a ∧ x ≠ b ∧ x ≠ c ∧ x ≠ d ∧ x ≠ e := by
  simp only [List.mem_cons, List.not_mem_nil, or_false, not_or] at h
  exact h
theorem sepK {z TI TO i1 i2 a b : Addr} (D : ZipApart z TI TO i1 i2 a b) : ZipSep2 z TI TO i1 i2 [i1, a] [i2, b] where
  TIz := D.TIz
  TOz := D.TOz
  TITO := D.TITO
  TIi1 := D.TIi1
  mem1 := by simp
  zf1 := by simp [D.i1z.symm, D.l1z.symm]
  Tf1 := by simp [D.TOi1, D.l1TO.symm]
  TIi2 := D.TIi2
  mem2 := by simp
  zf2 := by simp [D.i2z.symm, D.l2z.symm]
  Tf2 := by simp [D.TOi2, D.l2TO.symm]
  sep1_2 := by simp [D.i12, D.l2i1.symm]
  sep2_1 := by simp [D.i12.symm, D.l1i2.symm]
theorem turnK {P : Program} {w : World} {K : PySem.W.Frag} {es : List Expr} {n : Nat} {q : Pos} {k l : Bool} {a b z TI TO i1 i2 : Addr} {xs ys : List V} (D : ZipApart z TI TO i1 i2 a b) :
    Turn P w K (.Tuple es n q) (ItzK K k l a b xs ys) [z, TI, TO, i1, i2] z fun i h => IsZip h z TI TO .none ∧ IsTupOf2 h TI (.ref i1) (.ref i2) ∧ (∃ x y, IsTupOf2 h TO x y) ∧ ItrK k h i1 a i ∧ ItrK l h i2 b i where
  mem := by simp
  obj := fun i h st x hx => by
    obtain ⟨g1, g2, ⟨u, v, g3⟩, g4, g5⟩ := st
    simp only [List.mem_cons, List.not_mem_nil, or_false] at hx
    rcases hx with rfl | rfl | rfl | rfl | rfl
    · exact ⟨_, g1, fun v q => nomatch q⟩
    · exact ⟨_, g2, fun v q => nomatch q⟩
    · exact ⟨_, g3, fun v q => nomatch q⟩
    · obtain ⟨o, e, fs, d⟩ := itr_live g4
      exact ⟨o, e, fun v q => by rw [d] at q; cases q⟩
    · obtain ⟨o, e, fs, d⟩ := itr_live g5
      exact ⟨o, e, fun v q => by rw [d] at q; cases q⟩
  keep := fun i h h' st g => by
    obtain ⟨g1, g2, ⟨u, v, g3⟩, g4, g5⟩ := st
    exact ⟨g z (by simp) _ g1, g TI (by simp) _ g2, ⟨u, v, g TO (by simp) _ g3⟩, itr_keep g4 fun o e => g i1 (by simp) o e, itr_keep g5 fun o e => g i2 (by simp) o e⟩
  item := by
    intro X hP hw hK hc i pins s σ H E I hf st hg
    subst hP hw hK
    obtain ⟨g1, g2, ⟨u0, v0, g3⟩, g4, g5⟩ := st
    obtain ⟨hx, hy, l1, l2⟩ := hg
    obtain ⟨its, r1, p1, _⟩ := sqk_at I hx
    obtain ⟨jts, r2, p2, _⟩ := sqk_at I hy
    have e1 := r1.length
    have e2 := r2.length
    obtain ⟨n1, Q1, S1, D1, s1, _, _, m1, f1, t1⟩ := drawsK (P := X.prog) (w := X.w) (A := X.A.in1) (show X.A.in1.handled = none from I.ok.hd hc) D.l1i1 g4 p1
    obtain ⟨n2, Q2, S2, D2, s2, _, _, m2, f2, t2⟩ := drawsK (P := X.prog) (w := X.w) (A := X.A.in1) (show X.A.in1.handled = none from I.ok.hd hc) D.l2i2 g5 p2
    have zl : z < s.heap.objs.size := Heap.lt_size g1
    refine wpAny_pyNext_zipD2_item (sepK D) D1 D2 g1 g2 g3 s1 s2 (m1 (by simp; omega)) (m2 (by simp; omega)) fun x1 x2 h' tk q1 q2 z' TO' a1 a2 hT hsz hk => ?_
    have w1 := f1 _ q1
    have w2 := f2 _ q2
    obtain ⟨u1, hu1, rr1⟩ := r1.get (List.getElem?_eq_getElem l1)
    obtain ⟨u2, hu2, rr2⟩ := r2.get (List.getElem?_eq_getElem l2)
    have y1 : x1 = u1 := by
      have : its[i]? = some x1 := by simpa using w1
      rw [hu1] at this; cases this; rfl
    have y2 : x2 = u2 := by
      have : jts[i]? = some x2 := by simpa using w2
      rw [hu2] at this; cases this; rfl
    subst y1 y2
    refine ⟨_, rfl, wpAny_letOwnedTupleGo_zip (s := { s with heap := h', toks := tk }) z' fun h'' z'' sb => ?_⟩
    have hT2 : h''.get? s.heap.objs.size = some { cls := .type "tuple", data := .seq #[x1, x2] } := (sb.2 _ (Nat.ne_of_gt zl)).trans hT
    have fresh : ObjOk X.prog X.w (upd H s.heap.objs.size (.tup [xs[i], ys[i]])) h'' s.heap.objs.size (.tup [xs[i], ys[i]]) :=
      ⟨show 2 ≤ sizeLine by decide, [x1, x2], .cons rr1 (.cons rr2 .nil), _, hT2, rfl, _, rfl⟩
    have J : Inv X pins σ (upd H s.heap.objs.size (.tup [xs[i], ys[i]])) { s with heap := h'', toks := tk } := I.turnedNew (ch := [z, TI, TO, i1, i2]) (fun b o hb e => by
      obtain ⟨n1, n2, n3, n4, n5⟩ := not5 hb
      exact (sb.2 b n1).trans (hk b o n1 n3 n4 n5 e)) hf (Nat.le_refl _) fresh
    have up : ∀ c o, c ≠ z → h'.get? c = some o → h''.get? c = some o := fun c o n e => (sb.2 c n).trans e
    refine ⟨.ref s.heap.objs.size, _, J, rfl, ⟨_, xs[i], ys[i], rfl, I.hok.fresh (Nat.le_refl _), rfl, List.getElem?_eq_getElem l1, List.getElem?_eq_getElem l2⟩, ⟨z'', up _ _ D.TIz (hk _ _ D.TIz D.TITO D.TIi1 D.TIi2 g2), ⟨x1, x2, up _ _ D.TOz TO'⟩, itr_keep (t1 _ _ a1) fun o e => up _ _ D.i1z e, itr_keep (t2 _ _ a2) fun o e => up _ _ D.i2z e⟩, fun b hb => ?_⟩
    have lt : b < s.heap.objs.size := by
      obtain ⟨o1, k1, _⟩ := itr_live g4
      obtain ⟨o2, k2, _⟩ := itr_live g5
      exact five (P := fun b => b < s.heap.objs.size) hb zl (Heap.lt_size g2) (Heap.lt_size g3) (Heap.lt_size k1) (Heap.lt_size k2)
    rw [upd_ne (Nat.ne_of_lt lt)]
    exact (hf b hb).1
  done := by
    intro X hP hw hK hc i pins s σ H E I hf st hg
    subst hP hw hK
    obtain ⟨g1, g2, ⟨u0, v0, g3⟩, g4, g5⟩ := st
    obtain ⟨hx, hy, he⟩ := hg
    obtain ⟨its, r1, p1, _⟩ := sqk_at I hx
    obtain ⟨jts, r2, p2, _⟩ := sqk_at I hy
    have e1 := r1.length
    have e2 := r2.length
    obtain ⟨n1, Q1, S1, D1, s1, b1, c1, _⟩ := drawsK (P := X.prog) (w := X.w) (A := X.A.in1) (show X.A.in1.handled = none from I.ok.hd hc) D.l1i1 g4 p1
    obtain ⟨n2, Q2, S2, D2, s2, b2, c2, _⟩ := drawsK (P := X.prog) (w := X.w) (A := X.A.in1) (show X.A.in1.handled = none from I.ok.hd hc) D.l2i2 g5 p2
    refine wpAny_pyNext_zipD2_end (sepK D) D1 D2 g1 g2 g3 s1 s2 b1 b2 ?_ fun h' tk hk => ⟨rfl, I.turnedL (t' := tk) (ch := [z, TI, TO, i1, i2]) (fun b o hb e => ?_) hf⟩
    · rcases he with he | he
      · exact .inl (c1 (by simp; omega))
      · exact .inr (c2 (by simp; omega))
    · obtain ⟨n1, n2, n3, n4, n5⟩ := not5 hb
      exact hk b o n1 n3 n4 n5 e
  self := fun A i s Q E st h => wpAny_pyIter_zip st.1 h
theorem beginK {k : Bool} {a : Addr} {its : Array Value} : ∃ o : Obj, Begins (.ref a) o (fun h => StsK k h a its) ∧ ∀ h i, h.get? i = some o → ItrK k h i a 0 := by
  cases k with
  | true => exact ⟨_, begins_tuple a its, fun h i e => ⟨_, e, rfl, rfl⟩⟩
  | false => exact ⟨_, begins_list a its, fun h i e => ⟨_, e, rfl, rfl⟩⟩
def iZipK (K : PySem.W.Frag) (ta : TA) : TI := fun σ H R => ta σ H fun vs H1 => ∃ k l a b xs ys, vs = [V.ref a, V.ref b] ∧ SqK K k H1 a xs ∧ SqK K l H1 b ys ∧ R (ItzK K k l a b xs ys) H1
theorem pi_zipK {X : Cx} {e e2 : Expr} {ta : TA} {p p2 p3 : Pos} {es : List Expr} {n : Nat} (hg : Gl X "zip") (hm : X.mg "zip" = none) (ha : PA X [e, e2] ta) (hs : starEach [e, e2] X.env = (false, eval e X.env) :: starEach [e2] X.env) (hl : (backTo p2 (starEach [e2] X.env)).any (·.1) = false) :
    PI X (.Tuple es n p3) (.Call (.Name "zip" p) [e, e2] [] p2) (iZipK X.K ta) := by
  refine ⟨fun pins s σ H R I h => Call_ (ld_blt I hg hm boot_zip (callWith_type1 (thn (ha.run p2 pins s σ H _ I h) fun us s1 ⟨vs, H1, J, r1, k, l, a, b, xs, ys, ex, hx, hy, q⟩ => ?_) hs hl))⟩
  subst ex
  cases r1 with
  | cons ra rr =>
    cases rr with
    | cons rb rr =>
      cases rr
      cases ra
      cases rb
      obtain ⟨its, r1, p1, la⟩ := sqk_at J hx
      obtain ⟨jts, r2, p2, lb⟩ := sqk_at J hy
      obtain ⟨o1, B1, i1⟩ := beginK (k := k) (a := a) (its := its.toArray)
      obtain ⟨o2, B2, i2⟩ := beginK (k := l) (a := b) (its := jts.toArray)
      refine zip_begins2 B1 B2 p1 p2 fun h' hz hTI hTO g1 g2 hsz hk => wpAny_pyIter_zip hz ?_
      refine ⟨s1.heap.objs.size + 4, [s1.heap.objs.size + 4, s1.heap.objs.size + 2, s1.heap.objs.size + 3, s1.heap.objs.size, s1.heap.objs.size + 1], _, _, H1, rfl, J.kept (t' := s1.toks) hk, turnK (PySem.W.ktu_apart s1.heap.objs.size a b la lb), ⟨hz, hTI, ⟨_, _, hTO⟩, i1 _ _ g1, i2 _ _ g2⟩, fun c hc => ?_, q⟩
      have le : s1.heap.objs.size ≤ c := five (P := fun c => s1.heap.objs.size ≤ c) hc (Nat.le_add_right _ _) (Nat.le_add_right _ _) (Nat.le_add_right _ _) (Nat.le_refl _) (Nat.le_add_right _ _)
      exact J.fpOk le (J.hok.fresh le)
end Cl

/-! Cl, part K: enumerate over a tuple. -/
namespace PySem
open PySem.Spec PyProof.Rows
namespace ClEnum
variable {prog : Program} {w : World} {A : Around} {E : Value → Shared → Prop} {s : Shared}
theorem drawsT (hh : A.handled = none) (it l : Addr) (hne : l ≠ it) (items : Array Value) :
    Draws prog w A it [it, l] items.size (fun i v => items[i]? = some v) (fun i h => h.IsTupleIter it l i ∧ h.IsTuple l items) where
  live := fun _ _ st => let ⟨o, ho, _⟩ := st.1; ⟨o, ho⟩
  frame := fun _ _ _ st hk => ⟨st.1.at fun o e => hk it (by simp) o e, let ⟨o, ho, r⟩ := st.2; ⟨o, hk l (by simp) o ho, r⟩⟩
  item := fun i s Q E hi st hQ => by
    refine wpAny_nextOf_tuple_item st.1 st.2 (x := items[i]) (by simp [hi]) fun h' hit' hs' => ?_
    exact hQ _ h' s.toks (by simp [hi]) ⟨hit', st.2.extBut hs'.extBut hne⟩ hs'
  done := fun s Q E st hE => wpAny_nextOf_tuple_end hh st.1 st.2 (by simp) hE
theorem meetsT (l : Addr) (items : Array Value) (n : Nat) (dct : Option Addr) (sl : Array (Option Value)) :
    Meets (Builtin.«enumerate.__new__» ⟨[.type "enumerate", .ref l], []⟩) (fun _ R s => s.heap.get? l = some { cls := .type "tuple", dict := dct, data := .seq items n, slots := sl } ∧
      R (.ok (.ret (.ref (s.heap.push { cls := .type "tuple_iterator", data := .fields #[.ref l, .int 0 0] }).objs.size)))
        { s with heap := (s.heap.push { cls := .type "tuple_iterator", data := .fields #[.ref l, .int 0 0] }).push { cls := .type "enumerate", data := .fields #[.none, .bool false, .ref s.heap.objs.size, rawInt 0, .none, .none] } }) :=
  .of_wp fun prog w A R s h => by
    obtain ⟨hp, g, d, tk, os⟩ := s; obtain ⟨hl, h⟩ := h
    have hsub := sub_enumerate
    have hL : Heap.IsTuple (Shared.heap ⟨hp, g, d, tk, os⟩) l items := ⟨_, hl, rfl, n, rfl⟩
    wp_walk using wpAny_loadPart' hl
    refine wpAny_stack_any fun st => wpAny_pure ?_
    split
    · rename_i c _ _ _ _ _
      cases (c == Value.type "enumerate")
      · wp_walk using wpAny_loadPart' hl, wpAny_pyIter_tuple hL
        exact ⟨_, rfl, h⟩
      · wp_walk using wpAny_loadPart' hl, wpAny_pyIter_tuple hL
        exact ⟨_, rfl, h⟩
    · wp_walk using wpAny_loadPart' hl, wpAny_pyIter_tuple hL
      exact ⟨_, rfl, h⟩
theorem callT {l : Addr} {items : Array Value} {Q : Value → Shared → Prop} (hL : s.heap.IsTuple l items)
    (h : ∀ h', IsEnum h' (s.heap.objs.size + 1) s.heap.objs.size 0 .none → h'.IsTupleIter s.heap.objs.size l 0 → h'.objs.size = s.heap.objs.size + 2 →
      (∀ b o, s.heap.get? b = some o → h'.get? b = some o) → Q (.ref (s.heap.objs.size + 1)) { s with heap := h' }) :
    wpAny (model prog w) A (call (.type "enumerate") [.ref l]) Q E s := by
  obtain ⟨⟨c, dct, dt, sl⟩, hl, hc, n, hd⟩ := hL
  replace hc : c = .type "tuple" := hc
  replace hd : dt = .seq items n := hd
  subst hc hd
  refine callType_new F.called_enumerate (by decide) (F.typeCall_enumerate_1 _) (F.newCall_enumerate_1 _) (fun obj => F.args_object_init_2 obj _) F.entry_enumerate_new
    (meetsT l items n dct sl) ⟨hl, ?_⟩
  have hz : (s.heap.push { cls := .type "tuple_iterator", data := .fields #[.ref l, .int 0 0] }).objs.size = s.heap.objs.size + 1 := Heap.size_push ..
  show _ ∧ _
  rw [hz]
  have he : IsEnum ((s.heap.push { cls := .type "tuple_iterator", data := .fields #[.ref l, .int 0 0] }).push
      { cls := .type "enumerate", data := .fields #[.none, .bool false, .ref s.heap.objs.size, rawInt 0, .none, .none] }) (s.heap.objs.size + 1) s.heap.objs.size 0 .none := by
    have := Heap.get?_push_size (s.heap.push { cls := .type "tuple_iterator", data := .fields #[.ref l, .int 0 0] })
      (o := { cls := .type "enumerate", data := .fields #[.none, .bool false, .ref s.heap.objs.size, rawInt 0, .none, .none] }) rfl
    rw [hz] at this; exact this
  refine ⟨⟨_, he, rfl⟩, h _ he ⟨_, Heap.get?_push_of_some _ (Heap.get?_push_size _ rfl), rfl, rfl⟩ (by rw [Heap.size_push, hz]) fun b o x => Heap.get?_push_of_some _ (Heap.get?_push_of_some _ x)⟩
end ClEnum
end PySem
namespace Cl
open PySem PySem.Spec PyProof.Rows L2
/-- the tuple at a, each item with its number -/
def IteT (K : PySem.W.Frag) (a : Addr) : It :=
  ⟨fun i H => ∃ (xs : List V) (x : V), SqT K H a xs ∧ xs[i]? = some x, fun i H v H' => ∃ T x, v = .ref T ∧ H T = none ∧ H' = upd H T (.tup [.int (i : Nat), x]) ∧ ∀ xs, SqT K H a xs → xs[i]? = some x, fun i H => ∃ xs : List V, SqT K H a xs ∧ xs.length ≤ i⟩
theorem turn_enumT {P : Program} {w : World} {K : PySem.W.Frag} {elts : List Expr} {kk : Nat} {tpos : Pos} (a e it : Addr) :
    Turn P w K (.Tuple elts kk tpos) (IteT K a) [e, it] e (fun i h => (∃ old, IsEnum h e it ((i : Nat) : Int) old) ∧ h.IsTupleIter it a i ∧ e ≠ it) where
  mem := by simp
  obj := fun i h st b hb => by
    obtain ⟨⟨old, he⟩, ⟨o, ho, hc, hd⟩, _⟩ := st
    have e' : b = e ∨ b = it := by simpa using hb
    rcases e' with z | z
    · rw [z]; exact ⟨_, he, fun v q => nomatch q⟩
    · rw [z]; exact ⟨o, ho, fun v q => by rw [hd] at q; cases q⟩
  keep := fun i h h' st k => let ⟨⟨old, he⟩, hi, hne⟩ := st; ⟨⟨old, k e (by simp) _ he⟩, hi.at fun o q => k it (by simp) o q, hne⟩
  item := by
    intro X hP hw hK hc i pins s σ H E I hf st hg
    subst hP hw hK
    obtain ⟨⟨old, he⟩, hit, hne⟩ := st
    obtain ⟨xs, x, hq, hx⟩ := hg
    obtain ⟨its, rv, p, hz⟩ := I.tuple hq
    obtain ⟨u, hu, ru⟩ := rv.get hx
    have hel : e < s.heap.objs.size := Heap.lt_size he
    have hil : it < s.heap.objs.size := by obtain ⟨_, q, _⟩ := hit; exact Heap.lt_size q
    obtain ⟨oa, hoa, hca, na, hda⟩ := id p
    have hae : a ≠ it := fun z => by
      obtain ⟨o2, ho2, hc2, _⟩ := hit
      rw [z, ho2] at hoa; cases hoa; rw [hc2] at hca; simp at hca
    have hea : e ≠ a := fun z => by
      rw [← z, he] at hoa; cases hoa; simp at hca
    have D := ClEnum.drawsT (prog := X.prog) (w := X.w) (A := X.A.in1) (show X.A.in1.handled = none from I.ok.hd hc) it a hae its.toArray
    have hlt : i < its.toArray.size := by
      have := lt_of_get hu
      simpa using this
    refine wpAny_pyNext_enum_itemD D he ⟨hit, p⟩ hlt hne (by simp [hne, hea]) fun x' h' tk hx' ho hst' hT hsz hk => ?_
    have ex : x' = u := by
      have : its[i]? = some x' := by simpa using hx'
      rw [hu] at this; cases this; rfl
    subst ex
    refine ⟨_, rfl, wpAny_letOwnedTupleGo_enum (s := { s with heap := h', toks := tk + 1 }) ho fun h'' he' sb => ?_⟩
    have hT2 : h''.get? s.heap.objs.size = some { cls := .type "tuple", data := .seq #[.int i tk, x'] } := (sb.2 _ (Nat.ne_of_gt hel)).trans hT
    have new : ObjOk X.prog X.w (upd H s.heap.objs.size (.tup [.int (i : Nat), x])) h'' s.heap.objs.size (.tup [.int (i : Nat), x]) :=
      ⟨by show 2 ≤ sizeLine; decide, [.int i tk, x'], .cons ⟨_, rfl⟩ (.cons ru .nil), ⟨_, hT2, rfl, _, rfl⟩⟩
    have I1 : Inv X pins σ (upd H s.heap.objs.size (.tup [.int (i : Nat), x])) { s with heap := h'', toks := tk + 1 } :=
      I.turnedNew (ch := [e, it]) (fun b ob hb q => (sb.2 b (fun z => hb (by simp [z]))).trans (hk b ob (fun z => hb (by simp [z])) (fun z => hb (by simp [z])) q)) hf (Nat.le_refl _) new
    refine ⟨.ref s.heap.objs.size, _, I1, rfl, ⟨_, x, rfl, I.hok.fresh (Nat.le_refl _), rfl, fun ys hy => by rw [I.tuple_inj hy hq]; exact hx⟩, ⟨⟨x', ?_⟩, hst'.1.at fun o q => (sb.2 it (Ne.symm hne)).trans q, hne⟩, fun b hb => ?_⟩
    · have e1 : ((i + 1 : Nat) : Int) = (i : Int) + 1 := by omega
      rw [e1]; exact he'
    · have hb' : b < s.heap.objs.size := by
        have e' : b = e ∨ b = it := by simpa using hb
        rcases e' with z | z
        · rw [z]; exact hel
        · rw [z]; exact hil
      rw [upd_ne (Nat.ne_of_lt hb')]
      exact (hf b hb).1
  done := by
    intro X hP hw hK hc i pins s σ H E I hf st hg
    subst hP hw hK
    obtain ⟨⟨old, he⟩, hit, hne⟩ := st
    obtain ⟨xs, hq, hx⟩ := hg
    obtain ⟨its, rv, p, hz⟩ := I.tuple hq
    obtain ⟨f0, f1, f2, f3, f4, f5⟩ := hf it (by simp)
    have hl := rv.length
    obtain ⟨oa, hoa, hca, na, hda⟩ := id p
    have hae : a ≠ it := fun z => by
      obtain ⟨o2, ho2, hc2, _⟩ := hit
      rw [z, ho2] at hoa; cases hoa; rw [hc2] at hca; simp at hca
    have D : Draws X.prog X.w X.A.in1 it [it, a] i (fun i v => its.toArray[i]? = some v) (fun j h => j = i ∧ h.IsTupleIter it a j ∧ h.IsTuple a its.toArray) := {
      live := fun _ _ st => let ⟨o, ho, _⟩ := st.2.1; ⟨o, ho⟩
      frame := fun _ _ _ st hk => ⟨st.1, st.2.1.at fun o e => hk it (by simp) o e, let ⟨o, ho, r⟩ := st.2.2; ⟨o, hk a (by simp) o ho, r⟩⟩
      item := fun j s Q E hj st hQ => absurd st.1 (by omega)
      done := fun s Q E st hE => wpAny_nextOf_tuple_end (show X.A.in1.handled = none from I.ok.hd hc) st.2.1 st.2.2 (by simp; omega) hE }
    exact wpAny_pyNext_enum_endD D he ⟨rfl, hit, p⟩ fun h' eb => ⟨rfl, I.turned (t' := s.toks) (fun b o hb q => eb b o hb q) f0 f1 f3 f4 f5⟩
  self := fun A i s Q E st h => let ⟨⟨_, he⟩, _⟩ := st; wpAny_pyIter_enum he h
def iEnumA (K : PySem.W.Frag) (ta : TA) : TI := fun σ H R => ta σ H fun vs H1 => ∃ a xs, vs = [.ref a] ∧ ((SqL K H1 a xs ∧ R (Ite K a) H1) ∨ (SqT K H1 a xs ∧ R (IteT K a) H1))
theorem pi_enumA {X : Cx} {e : Expr} {ta : TA} {p pos tpos : Pos} {elts : List Expr} {kk : Nat} (hg : Gl X "enumerate") (hm : X.mg "enumerate" = none) (ha : PA X [e] ta) (hs : starEach [e] X.env = [(false, eval e X.env)] := by rfl) :
    PI X (.Tuple elts kk tpos) (.Call (.Name "enumerate" p) [e] [] pos) (iEnumA X.K ta) := by
  refine ⟨fun pins s σ H R I h => ?_⟩
  refine Call_ (ld_blt I hg hm boot_enumerate (PyProof.Rows.callWith_type1 (thn (ha.run pos pins s σ H _ I h) fun us s1 ⟨vs, H1, I1, r1, q1⟩ => ?_) hs rfl))
  obtain ⟨a, xs, ex, q⟩ := q1
  subst ex
  cases r1 with
  | cons r rr =>
    cases rr
    cases r
    have low : ∀ b, b ∈ [s1.heap.objs.size + 1, s1.heap.objs.size] → FpOk X pins H1 b := fun b hb => by
      have e' : b = s1.heap.objs.size + 1 ∨ b = s1.heap.objs.size := by simpa using hb
      have hle : s1.heap.objs.size ≤ b := by
        rcases e' with z | z
        · rw [z]; exact Nat.le_add_right _ _
        · rw [z]; exact Nat.le_refl _
      exact I1.fpOk hle (I1.hok.fresh hle)
    rcases q with ⟨hq, q⟩ | ⟨hq, q⟩
    · obtain ⟨its, rv, p', hz⟩ := I1.list hq
      refine call_enumerate_list p'.isList fun h' he hit hsz hk => wpAny_pyIter_enum he ?_
      have I2 : Inv X pins σ H1 { s1 with heap := h' } := I1.kept (t' := s1.toks) hk
      exact ⟨s1.heap.objs.size + 1, [s1.heap.objs.size + 1, s1.heap.objs.size], _, _, H1, rfl, I2, turn_enum a (s1.heap.objs.size + 1) s1.heap.objs.size, ⟨⟨.none, he⟩, hit, Nat.succ_ne_self _⟩, low, q⟩
    · obtain ⟨its, rv, p', hz⟩ := I1.tuple hq
      refine ClEnum.callT (show s1.heap.IsTuple a its.toArray from p') fun h' he hit hsz hk => wpAny_pyIter_enum he ?_
      have I2 : Inv X pins σ H1 { s1 with heap := h' } := I1.kept (t' := s1.toks) hk
      exact ⟨s1.heap.objs.size + 1, [s1.heap.objs.size + 1, s1.heap.objs.size], _, _, H1, rfl, I2, turn_enumT a (s1.heap.objs.size + 1) s1.heap.objs.size, ⟨⟨.none, he⟩, hit, Nat.succ_ne_self _⟩, low, q⟩
section
variable {T : Tb} {F : Hp}
theorem enm_at {ds : List D} {i : Nat} {d : D} (e : (enmL ds)[i]? = some d) : ∃ x, ds[i]? = some x ∧ d = .tup [.int i, x] := by
  unfold enmL at e
  rw [List.getElem?_map] at e
  cases q : ds.zipIdx[i]? with
  | none => rw [q] at e; cases e
  | some p =>
    rw [q] at e
    cases e
    rw [List.getElem?_zipIdx] at q
    cases z : ds[i]? with
    | none => rw [z] at q; cases q
    | some x =>
      rw [z] at q
      cases q
      exact ⟨x, rfl, by simp⟩
theorem enm_len (ds : List D) : (enmL ds).length = ds.length := by simp [enmL]
theorem yld_pair {F' H : Hp} {c : Sg} {σ : L2.St} (S : Sim T F' c σ H) {p : Addr} (hp : H p = none) {x y : D} {v u : V} (rx : DR T F' x v) (ry : DR T F' y u) :
    ∃ F2, Stp T σ F' c H F2 c (upd H p (.tup [v, u])) ∧ DR T F2 (.tup [x, y]) (.ref p) :=
  ⟨_, S.newF hp, .tup upd_same (.cons (rx.grow (upd_old (S.notF hp))) (.cons (ry.grow (upd_old (S.notF hp))) .nil))⟩
theorem ite_ok {a : Addr} {ds : List D} {vs : List V} (h : SqL T.K F a vs) (r : DRs T F ds vs) : ItOk T F (enmL ds) (Ite T.K a) := fun F' c σ H g S => by
  have hH : SqL T.K H a vs := SqL.grow S.sub (SqL.grow g h)
  refine ⟨fun i hi => ⟨vs, hH, by rw [enm_len] at hi; rw [← r.length]; exact hi⟩, fun i d e => ?_⟩
  obtain ⟨x, ex, rfl⟩ := enm_at e
  obtain ⟨v, h1, h2⟩ := r.get ex
  refine ⟨⟨vs, v, hH, h1⟩, fun y H2 yl => ?_⟩
  obtain ⟨p, z, rfl, hp, rfl, f⟩ := yl
  have := f vs hH
  rw [h1] at this
  cases this
  exact yld_pair S hp (.int _) (h2.grow g)
theorem iteT_ok {a : Addr} {ds : List D} {vs : List V} (h : F a = some (.tup vs)) (r : DRs T F ds vs) : ItOk T F (enmL ds) (IteT T.K a) := fun F' c σ H g S => by
  have hH : SqT T.K H a vs := .of (S.sub _ _ (g _ _ h))
  refine ⟨fun i hi => ⟨vs, hH, by rw [enm_len] at hi; rw [← r.length]; exact hi⟩, fun i d e => ?_⟩
  obtain ⟨x, ex, rfl⟩ := enm_at e
  obtain ⟨v, h1, h2⟩ := r.get ex
  refine ⟨⟨vs, v, hH, h1⟩, fun y H2 yl => ?_⟩
  obtain ⟨p, z, rfl, hp, rfl, f⟩ := yl
  have := f vs hH
  rw [h1] at this
  cases this
  exact yld_pair S hp (.int _) (h2.grow g)
theorem zip_at {as bs : List D} {i : Nat} {d : D} (e : (List.zipWith (fun x y => D.tup [x, y]) as bs)[i]? = some d) : ∃ x y, as[i]? = some x ∧ bs[i]? = some y ∧ d = .tup [x, y] := by
  rw [List.getElem?_zipWith] at e
  cases q : as[i]? with
  | none => rw [q] at e; cases e
  | some x =>
    cases q2 : bs[i]? with
    | none => rw [q, q2] at e; cases e
    | some y => rw [q, q2] at e; cases e; exact ⟨x, y, rfl, rfl, rfl⟩
theorem itzK_ok {p q : Bool} {a b : Addr} {ds es : List D} {vs us : List V} (h : F a = some (if p then .tup vs else .lst vs)) (h' : F b = some (if q then .tup us else .lst us)) (r : DRs T F ds vs) (r' : DRs T F es us) :
    ItOk T F (List.zipWith (fun x y => D.tup [x, y]) ds es) (ItzK T.K p q a b vs us) := fun F' c σ H g S => by
  have side : ∀ {p : Bool} {a : Addr} {vs : List V}, F a = some (if p then .tup vs else .lst vs) → SqK T.K p H a vs := fun {p a vs} h => by
    have e := S.sub _ _ (g _ _ h)
    cases p with
    | true => exact SqT.of e
    | false => exact SqL.of e
  have l1 := r.length
  have l2 := r'.length
  refine ⟨fun i hi => ⟨side h, side h', ?_⟩, fun i d e => ?_⟩
  · rw [List.length_zipWith] at hi
    omega
  obtain ⟨x, y, ex, ey, rfl⟩ := zip_at e
  obtain ⟨v, h1, h2⟩ := r.get ex
  obtain ⟨u, k1, k2⟩ := r'.get ey
  refine ⟨⟨side h, side h', (List.getElem?_eq_some_iff.mp h1).1, (List.getElem?_eq_some_iff.mp k1).1⟩, fun z H2 yl => ?_⟩
  obtain ⟨n, x', y', rfl, hp, rfl, f, f'⟩ := yl
  rw [h1] at f
  rw [k1] at f'
  cases f
  cases f'
  exact yld_pair S hp (h2.grow g) (k2.grow g)
end
section
variable {Γ : Gt} {T : Tb} {P : Pg} {nc k : Nat} {Wx : WX} {N : List Str} {sc : Scope} {X : Cx}
theorem pi_enm (G : Gd Γ T P nc k Wx N sc X) {a : Ex} {x : Expr} {elts : List Expr} {kk : Nat} {tp p p2 : Pos} (h : AE T P nc k Wx X a x) (hn : noStar x = true) (hg : glB sc "enumerate" = true) : PI X (.Tuple elts kk tp) (.Call (.Name "enumerate" p2) [x] [] p) (tI T Wx (evX P nc k (.enm a))) := by
  obtain ⟨g1, g2⟩ := gl_of G hg
  refine (pi_enumA g1 (G.blt _ (by decide +kernel)) (pa_cons h pa_nil (star_each hn [] X.env)) (star_each hn [] X.env)).impC fun σ H R ⟨F, c, S, q⟩ => ⟨F, c, S, ?_⟩
  simp only [evX, ev] at q
  refine q.bind.mono fun w F1 c1 H1 he st1 q1 v r => ?_
  obtain ⟨F2, st2, r2, g2⟩ := st1.freeze S r
  obtain ⟨w2, e, q2⟩ := (q.bind' he st2).ofO
  obtain ⟨xs, ex, rfl⟩ := Option.map_eq_some_iff.mp e
  obtain ⟨ys, ey, q3⟩ := q2 F2 H1 (.refl st2.sim)
  cases ey
  rw [G.kT]
  cases hd : w.toD with
  | lst ds =>
    rw [hd] at ex r2
    cases ex
    cases r2 with
    | lst h1 h2 => exact ⟨_, _, rfl, .inl ⟨.of (st2.sim.sub _ _ h1), q3 _ (ite_ok (.of h1) h2)⟩⟩
  | tup ds =>
    rw [hd] at ex r2
    cases ex
    cases r2 with
    | tup h1 h2 => exact ⟨_, _, rfl, .inr ⟨.of (st2.sim.sub _ _ h1), q3 _ (iteT_ok h1 h2)⟩⟩
  | scr ns =>
    rw [hd] at ex r2
    cases ex
    cases r2 with
    | scr h1 => exact ⟨_, _, rfl, .inl ⟨SqL.grow st2.sim.sub h1, q3 _ (ite_ok h1 (DRs.of_ints ns))⟩⟩
  | _ => rw [hd] at ex; cases ex
theorem pi_zp (G : Gd Γ T P nc k Wx N sc X) {a b : Ex} {x y : Expr} {elts : List Expr} {kk : Nat} {tp p p2 : Pos} (h : AE T P nc k Wx X a x) (h' : AE T P nc k Wx X b y) (hn : noStar x = true) (hn' : noStar y = true) (hg : glB sc "zip" = true) :
    PI X (.Tuple elts kk tp) (.Call (.Name "zip" p2) [x, y] [] p) (tI T Wx (evX P nc k (.zip a b))) := by
  obtain ⟨g1, g2⟩ := gl_of G hg
  refine (pi_zipK g1 (G.blt _ (by decide +kernel)) (pa_cons h (pa_cons h' pa_nil (star_each hn' [] X.env)) (star_each hn [y] X.env)) (star_each hn [y] X.env) (star_any (by simp [hn']))).impC fun σ H R ⟨F, c, S, q⟩ => ⟨F, c, S, ?_⟩
  simp only [evX, ev] at q
  refine q.bind.mono fun w F1 c1 H1 he st1 q1 v r => ?_
  obtain ⟨F2, st2, r2, g2⟩ := st1.freeze S r
  have q2 := q.bind' he st2
  refine ⟨F2, c1, st2.sim, q2.bind.mono fun w2 F3 c3 H3 he3 st3 q3 v' r' => ?_⟩
  obtain ⟨F4, st4, r4, g4⟩ := st3.freeze st2.sim r'
  obtain ⟨w4, e, q4⟩ := (q2.bind' he3 st4).ofO
  obtain ⟨xs, ex, rfl⟩ := Option.map_eq_some_iff.mp e
  obtain ⟨ys, ey, q5⟩ := q4 F4 H3 (.refl st4.sim)
  cases ey
  rw [G.kT]
  have r2' := r2.grow st4.gr
  unfold zipD at ex
  split at ex
  · rename_i ds es e1 e2
    cases ex
    rw [e1] at r2'
    rw [e2] at r4
    cases r2' with
    | lst h1 h2 =>
      cases r4 with
      | lst h3 h4 => exact ⟨false, false, _, _, _, _, rfl, SqL.of (st4.sim.sub _ _ h1), SqL.of (st4.sim.sub _ _ h3), q5 _ (itzK_ok (p := false) (q := false) h1 h3 h2 h4)⟩
  · rename_i ds es e1 e2
    cases ex
    rw [e1] at r2'
    rw [e2] at r4
    cases r2' with
    | tup h1 h2 =>
      cases r4 with
      | tup h3 h4 => exact ⟨true, true, _, _, _, _, rfl, SqT.of (st4.sim.sub _ _ h1), SqT.of (st4.sim.sub _ _ h3), q5 _ (itzK_ok (p := true) (q := true) h1 h3 h2 h4)⟩
  · rename_i ds es e1 e2
    cases ex
    rw [e1] at r2'
    rw [e2] at r4
    cases r2' with
    | lst h1 h2 =>
      cases r4 with
      | tup h3 h4 => exact ⟨false, true, _, _, _, _, rfl, SqL.of (st4.sim.sub _ _ h1), SqT.of (st4.sim.sub _ _ h3), q5 _ (itzK_ok (p := false) (q := true) h1 h3 h2 h4)⟩
  · rename_i ds es e1 e2
    cases ex
    rw [e1] at r2'
    rw [e2] at r4
    cases r2' with
    | tup h1 h2 =>
      cases r4 with
      | lst h3 h4 => exact ⟨true, false, _, _, _, _, rfl, SqT.of (st4.sim.sub _ _ h1), SqL.of (st4.sim.sub _ _ h3), q5 _ (itzK_ok (p := true) (q := false) h1 h3 h2 h4)⟩
  · cases ex
end
end Cl

/-! Cl, part L: comprehensions. -/
namespace Cl
open PySem PySem.Spec PyProof.Rows L2
section
variable {T : Tb} {F F' H H' : Hp} {c c' : Sg} {σ : L2.St}

/-! ### slots forgotten -/
theorem wipeS_len (c : Sg) : ∀ vs : List Nat, (wipeS c vs).length = c.length
  | [] => rfl
  | v :: vs => by rw [wipeS, List.length_set, wipeS_len c vs]
theorem wipeS_out {c : Sg} {j : Nat} : ∀ {vs : List Nat}, j ∉ vs → (wipeS c vs)[j]? = c[j]?
  | [], _ => rfl
  | v :: vs, h => by
    rw [List.mem_cons, not_or] at h
    rw [wipeS, List.getElem?_set_ne (Ne.symm h.1), wipeS_out h.2]
theorem wipeS_in {c : Sg} {j : Nat} {w : W} : ∀ {vs : List Nat}, (wipeS c vs)[j]? = some (some w) → j ∉ vs ∧ c[j]? = some (some w)
  | [], h => ⟨by simp, h⟩
  | v :: vs, h => by
    rw [wipeS, get_set] at h
    split at h
    · cases h
    · rename_i hv
      obtain ⟨h1, h2⟩ := wipeS_in h
      refine ⟨?_, h2⟩
      rw [List.mem_cons, not_or]
      refine ⟨fun e => hv ⟨e.symm, ?_⟩, h1⟩
      rw [wipeS_len, e.symm]
      exact lt_of_get h2
theorem wipe_out {c : L2.St} {j : Nat} : ∀ {vs : List Nat}, j ∉ vs → (wipe c vs)[j]? = c[j]?
  | [], _ => rfl
  | v :: vs, h => by
    rw [List.mem_cons, not_or] at h
    rw [wipe, List.getElem?_set_ne (Ne.symm h.1), wipe_out h.2]
theorem wipe_at {c : L2.St} {j : Nat} (hj : j < c.length) : ∀ {vs : List Nat}, j ∈ vs → (wipe c vs)[j]? = some none
  | v :: vs, h => by
    rw [wipe, get_set]
    by_cases e : v = j
    · rw [if_pos ⟨e, by rw [wipe_length]; rw [e]; exact hj⟩]
    · rw [if_neg (fun z => e z.1)]
      rcases List.mem_cons.mp h with h | h
      · exact absurd h.symm e
      · exact wipe_at hj h
theorem wipeS_at {c : Sg} {j : Nat} (hj : j < c.length) : ∀ {vs : List Nat}, j ∈ vs → (wipeS c vs)[j]? = some none
  | v :: vs, h => by
    rw [wipeS, get_set]
    by_cases e : v = j
    · rw [if_pos ⟨e, by rw [wipeS_len]; rw [e]; exact hj⟩]
    · rw [if_neg (fun z => e z.1)]
      rcases List.mem_cons.mp h with h | h
      · exact absurd h.symm e
      · exact wipeS_at hj h
theorem wipeS_idem (c : Sg) (vs : List Nat) : wipeS (wipeS c vs) vs = wipeS c vs := by
  refine List.ext_getElem? fun j => ?_
  by_cases hm : j ∈ vs
  · by_cases hl : j < c.length
    · rw [wipeS_at (by rw [wipeS_len]; exact hl) hm, wipeS_at hl hm]
    · rw [List.getElem?_eq_none (by rw [wipeS_len, wipeS_len]; exact Nat.le_of_not_lt hl), List.getElem?_eq_none (by rw [wipeS_len]; exact Nat.le_of_not_lt hl)]
  · rw [wipeS_out hm]
/-- the target within the block's own slots changes none of the others -/
theorem wipe_asg {s own : List Nat} {c c' : Sg} {σ σ2 : L2.St} (a : AsgR s c c' (wipe σ own) σ2) (hs : ∀ i ∈ s, i ∈ own) : wipe σ2 own = wipe σ own := by
  refine List.ext_getElem? fun j => ?_
  have l := a.lσ
  rw [wipe_length] at l
  by_cases hm : j ∈ own
  · by_cases hl : j < σ.length
    · rw [wipe_at (by rw [l]; exact hl) hm, wipe_at hl hm]
    · rw [List.getElem?_eq_none (by rw [wipe_length, l]; exact Nat.le_of_not_lt hl), List.getElem?_eq_none (by rw [wipe_length]; exact Nat.le_of_not_lt hl)]
  · rw [wipe_out hm, (a.out j fun z => hm (hs j z)).2]
theorem backS_len (c0 c : Sg) : ∀ vs : List Nat, (backS c0 c vs).length = c.length
  | [] => rfl
  | v :: vs => by rw [backS, List.length_set, backS_len c0 c vs]
theorem backS_in {c0 c : Sg} {j : Nat} {w : W} : ∀ {vs : List Nat}, (backS c0 c vs)[j]? = some (some w) → (j ∈ vs ∧ c0[j]? = some (some w)) ∨ (j ∉ vs ∧ c[j]? = some (some w))
  | [], h => .inr ⟨by simp, h⟩
  | v :: vs, h => by
    rw [backS, get_set] at h
    split at h
    · rename_i e
      left
      obtain ⟨e, _⟩ := e
      subst e
      refine ⟨List.mem_cons_self, ?_⟩
      cases q : c0[v]? with
      | none => rw [q] at h; cases h
      | some o => rw [q] at h; cases o with
        | none => cases h
        | some u => cases h; rfl
    · rename_i hv
      rcases backS_in h with ⟨h1, h2⟩ | ⟨h1, h2⟩
      · exact .inl ⟨List.mem_cons_of_mem _ h1, h2⟩
      · by_cases e : v = j
        · exact absurd ⟨e, by rw [backS_len]; rw [e]; exact lt_of_get h2⟩ hv
        · exact .inr ⟨by rw [List.mem_cons, not_or]; exact ⟨Ne.symm e, h1⟩, h2⟩

theorem Sim.wipe (S : Sim T F c σ H) (vs : List Nat) : Sim T F (wipeS c vs) (L2.wipe σ vs) H where
  sub := S.sub
  len := by rw [wipeS_len, wipe_length]; exact S.len
  at_ := fun i w h => by
    obtain ⟨h1, h2⟩ := wipeS_in h
    rw [wipe_out h1]
    exact S.at_ i w h2
  inj := fun i j w u a h1 o1 h2 o2 h3 h4 => by
    obtain ⟨n1, g1⟩ := wipeS_in h1
    obtain ⟨n2, g2⟩ := wipeS_in h2
    rw [wipe_out n1] at h3
    rw [wipe_out n2] at h4
    exact S.inj i j w u a g1 o1 g2 o2 h3 h4
  ft := S.ft
  tb := S.tb
theorem Stp.unset {s own : List Nat} {c1 c2 : Sg} {σ2 : L2.St} (S : Sim T F c (L2.wipe σ own) H) (a : AsgR s c c1 (L2.wipe σ own) σ2) (hs : ∀ i ∈ s, i ∈ own) (st : Stp T σ2 F c1 H F' c2 H') : Stp T (L2.wipe σ own) F c H F' (wipeS c2 own) H' := by
  have hw := wipe_asg a hs
  have up : ∀ b, OwnA c1 σ2 b → OwnA c (L2.wipe σ own) b := fun b ⟨j, w, h1, h2, h3⟩ => by
    obtain ⟨g1, g2⟩ := a.own j w h1 h2
    exact ⟨j, w, g1, h2, by rw [← g2]; exact h3⟩
  have out : ∀ j, j ∉ own → (L2.wipe σ own)[j]? = σ2[j]? := fun j h => by rw [← hw, wipe_out h]
  refine ⟨st.gr, ⟨st.sim.sub, ?_, fun j w h => ?_, fun i j w u b h1 o1 h2 o2 h3 h4 => ?_, st.sim.ft, st.sim.tb⟩, fun b o h p n => st.fr b o h p fun z => n (up b z), fun j w h o => ?_, st.dom, fun b o h => ?_⟩
  · rw [wipeS_len, ← hw, wipe_length]; exact st.sim.len
  · obtain ⟨h1, h2⟩ := wipeS_in h
    rw [out j h1]
    exact st.sim.at_ j w h2
  · obtain ⟨n1, g1⟩ := wipeS_in h1
    obtain ⟨n2, g2⟩ := wipeS_in h2
    rw [out i n1] at h3
    rw [out j n2] at h4
    exact st.sim.inj i j w u b g1 o1 g2 o2 h3 h4
  · obtain ⟨h1, h2⟩ := wipeS_in h
    obtain ⟨w0, q1, q2⟩ := st.os j w h2 o
    obtain ⟨g1, _⟩ := a.own j w0 q1 q2
    exact ⟨w0, g1, q2⟩
  · rcases st.nf b o h with z | z | z
    · exact .inl z
    · exact .inr (.inl z)
    · exact .inr (.inr (up b z))
/-- a new thing that is not tracked as frozen changes -/
theorem Stp.updN (S : Sim T F c σ H) (st : Stp T σ F c H F' c' H') {a : Addr} {o x : HO} (hn : H a = none) (hf : F' a = none) (hx : H' a = some x) (ix : isOwn x = true) : Stp T σ F c H F' c' (upd H' a o) := by
  have no : ¬ OwnA c' σ a := fun q => by
    obtain ⟨_, o', h, _⟩ := S.own_at (st.osA q)
    rw [hn] at h; cases h
  refine ⟨st.gr, ⟨fun b u h => ?_, st.sim.len, fun j w h => ?_, st.sim.inj, st.sim.ft, st.sim.tb.own hx ix⟩, fun b u h p n => ?_, st.os, fun b h => ?_, st.nf⟩
  · have hb : b ≠ a := fun z => by rw [z, hf] at h; cases h
    rw [upd_ne hb]; exact st.sim.sub b u h
  · obtain ⟨v, h1, h2⟩ := st.sim.at_ j w h
    refine ⟨v, h1, h2.keep (fun _ _ q => q) (fun b ow e => ?_) fun b x ow e q => ?_⟩
    · obtain ⟨b', e2, f, _⟩ := h2.own_at ow
      rw [e] at e2; cases e2; exact f
    · have hb : b ≠ a := fun z => by
        subst z
        exact no ⟨j, w, h, ow, by rw [h1, e]⟩
      rw [upd_ne hb]; exact q
  · have hb : b ≠ a := fun z => by rw [z, hn] at h; cases h
    rw [upd_ne hb]; exact st.fr b u h p n
  · by_cases e : b = a
    · rw [e]; exact .none hn
    · exact st.dom b fun u q => h u (by rw [upd_ne e]; exact q)
/-- behind the block -/
theorem Stp.back {own : List Nat} {c2 : Sg} (S : Sim T F c σ H) (hp : own.all (plainAt c) = true) (st : Stp T (L2.wipe σ own) F (wipeS c own) H F' c2 H') (hw : wipeS c2 own = c2) : Stp T σ F c H F' (backS c c2 own) H' := by
  have up : ∀ b, OwnA (wipeS c own) (L2.wipe σ own) b → OwnA c σ b := fun b ⟨j, w, h1, h2, h3⟩ => by
    obtain ⟨n, g⟩ := wipeS_in h1
    rw [wipe_out n] at h3
    exact ⟨j, w, g, h2, h3⟩
  have pl : ∀ j w, j ∈ own → c[j]? = some (some w) → w.own = false := fun j w hj h => by
    have := List.all_eq_true.mp hp j hj
    unfold plainAt at this
    rw [h] at this
    simpa using this
  refine ⟨st.gr, ⟨st.sim.sub, ?_, fun j w h => ?_, fun i j w u b h1 o1 h2 o2 h3 h4 => ?_, st.sim.ft, st.sim.tb⟩, fun b o h p n => st.fr b o h p fun z => n (up b z), fun j w h o => ?_, st.dom, fun b o h => ?_⟩
  · rw [backS_len, st.sim.len, wipe_length]
  · rcases backS_in h with ⟨h1, h2⟩ | ⟨h1, h2⟩
    · obtain ⟨v, g1, g2⟩ := S.at_ j w h2
      have := pl j w h1 h2
      refine ⟨v, g1, g2.keep st.gr (fun a e => ?_) fun a x e => ?_⟩
      · rw [this] at e; cases e
      · rw [this] at e; cases e
    · obtain ⟨v, g1, g2⟩ := st.sim.at_ j w h2
      rw [wipe_out h1] at g1
      exact ⟨v, g1, g2⟩
  · rcases backS_in h1 with ⟨n1, g1⟩ | ⟨n1, g1⟩
    · rw [pl i w n1 g1] at o1; cases o1
    · rcases backS_in h2 with ⟨n2, g2⟩ | ⟨n2, g2⟩
      · rw [pl j u n2 g2] at o2; cases o2
      · exact st.sim.inj i j w u b g1 o1 g2 o2 (by rw [wipe_out n1]; exact h3) (by rw [wipe_out n2]; exact h4)
  · rcases backS_in h with ⟨h1, h2⟩ | ⟨h1, h2⟩
    · rw [pl j w h1 h2] at o; cases o
    · obtain ⟨w0, q1, q2⟩ := st.os j w h2 o
      obtain ⟨n, g⟩ := wipeS_in q1
      exact ⟨w0, g, q2⟩
  · rcases st.nf b o h with z | z | z
    · exact .inl z
    · exact .inr (.inl z)
    · exact .inr (.inr (up b z))
theorem asgs_in_own : ∀ {own : List Nat} {t : Tg}, tgOwn own t = true → ∀ i ∈ tgS t, i ∈ own
  | own, .nm j, h, i, hi => by
    simp only [tgS, List.mem_singleton] at hi
    subst hi
    simpa [tgOwn] using h
  | own, .tp ts, h, i, hi => by
    simp only [tgS] at hi
    simp only [tgOwn, List.all_eq_true] at h
    have key : ∀ ts : List Tg, (∀ t ∈ ts, (match t with | .nm i => own.contains i | _ => false) = true) → i ∈ tgSs ts → i ∈ own := by
      intro ts
      induction ts with
      | nil => intro _ h; simp [tgSs] at h
      | cons t ts ih =>
        intro h1 h2
        rw [tgSs, List.mem_append] at h2
        rcases h2 with h2 | h2
        · have := h1 t List.mem_cons_self
          cases t with
          | nm j =>
            simp only [tgS, List.mem_singleton] at h2
            subst h2
            simpa using this
          | tp _ => cases this
        · exact ih (fun t ht => h1 t (List.mem_cons_of_mem _ ht)) h2
    exact key ts h hi
theorem itc_len {xs : List D} {i : Nat} (h : ¬ i < xs.length) : xs.drop i = [] := List.drop_eq_nil_of_le (Nat.le_of_not_lt h)
theorem drop_get {α : Type} {xs : List α} {i : Nat} (h : i < xs.length) : xs.drop i = xs[i] :: xs.drop (i + 1) := by
  rw [List.drop_eq_getElem_cons h]
end

abbrev W0 : WX := fun _ _ _ _ => False
section
variable {T : Tb} {P : Pg} {nc k : Nat} {Wx : WX}
/-- a clause's test -/
def tC? (T : Tb) (t : Option (Sg → R Sg Bool)) : TT := match t with
  | none => tYes
  | some f => tT T W0 f
/-- one turn, seen from the wiped state -/
theorem lc_turn {F H : Hp} {c c' : Sg} {σ : L2.St} {own : List Nat} {t : Tg} {tc : Option (Sg → R Sg Bool)} {fe : Sg → R Sg W} {x : D} {v : V} {o : Option D} {KY : VK} {KN : Hp → Prop} (ho : tgOwn own t = true) (S : Sim T F c (L2.wipe σ own) H) (hw : wipeS c own = c) (r : DR T F x v)
    (ht : lcTurn own t tc fe x c = .ok o c') (hk : ∀ y, o = some y → ∀ F' v' H', Stp T (L2.wipe σ own) F c H F' c' H' → DR T F' y v' → KY v' H') (hk0 : o = none → ∀ F' H', Stp T (L2.wipe σ own) F c H F' c' H' → KN H') :
    gOf T.K t v (L2.wipe σ own) H fun σ2 H2 => wipe σ2 own = wipe σ own ∧ tC? T tc σ2 H2 fun b H3 => if b = true then tE T W0 fe σ2 H3 KY else KN H3 := by
  unfold lcTurn at ht
  rw [hw] at ht
  split at ht
  · cases ht
  · rename_i ca ha
    have io := asgs_in_own ho
    refine gOf_ok t S r ha fun σ2 S2 a2 => ⟨wipe_asg a2 io, ?_⟩
    cases tc with
    | none =>
      obtain ⟨w, s3, e1, e2⟩ := R.bind_ok_iff ht
      cases e2
      show if true = true then tE T W0 fe σ2 H KY else KN H
      rw [if_pos rfl]
      refine ⟨F, ca, S2, ?_⟩
      rw [e1]
      intro F4 H4 st4 v4 r4
      obtain ⟨F5, st5, r5, _⟩ := st4.freeze S2 r4
      exact hk _ rfl F5 v4 H4 (st5.unset S a2 io) r5
    | some f =>
      obtain ⟨b, s2, e1, e2⟩ := R.bind_ok_iff ht
      refine ⟨F, ca, S2, ?_⟩
      rw [e1]
      intro F3 H3 st3
      cases b with
      | false =>
        rw [if_neg Bool.false_ne_true] at e2 ⊢
        cases e2
        exact hk0 rfl F3 H3 (st3.unset S a2 io)
      | true =>
        rw [if_pos rfl] at e2 ⊢
        obtain ⟨w, s3, e3, e4⟩ := R.bind_ok_iff e2
        cases e4
        refine ⟨F3, s2, st3.sim, ?_⟩
        rw [e3]
        intro F4 H4 st4 v4 r4
        obtain ⟨F5, st5, r5, _⟩ := st4.freeze st3.sim r4
        exact hk _ rfl F5 v4 H4 ((st3.trans st5).unset S a2 io) r5
theorem kV_of {F : Hp} {d : D} {v : V} {k : Key} (r : DR T F d v) (e : keyD d = some k) : v = kV k := by
  cases r <;> simp only [keyD] at e <;> first | (cases e; rfl) | cases e
theorem dc_turn {F H : Hp} {c c' : Sg} {σ : L2.St} {own : List Nat} {t : Tg} {tc : Option (Sg → R Sg Bool)} {fk fv : Sg → R Sg W} {x : D} {v : V} {o : Option (Key × D)} {KY : List (Key × V) → Key → V → Hp → Prop} {KN : Hp → Prop} (ho : tgOwn own t = true) (S : Sim T F c (L2.wipe σ own) H) (hw : wipeS c own = c) (r : DR T F x v)
    (ht : dcTurn own t tc fk fv x c = .ok o c') (hk : ∀ y, o = some y → ∀ F' v' H', Stp T (L2.wipe σ own) F c H F' c' H' → DR T F' y.2 v' → ∃ kvs, KY kvs y.1 v' H') (hk0 : o = none → ∀ F' H', Stp T (L2.wipe σ own) F c H F' c' H' → KN H') :
    gOf T.K t v (L2.wipe σ own) H fun σ2 H2 => wipe σ2 own = wipe σ own ∧ tC? T tc σ2 H2 fun b H3 => if b = true then tE T W0 fk σ2 H3 (fun y H4 => tE T W0 fv σ2 H4 fun z H5 => ∃ kvs kk, y = kV kk ∧ KY kvs kk z H5) else KN H3 := by
  unfold dcTurn at ht
  simp only at ht
  rw [hw] at ht
  split at ht
  · cases ht
  · rename_i ca ha
    have io := asgs_in_own ho
    refine gOf_ok t S r ha fun σ2 S2 a2 => ⟨wipe_asg a2 io, ?_⟩
    have fin : ∀ {F3 H3 s2}, Stp T σ2 F ca H F3 s2 H3 → ((fk s2).bind fun wk σ2 => (fv σ2).bind fun wv σ3 => match keyD wk.toD with
        | some kk => R.ok (some (kk, wv.toD)) (wipeS σ3 own)
        | none => .bad) = .ok o c' → tE T W0 fk σ2 H3 (fun y H4 => tE T W0 fv σ2 H4 fun z H5 => ∃ kvs kk, y = kV kk ∧ KY kvs kk z H5) := fun {F3 H3 s2} st3 e2 => by
      obtain ⟨wk, s3, e3, e4⟩ := R.bind_ok_iff e2
      obtain ⟨wv, s4, e5, e6⟩ := R.bind_ok_iff e4
      split at e6
      · rename_i kk hkk
        cases e6
        refine ⟨F3, s2, st3.sim, ?_⟩
        rw [e3]
        intro F4 H4 st4 v4 r4
        obtain ⟨F5, st5, r5, _⟩ := st4.freeze st3.sim r4
        refine ⟨F5, s3, st5.sim, ?_⟩
        rw [e5]
        intro F6 H6 st6 v6 r6
        obtain ⟨F7, st7, r7, _⟩ := st6.freeze st5.sim r6
        obtain ⟨kvs, hkv⟩ := hk _ rfl F7 v6 H6 (((st3.trans st5).trans st7).unset S a2 io) r7
        exact ⟨kvs, kk, kV_of r5 hkk, hkv⟩
      · cases e6
    cases tc with
    | none =>
      show if true = true then tE T W0 fk σ2 H (fun y H4 => tE T W0 fv σ2 H4 fun z H5 => ∃ kvs kk, y = kV kk ∧ KY kvs kk z H5) else KN H
      rw [if_pos rfl]
      exact fin (.refl S2) ht
    | some f =>
      obtain ⟨b, s2, e1, e2⟩ := R.bind_ok_iff ht
      refine ⟨F, ca, S2, ?_⟩
      rw [e1]
      intro F3 H3 st3
      cases b with
      | false =>
        rw [if_neg Bool.false_ne_true] at e2 ⊢
        cases e2
        exact hk0 rfl F3 H3 (st3.unset S a2 io)
      | true =>
        rw [if_pos rfl] at e2 ⊢
        exact fin st3 e2
theorem lcL_none {f : D → Sg → R Sg (Option D)} {x : D} {xs acc : List D} {c : Sg} {ys : List D} {c3 : Sg} (h : lcL f (x :: xs) acc c = .ok ys c3) : ∃ o c', f x c = .ok o c' ∧ lcL f xs (match o with | some y => acc ++ [y] | none => acc) c' = .ok ys c3 := by
  rw [lcL] at h
  split at h
  · rename_i y c' e; exact ⟨_, _, e, h⟩
  · rename_i c' e; exact ⟨_, _, e, h⟩
  · cases h
theorem lcL_noexc {f : D → Sg → R Sg (Option D)} : ∀ {xs acc : List D} {c : Sg} {a b s}, lcL f xs acc c ≠ .exc a b s
  | [], acc, c, a, b, s, h => by cases h
  | x :: xs, acc, c, a, b, s, h => by
    rw [lcL] at h
    split at h
    · exact lcL_noexc h
    · exact lcL_noexc h
    · cases h
theorem dcL_none {f : D → Sg → R Sg (Option (Key × D))} {x : D} {xs : List D} {acc : List (Key × D)} {c : Sg} {ys : List (Key × D)} {c3 : Sg} (h : dcL f (x :: xs) acc c = .ok ys c3) : ∃ o c', f x c = .ok o c' ∧ dcL f xs (match o with | some y => dput acc y.1 y.2 | none => acc) c' = .ok ys c3 := by
  rw [dcL] at h
  split at h
  · rename_i y c' e; exact ⟨_, _, e, h⟩
  · rename_i c' e; exact ⟨_, _, e, h⟩
  · cases h
theorem dcL_noexc {f : D → Sg → R Sg (Option (Key × D))} : ∀ {xs : List D} {acc : List (Key × D)} {c : Sg} {a b s}, dcL f xs acc c ≠ .exc a b s
  | [], acc, c, a, b, s, h => by cases h
  | x :: xs, acc, c, a, b, s, h => by
    rw [dcL] at h
    split at h
    · exact dcL_noexc h
    · exact dcL_noexc h
    · cases h
/-- a new thing, not frozen, over a step -/
theorem Stp.keepN {F1 F2 F3 H1 H2 H3 : Hp} {c1 c2 c3 : Sg} {σ : L2.St} {a : Addr} {o : HO} (S : Sim T F1 c1 σ H1) (hn : H1 a = none) (st : Stp T σ F1 c1 H1 F2 c2 H2) (st' : Stp T σ F2 c2 H2 F3 c3 H3) (hf : F2 a = none) (ho : H2 a = some o) (io : isOwn o = true := by rfl) : F3 a = none ∧ H3 a = some o := by
  have no : ¬ OwnA c2 σ a := fun q => by
    obtain ⟨_, o', h, _⟩ := S.own_at (st.osA q)
    rw [hn] at h; cases h
  refine ⟨?_, st'.fr a o ho (fun ps z => by rw [z] at io; cases io) no⟩
  cases z : F3 a with
  | none => rfl
  | some u =>
    rcases st'.nf a u z with z' | z' | z'
    · rw [hf] at z'; cases z'
    · exact (z'.no ho io).elim
    · exact absurd z' no
theorem lc_imp {own : List Nat} {t : Tg} {it : Ex} {d : Option Ex} {e : Ex} (ho : tgOwn own t = true) {σ : L2.St} {H : Hp} {Q : VK} (q : tE T Wx (evX P nc k (.lc own t it d e)) σ H Q) :
    tLc (tI T Wx (evX P nc k it)) (gOf T.K t) (tC? T (evC nc (callN P nc k) d)) (tE T W0 (evX P nc k e)) own σ H Q := by
  obtain ⟨F, c, S, q⟩ := q
  refine ⟨F, c, S, ?_⟩
  simp only [evX, ev] at q
  refine q.bind.mono fun w F1 c1 H1 he st1 q1 => ?_
  cases hx : itemsD w.toD with
  | none => rw [hx] at q1; exact q1.elim
  | some xs =>
    rw [hx] at q1
    refine ⟨xs, rfl, fun J hJ D hD => ?_⟩
    simp only at q1
    split at q1
    · rename_i hc
      obtain ⟨pl, hl⟩ := hc
      cases hr : lcL (lcTurn own t (evC nc (callN P nc k) d) (evX P nc k e)) xs [] (wipeS c1 own) with
      | bad => rw [hr] at q1; exact q1.elim
      | exc a b s => exact absurd hr lcL_noexc
      | ok ys c3 =>
        rw [hr, R.bind_ok] at q1
        have S1 := st1.sim.wipe own
        have fD : F1 D = none := st1.sim.notF hD
        have st0 : Stp T (L2.wipe σ own) F1 (wipeS c1 own) H1 F1 (wipeS c1 own) (upd H1 D (.lst [])) := S1.newH hD
        refine ⟨fun i m Hc => m = xs.length - i ∧ i ≤ xs.length ∧ ∃ F2 c2 acc avs, Stp T (L2.wipe σ own) F1 (wipeS c1 own) H1 F2 c2 Hc ∧ F2 D = none ∧ Hc D = some (.lst avs) ∧ DRs T F2 acc avs ∧ wipeS c2 own = c2 ∧ acc.length ≤ i ∧ lcL (lcTurn own t (evC nc (callN P nc k) d) (evX P nc k e)) (xs.drop i) acc c2 = .ok ys c3,
          ⟨xs.length, by simp, Nat.zero_le _, F1, _, [], [], st0, fD, upd_same, .nil, wipeS_idem _ _, Nat.le_refl _, by simpa using hr⟩, ?_⟩
        rintro i m Hc ⟨rfl, hi, F2, c2, acc, avs, st, fD2, hDc, ra, hw, hal, hrest⟩
        obtain ⟨stop, item⟩ := hJ F2 c2 (L2.wipe σ own) Hc st.gr st.sim
        by_cases hlt : i < xs.length
        · right
          rw [drop_get hlt] at hrest
          obtain ⟨o, c', hturn, hrest⟩ := lcL_none hrest
          obtain ⟨go, yld⟩ := item i xs[i] (List.getElem?_eq_getElem hlt)
          refine ⟨go, fun H' => i + 1 ≤ xs.length ∧ ∃ F2 c2 acc avs, Stp T (L2.wipe σ own) F1 (wipeS c1 own) H1 F2 c2 H' ∧ F2 D = none ∧ H' D = some (.lst avs) ∧ DRs T F2 acc avs ∧ wipeS c2 own = c2 ∧ acc.length ≤ i + 1 ∧ lcL (lcTurn own t (evC nc (callN P nc k) d) (evX P nc k e)) (xs.drop (i + 1)) acc c2 = .ok ys c3,
            fun H' h => ⟨xs.length - (i + 1), by omega, rfl, h⟩, fun x Hy y => ?_⟩
          obtain ⟨F3, sty, rx⟩ := yld x Hy y
          obtain ⟨fD3, hD3⟩ := Stp.keepN S1 hD st sty fD2 hDc
          have st3 := st.trans sty
          have ex : ∃ z, c' = wipeS z own := by
            unfold lcTurn at hturn
            split at hturn
            · cases hturn
            · split at hturn
              · obtain ⟨w, s3, e1, e2⟩ := R.bind_ok_iff hturn
                cases e2; exact ⟨_, rfl⟩
              · obtain ⟨b, s3, e1, e2⟩ := R.bind_ok_iff hturn
                split at e2
                · obtain ⟨w, s4, e3, e4⟩ := R.bind_ok_iff e2
                  cases e4; exact ⟨_, rfl⟩
                · cases e2; exact ⟨_, rfl⟩
          obtain ⟨z, rfl⟩ := ex
          refine lc_turn ho sty.sim hw rx hturn ?_ ?_
          · intro y eo F4 v4 H4 st4 r4
            subst eo
            obtain ⟨fD4, hD4⟩ := Stp.keepN S1 hD st3 st4 fD3 hD3
            refine ⟨avs, hD4, by rw [← ra.length]; omega, hlt, F4, _, acc ++ [y], avs ++ [v4], Stp.updN S1 (st3.trans st4) hD fD4 hD4 rfl, fD4, upd_same, ((ra.grow sty.gr).grow st4.gr).append (.cons r4 .nil), wipeS_idem _ _, by rw [List.length_append]; exact Nat.succ_le_succ hal, hrest⟩
          · intro eo F4 H4 st4
            subst eo
            obtain ⟨fD4, hD4⟩ := Stp.keepN S1 hD st3 st4 fD3 hD3
            exact ⟨hlt, F4, _, acc, avs, st3.trans st4, fD4, hD4, (ra.grow sty.gr).grow st4.gr, wipeS_idem _ _, Nat.le_succ_of_le hal, hrest⟩
        · left
          rw [itc_len hlt, lcL] at hrest
          cases hrest
          refine ⟨stop i (Nat.le_of_not_lt hlt), ?_⟩
          exact q1 F2 Hc (st.back st1.sim pl hw) (.ref D) ⟨⟨D, avs, rfl, fD2, hDc, ra⟩, fun _ a ea => by cases ea; exact st1.dom D (.none hD)⟩
    · exact q1.elim
theorem put_keys {α β : Type} {kvs : List (Key × α)} {kvs' : List (Key × β)} (h : kvs'.map (·.1) = kvs.map (·.1)) (k : Key) : kvs'.any (fun kv => decide (kv.1 = k)) = kvs.any fun kv => decide (kv.1 = k) := by
  have e1 : kvs'.any (fun kv => decide (kv.1 = k)) = (kvs'.map (·.1)).any fun x => decide (x = k) := by rw [List.any_map]; rfl
  have e2 : kvs.any (fun kv => decide (kv.1 = k)) = (kvs.map (·.1)).any fun x => decide (x = k) := by rw [List.any_map]; rfl
  rw [e1, e2, h]
theorem dc_imp {own : List Nat} {t : Tg} {it : Ex} {d : Option Ex} {ek e : Ex} (ho : tgOwn own t = true) {σ : L2.St} {H : Hp} {Q : VK} (q : tE T Wx (evX P nc k (.dc own t it d ek e)) σ H Q) :
    tDc (tI T Wx (evX P nc k it)) (gOf T.K t) (tC? T (evC nc (callN P nc k) d)) (tE T W0 (evX P nc k ek)) (tE T W0 (evX P nc k e)) own σ H Q := by
  obtain ⟨F, c, S, q⟩ := q
  refine ⟨F, c, S, ?_⟩
  simp only [evX, ev] at q
  refine q.bind.mono fun w F1 c1 H1 he st1 q1 => ?_
  cases hx : itemsD w.toD with
  | none => rw [hx] at q1; exact q1.elim
  | some xs =>
    rw [hx] at q1
    refine ⟨xs, rfl, fun J hJ D hD => ?_⟩
    simp only at q1
    split at q1
    · rename_i hc
      obtain ⟨pl, hl⟩ := hc
      cases hr : dcL (dcTurn own t (evC nc (callN P nc k) d) (evX P nc k ek) (evX P nc k e)) xs [] (wipeS c1 own) with
      | bad => rw [hr] at q1; exact q1.elim
      | exc a b s => exact absurd hr dcL_noexc
      | ok ys c3 =>
        rw [hr, R.bind_ok] at q1
        have S1 := st1.sim.wipe own
        have fD : F1 D = none := st1.sim.notF hD
        have st0 : Stp T (L2.wipe σ own) F1 (wipeS c1 own) H1 F1 (wipeS c1 own) (upd H1 D (.dK [])) := S1.newH hD
        refine ⟨fun i m Hc => m = xs.length - i ∧ i ≤ xs.length ∧ ∃ F2 c2 acc avs, Stp T (L2.wipe σ own) F1 (wipeS c1 own) H1 F2 c2 Hc ∧ F2 D = none ∧ Hc D = some (.dK avs) ∧ (avs.map (·.1) = acc.map (·.1) ∧ DRs T F2 (acc.map (·.2)) (avs.map (·.2))) ∧ wipeS c2 own = c2 ∧ acc.length ≤ i ∧ dcL (dcTurn own t (evC nc (callN P nc k) d) (evX P nc k ek) (evX P nc k e)) (xs.drop i) acc c2 = .ok ys c3,
          ⟨xs.length, by simp, Nat.zero_le _, F1, _, [], [], st0, fD, upd_same, ⟨rfl, .nil⟩, wipeS_idem _ _, Nat.le_refl _, by simpa using hr⟩, ?_⟩
        rintro i m Hc ⟨rfl, hi, F2, c2, acc, avs, st, fD2, hDc, ra, hw, hal, hrest⟩
        obtain ⟨stop, item⟩ := hJ F2 c2 (L2.wipe σ own) Hc st.gr st.sim
        by_cases hlt : i < xs.length
        · right
          rw [drop_get hlt] at hrest
          obtain ⟨o, c', hturn, hrest⟩ := dcL_none hrest
          obtain ⟨go, yld⟩ := item i xs[i] (List.getElem?_eq_getElem hlt)
          refine ⟨go, fun H' => i + 1 ≤ xs.length ∧ ∃ F2 c2 acc avs, Stp T (L2.wipe σ own) F1 (wipeS c1 own) H1 F2 c2 H' ∧ F2 D = none ∧ H' D = some (.dK avs) ∧ (avs.map (·.1) = acc.map (·.1) ∧ DRs T F2 (acc.map (·.2)) (avs.map (·.2))) ∧ wipeS c2 own = c2 ∧ acc.length ≤ i + 1 ∧ dcL (dcTurn own t (evC nc (callN P nc k) d) (evX P nc k ek) (evX P nc k e)) (xs.drop (i + 1)) acc c2 = .ok ys c3,
            fun H' h => ⟨xs.length - (i + 1), by omega, rfl, h⟩, fun x Hy y => ?_⟩
          obtain ⟨F3, sty, rx⟩ := yld x Hy y
          obtain ⟨fD3, hD3⟩ := Stp.keepN S1 hD st sty fD2 hDc
          have st3 := st.trans sty
          have ex : ∃ z, c' = wipeS z own := by
            unfold dcTurn at hturn
            simp only at hturn
            have fin : ∀ {s2}, ((evX P nc k ek s2).bind fun wk σ2 => (evX P nc k e σ2).bind fun wv σ3 => match keyD wk.toD with
                | some kk => R.ok (some (kk, wv.toD)) (wipeS σ3 own)
                | none => .bad) = .ok o c' → ∃ z, c' = wipeS z own := fun {s2} e2 => by
              obtain ⟨wk, s3, e3, e4⟩ := R.bind_ok_iff e2
              obtain ⟨wv, s4, e5, e6⟩ := R.bind_ok_iff e4
              split at e6
              · cases e6; exact ⟨_, rfl⟩
              · cases e6
            split at hturn
            · cases hturn
            · split at hturn
              · exact fin hturn
              · obtain ⟨b, s3, e1, e2⟩ := R.bind_ok_iff hturn
                split at e2
                · exact fin e2
                · cases e2; exact ⟨_, rfl⟩
          obtain ⟨z, rfl⟩ := ex
          refine dc_turn ho sty.sim hw rx hturn ?_ ?_
          · intro y eo F4 v4 H4 st4 r4
            subst eo
            obtain ⟨fD4, hD4⟩ := Stp.keepN S1 hD st3 st4 fD3 hD3
            have hla : avs.length = acc.length := by have := congrArg List.length ra.1; simpa using this
            have hp := drs_put (k := y.1) r4 ra.1 ((ra.2.grow sty.gr).grow st4.gr)
            exact ⟨avs, hD4, by rw [hla]; omega, hlt, F4, _, dput acc y.1 y.2, _, Stp.updN S1 (st3.trans st4) hD fD4 hD4 rfl, fD4, upd_same, hp, wipeS_idem _ _, Nat.le_trans (dput_len _ _ _) (Nat.succ_le_succ hal), hrest⟩
          · intro eo F4 H4 st4
            subst eo
            obtain ⟨fD4, hD4⟩ := Stp.keepN S1 hD st3 st4 fD3 hD3
            exact ⟨hlt, F4, _, acc, avs, st3.trans st4, fD4, hD4, ⟨ra.1, (ra.2.grow sty.gr).grow st4.gr⟩, wipeS_idem _ _, Nat.le_succ_of_le hal, hrest⟩
        · left
          rw [itc_len hlt, dcL] at hrest
          cases hrest
          refine ⟨stop i (Nat.le_of_not_lt hlt), ?_⟩
          exact q1 F2 Hc (st.back st1.sim pl hw) (.ref D) ⟨⟨D, avs, rfl, fD2, hDc, ra.1, ra.2⟩, fun _ a ea => by cases ea; exact st1.dom D (.none hD)⟩
    · exact q1.elim
end
end Cl

/-! Cl, part M: [::-1], a dict of one tuple, blocks. -/
namespace ClRev
open PySem PySem.Spec PyProof.Rows HT
section
variable {prog : Program} {w : World} {A : Around} {E : Value → Shared → Prop} {s : Shared}
theorem adj (n : Nat) : Builtin.Slice.sliceAdjust none none (-1) (n : Int) = ((n : Int) - 1, -1) := by
  have h : ((-1 : Int) < 0) := by decide
  unfold Builtin.Slice.sliceAdjust
  simp only [h, if_true]
theorem plc (n : Nat) : Builtin.Slice.slicePlaces ((n : Int) - 1) (-1) (-1) = n := by
  have h : ¬ ((-1 : Int) > 0) := by decide
  unfold Builtin.Slice.slicePlaces
  simp only [h, if_false]
  have e : (-(-1 : Int)) = 1 := by decide
  rw [e, Int.ediv_one]
  split <;> omega
theorem app {sl : Addr} {vl vu vs : Value} {n : Nat} {Q : Int × Int × Nat → Shared → Prop} (hs : s.heap.IsSliceOf sl vl vu vs) (pl : IsPart vl none) (pu : IsPart vu none) (ps : IsPart vs (some (-1)))
    (h : Q ((n : Int) - 1, -1, n) s) : wpAny (model prog w) A (Builtin.Slice.sliceApplied (.ref sl) (pure (n : Int))) Q E s := by
  obtain ⟨os, g1, g2, g3⟩ := id hs
  unfold Builtin.Slice.sliceApplied Builtin.Slice.sliceFields
  refine wpAny_bind (wpAny_bind (wpAny_field g1 g3 (x := vl) rfl (wpAny_bind (wpAny_field g1 g3 (x := vu) rfl (wpAny_bind (wpAny_field g1 g3 (x := vs) rfl (wpAny_pure ?_)))))))
  refine wpAny_bind (slicePart_ ps ?_)
  show wpAny _ _ (if ((-1 : Int) == 0) = true then _ else _) _ _ s
  rw [if_neg (by decide)]
  refine wpAny_bind (slicePart_ pl (wpAny_bind (slicePart_ pu (wpAny_bind (wpAny_pure ?_)))))
  show wpAny _ _ (match Builtin.Slice.sliceAdjust none none (-1) (n : Int) with | (lo, hi) => pure (lo, (-1 : Int), Builtin.Slice.slicePlaces lo hi (-1))) _ _ s
  rw [adj n]
  show wpAny _ _ (pure ((n : Int) - 1, (-1 : Int), Builtin.Slice.slicePlaces ((n : Int) - 1) (-1) (-1))) _ _ s
  rw [plc]
  exact wpAny_pure h
theorem fm_congr {α β : Type} {f g : α → Option β} : ∀ {l : List α}, (∀ x ∈ l, f x = g x) → l.filterMap f = l.filterMap g
  | [], _ => rfl
  | x :: l, h => by rw [List.filterMap_cons, List.filterMap_cons, h x List.mem_cons_self, fm_congr fun y hy => h y (List.mem_cons_of_mem _ hy)]
theorem pick (xs : Array Value) : ((List.range xs.size).filterMap fun (m : Nat) => xs[(((xs.size : Int) - 1) + (m : Int) * (-1)).toNat]?).toArray = xs.toList.reverse.toArray := by
  have e : ((List.range xs.size).filterMap fun (m : Nat) => xs[(((xs.size : Int) - 1) + (m : Int) * (-1)).toNat]?) = ((List.range xs.size).map (fun k => xs.size - 1 - k)).filterMap (xs[·]?) := by
    rw [List.filterMap_map]
    refine fm_congr fun m hm => ?_
    have := List.mem_range.mp hm
    have e2 : (((xs.size : Int) - 1) + (m : Int) * (-1)).toNat = xs.size - 1 - m := by omega
    rw [e2]; rfl
  rw [e, PySem.W.krv_range, List.filterMap_reverse, PySem.W.krv_all]
theorem get {t sl : Addr} {items : Array Value} {vl vu vs : Value} {Q : Value → Shared → Prop} (ht : IsTup s.heap t items) (hs : s.heap.IsSliceOf sl vl vu vs) (pl : IsPart vl none) (pu : IsPart vu none) (ps : IsPart vs (some (-1)))
    (h : Q (.ref s.heap.objs.size) { s with heap := s.heap.push { cls := .type "tuple", data := .seq items.toList.reverse.toArray } })
    (hsz : items.size ≤ sizeLine) : wpAny (model prog w) A (getItem (.ref t) (.ref sl)) Q E s := by
  have big : sizeOk (.seq items.toList.reverse.toArray) := by
    show items.toList.reverse.toArray.size ≤ sizeLine
    rw [List.size_toArray, List.length_reverse, Array.length_toList]
    exact hsz
  obtain ⟨os, g1, g2, g3⟩ := id hs
  have tS : s.TypeIs (.ref sl) "slice" := ⟨os, g1, g2⟩
  unfold getItem
  try with_reducible refine wpAny_holding ?_
  first | refine wpAny_bind (wpAny_pure ?_) | skip
  refine wpAny_bind (wpAny_sequenceKey ht.typeIs (by decide) (wpAny_bind (wpAny_callSpecial?_slot (name := Str.ofString "__getitem__") ht.typeIs PyProof.Rows.slot_tuple_getitem
    (wpAny_call_entry PyProof.Rows.slot_tuple_getitem ht.typeIs entry_tuple_getitem ?_ (args_tuple_getitem _ _)))))
  show wpAny _ _ (Builtin.Tuple.tupleItemsOf (.ref t) >>= _) _ _ s
  refine wpAny_bind (tupleItemsOf_ ht (wpAny_bind (wpAny_typeOf tS ?_)))
  rw [if_pos (by decide)]
  refine wpAny_bind (app hs pl pu ps ?_)
  have hno : ¬ ((((items.size : Int) - 1) == 0 && (-1 : Int) == 1 && items.size == items.size) = true) := by
    intro q
    rw [Bool.and_eq_true, Bool.and_eq_true] at q
    exact absurd q.1.2 (by decide)
  show wpAny _ _ (if ((((items.size : Int) - 1) == 0 && (-1 : Int) == 1 && items.size == items.size) = true) then _ else _) _ _ s
  rw [if_neg hno, pick]
  first
    | exact wpAny_bind (m := Builtin.Tuple.tupleExact _) (wpAny_newObj_type (wpAny_pure ⟨_, rfl, wpAny_pure h⟩) big)
    | exact wpAny_bind (m := Builtin.Tuple.tupleExact _) (wpAny_newObj_type (wpAny_bind (wpAny_pure (wpAny_pure ⟨_, rfl, wpAny_pure h⟩))) big)
    | exact wpAny_bind (wpAny_bind (m := Builtin.Tuple.tupleExact _) (wpAny_newObj_type (wpAny_pure (wpAny_pure ⟨_, rfl, wpAny_pure h⟩)) big))
    | exact wpAny_bind (wpAny_bind (m := Builtin.Tuple.tupleExact _) (wpAny_newObj_type (wpAny_pure ⟨_, rfl, wpAny_pure h⟩) big))
end
end ClRev
namespace Cl
open PySem PySem.Spec PyProof.Rows L2
/-- a list or a tuple from behind -/
def tRevA (K : PySem.W.Frag) (te : TE) : TE := fun σ H Q => te σ H fun x H1 => ∃ a xs, x = .ref a ∧ ((SqL K H1 a xs ∧ ∀ p, H1 p = none → Q (.ref p) (upd H1 p (.lst xs.reverse))) ∨ (SqT K H1 a xs ∧ ∀ p, H1 p = none → Q (.ref p) (upd H1 p (.tup xs.reverse))))
theorem pe_revA {X : Cx} {e : Expr} {te : TE} {k : Nat} {p1 p2 p3 pos : Pos} (he : PE X e te) : PE X (.Subscript e (.Slice none none (some (.UnaryOp .USub (.Constant (.int 1) k p1) p2)) p3) pos) (tRevA X.K te) := by
  refine ⟨fun pins s σ H Q I h => Subscript_ (thn (he.run pins s σ H _ I h) fun v s1 ⟨x, H1, I1, r1, a, xs, ex, q⟩ => ?_)⟩
  subst ex
  cases r1
  have neg1 : PO X (some (.UnaryOp .USub (.Constant (.int 1) k p1) p2)) (tPart (tUn (rU fun i => .int (-i)) (tC (.int 1)))) := po_some (pe_un un_neg pe_int)
  refine wpAny_Slice (thn (po_none.run pins s1 σ H1 (fun o H2 => o = none ∧ H2 = H1) I1 ⟨rfl, rfl⟩) fun vl s2 ⟨l, H2, I2, pl, e1, e2⟩ => ?_)
  subst e1 e2
  refine thn (po_none.run pins s2 σ H2 (fun o H3 => o = none ∧ H3 = H2) I2 ⟨rfl, rfl⟩) fun vu s3 ⟨u, H3, I3, pu, e1, e2⟩ => ?_
  subst e1 e2
  refine thn (neg1.run pins s3 σ H3 (fun o H4 => o = some (-1) ∧ H4 = H3) I3 ⟨1, rfl, -1, rfl, rfl, rfl⟩) fun vs s4 ⟨o, H4, I4, ps, e1, e2⟩ => ?_
  subst e1 e2
  have I5 : Inv X pins σ H4 { s4 with heap := s4.heap.push { cls := .type "slice", data := .fields #[vl, vu, vs] } } := I4.kept (t' := s4.toks) fun b ob q => Heap.get?_push_of_some _ q
  show wpAny (model X.prog X.w) X.A (subscriptTail e (.Slice none none (some (.UnaryOp .USub (.Constant (.int 1) k p1) p2)) p3) (.ref a) (.ref s4.heap.objs.size)) (EP X pins σ Q) X.xe _
  rcases q with ⟨hx, q⟩ | ⟨hx, q⟩
  · obtain ⟨its, r, ht, hz⟩ := I5.list hx
    have hlen := r.length
    refine tail_any (ops := [.ref a, .ref s4.heap.objs.size]) ht.isList.typeIs (PySem.slot_list_getitem.lookup) (wpAny_getItem_list_slice ht.isList (Heap.IsSliceOf.new _ vl vu vs) pl pu ps (by decide) ?_ (by rw [List.size_toArray]; omega)) (by with_unfolding_all rfl)
    rw [PySem.W.krv_pick]
    exact ⟨.ref _, _, I5.laid (t' := s4.toks) (o := .lst xs.reverse) (fun b ob q => Heap.get?_push_of_some _ q) (Nat.le_refl _) ⟨by rw [List.length_reverse]; exact hz, _, 0, r.reverse, Heap.get?_push_size _ rfl⟩, rfl, q _ (I5.hok.fresh (Nat.le_refl _))⟩
  · obtain ⟨its, r, ht, hz⟩ := I5.tuple hx
    have hlen := r.length
    refine tail_any (ops := [.ref a, .ref s4.heap.objs.size]) ht.typeIs PyProof.Rows.slot_tuple_getitem.lookup (ClRev.get ht (Heap.IsSliceOf.new _ vl vu vs) pl pu ps ?_ (by rw [List.size_toArray]; omega)) (by with_unfolding_all rfl)
    exact ⟨.ref _, _, I5.laid (t' := s4.toks) (o := .tup xs.reverse) (fun b ob q => Heap.get?_push_of_some _ q) (Nat.le_refl _) ⟨by rw [List.length_reverse]; exact hz, _, r.reverse, IsTup.new _ _⟩, rfl, q _ (I5.hok.fresh (Nat.le_refl _))⟩

/-- {k: v}, k a tuple of ints and texts -/
def tDisp1T (tk tv : TE) : TE := fun σ H Q => ∀ p, H p = none → tk σ (upd H p (.dT [])) fun x H1 => tv σ H1 fun y H2 => ∃ b k, x = .ref b ∧ H2 p = some (.dT []) ∧ H2 b = some (.tup (k.map kV)) ∧ Q (.ref p) (upd H2 p (.dT [(k, y)]))
theorem pe_disp1T {X : Cx} {kx vx : Expr} {tk tv : TE} {pos : Pos} (hu : X.A.units + 1 < cLine) (hk : PE X kx tk) (hv : PE X vx tv) : PE X (.Dict [some kx] [vx] pos) (tDisp1T tk tv) := by
  refine ⟨fun pins s σ H Q I q => ?_⟩
  have hn := I.hok.fresh (Nat.le_refl s.heap.objs.size)
  have I1 := I.laid (a := s.heap.objs.size) (o := .dT []) (h' := s.heap.push { cls := .type "dict", data := .dict #[] }) (t' := s.toks) (fun _ _ q => Heap.get?_push_of_some _ q) (Nat.le_refl _) (dt_empty s.heap I.big)
  rw [arm_eval_Dict, zip_pairTrees [some kx] [vx] X.env pos rfl rfl, dictDisplay_pairs _ (by simp [pairTrees]) (by simp [pairTrees])]
  refine wpAny_bind (wpAny_standAt (wpAny_bind ?_))
  unfold subDict
  refine wpAny_bind (wpAny_alloc (wpAny_bind (wpAny_holding ?_)))
  rw [if_pos (by simp [pairTrees])]
  refine wpAny_bind (pairTrees_cons_walk (thn (hk.run pins _ σ _ _ I1 (q _ hn)) fun u s1 ⟨x, H1, J1, rx, q1⟩ => thn (hv.run pins s1 σ H1 _ J1 q1) fun u2 s2 ⟨y, H2, J2, ry, b, k, ex, hp, hb, q2⟩ => pairTrees_nil_walk ?_))
  subst ex
  cases (show u = Value.ref b from rx)
  refine wpAny_holding ?_
  rw [List.forIn_cons]
  obtain ⟨z, hd, xs, rel, dd⟩ := dt_of J2.hok hp
  have hz : xs.length ≤ sizeLine := by rw [← Paired.length rel]; exact z
  refine wpAny_bind (wpAny_bind (wpAny_bind (wpAny_dictSet_heap (hsz := hz) (show X.A.units < cLine by omega) (key_of J2.hok hb) dd fun h' dd' hs => wpAny_pure ?_)))
  show wpAny (model X.prog X.w) X.A (forIn [] _ _) _ _ _
  rw [List.forIn_nil]
  refine wpAny_pure (wpAny_pure (wpAny_pure (wpAny_pure ⟨.ref s.heap.objs.size, _, ?_, rfl, q2⟩)))
  obtain ⟨o, es, ep, g1, g2, g3, g4, _, g5⟩ := dd'
  refine d_write J2 (by rw [hp]; exact True.intro) hs ⟨o, g1⟩ ⟨by show 1 ≤ sizeLine; decide, hd, _, KT.keeps (H := H2) (rel.put k hb ry) fun c ys ec => ?_, o, es, ep, g1, g2, g3, g4, g5⟩
  rw [upd_ne (ne_of ec hp (fun z => nomatch z))]
  exact ec
end Cl

/-! Cl, part Ma: g(lambda: e). -/
namespace Cl
open PySem PySem.Spec PyProof.Rows L2
section
variable {T : Tb} {F F' H H' H1 : Hp} {c : Sg} {σ : L2.St}
theorem Sim.bare (S : Sim T F c σ H) : Sim T F [] [] H := ⟨S.sub, rfl, fun i w h => by simp at h, fun i j w u a h => by simp at h, S.ft, S.tb⟩
/-- a lambda is made: but for the tables nothing changes -/
theorem Sim.extN (S : Sim T F c σ H) (e : LamX.ExtN H H1) (t : LamX.Tabs T.tl H1) : Stp T σ F c H F c H1 where
  gr := fun _ _ h => h
  sim := ⟨fun a o h => e a o (S.sub a o h) fun ps z => S.ft a ps (by rw [← z]; exact h), S.len, fun i w h => by
    obtain ⟨v, h1, h2⟩ := S.at_ i w h
    refine ⟨v, h1, h2.keep (fun _ _ q => q) (fun a o e' => ?_) fun a o ow e' q => ?_⟩
    · obtain ⟨b, e2, f, _⟩ := h2.own_at o
      rw [e'] at e2; cases e2; exact f
    · obtain ⟨b, e2, f, x, hx, ix⟩ := h2.own_at ow
      rw [e'] at e2; cases e2
      rw [hx] at q; cases q
      exact e a _ hx (fun ps z => by rw [z] at ix; cases ix), S.inj, fun a ps h => S.ft a ps h, S.tb.extN e t⟩
  fr := fun a o h p _ => e a o h p
  os := fun i w h o => ⟨w, h, o⟩
  dom := fun a h o q => by
    by_cases z : ∃ ps, o = .tbl ps
    · exact z
    · exact h o (e a o q fun ps e => z ⟨ps, e⟩)
  nf := fun a o h => .inl h
/-- a step with no slots leaves the slots' things alone -/
theorem Stp.lift (S : Sim T F c σ H) (s : Stp T [] F [] H F' [] H') : Stp T σ F c H F' c H' where
  gr := s.gr
  sim := ⟨s.sim.sub, S.len, fun i w h => by
    obtain ⟨v, h1, h2⟩ := S.at_ i w h
    have nO : ∀ a, ¬ OwnA [] [] a := fun a ⟨i, w, q, _⟩ => by simp at q
    refine ⟨v, h1, h2.keep s.gr (fun a o e' => ?_) fun a o ow e' q => ?_⟩
    · obtain ⟨b, e2, f, x, hx, ix⟩ := h2.own_at o
      rw [e'] at e2; cases e2
      cases z : F' a with
      | none => rfl
      | some y =>
        rcases s.nf a y z with z | z | z
        · rw [f] at z; cases z
        · exact (z.no hx ix).elim
        · exact absurd z (nO a)
    · obtain ⟨b, e2, f, x, hx, ix⟩ := h2.own_at ow
      rw [e'] at e2; cases e2
      rw [hx] at q; cases q
      exact s.fr a _ hx (fun ps z => by rw [z] at ix; cases ix) (nO a), S.inj, s.sim.ft, s.sim.tb⟩
  fr := fun a o h p _ => s.fr a o h p fun ⟨i, w, q, _⟩ => by simp at q
  os := fun i w h o => ⟨w, h, o⟩
  dom := s.dom
  nf := fun a o h => by
    rcases s.nf a o h with z | z | ⟨i, w, q, _⟩
    · exact .inl z
    · exact .inr (.inl z)
    · simp at q
theorem simple_own {w : W} (h : simpleW w = true) : w.own = false := by
  cases w with
  | d x => rfl
  | _ => cases h
end
section
variable {Γ : Gt} {T : Tb} {P : Pg} {nc k : Nat} {Wx : WX} {N : List Str} {sc : Scope} {X : Cx}
theorem lamR_ok {cl : Calls} {g : Nat} {x : D} {c c' : Sg} {w : W} (h : lamR cl g x c = .ok w c') : c' = c ∧ simpleW w = true ∧ ∃ os, cl g [.d x] = .ok w os := by
  unfold lamR at h
  split at h
  · rename_i w' os e
    split at h
    · rename_i hs
      cases h
      exact ⟨rfl, hs, os, e⟩
    · cases h
  · cases h
theorem lamR_exc {cl : Calls} {g : Nat} {x : D} {c c' : Sg} {n : Nat} {ds : List D} : lamR cl g x c ≠ .exc n ds c' := fun h => by
  unfold lamR at h
  split at h
  · split at h <;> cases h
  · cases h
/-- the reading of g(lambda: e) gives the kit's -/
theorem lamc_imp {g : Nat} {e : Ex} {σ : L2.St} {H : Hp} {Q : VK} (q : tE T Wx (evX P nc k (.lamc g e)) σ H Q) : LamX.tLam T.tl (TTof T P nc k g) (fun E => tE T (fun cls d _ H => E cls d H) (evX P nc k e)) σ H Q := by
  obtain ⟨F, c, S, q⟩ := q
  refine ⟨S.tb.1, fun H1 eN T1 => ⟨F, c, (S.extN eN T1).sim, ?_⟩⟩
  have st0 := S.extN eN T1
  simp only [evX, ev] at q ⊢
  have fin : ∀ {x : D} {c1 : Sg} {F1 H2 : Hp}, Stp T σ F c H1 F1 c1 H2 → PostP T Wx σ F c H (lamR (callN P nc k) g x c1) (fun w F' _ H' => ∀ v, RW T F' H H' w v → Q v H') → GR T P nc k g x F1 H2 Q := fun {x c1 F1 H2} st q => by
    cases hl : lamR (callN P nc k) g x c1 with
    | bad => rw [hl] at q; exact q.elim
    | exc n ds c2 => exact absurd hl lamR_exc
    | ok w c2 =>
      obtain ⟨rfl, hs, os, hc⟩ := lamR_ok hl
      rw [hl] at q
      refine ⟨w, os, hc, hs, fun F2 v H3 st2 r => ?_⟩
      exact q F2 H3 ((st0.trans st).trans (Stp.lift st.sim st2)) v ⟨r, fun o => by rw [simple_own hs] at o; cases o⟩
  cases hr : ev nc (callN P nc k) e c with
  | bad => rw [hr] at q; exact q.elim
  | ok w c1 =>
    rw [hr] at q
    exact fun F1 H2 st v r => ⟨F1, st.sim.bare, fin st q⟩
  | exc n ds c1 =>
    rw [hr] at q
    exact fun F1 cls d H2 st xr => ⟨F1, n, ds, st.sim.bare, xr, fin st q⟩
/-- the lambda's own context -/
theorem Gd.lam (G : Gd Γ T P nc k Wx N sc X) (cm : Γ.cm = true) {A : Around} {outer : List Env} {s : Shared} {H : Hp} {E : XK} {scope : Scope} {f c' : Addr} (hk : scope.kind = .function) (hr : Room (5 * k + 2) (A.deeper (LamX.lamEnv X scope s.heap.objs.size f c'))) :
    Gd { Γ with lm := [], gd := false } T P nc k (fun cls d _ H => E cls d H) N scope (LamX.lamCx X A outer s H E scope f c') where
  kT := G.kT
  hN := G.hN
  nd := G.nd
  hs := rfl
  calm := fun _ => rfl
  un := by
    have h1 : (A.deeper (LamX.lamEnv X scope s.heap.objs.size f c')).units + 16 * (5 * k + 2) + 200 < cLine := hr.un
    show (A.deeper (LamX.lamEnv X scope s.heap.objs.size f c')).units + 66 < cLine
    omega
  room := fun _ => hr
  blt := G.blt
  con := G.con
  cls := G.cls
  fns := G.fns
  gd := fun h => nomatch h
  fng := G.fng
  tk := takes_of rfl rfl rfl rfl
  cok := G.cok
  cfn := G.cfn
  cfe := G.cfe
  eic := G.eic
  lms := fun x g h => nomatch h
  ies := fun i y n c bs b h => by
    have h : Γ.ei = some (y, n) := h
    rw [G.eic cm] at h; cases h
  xcs := G.xcs
  kind := hk
theorem ae_lamc (G : Gd Γ T P nc k Wx N sc X) (cm : Γ.cm = true) {g : Nat} {x : Str} {e : Ex} {params : Arguments} {body : Expr} {scope : Scope} {p lpos pos : Pos} (hl : Γ.lm.lookup x = some g) (hg : glB sc x = true) (hS : LamX.lamSB sc scope = true)
    (hdef : defaultsOf params X.env = ([], [])) (hbind : ∀ (q : Str) (cl : List (Str × Addr)) (pm cv ctv : Value), bindArgs (PySem.W.kla_fn "<lambda>" q params body scope cl pm cv ctv) ⟨[], []⟩ = pure [])
    (hb : ∀ {W : WX} {Y : Cx}, Gd { Γ with lm := [], gd := false } T P nc k W N scope Y → AE T P nc k W Y e body) : AE T P nc k Wx X (.lamc g e) (.Call (.Name x p) [.Lambda params body scope lpos] [] pos) := by
  obtain ⟨g1, g2⟩ := gl_of G hg
  obtain ⟨rm, pg, bg, sg, dV, kV, doc, pm, cdv, ct, oc, an, od, osl, Ng, a, c, Pt, hm, hk, lk, hcg, hbn, Sg, hN0, hva, hG, TB', hcode, hmT, hu, d1, d2⟩ := G.lms x g hl
  have L : LamX.LamS X.env.scope scope := by rw [G.hs]; exact LamX.lamS_by hS
  exact (LamX.pe_lamcall (k := 5 * k + 2) (t := fun E => tE T (fun cls d _ H => E cls d H) (evX P nc k e)) g1 hm hk lk hcg hbn Sg hN0 hva (hG X rfl rfl rfl rfl rfl rfl) TB' hcode hmT hu rm L hdef hbind
    (fun A outer s H E f c' hr => hb (Gd.lam G cm L.kind hr)) g2 d1 d2).impC fun σ H Q q => lamc_imp q
end
end Cl

/-! Cl, part Mb: repr(e). -/
namespace Cl
open PySem PySem.Spec PyProof.Rows L2

theorem pow_le : 10 ^ 60 ≤ 2 ^ 1920 := Nat.le_trans (by decide : 10 ^ 60 ≤ 2 ^ 200) (Nat.pow_le_pow_right (by decide) (by decide))
mutual
theorem nar_short (B : Nat) (hB : 61 ≤ B) : ∀ (n : Nat) (d : D), D.okN n d = true → d.nar = true → PyData.leavesShort B d.py = true ∧ PyData.showable d.py = true ∧ PyData.hasDict d.py = false
  | n, .non, _, _ => ⟨rfl, rfl, rfl⟩
  | n, .bl b, _, _ => ⟨rfl, rfl, rfl⟩
  | n, .int i, _, h => by
    have h' : i.natAbs < 10 ^ 60 := by simpa [D.nar] using h
    have l1 := int_text_length_le10 (a := i) (k := 60) (by omega) h'
    refine ⟨?_, ?_, rfl⟩
    · show decide ((PyData.shown (.int i)).length ≤ B) = true
      have : (PyData.shown (.int i)).length = (toString i).length := by
        exact PySem.ofString_length _
      rw [this]
      exact decide_eq_true (by omega)
    · show decide (i.natAbs.log2 < 1920) = true
      refine decide_eq_true ?_
      by_cases z : i.natAbs = 0
      · rw [z]; decide
      · rw [Nat.log2_lt z]
        exact Nat.lt_of_lt_of_le h' pow_le
  | n, .str x, o, _ => by
    refine ⟨?_, rfl, rfl⟩
    show (x.cps.toList.all fun c => decide (c < 16 ^ 8)) = true
    have o' : x.cps.all (· < 0x110000) = true := by simpa [D.okN, PyData.strOk] using o
    rw [List.all_eq_true]
    intro c hc
    have := Array.all_eq_true_iff_forall_mem.mp o' c (by simpa using hc)
    exact decide_eq_true (by have := of_decide_eq_true this; omega)
  | 0, .tup ds, o, _ => by simp [D.okN] at o
  | n + 1, .tup ds, o, h => by
    obtain ⟨h1, h2, h3⟩ := nars_short B hB n ds (by simpa [D.okN] using o) (by simpa [D.nar] using h)
    exact ⟨by simpa [D.py, PyData.leavesShort] using h1, by simpa [D.py, PyData.showable] using h2, by simpa [D.py, PyData.hasDict] using h3⟩
  | 0, .lst ds, o, _ => by simp [D.okN] at o
  | n + 1, .lst ds, o, h => by
    obtain ⟨h1, h2, h3⟩ := nars_short B hB n ds (by simpa [D.okN] using o) (by simpa [D.nar] using h)
    exact ⟨by simpa [D.py, PyData.leavesShort] using h1, by simpa [D.py, PyData.showable] using h2, by simpa [D.py, PyData.hasDict] using h3⟩
  | n, .dk _, o, _ => by simp [D.okN] at o
  | n, .dt _, o, _ => by simp [D.okN] at o
  | n, .obj _ _, o, _ => by simp [D.okN] at o
  | n, .fn _, o, _ => by simp [D.okN] at o
  | n, .scr _, o, _ => by simp [D.okN] at o
theorem nars_short (B : Nat) (hB : 61 ≤ B) : ∀ (n : Nat) (ds : List D), D.okNs n ds = true → D.nars ds = true → PyData.leavesShortAll B (D.pys ds) = true ∧ PyData.showableAll (D.pys ds) = true ∧ PyData.hasDictAll (D.pys ds) = false
  | _, [], _, _ => ⟨rfl, rfl, rfl⟩
  | n, d :: ds, o, h => by
    have o' : D.okN n d = true ∧ D.okNs n ds = true := by simpa [D.okNs] using o
    have h' : D.nar d = true ∧ D.nars ds = true := by simpa [D.nars] using h
    obtain ⟨a1, a2, a3⟩ := nar_short B hB n d o'.1 h'.1
    obtain ⟨b1, b2, b3⟩ := nars_short B hB n ds o'.2 h'.2
    exact ⟨by simp [D.pys, PyData.leavesShortAll, a1, b1], by simp [D.pys, PyData.showableAll, a2, b2], by simp [D.pys, PyData.hasDictAll, a3, b3]⟩
end
mutual
theorem blk_py : ∀ d : D, (PyData.bulk d.py) ≤ d.blk
  | .non => Nat.le_refl _
  | .bl _ => Nat.le_refl _
  | .int _ => Nat.le_refl _
  | .str x => Nat.le_refl _
  | .tup xs => by simpa [D.py, PyData.bulk, D.blk] using blks_py xs
  | .lst xs => by simpa [D.py, PyData.bulk, D.blk] using blks_py xs
  | .dk _ => Nat.le_refl _
  | .dt _ => Nat.le_refl _
  | .obj _ _ => Nat.le_refl _
  | .fn _ => Nat.le_refl _
  | .scr _ => Nat.le_refl _
theorem blks_py : ∀ ds : List D, (PyData.bulkAll (D.pys ds)) ≤ D.blks ds
  | [] => Nat.le_refl _
  | d :: ds => by
    have h1 := blk_py d
    have h2 := blks_py ds
    simp only [D.pys, PyData.bulkAll, D.blks]
    omega
end
def rRepr (K : PySem.W.Frag) : List V → Hp → VK → Prop := fun xs H Q => ∃ v d, xs = [v] ∧ Dp K H v d ∧ d.showable = true ∧ d.hasDict = false ∧ d.depth ≤ 60 ∧ d.shown.length ≤ sizeLine ∧ Q (.str d.shown) H
theorem cr_repr {X : Cx} (hg : X.A.guards = some []) (hu : X.A.units + 62 < cLine) : CallR X (.builtin "repr") (rRepr X.K) := by
  intro pins s σ H vs us Q I r h
  obtain ⟨v, d, rfl, hd, hs, hn, hdp, hz, q⟩ := h
  obtain ⟨u, rfl, ru⟩ := vals1 r
  cases hd with
  | non => cases ru; exact PySem.P.repr_of_none ⟨.str _, H, I.tok _, ⟨_, rfl⟩, q⟩
  | bl b => cases ru; exact PySem.P.repr_of_bool ⟨.str _, H, I.tok _, ⟨_, rfl⟩, q⟩
  | int i =>
    obtain ⟨t, rfl⟩ := ru
    exact PySem.P.repr_of_int (by simpa [PyData.showable] using hs) ⟨.str _, H, I.tok _, ⟨_, rfl⟩, q⟩
  | str x =>
    obtain ⟨t, rfl⟩ := ru
    exact PySem.P.repr_of_str ⟨.str _, H, I.tok _, ⟨_, rfl⟩, q⟩ hz
  | lst h1 h2 =>
    obtain ⟨as, rd⟩ := Dp.reads I _ _ _ (Dp.lst h1 h2) ru
    cases ru
    exact repr_of_reads' rd hs (PyData.noDict_hsm hn) hg (by omega) (fun _ _ e => e) (fun h' u tk hk => ⟨.str _, H, I.kept (t' := tk) hk, ⟨_, rfl⟩, q⟩) hz
  | tup h1 h2 =>
    obtain ⟨as, rd⟩ := Dp.reads I _ _ _ (Dp.tup h1 h2) ru
    cases ru
    exact repr_of_reads' rd hs (PyData.noDict_hsm hn) hg (by omega) (fun _ _ e => e) (fun h' u tk hk => ⟨.str _, H, I.kept (t' := tk) hk, ⟨_, rfl⟩, q⟩) hz
section
variable {Γ : Gt} {T : Tb} {P : Pg} {nc k : Nat} {Wx : WX} {N : List Str} {sc : Scope} {X : Cx}
theorem ae_rpr (G : Gd Γ T P nc k Wx N sc X) {a : Ex} {e : Expr} {p p2 : Pos} (hgd : Γ.gd = true) (hg : glB sc "repr" = true) (hn : noStar e = true) (ha : AO T P nc k Wx X a e) : AE T P nc k Wx X (.rpr a) (.Call (.Name "repr" p2) [e] [] p) := by
  obtain ⟨g1, g2⟩ := gl_of G hg
  have main := pe_callB (p := p2) (pos := p) (cr_repr (X := X) (G.gd hgd) (by have := G.un; omega)) g1 (G.blt _ (by decide +kernel)) (by decide +kernel) (pa_cons ha pa_nil (star_each hn [] _)) (by decide +kernel) g2 (star_each hn [] _) rfl
  refine main.impC fun σ H Q ⟨F, c, S, q⟩ => ⟨F, c, S, ?_⟩
  simp only [evX, ev] at q
  refine q.bind.mono fun x F1 c1 H1 _ st1 q1 v1 r1 => ?_
  obtain ⟨w, e, q3⟩ := q1.ofO
  obtain ⟨d, ed, e⟩ := Option.bind_eq_some_iff.mp e
  obtain ⟨t, et, rfl⟩ := Option.map_eq_some_iff.mp e
  unfold rprD at et
  split at et
  · rename_i hc
    cases et
    simp only [Bool.and_eq_true, decide_eq_true_eq] at hc
    obtain ⟨⟨o1, o2⟩, o3⟩ := hc
    obtain ⟨s1, s2, s3⟩ := nar_short 61 (Nat.le_refl _) 60 d o1 o2
    have s4 := PyData.shown_le_bulk 61 (by omega) d.py s1
    have s5 := blk_py d
    have s6 := (okN_shape 60 d o1).2
    rw [G.kT]
    refine ⟨v1, d.py, rfl, (rd_ok st1.sim r1 ed).dp st1.sim o1, s2, s3, s6, ?_, (Kont.of st1 q3).same st1.sim (.str _)⟩
    rw [sizeLine_eq]
    omega
  · cases et
end
end Cl

/-! Cl, part N: what was looked at is sound: expressions. -/
namespace Cl
open PySem PySem.Spec PyProof.Rows L2
section
variable {Γ : Gt} {T : Tb} {P : Pg} {nc k : Nat} {Wx : WX} {N : List Str} {sc : Scope} {X : Cx}
theorem takesF {X : Cx} : Takes X W0 := fun u s' x => by
  obtain ⟨_, _, _, _, _, _, _, _, _, _, _, _, _, _, _, _, z⟩ := x
  exact z.elim
/-- a block of the context -/
theorem Gd.blk (G : Gd Γ T P nc k Wx N sc X) (cm : Γ.cm = true) {scope : Scope} (hk : scope.kind = .function) (s : Shared) (H : Hp) (C : Addr) (cl : List (Str × Addr)) (fp : List Addr) : Gd Γ T P nc k W0 N (relS scope sc) (X.blk s H scope (compEnvC scope cl C X.env) fp) where
  kT := G.kT
  hN := G.hN
  nd := G.nd
  hs := by
    have : (compEnvC scope cl C X.env).scope = relS scope X.env.scope := rfl
    rw [← G.hs]; exact this
  calm := G.calm
  un := G.un
  room := G.room
  blt := G.blt
  con := G.con
  cls := G.cls
  fns := G.fns
  gd := G.gd
  fng := G.fng
  tk := takesF
  cok := G.cok
  cfn := G.cfn
  cfe := G.cfe
  xcs := G.xcs
  eic := G.eic
  lms := G.lms
  ies := fun i y n c bs b h => by rw [G.eic cm] at h; cases h
  kind := hk
theorem ae_rev (G : Gd Γ T P nc k Wx N sc X) {a : Ex} {l : Expr} {j : Nat} {p1 p2 p3 p : Pos} (ha : AO T P nc k Wx X a l) : AE T P nc k Wx X (.rev a) (.Subscript l (.Slice none none (some (.UnaryOp .USub (.Constant (.int 1) j p1) p2)) p3) p) := by
  refine (pe_revA ha).impC fun σ H Q ⟨F, c, S, q⟩ => ⟨F, c, S, ?_⟩
  simp only [evX, ev] at q
  refine q.bind.mono fun x F1 c1 H1 _ st1 q1 v1 r1 => ?_
  obtain ⟨w, e, q3⟩ := q1.ofO
  obtain ⟨x', ex, e⟩ := Option.bind_eq_some_iff.mp e
  rw [G.kT]
  split at e
  · cases e
    obtain ⟨b, vs, rfl, h1, r⟩ := (rd_ok st1.sim r1 ex).lst st1.sim.sub
    exact ⟨b, vs, rfl, .inl ⟨.of h1, fun p hp => (Kont.of st1 q3).lst st1.sim r.reverse hp⟩⟩
  · cases e
    obtain ⟨b, vs, rfl, h1, r⟩ := (rd_ok st1.sim r1 ex).tup
    exact ⟨b, vs, rfl, .inr ⟨.of (st1.sim.sub _ _ h1), fun p hp => (Kont.of st1 q3).tup st1.sim r.reverse hp⟩⟩
  · cases e
theorem ae_dt1 (G : Gd Γ T P nc k Wx N sc X) {a b : Ex} {l r : Expr} {p : Pos} (ha : AE T P nc k Wx X a l) (hb : AE T P nc k Wx X b r) : AE T P nc k Wx X (.dt [a, b]) (.Dict [some l] [r] p) := by
  refine (pe_disp1T G.u1 ha hb).impC fun σ H Q ⟨F, c, S, q⟩ p hp => ?_
  have st0 := S.newH (o := .dT []) hp
  simp only [evX, ev, evDs] at q
  have q0 := (q.later st0).bind.bind
  refine ⟨F, c, st0.sim, q0.mono fun w1 F1 c1 H1 h1 st1 _ v1 r1 => ?_⟩
  obtain ⟨F2, st2, r2, g2⟩ := st1.freeze st0.sim r1
  have q1 := ((q.later st0).bind.bind' h1 st2).bind.bind
  refine ⟨F2, c1, st2.sim, q1.mono fun w2 F3 c3 H3 h3 st3 _ v3 r3 => ?_⟩
  obtain ⟨F4, st4, r4, g4⟩ := st3.freeze st2.sim r3
  have q2 := ((q.later st0).bind.bind' h1 st2).bind.bind' h3 st4
  have q3 := q2 F4 H3 (.refl st4.sim)
  simp only [R.bind_ok] at q3
  have q4 := q3 F4 H3 (.refl st4.sim)
  obtain ⟨w, e, _⟩ := q4.ofO
  obtain ⟨kvs, ek, rfl⟩ := Option.map_eq_some_iff.mp e
  have ek' := ek
  simp only [putAll] at ek
  split at ek
  · rename_i ks hks
    cases ek
    obtain ⟨b, rfl, hb⟩ := DT.tkey st4.sim (.inl (r2.grow st4.gr)) hks
    have n1 := Stp.keepN S hp st0 st2 (S.notF hp) upd_same
    have n2 := Stp.keepN S hp (st0.trans st2) st4 n1.1 n1.2
    refine ⟨b, ks, rfl, n2.2, hb, ?_⟩
    simp only [h1, h3, R.bind_ok, ek', Option.map_some, ofO_some] at q
    exact q F4 _ (Stp.updN S ((st0.trans st2).trans st4) hp n2.1 n2.2 rfl) (.ref p) ⟨⟨p, _, rfl, n2.1, upd_same, rfl, .cons r4 .nil⟩, fun _ a ea => by cases ea; exact .none hp⟩
  · cases ek
theorem ae_dk1 (G : Gd Γ T P nc k Wx N sc X) {a b : Ex} {l r : Expr} {p : Pos} (ha : AE T P nc k Wx X a l) (hb : AE T P nc k Wx X b r) : AE T P nc k Wx X (.dk [a, b]) (.Dict [some l] [r] p) := by
  refine (pe_disp (pps_cons ha hb pps_nil) rfl rfl (fun z => nomatch z) (by show 1 ≤ 15; decide)).impC fun σ H Q ⟨F, c, S, q⟩ p hp => ?_
  have st0 := S.newH (o := .dK []) hp
  simp only [evX, ev, evDs] at q
  have q0 := (q.later st0).bind.bind
  refine ⟨F, c, st0.sim, q0.mono fun w1 F1 c1 H1 h1 st1 _ v1 r1 => ?_⟩
  obtain ⟨F2, st2, r2, g2⟩ := st1.freeze st0.sim r1
  have q1 := ((q.later st0).bind.bind' h1 st2).bind.bind
  refine ⟨F2, c1, st2.sim, q1.mono fun w2 F3 c3 H3 h3 st3 _ v3 r3 => ?_⟩
  obtain ⟨F4, st4, r4, g4⟩ := st3.freeze st2.sim r3
  have q2 := ((q.later st0).bind.bind' h1 st2).bind.bind' h3 st4
  have q3 := q2 F4 H3 (.refl st4.sim)
  simp only [R.bind_ok] at q3
  have q4 := q3 F4 H3 (.refl st4.sim)
  obtain ⟨w, e, _⟩ := q4.ofO
  obtain ⟨kvs, ek, rfl⟩ := Option.map_eq_some_iff.mp e
  have ek' := ek
  simp only [putAll] at ek
  split at ek
  · rename_i kk hks
    cases ek
    have hv := key_v (r2.grow st4.gr) hks
    have n1 := Stp.keepN S hp st0 st2 (S.notF hp) upd_same
    have n2 := Stp.keepN S hp (st0.trans st2) st4 n1.1 n1.2
    refine ⟨n2.2, [(kk, v3)], by rw [hv]; rfl, by show 1 ≤ 15; decide, ?_⟩
    simp only [h1, h3, R.bind_ok, ek', Option.map_some, ofO_some] at q
    exact q F4 _ (Stp.updN S ((st0.trans st2).trans st4) hp n2.1 n2.2 rfl) (.ref p) ⟨⟨p, _, rfl, n2.1, upd_same, rfl, .cons r4 .nil⟩, fun _ a ea => by cases ea; exact .none hp⟩
  · cases ek
theorem own_names {N : List Str} : ∀ {own : List Nat} {on : List (Str × Nat)}, ownNames N own = some on → on.map (·.2) = own
  | [], on, h => by simp only [ownNames] at h; cases h; rfl
  | i :: r, on, h => by
    simp only [ownNames] at h
    split at h
    · rename_i x q _ hq
      cases h
      rw [List.map_cons, own_names hq]
    · cases h
/-- a clause's tests -/
abbrev CTs (T : Tb) (P : Pg) (nc k : Nat) (X : Cx) (d : Option Ex) (xs : List Expr) : Prop := PTs X xs (tC? T (evC nc (callN P nc k) d))
abbrev AIt (T : Tb) (P : Pg) (nc k : Nat) (Wx : WX) (X : Cx) (e : Ex) (tg x : Expr) : Prop := PI X tg x (tI T Wx (evX P nc k e))
theorem noSet_pure {x : Expr} (h : noSet x = true) (env : Env) (v : Value) : foldedSetIterable x env v = pure v := by
  cases x <;> first | rfl | cases h
section
variable {own : List Nat} {on : List (Str × Nat)} {t : Tg} {it e ek : Ex} {d : Option Ex} {tg iter elt kx vx : Expr} {ifs : List Expr} {scope : Scope} {p : Pos}
theorem lc_tg (G : Gd Γ T P nc k Wx N sc X) (cm : Γ.cm = true) (ht : tgB N scope [] t tg = true) (s : Shared) (H : Hp) (C : Addr) (cl : List (Str × Addr)) (fp : List Addr) : PG (X.blk s H scope (compEnvC scope cl C X.env) fp) tg (gOf T.K t) := by
  have keep : ∀ x kd, kd ≠ NameKind.free → scope.names.lookup x = some kd → (relS scope X.env.scope).names.lookup x = some kd := fun x kd hk h => lookup_relS_keep hk h
  refine pg_of (X := X.blk s H scope (compEnvC scope cl C X.env) fp) (sc := scope) (pr := []) G.kT (G.calm cm) G.hN G.nd (fun x => ⟨fun h => ?_, fun h => ?_⟩) (fun x h => ?_) t tg ht
  · exact keep x _ (by decide) h
  · exact keep x _ (by decide) h
  · show (scope.names.lookup x == some .cell) = true
    rw [h]; rfl
theorem ae_lc (G : Gd Γ T P nc k Wx N sc X) (cm : Γ.cm = true) (hi : AIt T P nc k Wx X it tg iter) (hn : noSet iter = true) (ho : ownNames N own = some on) (hb : blkC N sc scope on = true) (ht : tgB N scope [] t tg = true) (hw : tgOwn own t = true)
    (hd : ∀ Y, Gd Γ T P nc k W0 N (relS scope sc) Y → CTs T P nc k Y d ifs) (he : ∀ Y, Gd Γ T P nc k W0 N (relS scope sc) Y → AE T P nc k W0 Y e elt) : AE T P nc k Wx X (.lc own t it d e) (.ListComp elt [⟨tg, iter, ifs, 0⟩] scope p) := by
  have ok := blkOk_by hb
  have ok' : BlkOk X.N X.env.scope scope on := by rw [G.hN, G.hs]; exact ok
  refine (pe_lc (G.calm cm) G.nd' hi ok' (fun s H C cl fp => lc_tg G cm ht s H C cl fp) (fun s H C cl fp => hd _ (G.blk cm ok.kind s H C cl fp)) (fun s H C cl fp => he _ (G.blk cm ok.kind s H C cl fp)) (fun x => noSet_pure hn _ x)).impC fun σ H Q q => ?_
  rw [own_names ho]
  exact lc_imp hw q
theorem ae_dc (G : Gd Γ T P nc k Wx N sc X) (cm : Γ.cm = true) (hi : AIt T P nc k Wx X it tg iter) (hn : noSet iter = true) (ho : ownNames N own = some on) (hb : blkC N sc scope on = true) (ht : tgB N scope [] t tg = true) (hw : tgOwn own t = true)
    (hd : ∀ Y, Gd Γ T P nc k W0 N (relS scope sc) Y → CTs T P nc k Y d ifs) (hk : ∀ Y, Gd Γ T P nc k W0 N (relS scope sc) Y → AE T P nc k W0 Y ek kx) (he : ∀ Y, Gd Γ T P nc k W0 N (relS scope sc) Y → AE T P nc k W0 Y e vx) :
    AE T P nc k Wx X (.dc own t it d ek e) (.DictComp kx vx [⟨tg, iter, ifs, 0⟩] scope p) := by
  have ok := blkOk_by hb
  have ok' : BlkOk X.N X.env.scope scope on := by rw [G.hN, G.hs]; exact ok
  refine (pe_dc (G.calm cm) G.nd' hi ok' (fun s H C cl fp => lc_tg G cm ht s H C cl fp) (fun s H C cl fp => hd _ (G.blk cm ok.kind s H C cl fp)) (fun s H C cl fp => hk _ (G.blk cm ok.kind s H C cl fp)) (fun s H C cl fp => he _ (G.blk cm ok.kind s H C cl fp)) (fun x => noSet_pure hn _ x)).impC fun σ H Q q => ?_
  rw [own_names ho]
  exact dc_imp hw q
end
theorem chks_star : ∀ {es : List Ex} {xs : List Expr}, chks Γ N es sc xs = true → xs.all noStar = true ∧ es.length = xs.length
  | [], xs, h => by
    simp only [chks] at h
    split at h
    · exact ⟨rfl, rfl⟩
    · cases h
  | a :: as, xs, h => by
    simp only [chks] at h
    split at h
    · simp only [Bool.and_eq_true] at h
      obtain ⟨h1, h2⟩ := chks_star h.2
      exact ⟨by rw [List.all_cons, h.1.1, h1]; rfl, by simp [h2]⟩
    · cases h
theorem chkAs_star : ∀ {es : List Ex} {xs : List Expr}, chkAs Γ N es sc xs = true → xs.all noStar = true
  | [], xs, h => by
    simp only [chkAs] at h
    split at h
    · rfl
    · cases h
  | a :: as, xs, h => by
    simp only [chkAs] at h
    split at h
    · simp only [Bool.and_eq_true] at h
      rw [List.all_cons, h.1.1, chkAs_star h.2]; rfl
    · cases h
theorem rev_is {l h st : Option Expr} (r : isRev l h st = true) : l = none ∧ h = none ∧ ∃ j p1 p2, st = some (.UnaryOp .USub (.Constant (.int 1) j p1) p2) := by
  unfold isRev at r
  split at r
  · rw [of_decide_eq_true r]; exact ⟨rfl, rfl, _, _, _, rfl⟩
  · cases r
def isBo : Expr → Bool
  | .BoolOp _ _ _ => true
  | _ => false
/-- what a look in mode m gives -/
def Res (T : Tb) (P : Pg) (nc k : Nat) (Wx : WX) (X : Cx) (e : Ex) (m : Nat) (tg x : Expr) : Prop := match m with
  | 0 => AE T P nc k Wx X e x ∧ AO T P nc k Wx X e x
  | 1 => CT T P nc k Wx X e x ∧ BT T P nc k Wx X e x ∧ (isBo x = true → BW T P nc k Wx X e x)
  | _ => AIt T P nc k Wx X e tg x ∧ noSet x = true
theorem res_gen (G : Gd Γ T P nc k Wx N sc X) {e : Ex} {m : Nat} {tg x : Expr} {v : Bool} (h : gen m x v = true) (a : v = true → AE T P nc k Wx X e x) (hv : ∀ i, e = .var i → v = true → PE X x (tVar i)) : Res T P nc k Wx X e m tg x := by
  match m with
  | 0 => exact ⟨a h, ao_of (a h) fun i z => hv i z h⟩
  | 1 =>
    have h' : plainT x = true ∧ v = true := by simpa [gen] using h
    exact ⟨ct_plain G (ao_of (a h'.2) fun i z => hv i z h'.2) h'.1, bt_plain (a h'.2) h'.1, fun z => by
      cases x <;> first | (cases z; done) | (cases h'.1; done)⟩
  | m + 2 =>
    have h' : noSet x = true ∧ v = true := by simpa [gen] using h
    exact ⟨pi_seq G (a h'.2), h'.1⟩
theorem ao_not {e : Ex} {x : Expr} (h : AE T P nc k Wx X e x) (hn : ∀ i, e ≠ .var i) : AO T P nc k Wx X e x := ao_of h fun i z => absurd z (hn i)
theorem res_le (e : Ex) {m : Nat} {tg x : Expr} (h : m ≤ 1) (hn : ∀ i, e ≠ .var i) (hb : boolE e = true) (a : m = 0 → AE T P nc k Wx X e x) (b : m = 1 → BT T P nc k Wx X e x) (w : m = 1 → isBo x = true → BW T P nc k Wx X e x) : Res T P nc k Wx X e m tg x := by
  match m, h with
  | 0, _ => exact ⟨a rfl, ao_not (a rfl) hn⟩
  | 1, _ => exact ⟨ct_bool (b rfl) hb, b rfl, w rfl⟩
theorem res_bw (e : Ex) {m : Nat} {tg x : Expr} (h : m ≤ 1) (hn : ∀ i, e ≠ .var i) (hb : boolE e = true) (a : m = 0 → AE T P nc k Wx X e x) (b : m = 1 → BW T P nc k Wx X e x) : Res T P nc k Wx X e m tg x :=
  res_le e h hn hb a (fun z => (b z).pt) fun z _ => b z
/-- the rest of a chain of and, or -/
theorem bw_rest {a : Ex} {y z : Expr} {r : List Expr} {p : Pos} {op : BoolOp} (h : Res T P nc k Wx X a 1 y (.BoolOp op (y :: z :: r) p)) : BW T P nc k Wx X a (.BoolOp op (y :: z :: r) p) := h.2.2 rfl
/-- one behind another -/
abbrev APs (T : Tb) (P : Pg) (nc k : Nat) (Wx : WX) (X : Cx) (es : List Ex) (xs : List Expr) : Prop := Paired (fun e x => AE T P nc k Wx X e x ∧ AO T P nc k Wx X e x ∧ noStar x = true) es xs
theorem aps_ads : ∀ {es : List Ex} {xs : List Expr}, APs T P nc k Wx X es xs → ADs T P nc k Wx X es xs
  | _, _, .nil => ads_nil
  | _, _, .cons r t => ads_cons r.1 (aps_ads t) r.2.2
theorem aps_aos : ∀ {es : List Ex} {xs : List Expr}, APs T P nc k Wx X es xs → AOs T P nc k Wx X es xs
  | _, _, .nil => aos_nil
  | _, _, .cons r t => aos_cons r.2.1 (aps_aos t) r.2.2
theorem pi_rng (G : Gd Γ T P nc k Wx N sc X) {es : List Ex} {x : Expr} {xs : List Expr} {tg : Expr} {p p2 : Pos} (h : APs T P nc k Wx X es (x :: xs)) (hl : xs.length ≤ 1) (hg : glB sc "range" = true) : AIt T P nc k Wx X (.rng es) tg (.Call (.Name "range" p2) (x :: xs) [] p) := by
  cases h with
  | cons r t =>
    cases t with
    | nil => exact pi_rng1 G r.2.1 r.2.2 hg
    | cons r' t' =>
      cases t' with
      | nil => exact pi_rng2 G r.2.1 r'.2.1 r.2.2 r'.2.2 hg
      | cons _ _ => simp at hl
theorem rg_rel {F : Hp} (a b : Int) : DRs T F ((List.range (b - a).toNat).map fun (i : Nat) => D.int (a + i)) (rgV a b) := by
  unfold rgV
  generalize (b - a).toNat = n
  induction n with
  | zero => exact .nil
  | succ n ih =>
    rw [List.range_succ, List.map_append, List.map_append]
    exact ih.append (.cons (.int _) .nil)
/-- what follows a range's bounds -/
theorem rg_fin {F H : Hp} {c : Sg} {σ : L2.St} {Q : VK} {tp : Bool} {a b : Int} (S : Sim T F c σ H) (k : Kont T σ F c H Q (if tp then W.d (.tup ((List.range (b - a).toNat).map fun (i : Nat) => D.int (a + i))) else W.fl ((List.range (b - a).toNat).map fun (i : Nat) => D.int (a + i)))) :
    ∀ q, H q = none → Q (.ref q) (upd H q (if tp then .tup (rgV a b) else .lst (rgV a b))) := fun q hq => by
  cases tp with
  | true => exact Kont.tup k S (rg_rel a b) hq
  | false => exact Kont.lst k S (rg_rel a b) hq
theorem pe_lrg {te : L2.St → Hp → (Int → Int → Hp → Prop) → Prop} (G : Gd Γ T P nc k Wx N sc X) (cm : Γ.cm = true) {tp : Bool} {f : Str} {e : Expr} {p p4 : Pos} (hn : noStar e = true) (hf : f = if tp then "tuple" else "list") (hg : glB sc f = true) (he : PRg X e te) :
    PE X (.Call (.Name f p) [e] [] p4) (fun σ H Q => te σ H fun a b H1 => RgOk a b ∧ ∀ q, H1 q = none → Q (.ref q) (upd H1 q (if tp then .tup (rgV a b) else .lst (rgV a b)))) := by
  obtain ⟨g1, g2⟩ := gl_of G hg
  cases tp with
  | true =>
    cases hf
    exact pe_tupRg (G.calm cm) g1 (G.blt _ (by decide +kernel)) he (star_each hn [] _)
  | false =>
    cases hf
    exact pe_listRg (G.calm cm) g1 (G.blt _ (by decide +kernel)) he (star_each hn [] _)
theorem ae_lrg (G : Gd Γ T P nc k Wx N sc X) (cm : Γ.cm = true) {tp : Bool} {es : List Ex} {f : Str} {x : Expr} {xs : List Expr} {p p2 p3 p4 : Pos} (h : APs T P nc k Wx X es (x :: xs)) (hl : xs.length ≤ 1) (hf : f = if tp then "tuple" else "list") (hg : glB sc f = true) (hr : glB sc "range" = true) :
    AE T P nc k Wx X (.lrg tp es) (.Call (.Name f p) [.Call (.Name "range" p2) (x :: xs) [] p3] [] p4) := by
  obtain ⟨r1, r2⟩ := gl_of G hr
  have mr : X.mg "range" = none := G.blt _ (by decide +kernel)
  cases h with
  | @cons a _ es' _ r t =>
    cases t with
    | nil =>
      refine (pe_lrg G cm rfl hf hg (prg_1 (pos := p3) (p := p2) r1 mr r.2.1 (star_each r.2.2 [] _))).impC fun σ H Q ⟨F, c, S, q⟩ => ⟨F, c, S, ?_⟩
      simp only [evX, ev, evOs] at q
      refine q.bind.bind.mono fun y F1 c1 H1 he st1 q1 v1 r1 => ?_
      have q2 := q1 F1 H1 (.refl st1.sim)
      obtain ⟨w, e, q3⟩ := q2.ofO
      obtain ⟨ds, ed, e⟩ := Option.bind_eq_some_iff.mp e
      obtain ⟨ys, ey, rfl⟩ := Option.map_eq_some_iff.mp e
      have dt := rds_ok st1.sim (.cons r1 .nil) ed
      unfold rngD at ey
      split at ey
      · split at ey
        · rename_i j hj
          cases ey
          obtain ⟨v, ev, d⟩ := dt.one
          cases ev
          cases d.int
          refine ⟨j, rfl, ⟨by decide, by decide, hj.1, by omega, by rw [Int.sub_zero]; exact hj.2⟩, rg_fin st1.sim ?_⟩
          simp only [Int.sub_zero, Int.zero_add]
          exact .of st1 q3
        · cases ey
      · have := dt.length; simp at this
      · cases ey
    | cons r' t' =>
      cases t' with
      | nil =>
        refine (pe_lrg G cm rfl hf hg (prg_2 (pos := p3) (p := p2) r1 mr r.2.1 r'.2.1 (by rw [star_each r.2.2 [_] X.env, star_each r'.2.2 [] X.env]) (star_each r'.2.2 [] _) (star_any (by simp [r'.2.2])))).impC fun σ H Q ⟨F, c, S, q⟩ => ⟨F, c, S, ?_⟩
        simp only [evX, ev, evOs] at q
        refine q.bind.bind.mono fun y F1 c1 H1 he st1 q1 v1 r1 => ⟨F1, c1, st1.sim, q1.bind.bind.mono fun y2 F2 c2 H2 he2 st2 q2 v2 r2 => ?_⟩
        have q4 := q2 F2 H2 (.refl st2.sim)
        simp only [R.bind_ok] at q4
        have q5 := q4 F2 H2 (.refl st2.sim)
        obtain ⟨w, e, q3⟩ := q5.ofO
        obtain ⟨ds, ed, e⟩ := Option.bind_eq_some_iff.mp e
        obtain ⟨ys, ey, rfl⟩ := Option.map_eq_some_iff.mp e
        have dt := rds_ok st2.sim (.cons (r1.grow st2.gr) (.cons r2 .nil)) ed
        unfold rngD at ey
        split at ey
        · have := dt.length; simp at this
        · split at ey
          · rename_i i j hj
            cases ey
            obtain ⟨v, u, ev, d1, d2⟩ := dt.two
            cases ev
            cases d1.int
            cases d2.int
            exact ⟨i, j, rfl, rfl, ⟨hj.1, by omega, hj.2.2.1, by omega, hj.2.2.2.2⟩, rg_fin st2.sim (.of (st1.trans st2) q3)⟩
          · cases ey
        · cases ey
      | cons _ _ => simp at hl
theorem dk1_of (G : Gd Γ T P nc k Wx N sc X) {es : List Ex} {l r : Expr} {p : Pos} (h : APs T P nc k Wx X es [l, r]) : AE T P nc k Wx X (.dk es) (.Dict [some l] [r] p) := by
  match es, h with
  | [a, b], .cons q (.cons q' .nil) => exact ae_dk1 G q.1 q'.1
theorem dt1_of (G : Gd Γ T P nc k Wx N sc X) {es : List Ex} {l r : Expr} {p : Pos} (h : APs T P nc k Wx X es [l, r]) : AE T P nc k Wx X (.dt es) (.Dict [some l] [r] p) := by
  match es, h with
  | [a, b], .cons q (.cons q' .nil) => exact ae_dt1 G q.1 q'.1
theorem isIo_eq {e : Ex} {i : Nat} (h : isIo e = some i) : e = .io i := by
  cases e <;> simp [isIo] at h
  rw [h]
mutual
theorem chk_ok : ∀ (e : Ex) {Γ : Gt} {Wx : WX} {sc : Scope} {X : Cx} (m : Nat) (tg x : Expr), Gd Γ T P nc k Wx N sc X → chk Γ N e sc m tg x = true → Res T P nc k Wx X e m tg x
  | .var i, Γ, Wx, sc, X, m, tg, x, G, h => res_gen G h (fun h => ae_var G h) fun j z h => by cases z; exact var_ok G h
  | .io _, Γ, Wx, sc, X, m, tg, x, G, h => nomatch h
  | .con d, Γ, Wx, sc, X, m, tg, x, G, h => res_gen G h (fun h => ae_con G h) fun j z h => nomatch z
  | .bin o a b, Γ, Wx, sc, X, m, tg, x, G, h => res_gen G h (fun h => by
      split at h
      · simp only [Bool.and_eq_true, decide_eq_true_eq] at h
        obtain ⟨⟨rfl, h1⟩, h2⟩ := h
        exact ae_bin G (chk_ok a 0 _ _ G h1).2 (chk_ok b 0 _ _ G h2).2
      · cases h) fun j z h => nomatch z
  | .neg a, Γ, Wx, sc, X, m, tg, x, G, h => res_gen G h (fun h => by
      split at h
      · exact ae_neg (chk_ok a 0 _ _ G h).2
      · cases h) fun j z h => nomatch z
  | .not a, Γ, Wx, sc, X, m, tg, x, G, h => by
      simp only [chk, Bool.and_eq_true, decide_eq_true_eq] at h
      obtain ⟨hm, h⟩ := h
      split at h
      · exact res_le _ hm (fun i z => nomatch z) rfl (fun e => by subst e; exact ae_not G (chk_ok a 0 _ _ G h).2) (fun e => by subst e; exact bt_not (chk_ok a 1 _ _ G h).1) (fun _ z => nomatch z)
      · cases h
  | .and a b, Γ, Wx, sc, X, m, tg, x, G, h => by
      simp only [chk, Bool.and_eq_true, decide_eq_true_eq] at h
      obtain ⟨hm, h⟩ := h
      split at h
      · simp only [Bool.and_eq_true] at h
        obtain ⟨h1, h2⟩ := h
        split at h2
        · exact res_bw _ hm (fun i z => nomatch z) rfl (fun e => by subst e; exact ae_and (chk_ok a 0 _ _ G h1).1 (pe_one (chk_ok b 0 _ _ G h2).1))
            (fun e => by subst e; exact bw_and (chk_ok a 1 _ _ G h1).2.1 (bw_one (chk_ok b 1 _ _ G h2).2.1))
        · exact res_bw _ hm (fun i z => nomatch z) rfl (fun e => by subst e; exact ae_and (chk_ok a 0 _ _ G h1).1 (chk_ok b 0 _ _ G h2).1)
            (fun e => by subst e; exact bw_and (chk_ok a 1 _ _ G h1).2.1 (bw_rest (chk_ok b 1 _ _ G h2)))
      · cases h
  | .or a b, Γ, Wx, sc, X, m, tg, x, G, h => by
      simp only [chk, Bool.and_eq_true, decide_eq_true_eq] at h
      obtain ⟨hm, h⟩ := h
      split at h
      · simp only [Bool.and_eq_true] at h
        obtain ⟨h1, h2⟩ := h
        split at h2
        · exact res_bw _ hm (fun i z => nomatch z) rfl (fun e => by subst e; exact ae_or (chk_ok a 0 _ _ G h1).1 (pe_one (chk_ok b 0 _ _ G h2).1))
            (fun e => by subst e; exact bw_or (chk_ok a 1 _ _ G h1).2.1 (bw_one (chk_ok b 1 _ _ G h2).2.1))
        · exact res_bw _ hm (fun i z => nomatch z) rfl (fun e => by subst e; exact ae_or (chk_ok a 0 _ _ G h1).1 (chk_ok b 0 _ _ G h2).1)
            (fun e => by subst e; exact bw_or (chk_ok a 1 _ _ G h1).2.1 (bw_rest (chk_ok b 1 _ _ G h2)))
      · cases h
  | .cmp o a b, Γ, Wx, sc, X, m, tg, x, G, h => by
      simp only [chk, Bool.and_eq_true, decide_eq_true_eq] at h
      obtain ⟨hm, h⟩ := h
      split at h
      · simp only [Bool.and_eq_true, decide_eq_true_eq, Bool.not_eq_true'] at h
        obtain ⟨⟨⟨rfl, h0⟩, h1⟩, h2⟩ := h
        have ha := (chk_ok a 0 _ _ G h1).2
        have hb := (chk_ok b 0 _ _ G h2).2
        exact res_le _ hm (fun i z => nomatch z) rfl (fun _ => ae_cmp G ha hb h0) (fun _ => bt_cmp G ha hb h0) (fun _ z => nomatch z)
      · cases h
  | .chn o o' a b d, Γ, Wx, sc, X, m, tg, x, G, h => by
      simp only [chk, Bool.and_eq_true, decide_eq_true_eq] at h
      obtain ⟨hm, h⟩ := h
      split at h
      · simp only [Bool.and_eq_true, decide_eq_true_eq, Bool.not_eq_true'] at h
        obtain ⟨⟨⟨⟨⟨rfl, rfl⟩, h0⟩, h1⟩, h2⟩, h3⟩ := h
        have ha := (chk_ok a 0 _ _ G h1).2
        have hb := (chk_ok b 0 _ _ G h2).2
        have hd := (chk_ok d 0 _ _ G h3).2
        exact res_le _ hm (fun i z => nomatch z) rfl (fun _ => ae_chn G ha hb hd h0) (fun _ => bt_chn G ha hb hd h0) (fun _ z => nomatch z)
      · cases h
  | .ite d a b, Γ, Wx, sc, X, m, tg, x, G, h => res_gen G h (fun h => by
      split at h
      · simp only [Bool.and_eq_true] at h
        exact ae_ite (chk_ok d 1 _ _ G h.1.1).1 (chk_ok a 0 _ _ G h.1.2).1 (chk_ok b 0 _ _ G h.2).1
      · cases h) fun j z h => nomatch z
  | .call f as, Γ, Wx, sc, X, m, tg, x, G, h => res_gen G h (fun h => by
      split at h
      · simp only [Bool.and_eq_true, decide_eq_true_eq] at h
        obtain ⟨⟨h1, h2⟩, h3⟩ := h
        rw [Bool.or_eq_true, Bool.and_eq_true, decide_eq_true_eq, decide_eq_true_eq] at h2
        rcases h2 with h2 | ⟨h2, h4⟩
        · exact ae_call G (chkAs_ok as _ G h3) h1 h2 (chkAs_star h3)
        · exact ae_callG G (chkAs_ok as _ G h3) h1 h4 h2 (chkAs_star h3)
      · cases h) fun j z h => nomatch z
  | .blt b as, Γ, Wx, sc, X, m, tg, x, G, h => res_gen G h (fun h => by
      split at h
      · simp only [Bool.and_eq_true, decide_eq_true_eq] at h
        obtain ⟨⟨⟨cm, h1⟩, rfl⟩, h2⟩ := h
        exact ae_blt G (aps_aos (chks_ok as _ G h2)) h1 (chks_star h2).1 cm
      · cases h) fun j z h => nomatch z
  | .isi a tp ks, Γ, Wx, sc, X, m, tg, x, G, h => res_gen G h (fun h => by
      split at h
      · simp only [Bool.and_eq_true, decide_eq_true_eq] at h
        obtain ⟨⟨⟨⟨h1, rfl⟩, h2⟩, h3⟩, h4⟩ := h
        split at h4
        · exact ae_isi1 G (chk_ok a 0 _ _ G h2).2 h3 h1 h4
        · simp only [Bool.and_eq_true, decide_eq_true_eq] at h4
          exact ae_isi2 G (chk_ok a 0 _ _ G h2).2 h3 h1 h4.1 h4.2
        · cases h4
      · cases h) fun j z h => nomatch z
  | .mth mm a as, Γ, Wx, sc, X, m, tg, x, G, h => res_gen G h (fun h => by
      split at h
      · simp only [Bool.and_eq_true, decide_eq_true_eq] at h
        obtain ⟨⟨⟨⟨⟨h1, rfl⟩, h2⟩, h3⟩, h4⟩, h5⟩ := h
        exact ae_mth G h1 (chk_ok a 0 _ _ G h4).2 (aps_aos (chks_ok as _ G h5)) (chks_star h5).1 h2 (by rw [List.length_cons]; omega)
      · cases h) fun j z h => nomatch z
  | .mut mm i as, Γ, Wx, sc, X, m, tg, x, G, h => res_gen G h (fun h => by
      split at h
      · simp only [Bool.and_eq_true, decide_eq_true_eq] at h
        obtain ⟨⟨⟨h1, rfl⟩, h2⟩, h3⟩ := h
        split at h3
        · simp only [Bool.and_eq_true] at h3
          obtain ⟨h4, h5⟩ := h3
          split at h4
          · split at h5
            · exact ae_pop G h1 h2
            · cases h5
          · cases h4
        · simp only [Bool.and_eq_true, decide_eq_true_eq] at h3
          exact ae_mut G h1 (aps_ads (chks_ok as _ G h3.2)) (chks_star h3.2).1 h2 h3.1.2
      · cases h) fun j z h => nomatch z
  | .ix a b, Γ, Wx, sc, X, m, tg, x, G, h => res_gen G h (fun h => by
      split at h
      · simp only [Bool.and_eq_true] at h
        exact ae_ix G (chk_ok a 0 _ _ G h.1.2).2 (chk_ok b 0 _ _ G h.2).2 h.1.1
      · cases h) fun j z h => nomatch z
  | .sl a lo hi, Γ, Wx, sc, X, m, tg, x, G, h => res_gen G h (fun h => by
      split at h
      · simp only [Bool.and_eq_true] at h
        exact ae_sl G (chk_ok a 0 _ _ G h.1.1).2 (chkI_ok lo _ G h.1.2) (chkI_ok hi _ G h.2)
      · cases h) fun j z h => nomatch z
  | .rev a, Γ, Wx, sc, X, m, tg, x, G, h => res_gen G h (fun h => by
      split at h
      · simp only [Bool.and_eq_true] at h
        obtain ⟨rfl, rfl, j, p1, p2, rfl⟩ := rev_is h.1
        exact ae_rev G (chk_ok a 0 _ _ G h.2).2
      · cases h) fun j z h => nomatch z
  | .fld a ks, Γ, Wx, sc, X, m, tg, x, G, h => res_gen G h (fun h => by
      split at h
      · simp only [Bool.and_eq_true] at h
        exact ae_fld G (chk_ok a 0 _ _ G h.2).2 h.1.1 h.1.2
      · cases h) fun j z h => nomatch z
  | .tup as, Γ, Wx, sc, X, m, tg, x, G, h => res_gen G h (fun h => by
      split at h
      · simp only [Bool.and_eq_true, decide_eq_true_eq] at h
        exact ae_tup (aps_ads (chks_ok as _ G h.1)) (by rw [(chks_star h.1).2]; exact h.2)
      · cases h) fun j z h => nomatch z
  | .lst as, Γ, Wx, sc, X, m, tg, x, G, h => res_gen G h (fun h => by
      split at h
      · simp only [Bool.and_eq_true, decide_eq_true_eq] at h
        exact ae_lst (aps_ads (chks_ok as _ G h.1)) (by rw [(chks_star h.1).2]; exact h.2)
      · cases h) fun j z h => nomatch z
  | .rng as, Γ, Wx, sc, X, m, tg, x, G, h => by
      simp only [chk, Bool.and_eq_true, decide_eq_true_eq] at h
      obtain ⟨rfl, h⟩ := h
      split at h
      · simp only [Bool.and_eq_true, decide_eq_true_eq] at h
        obtain ⟨⟨⟨h1, rfl⟩, h2⟩, h3⟩ := h
        exact ⟨pi_rng G (chks_ok as _ G h3) h2 h1, rfl⟩
      · cases h
  | .lrg tp as, Γ, Wx, sc, X, m, tg, x, G, h => res_gen G h (fun h => by
      split at h
      · simp only [Bool.and_eq_true, decide_eq_true_eq] at h
        obtain ⟨⟨⟨⟨⟨⟨cm, h1⟩, h2⟩, h3⟩, rfl⟩, h4⟩, h5⟩ := h
        exact ae_lrg G cm (chks_ok as _ G h5) h4 h2 h1 h3
      · cases h) fun j z h => nomatch z
  | .enm a, Γ, Wx, sc, X, m, tg, x, G, h => by
      simp only [chk, Bool.and_eq_true, decide_eq_true_eq] at h
      obtain ⟨rfl, h⟩ := h
      split at h
      · simp only [Bool.and_eq_true, decide_eq_true_eq] at h
        obtain ⟨⟨⟨h1, rfl⟩, h2⟩, h3⟩ := h
        exact ⟨pi_enm G (chk_ok a 0 _ _ G h3).1 h2 h1, rfl⟩
      · cases h
  | .zip a b, Γ, Wx, sc, X, m, tg, x, G, h => by
      simp only [chk, Bool.and_eq_true, decide_eq_true_eq] at h
      obtain ⟨rfl, h⟩ := h
      split at h
      · simp only [Bool.and_eq_true, decide_eq_true_eq] at h
        obtain ⟨⟨⟨⟨⟨h1, rfl⟩, h2⟩, h3⟩, h4⟩, h5⟩ := h
        exact ⟨pi_zp G (chk_ok a 0 _ _ G h4).1 (chk_ok b 0 _ _ G h5).1 h2 h3 h1, rfl⟩
      · cases h
  | .lc own t it d e, Γ, Wx, sc, X, m, tg, x, G, h => res_gen G h (fun h => by
      split at h
      · simp only [Bool.and_eq_true] at h
        obtain ⟨⟨⟨⟨⟨⟨cm, h1⟩, h2⟩, h3⟩, h4⟩, h5⟩, h6⟩ := h
        split at h2
        · rename_i on hon
          exact ae_lc G cm (chk_ok it 2 _ _ G h1).1 (chk_ok it 2 _ _ G h1).2 hon h2 h3 h4 (fun Y G' => chkC_ok d _ G' h5) (fun Y G' => (chk_ok e 0 _ _ G' h6).1)
        · cases h2
      · cases h) fun j z h => nomatch z
  | .dc own t it d ek e, Γ, Wx, sc, X, m, tg, x, G, h => res_gen G h (fun h => by
      split at h
      · simp only [Bool.and_eq_true] at h
        obtain ⟨⟨⟨⟨⟨⟨⟨cm, h1⟩, h2⟩, h3⟩, h4⟩, h5⟩, h6⟩, h7⟩ := h
        split at h2
        · rename_i on hon
          exact ae_dc G cm (chk_ok it 2 _ _ G h1).1 (chk_ok it 2 _ _ G h1).2 hon h2 h3 h4 (fun Y G' => chkC_ok d _ G' h5) (fun Y G' => (chk_ok ek 0 _ _ G' h6).1) (fun Y G' => (chk_ok e 0 _ _ G' h7).1)
        · cases h2
      · cases h) fun j z h => nomatch z
  | .rpr a, Γ, Wx, sc, X, m, tg, x, G, h => res_gen G h (fun h => by
      split at h
      · simp only [Bool.and_eq_true, decide_eq_true_eq] at h
        obtain ⟨⟨⟨⟨h1, h2⟩, rfl⟩, h3⟩, h4⟩ := h
        exact ae_rpr G h1 h2 h3 (chk_ok a 0 _ _ G h4).2
      · cases h) fun j z h => nomatch z
  | .ise i b, Γ, Wx, sc, X, m, tg, x, G, h => res_gen G h (fun h => by
      split at h
      · simp only [Bool.and_eq_true, decide_eq_true_eq] at h
        obtain ⟨⟨h1, rfl⟩, h2⟩ := h
        split at h2
        · rename_i y' k hei
          simp only [Bool.and_eq_true, decide_eq_true_eq] at h2
          obtain ⟨⟨⟨⟨⟨⟨rfl, h0⟩, h3⟩, h6⟩, h7⟩, h4⟩, h5⟩ := h2
          split at h5
          · rename_i bs hbs
            simp only [decide_eq_true_eq] at h5
            exact G.ies _ _ _ _ _ _ hei hbs h5 h0 h3 (by simpa using h6) (by simpa using h7) h4 h1 _ _ _ _
          · cases h5
        · cases h2
      · cases h) fun j z h => nomatch z
  | .lamc g e, Γ, Wx, sc, X, m, tg, x, G, h => res_gen G h (fun h => by
      split at h
      · rename_i f p1 ps body scope p2 p3 _h0
        simp only [Bool.and_eq_true, decide_eq_true_eq] at h
        obtain ⟨⟨⟨⟨⟨cm, h1⟩, h2⟩, h3⟩, h4⟩, h5⟩ := h
        have hp : ps = ⟨[], [], none, [], [], none, []⟩ := by
          unfold noPar at h4
          split at h4
          · rfl
          · cases h4
        subst hp
        exact ae_lamc G cm h2 h1 h3 rfl (fun _ _ _ _ _ => rfl) (fun G' => (chk_ok e 0 _ _ G' h5).1)
      · cases h) fun j z h => nomatch z
  | .dk kvs, Γ, Wx, sc, X, m, tg, x, G, h => res_gen G h (fun h => by
      split at h
      · cases kvs with
        | nil => exact ae_dk0
        | cons _ _ => cases h
      · simp only [Bool.and_eq_true] at h
        exact dk1_of G (chks_ok kvs _ G h.2)
      · cases h) fun j z h => nomatch z
  | .dt kvs, Γ, Wx, sc, X, m, tg, x, G, h => res_gen G h (fun h => by
      split at h
      · cases kvs with
        | nil => exact ae_dt0
        | cons _ _ => cases h
      · simp only [Bool.and_eq_true] at h
        exact dt1_of G (chks_ok kvs _ G h.2)
      · cases h) fun j z h => nomatch z
theorem chks_ok : ∀ (es : List Ex) {Γ : Gt} {Wx : WX} {sc : Scope} {X : Cx} (xs : List Expr), Gd Γ T P nc k Wx N sc X → chks Γ N es sc xs = true → APs T P nc k Wx X es xs
  | [], Γ, Wx, sc, X, xs, G, h => by
      simp only [chks] at h
      split at h
      · exact .nil
      · cases h
  | a :: as, Γ, Wx, sc, X, xs, G, h => by
      simp only [chks] at h
      split at h
      · simp only [Bool.and_eq_true] at h
        exact .cons ⟨(chk_ok a 0 _ _ G h.1.2).1, (chk_ok a 0 _ _ G h.1.2).2, h.1.1⟩ (chks_ok as _ G h.2)
      · cases h
theorem chkAs_ok : ∀ (es : List Ex) {Γ : Gt} {Wx : WX} {sc : Scope} {X : Cx} (xs : List Expr), Gd Γ T P nc k Wx N sc X → chkAs Γ N es sc xs = true → AAs T P nc k Wx X es xs
  | [], Γ, Wx, sc, X, xs, G, h => by
      simp only [chkAs] at h
      split at h
      · exact aas_nil
      · cases h
  | a :: as, Γ, Wx, sc, X, xs, G, h => by
      simp only [chkAs] at h
      split at h
      · simp only [Bool.and_eq_true] at h
        obtain ⟨⟨h1, h2⟩, h3⟩ := h
        split at h2
        · rename_i i hi
          rw [isIo_eq hi]
          exact aas_io (var_ok G h2) (chkAs_ok as _ G h3) h1
        · rename_i hi
          exact aas_cons (chk_ok a 0 _ _ G h2).1 (chkAs_ok as _ G h3) h1 (fun i z => by subst z; cases hi)
      · cases h
theorem chkI_ok : ∀ (e : Option Ex) {Γ : Gt} {Wx : WX} {sc : Scope} {X : Cx} (x : Option Expr), Gd Γ T P nc k Wx N sc X → chkI Γ N e sc x = true → AI T P nc k Wx X e x
  | none, Γ, Wx, sc, X, x, G, h => by
      simp only [chkI] at h
      split at h
      · exact ai_none
      · cases h
  | some a, Γ, Wx, sc, X, x, G, h => by
      simp only [chkI] at h
      split at h
      · exact ai_some (chk_ok a 0 _ _ G h).2
      · cases h
theorem chkC_ok : ∀ (e : Option Ex) {Γ : Gt} {sc : Scope} {X : Cx} (x : List Expr), Gd Γ T P nc k W0 N sc X → chkC Γ N e sc x = true → CTs T P nc k X e x
  | none, Γ, sc, X, x, G, h => by
      simp only [chkC] at h
      split at h
      · exact pts_nil
      · cases h
  | some a, Γ, sc, X, x, G, h => by
      simp only [chkC] at h
      split at h
      · exact pts_one (chk_ok a 1 _ _ G h).1
      · cases h
end
end
end Cl

/-! Cl, part O: statements. -/
namespace Cl
open PySem PySem.Spec PyProof.Rows L2

/-- the entry of a def -/
structure Ent where
  F0 : Hp
  c0 : Sg
  σ0 : L2.St
  H0 : Hp
  pr : List Nat
/-- within the body of a def -/
structure Bd (T : Tb) (E : Ent) (F : Hp) (c : Sg) (σ : L2.St) (H : Hp) : Prop where
  gr : ∀ a o, E.F0 a = some o → F a = some o
  sim : Sim T F c σ H
  s0 : Sim T E.F0 E.c0 E.σ0 E.H0
  fr : ∀ a o, E.H0 a = some o → (∀ ps, o ≠ .tbl ps) → ¬ OwnA E.c0 E.σ0 a → H a = some o
  ow : ∀ (i : Nat) (w : W) (a : Addr), c[i]? = some (some w) → w.own = true → σ[i]? = some (some (.ref a)) → i ∈ E.pr ∨ NV E.H0 a
  pw : ∀ i ∈ E.pr, ∃ w : W, E.c0[i]? = some (some w) ∧ w.own = true
  dom : ∀ a, NV H a → NV E.H0 a
  nf : ∀ a o, F a = some o → E.F0 a = some o ∨ NV E.H0 a ∨ OwnA E.c0 E.σ0 a
  pin : ∀ i ∈ E.pr, σ[i]? = E.σ0[i]?
section
variable {T : Tb} {E : Ent} {F F' H H' : Hp} {c c' : Sg} {σ σ' : L2.St}
theorem Bd.oA (B : Bd T E F c σ H) {a : Addr} (h : OwnA c σ a) : OwnA E.c0 E.σ0 a ∨ NV E.H0 a := by
  obtain ⟨i, w, h1, h2, h3⟩ := h
  rcases B.ow i w a h1 h2 h3 with z | z
  · obtain ⟨w0, k1, k2⟩ := B.pw i z
    exact .inl ⟨i, w0, k1, k2, by rw [← B.pin i z]; exact h3⟩
  · exact .inr z
theorem Bd.stp (B : Bd T E F c σ H) (s : Stp T σ F c H F' c' H') : Bd T E F' c' σ H' where
  gr := fun a o h => s.gr a o (B.gr a o h)
  sim := s.sim
  s0 := B.s0
  fr := fun a o h p n => s.fr a o (B.fr a o h p n) p fun q => by
    rcases B.oA q with z | z
    · exact n z
    · obtain ⟨ps, e⟩ := z o h
      exact p ps e
  ow := fun i w a h o e => by
    obtain ⟨w0, k1, k2⟩ := s.os i w h o
    exact B.ow i w0 a k1 k2 e
  pw := B.pw
  dom := fun a h => B.dom a (s.dom a h)
  nf := fun a o h => by
    rcases s.nf a o h with z | z | z
    · exact B.nf a o z
    · exact .inr (.inl (B.dom a z))
    · rcases B.oA z with y | y
      · exact .inr (.inr y)
      · exact .inr (.inl y)
  pin := B.pin
/-- a slot takes a value -/
theorem Bd.set (B : Bd T E F c σ H) {i : Nat} {w : W} {v : V} (hi : i < c.length) (hp : i ∉ E.pr) (r : RS T F H w v) (hn : w.own = true → ∀ a, v = .ref a → NV E.H0 a ∧ ¬ OwnA c σ a) : Bd T E F (c.set i (some w)) (σ.set i (some v)) H := by
  have hσ : i < σ.length := by rw [← B.sim.len]; exact hi
  have key : ∀ (n : Nat) (x : W) (a : Addr), (c.set i (some w))[n]? = some (some x) → (σ.set i (some v))[n]? = some (some (.ref a)) → (n = i ∧ x = w ∧ v = .ref a) ∨ (n ≠ i ∧ c[n]? = some (some x) ∧ σ[n]? = some (some (.ref a))) := fun n x a h1 h2 => by
    by_cases e : i = n
    · subst e
      rw [List.getElem?_set_self hi] at h1
      rw [List.getElem?_set_self hσ] at h2
      cases h1; cases h2
      exact .inl ⟨rfl, rfl, rfl⟩
    · rw [List.getElem?_set_ne e] at h1 h2
      exact .inr ⟨Ne.symm e, h1, h2⟩
  refine ⟨B.gr, ⟨B.sim.sub, by rw [List.length_set, List.length_set]; exact B.sim.len, fun j x h => ?_, fun j l x y a h1 o1 h2 o2 h3 h4 => ?_, B.sim.ft, B.sim.tb⟩, B.s0, B.fr, fun j x a h o e => ?_, B.pw, B.dom, B.nf, fun j hj => ?_⟩
  · by_cases e : i = j
    · subst e
      rw [List.getElem?_set_self hi] at h
      cases h
      exact ⟨v, List.getElem?_set_self hσ, r⟩
    · rw [List.getElem?_set_ne e] at h ⊢
      exact B.sim.at_ j x h
  · rcases key j x a h1 h3 with ⟨e1, e2, e3⟩ | ⟨e1, e2, e3⟩
    · rcases key l y a h2 h4 with ⟨f1, f2, f3⟩ | ⟨f1, f2, f3⟩
      · rw [e1, f1]
      · subst e2
        exact absurd ⟨l, y, f2, o2, f3⟩ (hn o1 a e3).2
    · rcases key l y a h2 h4 with ⟨f1, f2, f3⟩ | ⟨f1, f2, f3⟩
      · subst f2
        exact absurd ⟨j, x, e2, o1, e3⟩ (hn o2 a f3).2
      · exact B.sim.inj j l x y a e2 o1 f2 o2 e3 f3
  · rcases key j x a h e with ⟨e1, e2, e3⟩ | ⟨e1, e2, e3⟩
    · subst e2
      exact .inr (hn o a e3).1
    · exact B.ow j x a e2 o e3
  · have e : i ≠ j := fun z => hp (z ▸ hj)
    rw [List.getElem?_set_ne e]
    exact B.pin j hj
/-- a slot is given up -/
theorem Bd.drop (B : Bd T E F c σ H) (i : Nat) : Bd T E F (c.set i none) σ H := by
  have key : ∀ (n : Nat) (x : W), (c.set i none)[n]? = some (some x) → c[n]? = some (some x) := fun n x h => by
    rw [get_set] at h
    split at h
    · cases h
    · exact h
  exact ⟨B.gr, ⟨B.sim.sub, by rw [List.length_set]; exact B.sim.len, fun j x h => B.sim.at_ j x (key j x h), fun j l x y a h1 o1 h2 o2 h3 h4 => B.sim.inj j l x y a (key j x h1) o1 (key l y h2) o2 h3 h4, B.sim.ft, B.sim.tb⟩, B.s0, B.fr, fun j x a h o e => B.ow j x a (key j x h) o e, B.pw, B.dom, B.nf, B.pin⟩
/-- targets -/
theorem Bd.asg (B : Bd T E F c σ H) {s : List Nat} (a : AsgR s c c' σ σ') (S : Sim T F c' σ' H) (hs : ∀ i ∈ s, i ∉ E.pr) : Bd T E F c' σ' H where
  gr := B.gr
  sim := S
  s0 := B.s0
  fr := B.fr
  ow := fun i w b h o e => by
    obtain ⟨k1, k2⟩ := a.own i w h o
    exact B.ow i w b k1 o (by rw [← k2]; exact e)
  pw := B.pw
  dom := B.dom
  nf := B.nf
  pin := fun i hi => by
    rw [(a.out i fun z => hs i z hi).2]
    exact B.pin i hi

/-! ### what is wanted behind a statement -/
def PostS (T : Tb) (Wx : WX) (E : Ent) (F : Hp) (o : Out) (D : Ends) : Prop := match o with
  | .nx c' => ∀ F' σ' H', (∀ a o, F a = some o → F' a = some o) → Bd T E F' c' σ' H' → D.nx σ' H'
  | .rt w c' => ∀ F' σ' H' v, (∀ a o, F a = some o → F' a = some o) → Bd T E F' c' σ' H' → RW T F' E.H0 H' w v → D.rt v H'
  | .exc k ds c' => ∀ F' σ' cls d H', (∀ a o, F a = some o → F' a = some o) → Bd T E F' c' σ' H' → XR T F' H' k ds cls d → Wx cls d σ' H'
  | .bad => False
variable {Wx : WX} {D : Ends}
theorem PostS.later {o : Out} (h : PostS T Wx E F o D) (g : ∀ a o, F a = some o → F' a = some o) : PostS T Wx E F' o D := by
  cases o with
  | nx c' => exact fun F2 σ' H' g2 => h F2 σ' H' fun a o z => g2 a o (g a o z)
  | rt w c' => exact fun F2 σ' H' v g2 => h F2 σ' H' v fun a o z => g2 a o (g a o z)
  | exc k ds c' => exact fun F2 σ' cls d H' g2 => h F2 σ' cls d H' fun a o z => g2 a o (g a o z)
  | bad => exact h
/-- an expression ahead -/
theorem PostS.ofR {α : Type} {r : R Sg α} {f : α → Sg → Out} (h : PostS T Wx E F (.ofR r f) D) (B : Bd T E F c σ H) : PostP T Wx σ F c H r fun a F' c' H' => PostS T Wx E F' (f a c') D ∧ Bd T E F' c' σ H' := by
  cases r with
  | ok a c1 => exact fun F1 H1 s => ⟨h.later s.gr, B.stp s⟩
  | exc k ds c1 => exact fun F1 cls d H1 s x => h F1 σ cls d H1 s.gr (B.stp s) x
  | bad => exact h
theorem PostS.seq {o : Out} {f : Sg → Out} {D : Ends} (h : PostS T Wx E F (o.seq f) D) : PostS T Wx E F o { D with nx := fun σ' H' => ∃ F' c', (∀ a o, F a = some o → F' a = some o) ∧ Bd T E F' c' σ' H' ∧ PostS T Wx E F' (f c') D } := by
  cases o with
  | nx c' => exact fun F' σ' H' g B => ⟨F', c', g, B, h.later g⟩
  | rt w c' => exact h
  | exc k ds c' => exact h
  | bad => exact h
/-- a statement's reading -/
def tS (T : Tb) (Wx : WX) (pr : List Nat) (f : Sg → Out) : TS := fun D σ H => ∃ E F c, E.pr = pr ∧ Bd T E F c σ H ∧ PostS T Wx E F (f c) D
end

section
variable {Γ : Gt} {T : Tb} {P : Pg} {nc k : Nat} {Wx : WX} {N : List Str} {sc : Scope} {X : Cx} {pr : List Nat}
abbrev runX (P : Pg) (nc k : Nat) : St → Sg → Out := run nc (callN P nc k)
abbrev runsX (P : Pg) (nc k : Nat) : List St → Sg → Out := runs nc (callN P nc k)
abbrev SOk (T : Tb) (P : Pg) (nc k : Nat) (Wx : WX) (pr : List Nat) (X : Cx) (s : St) (x : Stmt) : Prop := PS X x (tS T Wx pr (runX P nc k s))
abbrev SsOk (T : Tb) (P : Pg) (nc k : Nat) (Wx : WX) (pr : List Nat) (X : Cx) (s : List St) (x : List Stmt) : Prop := PSs X x (tS T Wx pr (runsX P nc k s))

theorem ss_nil : SsOk T P nc k Wx pr X [] [] := pss_nil.impC fun D σ H ⟨E, F, c, _, B, q⟩ => q F σ H (fun _ _ h => h) B
theorem ss_cons {s : St} {ss : List St} {x : Stmt} {xs : List Stmt} (h : SOk T P nc k Wx pr X s x) (hs : SsOk T P nc k Wx pr X ss xs) : SsOk T P nc k Wx pr X (s :: ss) (x :: xs) := by
  refine (pss_cons h hs).impC fun D σ H ⟨E, F, c, e, B, q⟩ => ?_
  simp only [runsX, runs] at q
  have q' := q.seq
  refine ⟨E, F, c, e, B, ?_⟩
  revert q'
  show PostS T Wx E F (runX P nc k s c) _ → PostS T Wx E F (runX P nc k s c) _
  cases runX P nc k s c with
  | nx c' =>
    intro q' F' σ' H' g B'
    obtain ⟨F2, c2, g2, B2, q2⟩ := q' F' σ' H' g B'
    exact ⟨E, F2, c2, e, B2, q2⟩
  | rt w c' => exact fun q' => q'
  | exc _ _ _ => exact fun q' => q'
  | bad => exact fun q' => q'
theorem s_pas {p : Pos} : SOk T P nc k Wx pr X .pas (.Pass p) := ps_pass.impC fun D σ H ⟨E, F, c, _, B, q⟩ => q F σ H (fun _ _ h => h) B
theorem s_nev {x : Stmt} : SOk T P nc k Wx pr X .nev x := ps_never.impC fun D σ H ⟨E, F, c, _, B, q⟩ => q
def noComp : Expr → Bool
  | .ListComp _ _ _ _ => false
  | .SetComp _ _ _ _ => false
  | .DictComp _ _ _ _ _ => false
  | _ => true
theorem sw_no {e : Expr} (h : noComp e = true) (t : Option Expr) (l : Nat) (env : Env) : swapsWith e t l env = pure false := by
  cases e <;> first | rfl | cases h
theorem s_expr {e : Ex} {x : Expr} {p : Pos} (h : AE T P nc k Wx X e x) (hn : noComp x = true) : SOk T P nc k Wx pr X (.expr e) (.Expr x p) := by
  refine (ps_expr h (sw_no hn _ _ _)).impC fun D σ H ⟨E, F, c, _, B, q⟩ => ⟨F, c, B.sim, ?_⟩
  simp only [runX, run] at q
  refine (q.ofR B).mono fun w F1 c1 H1 _ st ⟨q1, B1⟩ v r => ?_
  exact q1 F1 σ H1 (fun _ _ h => h) B1
/-- a new value into a slot -/
theorem set_post {E : Ent} {D : Ends} {F F0 H H0 : Hp} {c c0 : Sg} {σ : L2.St} {i : Nat} {w : W} {v : V} (B0 : Bd T E F0 c0 σ H0) (st : Stp T σ F0 c0 H0 F c H) (hp : i ∉ E.pr) (r : RW T F H0 H w v) (q : PostS T Wx E F (setS c i w) D) : D.nx (σ.set i (some v)) H := by
  unfold setS at q
  split at q
  · rename_i hi
    refine q F _ H (fun _ _ h => h) ((B0.stp st).set hi hp r.1 fun o a e => ⟨B0.dom a (r.2 o a e), fun z => ?_⟩)
    obtain ⟨_, o', h', io⟩ := B0.sim.own_at (st.osA z)
    exact (r.2 o a e).no h' io
  · exact q.elim
theorem s_set (G : Gd Γ T P nc k Wx N sc X) {i : Nat} {y : Str} {e : Ex} {x : Expr} {p p' : Pos} (h : AE T P nc k Wx X e x) (hy : N[i]? = some y) (hl : locB sc y = true) (hf : Fnx X sc) (hp : i ∉ pr) (hs : swapsWith x (some (.Name y p')) p.line X.env = pure false) :
    SOk T P nc k Wx pr X (.set i e) (.Assign [.Name y p'] x p) := by
  have lk : X.env.scope.names.lookup y = some .local ∨ X.env.scope.names.lookup y = some .cell := by
    rw [G.hs]
    unfold locB at hl
    split at hl
    · exact .inl (by assumption)
    · exact .inr (by assumption)
    · cases hl
  have hfn : X.fn y = true ∨ X.env.scope.names.lookup y = some .local := by
    rcases lk with z | z
    · exact .inr z
    · exact .inl (hf y (by rw [← G.hs]; exact z))
  refine (ps_set G.nd' (by rw [G.hN]; exact hy) lk h hs hfn).impC fun D σ H ⟨E, F, c, e', B, q⟩ => ⟨F, c, B.sim, ?_⟩
  simp only [runX, run] at q
  refine (q.ofR B).mono fun w F1 c1 H1 _ st ⟨q1, B1⟩ v r => ?_
  exact set_post B st (by rw [e']; exact hp) r q1
theorem s_ret {e : Ex} {x : Expr} {p : Pos} (h : AE T P nc k Wx X e x) (hv : ∀ i, e ≠ .var i) : SOk T P nc k Wx pr X (.ret e) (.Return (some x) p) := by
  refine (ps_ret h).impC fun D σ H ⟨E, F, c, _, B, q⟩ => ⟨F, c, B.sim, ?_⟩
  have he : runX P nc k (.ret e) c = .ofR (evX P nc k e c) fun w σ' => .rt w σ' := by
    cases e <;> first | rfl | exact absurd rfl (hv _)
  rw [he] at q
  refine (q.ofR B).mono fun w F1 c1 H1 _ st ⟨q1, B1⟩ v r => ?_
  exact q1 F1 σ H1 v (fun _ _ h => h) B1 (r.later fun a z => B.dom a z)
theorem s_retv (G : Gd Γ T P nc k Wx N sc X) {i : Nat} {x : Expr} {p : Pos} (h : varB N sc i x = true) (hp : i ∉ pr) : SOk T P nc k Wx pr X (.ret (.var i)) (.Return (some x) p) := by
  refine (ps_ret (var_ok G h)).impC fun D σ H ⟨E, F, c, e', B, q⟩ => ?_
  simp only [runX, run] at q
  split at q
  · rename_i w hw
    obtain ⟨v, h1, r⟩ := B.sim.at_ i w hw
    refine ⟨v, h1, q F σ H v (fun _ _ h => h) (B.drop i) ⟨r, fun o a e => ?_⟩⟩
    subst e
    rcases B.ow i w a hw o h1 with z | z
    · rw [e'] at z; exact absurd z hp
    · exact z
  · exact q.elim
theorem s_retn {p : Pos} : SOk T P nc k Wx pr X .retn (.Return none p) := ps_retN.impC fun D σ H ⟨E, F, c, _, B, q⟩ => q F σ H .non (fun _ _ h => h) B ⟨.non, fun z => nomatch z⟩
theorem s_ite {d : Ex} {a b : List St} {x : Expr} {xs ys : List Stmt} {p : Pos} (h : CT T P nc k Wx X d x) (ha : SsOk T P nc k Wx pr X a xs) (hb : SsOk T P nc k Wx pr X b ys) : SOk T P nc k Wx pr X (.ite d a b) (.If x xs ys p) := by
  refine (ps_if h ha hb).impC fun D σ H ⟨E, F, c, e, B, q⟩ => ⟨F, c, B.sim, ?_⟩
  simp only [runX, run] at q
  refine (q.ofR B).mono fun b' F1 c1 H1 _ st ⟨q1, B1⟩ => ?_
  cases b' with
  | true =>
    rw [if_pos rfl] at q1 ⊢
    exact ⟨E, F1, c1, e, B1, q1⟩
  | false =>
    rw [if_neg Bool.false_ne_true] at q1 ⊢
    exact ⟨E, F1, c1, e, B1, q1⟩
theorem s_whl {n : Nat} {d : Ex} {b : List St} {x : Expr} {xs : List Stmt} {p : Pos} (ho : PassesOwn (model X.prog X.w) X.A X.env X.xe) (h : CT T P nc k Wx X d x) (hb : SsOk T P nc k Wx pr X b xs) : SOk T P nc k Wx pr X (.whl n d b) (.While x xs [] p) := by
  refine (ps_while ho h hb).impC fun D σ H ⟨E, F, c, e, B, q⟩ => ?_
  refine ⟨fun m σ H => ∃ F c, Bd T E F c σ H ∧ PostS T Wx E F (whL (tst d (evX P nc k d)) (runsX P nc k b) m c) D, ⟨n, F, c, B, q⟩, ?_⟩
  rintro m σ H ⟨F, c, B, q⟩
  cases m with
  | zero => exact q.elim
  | succ m =>
    refine ⟨F, c, B.sim, ?_⟩
    rw [whL] at q
    cases hr : tst d (evX P nc k d) c with
    | bad => rw [hr] at q; exact q.elim
    | exc e ds c1 =>
      rw [hr] at q
      exact fun F1 cls dd H1 s xr => q F1 σ cls dd H1 s.gr (B.stp s) xr
    | ok b' c1 =>
      rw [hr] at q
      intro F1 H1 s
      cases b' with
      | false =>
        rw [if_neg Bool.false_ne_true]
        exact q F1 σ H1 s.gr (B.stp s)
      | true =>
        rw [if_pos rfl]
        refine ⟨fun σ' H' => ∃ F' c', Bd T E F' c' σ' H' ∧ PostS T Wx E F' (whL (tst d (evX P nc k d)) (runsX P nc k b) m c') D, fun σ' H' z => ⟨m, Nat.lt_succ_self m, z⟩, E, F1, c1, e, B.stp s, ?_⟩
        simp only at q
        have q := PostS.later q s.gr
        revert q
        cases runsX P nc k b c1 with
        | nx c' => exact fun q F' σ' H' g B' => ⟨F', c', B', PostS.later q g⟩
        | rt w c' => exact fun q => q
        | exc _ _ _ => exact fun q => q
        | bad => exact fun q => q
theorem s_fr {t : Tg} {it : Ex} {b : List St} {tg iter : Expr} {xs : List Stmt} {p : Pos} (hc : X.calm = true) (hK : X.K = T.K) (ho : PassesOwn (model X.prog X.w) X.A X.env X.xe) (hi : AIt T P nc k Wx X it tg iter) (hn : noSet iter = true) (hg : PG X tg (gOf T.K t)) (ht : ∀ i ∈ tgS t, i ∉ pr) (hb : SsOk T P nc k Wx pr X b xs) :
    SOk T P nc k Wx pr X (.fr t it b) (.For tg iter xs [] p) := by
  refine (ps_for ho hc hi hg hb (fun v => noSet_pure hn _ v)).impC fun D σ H ⟨E, F, c, e, B, q⟩ => ⟨F, c, B.sim, ?_⟩
  simp only [runX, run] at q
  refine (q.ofR B).mono fun w F1 c1 H1 _ st ⟨q1, B1⟩ => ?_
  cases hx : itemsD w.toD with
  | none => rw [hx] at q1; exact q1.elim
  | some ds =>
    rw [hx] at q1
    refine ⟨ds, rfl, fun J hJ => ?_⟩
    simp only at q1
    split at q1
    · generalize hf : (fun x σ => match asg t x σ with
        | some σ' => runs nc (callN P nc k) b σ'
        | none => Out.bad) = f at q1
      refine ⟨fun i m σ H => m = ds.length - i ∧ i ≤ ds.length ∧ ∃ F c, (∀ a o, F1 a = some o → F a = some o) ∧ Bd T E F c σ H ∧ PostS T Wx E F (frL f (ds.drop i) c) D,
        ⟨ds.length, by simp, Nat.zero_le _, F1, c1, fun _ _ h => h, B1, q1⟩, ?_⟩
      rintro i m σ H ⟨rfl, hi, F2, c2, g2, B2, q2⟩
      obtain ⟨stop, item⟩ := hJ F2 c2 σ H g2 B2.sim
      by_cases hlt : i < ds.length
      · right
        obtain ⟨go, yld⟩ := item i ds[i] (List.getElem?_eq_getElem hlt)
        refine ⟨go, fun σ' H' => i + 1 ≤ ds.length ∧ ∃ F c, (∀ a o, F1 a = some o → F a = some o) ∧ Bd T E F c σ' H' ∧ PostS T Wx E F (frL f (ds.drop (i + 1)) c) D, fun σ' H' z => ⟨ds.length - (i + 1), by omega, rfl, z⟩, fun x H' y => ?_⟩
        obtain ⟨F3, s3, r3⟩ := yld x H' y
        rw [drop_get hlt, frL] at q2
        have q3 := q2.later s3.gr
        have hfi : f ds[i] c2 = match asg t ds[i] c2 with
          | some σ' => runs nc (callN P nc k) b σ'
          | none => Out.bad := by rw [← hf]
        rw [hfi] at q3
        cases ha : asg t ds[i] c2 with
        | none => rw [ha] at q3; exact q3.elim
        | some c3 =>
          rw [ha] at q3
          simp only at q3
          refine gOf_ok t s3.sim r3 ha fun σ4 S4 a4 => ⟨E, F3, c3, e, (B2.stp s3).asg a4 S4 (fun i hi => by rw [e]; exact ht i hi), ?_⟩
          revert q3
          show PostS T Wx E F3 (match runsX P nc k b c3 with
            | .nx σ' => frL f (ds.drop (i + 1)) σ'
            | o => o) D → PostS T Wx E F3 (runsX P nc k b c3) _
          cases runsX P nc k b c3 with
          | nx c' => exact fun q F' σ' H' g B' => ⟨hlt, F', c', fun a o z => g a o (s3.gr a o (g2 a o z)), B', PostS.later q g⟩
          | rt w c' => exact fun q => q
          | exc _ _ _ => exact fun q => q
          | bad => exact fun q => q
      · left
        rw [itc_len hlt, frL] at q2
        exact ⟨stop i (Nat.le_of_not_lt hlt), q2 F2 σ H (fun _ _ h => h) B2⟩
    · exact q1.elim
end
end Cl

/-! Cl, part P: more statements. -/
namespace Cl
open PySem PySem.Spec PyProof.Rows L2
section
variable {Γ : Gt} {T : Tb} {P : Pg} {nc k : Nat} {Wx : WX} {N : List Str} {sc : Scope} {X : Cx} {pr : List Nat}

/-! ### o[i] = v -/
def rSetA : TSet := fun o i v H Q => rSetL o i v H Q ∨ rSetD o i v H Q
theorem set_any {X : Cx} (hu : X.A.units + 1 < cLine) : PSet X rSetA := by
  intro pins s σ H o i v ov iv u Q I ro ri rv h
  rcases h with h | h
  · exact set_list pins s σ H o i v ov iv u Q I ro ri rv h
  · exact set_dict hu pins s σ H o i v ov iv u Q I ro ri rv h
theorem setop_ok {F H : Hp} {c : Sg} {σ : L2.St} {i : Nat} {w0 w1 : W} {kd d : D} {o kv v : V} {Q : Hp → Prop} (S : Sim T F c σ H) (hi : c[i]? = some (some w0)) (ho : σ[i]? = some (some o)) (rk : DT T F H kd kv) (r : DR T F d v) (e : setop w0 kd d = some w1)
    (q : ∀ H', Stp T σ F c H F (c.set i (some w1)) H' → Q H') : rSetA o kv v H Q := by
  obtain ⟨o', h1, h2⟩ := S.at_ i w0 hi
  rw [ho] at h1
  cases h1
  unfold setop at e
  split at e
  · obtain ⟨a, us, rfl, fa, ha, rr⟩ := h2
    split at e
    · rename_i n
      obtain ⟨j, ej, rfl⟩ := Option.map_eq_some_iff.mp e
      cases rk.int
      rw [rr.length] at ej
      exact .inl ⟨a, us, n, j, rfl, rfl, ha, ej, q _ (S.write hi rfl ho rfl ⟨a, _, rfl, fa, upd_same, rr.set r j⟩)⟩
    · cases e
  · obtain ⟨a, kv', rfl, fa, ha, e1, rr⟩ := h2
    split at e
    · rename_i k0 hk
      split at e
      · rename_i hl
        cases e
        have hl' : kv'.length < sizeLine := by have := congrArg List.length e1; simp at this; omega
        exact .inr ⟨a, _, rfl, by rw [DT.key rk hk]; exact DPut.k ha hl', q _ (S.write hi rfl ho rfl ⟨a, _, rfl, fa, upd_same, drs_put r e1 rr⟩)⟩
      · cases e
    · cases e
  · obtain ⟨a, kv', rfl, fa, ha, e1, rr⟩ := h2
    split at e
    · rename_i k0 hk
      split at e
      · rename_i hl
        cases e
        have hl' : kv'.length < sizeLine := by have := congrArg List.length e1; simp at this; omega
        obtain ⟨b, rfl, hb⟩ := DT.tkey S rk hk
        exact .inr ⟨a, _, rfl, DPut.t ha hb hl', q _ (S.write hi rfl ho rfl ⟨a, _, rfl, fa, upd_same, drs_put r e1 rr⟩)⟩
      · cases e
    · cases e
  · cases e
theorem sw_sub (x a b : Expr) (q : Pos) (l : Nat) (env : Env) : swapsWithSole [.Subscript a b q] x l env = pure false := by cases x <;> rfl
theorem sw_tup (x : Expr) (es : List Expr) (j : Nat) (q : Pos) (l : Nat) (env : Env) : swapsWithSole [.Tuple es j q] x l env = pure false := by cases x <;> rfl
theorem s_six (G : Gd Γ T P nc k Wx N sc X) {i : Nat} {kx e : Ex} {o ix x : Expr} {p p' : Pos} (he : AE T P nc k Wx X e x) (ho : varB N sc i o = true) (hk : AO T P nc k Wx X kx ix) (hns : noSlice ix = true) :
    SOk T P nc k Wx pr X (.six i kx e) (.Assign [.Subscript o ix p'] x p) := by
  have ha : ∀ v, assign (.Subscript o ix p') X.env v = (do
      let ov ← holding [v] (eval o X.env)
      let iv ← holding [v, ov] (eval ix X.env)
      standAt p'
      holding [v, ov, iv] (setItem ov iv v)
      release [v, ov, iv] []) := by
    intro v
    cases ix <;> first | rfl | cases hns
  refine (ps_asg he (pg_sub (var_ok G ho) hk (set_any G.u1) ha) (sw_sub _ _ _ _ _ _) rfl rfl).impC fun D σ H ⟨E, F, c, e', B, q⟩ => ⟨F, c, B.sim, ?_⟩
  simp only [runX, run] at q
  split at q
  · rename_i w1 hw1
    obtain ⟨ov, h1, h2⟩ := B.sim.at_ i w1 hw1
    have q0 := q.ofR B
    refine q0.mono fun w F1 c1 H1 hr st ⟨q1, B1⟩ v r => ?_
    obtain ⟨F2, st2, r2, g2⟩ := st.freeze B.sim r
    have q2 : PostS T Wx E F2 (Out.ofR (opd kx (ev nc (callN P nc k) kx) c1) fun x σ2 => match rd σ2 x, σ2[i]? with
      | some kd, some (some w0) => match setop w0 kd w.toD with
        | some w1 => .nx (σ2.set i (some w1))
        | none => .bad
      | _, _ => .bad) D := q1.later g2
    have B2 := B.stp st2
    refine ⟨ov, h1, F2, c1, B2.sim, (q2.ofR B2).mono fun y F3 c3 H3 _ st3 ⟨q4, B3⟩ kv rk => ?_⟩
    split at q4
    · rename_i kd w2 hkd hw2
      split at q4
      · rename_i w3 hset
        refine setop_ok B3.sim hw2 h1 (rd_ok B3.sim rk hkd) (r2.grow st3.gr) hset fun H' s' => ?_
        exact q4 F3 σ H' (fun _ _ h => h) (B3.stp s')
      · exact q4.elim
    · exact q4.elim
  · exact q.elim
/-! ### self.f = e -/
theorem put_zip {f : Str} {y : V} : ∀ {ns : List Str} {vs : List V}, ns.Nodup → ns[vs.length]? = some f → putF f y (ns.zip vs) = ns.zip (vs ++ [y])
  | [], vs, _, h => by simp at h
  | n :: ns, [], _, h => by
    simp at h
    subst h
    simp [putF]
  | n :: ns, v :: vs, nd, h => by
    rw [List.nodup_cons] at nd
    have h' : ns[vs.length]? = some f := by simpa using h
    have hne : n ≠ f := fun e => nd.1 (by rw [e]; exact List.mem_of_getElem? h')
    rw [List.zip_cons_cons, List.cons_append, List.zip_cons_cons, putF, if_neg hne, put_zip nd.2 h']
theorem sw_fld (x a : Expr) (f : Str) (q : Pos) (l : Nat) (env : Env) : swapsWith x (some (.Attribute a f q)) l env = pure false := by cases x <;> rfl
def sflB (Γ : Gt) (c j : Nat) (f : Str) : Bool := decide (c < Γ.cfs.length) && decide ((Γ.cfs.getD c [])[j]? = some f)
theorem s_sfl (G : Gd Γ T P nc k Wx N sc X) {i cc j : Nat} {e : Ex} {o x : Expr} {f : Str} {p p' : Pos} (he : AE T P nc k Wx X e x) (ho : varB N sc i o = true) (hk : sflB Γ cc j f = true) :
    SOk T P nc k Wx pr X (.sfl i cc j e) (.Assign [.Attribute o f p'] x p) := by
  refine (ps_fld (var_ok G ho) he (sw_fld x o f p' p.line X.env)).impC fun D σ H ⟨E, F, c, e', B, q⟩ => ⟨F, c, B.sim, ?_⟩
  simp only [runX, run] at q
  refine (q.ofR B).mono fun w F1 c1 H1 hr st ⟨q1, B1⟩ v r => ?_
  obtain ⟨F2, st2, r2, g2⟩ := st.freeze B.sim r
  have B2 := B.stp st2
  split at q1
  · rename_i cc' fs hi
    split at q1
    · rename_i hl
      obtain ⟨rfl, hl⟩ := hl
      obtain ⟨ov, h1, b, dx, vs, rfl, fb, hb, fd, rr, lr⟩ := B2.sim.at_ i _ hi
      have lv : vs.length = j := by rw [← rr.length]; exact hl
      unfold sflB at hk
      rw [Bool.and_eq_true] at hk
      have hcc : cc' < nc := by rw [← G.cfn]; exact of_decide_eq_true hk.1
      have cf := G.cok cc' hcc
      have hn : (T.cf cc')[vs.length]? = some f := by rw [G.cfe, lv]; exact of_decide_eq_true hk.2
      have hlt : vs.length < (T.cf cc').length := lt_of_get hn
      refine ⟨_, h1, b, _, dx, _, rfl, hb, by rw [G.kT]; exact cf.cl, by rw [G.kT]; exact cf.na f (List.mem_of_getElem? hn), ?_, ?_⟩
      · have := cf.few
        rw [List.length_zip]
        omega
      · rw [put_zip cf.nd hn]
        have s' := B2.sim.write (w' := .fo cc' (fs ++ [w.toD])) (o := .ins (T.ca cc') dx ((T.cf cc').zip (vs ++ [v]))) hi rfl h1 rfl ⟨b, dx, vs ++ [v], rfl, fb, upd_same, fd, rr.append (.cons r2 .nil), by rw [List.length_append, List.length_singleton]; omega⟩
        exact q1 F2 σ _ g2 (B2.stp s')
    · exact q1.elim
  · exact q1.elim
/-! ### name op= e -/
def augB : Bop → Bool
  | .add => true
  | .sub => true
  | _ => false
def rAug : Bop → TIp
  | .add => fun x y H Q => rI0 (fun i j => .int (i + j)) x y H Q ∨ ∃ i j, x = .str i ∧ y = .str j ∧ i.length + j.length ≤ sizeLine ∧ Q (.str (i ++ j)) H
  | .sub => rI0 fun i j => .int (i - j)
  | _ => fun _ _ _ _ => False
theorem ip_aug {X : Cx} : ∀ o : Bop, PIp X (bopO o) (rAug o)
  | .add => iop_add.or iop_add_str
  | .sub => iop_sub
  | .mul => fun _ _ _ _ _ _ _ _ _ _ _ _ h => h.elim
  | .fdiv => fun _ _ _ _ _ _ _ _ _ _ _ _ h => h.elim
  | .mod => fun _ _ _ _ _ _ _ _ _ _ _ _ h => h.elim
  | .pow => fun _ _ _ _ _ _ _ _ _ _ _ _ h => h.elim
theorem aug_ok {F H : Hp} {o : Bop} {x y r : D} {v u : V} {Q : VK} (hx : DR T F x v) (hy : DR T F y u) (e : augop o x y = some r) (q : ∀ z, DR T F r z → Q z H) : rAug o v u H Q := by
  unfold augop at e
  split at e
  · cases e; cases hx; cases hy
    exact .inl ⟨_, _, rfl, rfl, q _ (.int _)⟩
  · cases hx; cases hy
    split at e
    · cases e
      exact .inr ⟨_, _, rfl, rfl, ‹_›, q _ (.str _)⟩
    · cases e
  · cases e; cases hx; cases hy
    exact ⟨_, _, rfl, rfl, q _ (.int _)⟩
  · cases e
theorem lk_of (G : Gd Γ T P nc k Wx N sc X) (hf : Fnx X sc) {y : Str} (hl : locB sc y = true) : (X.env.scope.names.lookup y = some .local ∨ X.env.scope.names.lookup y = some .cell) ∧ (X.fn y = true ∨ X.env.scope.names.lookup y = some .local) := by
  have lk : X.env.scope.names.lookup y = some .local ∨ X.env.scope.names.lookup y = some .cell := by
    rw [G.hs]
    unfold locB at hl
    split at hl
    · exact .inl (by assumption)
    · exact .inr (by assumption)
    · cases hl
  refine ⟨lk, ?_⟩
  rcases lk with z | z
  · exact .inr z
  · exact .inl (hf y (by rw [← G.hs]; exact z))
theorem s_aug (G : Gd Γ T P nc k Wx N sc X) {i : Nat} {y : Str} {o : Bop} {e : Ex} {x : Expr} {p p' : Pos} (h : AE T P nc k Wx X e x) (hy : N[i]? = some y) (hl : locB sc y = true) (hf : Fnx X sc) (hp : i ∉ pr) :
    SOk T P nc k Wx pr X (.aug i o e) (.AugAssign (.Name y p') (bopO o) x p) := by
  obtain ⟨lk, hfn⟩ := lk_of G hf hl
  refine (ps_aug G.nd' (by rw [G.hN]; exact hy) lk h (ip_aug o) hfn).impC fun D σ H ⟨E, F, c, e', B, q⟩ => ?_
  simp only [runX, run] at q
  split at q
  · rename_i d hd
    obtain ⟨v, h1, h2⟩ := B.sim.at_ i _ hd
    refine ⟨v, h1, F, c, B.sim, (q.ofR B).mono fun w F1 c1 H1 hr st ⟨q1, B1⟩ u r => ?_⟩
    obtain ⟨F2, st2, r2, g2⟩ := st.freeze B.sim r
    have B2 := B.stp st2
    have q2 := q1.later g2
    split at q2
    · rename_i d2 hd2
      refine aug_ok (DR.grow st2.gr h2) r2 hd2 fun z rz => ?_
      exact set_post (w := .d d2) B2 (.refl B2.sim) (by rw [e']; exact hp) ⟨rz, fun o => nomatch o⟩ q2
    · exact q2.elim
  · exact q.elim

/-! ### x[k] op= e -/
def rGetP (K : PySem.W.Frag) : V → V → Hp → VK → Prop := fun o i H Q => ∃ (p : Addr) (xs : List V) (n : Int) (v : V), o = .ref p ∧ i = .int n ∧ 0 ≤ n ∧ SqL K H p xs ∧ xs[n.toNat]? = some v ∧ Q v H
theorem get_pos {X : Cx} : PGet X (rGetP X.K) := by
  intro pins s σ H o i ov iv Q I ro ri h
  obtain ⟨p, xs, n, v, rfl, rfl, h0, hq, he, q⟩ := h
  cases ro
  obtain ⟨t, rfl⟩ := ri
  obtain ⟨its, r, pl, hz⟩ := I.list hq
  obtain ⟨w, ew, rw'⟩ := r.get he
  have hlt := (List.getElem?_eq_some_iff.mp he).1
  have hn := line63
  exact wpAny_getItem_list pl.isList h0 (by omega) (by simpa using ew) ⟨v, H, I, rw', q⟩
theorem s_aix (G : Gd Γ T P nc k Wx N sc X) {i : Nat} {kx e : Ex} {op : Bop} {o ix x : Expr} {p p' : Pos} (he : AE T P nc k Wx X e x) (ho : varB N sc i o = true) (hk : AE T P nc k Wx X kx ix) (hns : noSlice ix = true) :
    SOk T P nc k Wx pr X (.aix i kx op e) (.AugAssign (.Subscript o ix p') (bopO op) x p) := by
  refine (ps_augS (var_ok G ho) hk get_pos he (ip_aug op) (set_any G.u1) (fun ov iv nw => by cases ix <;> first | rfl | cases hns)).impC fun D σ H ⟨E, F, c, e', B, q⟩ => ?_
  simp only [runX, run] at q
  split at q
  · rename_i w0 hw0
    obtain ⟨ov, h1, _⟩ := B.sim.at_ i w0 hw0
    refine ⟨ov, h1, F, c, B.sim, (q.ofR B).mono fun kw F1 c1 H1 _ st ⟨q1, B1⟩ kv rk => ?_⟩
    obtain ⟨F2, st2, r2, g2⟩ := st.freeze B.sim rk
    have B2 := B.stp st2
    have q2 := q1.later g2
    split at q2
    · rename_i n xs ekw hxs
      split at q2
      · rename_i h0
        split at q2
        · rename_i d hd
          rw [ekw] at r2
          cases r2
          obtain ⟨o', z1, a, us, rfl, fa, ha, rr⟩ := B2.sim.at_ i _ hxs
          rw [h1] at z1
          cases z1
          obtain ⟨z, hz, rz⟩ := rr.get hd
          rw [G.kT]
          refine ⟨a, us, n, z, rfl, rfl, h0, .of ha, hz, F2, c1, B2.sim, (q2.ofR B2).mono fun w F3 c3 H3 _ st3 ⟨q3, B3⟩ u r => ?_⟩
          obtain ⟨F4, st4, r4, g4⟩ := st3.freeze B2.sim r
          have B4 := B2.stp st4
          have q4 := q3.later g4
          split at q4
          · rename_i rd w1 hrd hw1
            split at q4
            · rename_i w2 hset
              refine aug_ok (DR.grow st4.gr rz) r4 hrd fun y ry => ?_
              exact setop_ok B4.sim hw1 h1 (.inl (.int n)) ry hset fun H' s' => q4 F4 σ H' (fun _ _ h => h) (B4.stp s')
            · exact q4.elim
          · exact q4.elim
        · exact q2.elim
      · exact q2.elim
    · exact q2.elim
  · exact q.elim

/-! ### targets of a tuple; several at once -/
theorem s_unp (G : Gd Γ T P nc k Wx N sc X) (cm : Γ.cm = true) {t : Tg} {e : Ex} {x : Expr} {es : List Expr} {j : Nat} {p p' : Pos} (h : AE T P nc k Wx X e x) (hg : tgB N sc pr t (.Tuple es j p') = true) (ht : ∀ i ∈ tgS t, i ∉ pr) (hf : Fnx X sc) (hw : swappedStores [.Tuple es j p'] x X.env = pure none) :
    SOk T P nc k Wx pr X (.unp t e) (.Assign [.Tuple es j p'] x p) := by
  have g : PG X (.Tuple es j p') (gOf T.K t) := pg_of (sc := sc) (pr := pr) G.kT (G.calm cm) G.hN G.nd (fun y => by rw [G.hs]; exact ⟨fun z => z, fun z => z⟩) hf t _ hg
  refine (ps_asg h g (sw_tup _ _ _ _ _ _) hw rfl).impC fun D σ H ⟨E, F, c, e', B, q⟩ => ⟨F, c, B.sim, ?_⟩
  simp only [runX, run] at q
  refine (q.ofR B).mono fun w F1 c1 H1 hr st ⟨q1, B1⟩ v r => ?_
  obtain ⟨F2, st2, r2, g2⟩ := st.freeze B.sim r
  have q2 := q1.later g2
  split at q2
  · rename_i c2 ha
    exact gOf_ok t st2.sim r2 ha fun σ4 S4 a4 => q2 F2 σ4 H1 (fun _ _ h => h) ((B.stp st2).asg a4 S4 (fun i hi => by rw [e']; exact ht i hi))
  · exact q2.elim

/-- x[k], name = e -/
theorem s_psx (G : Gd Γ T P nc k Wx N sc X) (cm : Γ.cm = true) {i j : Nat} {kx e : Ex} {o ix x nx : Expr} {jn : Nat} {p p1 p' : Pos} (he : AE T P nc k Wx X e x) (ho : varB N sc i o = true) (hk : AO T P nc k Wx X kx ix) (hns : noSlice ix = true) (hg : tgB N sc pr (.nm j) nx = true) (hj : j ∉ pr) (hf : Fnx X sc)
    (hw : swappedStores [.Tuple [.Subscript o ix p', nx] jn p1] x X.env = pure none) : SOk T P nc k Wx pr X (.psx i kx j e) (.Assign [.Tuple [.Subscript o ix p', nx] jn p1] x p) := by
  have ha : ∀ v, assign (.Subscript o ix p') X.env v = (do
      let ov ← holding [v] (eval o X.env)
      let iv ← holding [v, ov] (eval ix X.env)
      standAt p'
      holding [v, ov, iv] (setItem ov iv v)
      release [v, ov, iv] []) := by
    intro v
    cases ix <;> first | rfl | cases hns
  obtain ⟨y, py, rfl⟩ : ∃ y py, nx = .Name y py := by
    cases nx <;> first | exact ⟨_, _, rfl⟩ | (simp [tgB] at hg)
  have g2 : PG X (.Name y py) (gOf T.K (.nm j)) := pg_of (sc := sc) (pr := pr) G.kT (G.calm cm) G.hN G.nd (fun y => by rw [G.hs]; exact ⟨fun z => z, fun z => z⟩) hf (.nm j) _ hg
  have g := pg_tup (k := jn) (pos := p1) (n := 2) (G.calm cm) (pgs_cons (pg_sub (pos := p') (var_ok G ho) hk (set_any G.u1) ha) (pgs_cons g2 pgs_nil))
  refine (ps_asg he g (sw_tup _ _ _ _ _ _) hw rfl).impC fun D σ H ⟨E, F, c, e', B, q⟩ => ⟨F, c, B.sim, ?_⟩
  simp only [runX, run] at q
  split at q
  · rename_i w1 hw1
    obtain ⟨ov, h1, h2⟩ := B.sim.at_ i w1 hw1
    refine (q.ofR B).mono fun w F1 c1 H1 hr st ⟨q1, B1⟩ v r => ?_
    obtain ⟨F2, st2, r2, g2⟩ := st.freeze B.sim r
    have q2 := q1.later g2
    have B2 := B.stp st2
    split at q2
    · rename_i d1 d2 hd
      rw [hd] at r2
      cases r2 with
      | tup ht rs =>
        cases rs with
        | cons r1 rs =>
          cases rs with
          | cons r3 rs =>
            cases rs
            rw [G.kT]
            refine ⟨_, _, rfl, .of (B2.sim.sub _ _ ht), rfl, _, _, rfl, ov, h1, F2, c1, B2.sim, (q2.ofR B2).mono fun y F3 c3 H3 _ st3 ⟨q4, B3⟩ kv rk => ?_⟩
            split at q4
            · rename_i kd w2 hkd hw2
              split at q4
              · rename_i w3 hset
                refine setop_ok B3.sim hw2 h1 (rd_ok B3.sim rk hkd) (r1.grow st3.gr) hset fun H' s' => ?_
                have B4 := B3.stp s'
                have q5 : PostS T Wx E F3 (setS (c3.set i (some w3)) j (.d d2)) D := q4
                unfold setS at q5
                split at q5
                · rename_i hl
                  have hasg : asg (.nm j) d2 (c3.set i (some w3)) = some ((c3.set i (some w3)).set j (some (.d d2))) := if_pos hl
                  refine ⟨_, _, rfl, gOf_ok (.nm j) B4.sim (r3.grow st3.gr) hasg fun σ5 S5 a5 => ⟨rfl, ?_⟩⟩
                  exact q5 F3 σ5 H' (fun _ _ h => h) (B4.asg a5 S5 (fun n hn => by
                    rw [e']
                    simp only [tgS, List.mem_singleton] at hn
                    rw [hn]; exact hj))
                · exact q5.elim
              · exact q4.elim
            · exact q4.elim
    · exact q2.elim
  · exact q.elim

/-- new values, each with its own place -/
inductive RWs (T : Tb) (F H0 H : Hp) : List W → List V → Prop
  | nil : RWs T F H0 H [] []
  | cons {w : W} {v : V} {ws : List W} {vs : List V} : RW T F H0 H w v → (∀ (n : Nat) (u : W) (b : Addr), ws[n]? = some u → u.own = true → vs[n]? = some (.ref b) → w.own = true → v ≠ .ref b) → RWs T F H0 H ws vs → RWs T F H0 H (w :: ws) (v :: vs)
theorem RWs.later {F H0 H1 H : Hp} (d : ∀ a, NV H1 a → NV H0 a) : ∀ {ws : List W} {vs : List V}, RWs T F H1 H ws vs → RWs T F H0 H ws vs
  | _, _, .nil => .nil
  | _, _, .cons r n t => .cons (r.later d) n (RWs.later d t)
theorem RWs.at_ {F H0 H : Hp} : ∀ {ws : List W} {vs : List V}, RWs T F H0 H ws vs → ∀ (n : Nat) (w : W) (v : V), ws[n]? = some w → vs[n]? = some v → RW T F H0 H w v
  | _, _, .nil, n, w, v, h, _ => by simp at h
  | _, _, .cons r _ t, 0, w, v, h, h' => by simp at h h'; subst h h'; exact r
  | _, _, .cons r _ t, n + 1, w, v, h, h' => RWs.at_ t n w v (by simpa using h) (by simpa using h')
theorem RWs.length {F H0 H : Hp} : ∀ {ws : List W} {vs : List V}, RWs T F H0 H ws vs → ws.length = vs.length
  | _, _, .nil => rfl
  | _, _, .cons _ _ t => by simp [RWs.length t]
def tWs (T : Tb) (Wx : WX) (f : Sg → R Sg (List W)) : TA := fun σ H Q => ∃ F c, Sim T F c σ H ∧ PostP T Wx σ F c H (f c) fun xs F' _ H' => ∀ vs, RWs T F' H H' xs vs → Q vs H'
abbrev AWs (T : Tb) (P : Pg) (nc k : Nat) (Wx : WX) (X : Cx) (es : List Ex) (xs : List Expr) : Prop := PA X xs (tWs T Wx (evWs nc (callN P nc k) es))
theorem aws_nil : AWs T P nc k Wx X [] [] := pa_nil.impC fun σ H Q ⟨F, c, S, q⟩ => q F H (.refl S) [] .nil
/-- a new thing, not frozen, over a step -/
theorem Stp.keepV {F1 F2 F3 H1 H2 H3 : Hp} {c1 c2 c3 : Sg} {σ : L2.St} {a : Addr} {o : HO} (S : Sim T F1 c1 σ H1) (hn : NV H1 a) (st : Stp T σ F1 c1 H1 F2 c2 H2) (st' : Stp T σ F2 c2 H2 F3 c3 H3) (hf : F2 a = none) (ho : H2 a = some o) (io : isOwn o = true) : F3 a = none ∧ H3 a = some o := by
  have no : ¬ OwnA c2 σ a := fun q => by
    obtain ⟨_, o', h, i⟩ := S.own_at (st.osA q)
    exact hn.no h i
  refine ⟨?_, st'.fr a o ho (fun ps z => by rw [z] at io; cases io) no⟩
  cases z : F3 a with
  | none => rfl
  | some u =>
    rcases st'.nf a u z with z' | z' | z'
    · rw [hf] at z'; cases z'
    · exact (z'.no ho io).elim
    · exact absurd z' no
/-- a new value stays over a step -/
theorem RW.stp {F F1 F2 H H1 H2 : Hp} {c c1 c2 : Sg} {σ : L2.St} {w : W} {v : V} (S : Sim T F c σ H) (st : Stp T σ F c H F1 c1 H1) (r : RW T F1 H H1 w v) (st2 : Stp T σ F1 c1 H1 F2 c2 H2) : RW T F2 H H2 w v := by
  refine ⟨r.1.keep st2.gr (fun a o e => ?_) fun a x o e h => ?_, r.2⟩
  · have hn := r.2 o a e
    obtain ⟨b, e', f, x, hx, ix⟩ := r.1.own_at o
    rw [e] at e'
    cases e'
    exact (Stp.keepV S hn st st2 f hx ix).1
  · have hn := r.2 o a e
    obtain ⟨b, e', f, y, hy, iy⟩ := r.1.own_at o
    rw [e] at e'
    cases e'
    rw [hy] at h
    cases h
    exact (Stp.keepV S hn st st2 f hy iy).2
theorem aws_cons {e : Ex} {es : List Ex} {x : Expr} {xs : List Expr} (h : AE T P nc k Wx X e x) (hs : AWs T P nc k Wx X es xs) (hn : noStar x = true) : AWs T P nc k Wx X (e :: es) (x :: xs) := by
  refine (pa_cons h hs (star_each hn xs X.env)).impC fun σ H Q ⟨F, c, S, q⟩ => ⟨F, c, S, ?_⟩
  simp only [evWs] at q
  refine q.bind.mono fun w F1 c1 H1 he st1 q1 v1 r1 => ⟨F1, c1, st1.sim, q1.bind.mono fun ws F3 c3 H3 _ st3 q3 vs rs => ?_⟩
  refine q3 F3 H3 (.refl st3.sim) (v1 :: vs) (.cons (RW.stp S st1 r1 st3) (fun n u b hu ou hv ow e => ?_) (rs.later st1.dom))
  have hb := (rs.at_ n u _ hu hv).2 ou b rfl
  obtain ⟨a, e', f, x, hx, ix⟩ := r1.1.own_at ow
  rw [e] at e'
  cases e'
  exact hb.no hx ix
theorem aps_aws : ∀ {es : List Ex} {xs : List Expr}, APs T P nc k Wx X es xs → AWs T P nc k Wx X es xs
  | _, _, .nil => aws_nil
  | _, _, .cons r t => aws_cons r.1 (aps_aws t) r.2.2
theorem RWs.keepH {F H0 H H' : Hp} (m : ∀ a o, H a = some o → H' a = some o) : ∀ {ws : List W} {vs : List V}, RWs T F H0 H ws vs → RWs T F H0 H' ws vs
  | _, _, .nil => .nil
  | _, _, .cons r n t => .cons ⟨r.1.keep (fun _ _ h => h) (fun a o e => by
      obtain ⟨b, e', f, _⟩ := r.1.own_at o
      rw [e] at e'; cases e'; exact f) fun a x _ _ h => m a x h, r.2⟩ n (RWs.keepH m t)
theorem evWs_len {cl : Calls} : ∀ {es : List Ex} {c : Sg} {ds : List W} {c' : Sg}, evWs nc cl es c = .ok ds c' → ds.length = es.length
  | [], c, ds, c', h => by simp only [evWs] at h; cases h; rfl
  | e :: es, c, ds, c', h => by
    simp only [evWs] at h
    obtain ⟨x, s1, _, h2⟩ := R.bind_ok_iff h
    obtain ⟨y, s2, h3, h4⟩ := R.bind_ok_iff h2
    cases h4
    rw [List.length_cons, List.length_cons, evWs_len h3]
/-- slots set, one behind the other -/
def setsσ (σ : L2.St) : List Nat → List V → L2.St
  | i :: is, v :: vs => setsσ (σ.set i (some v)) is vs
  | _, _ => σ
theorem sets_ok {E : Ent} {D : Ends} {F H0 H : Hp} : ∀ {is : List Nat} {ws : List W} {vs : List V} {c : Sg} {σ : L2.St}, Bd T E F c σ H → (∀ i ∈ is, i ∉ E.pr) → RWs T F H0 H ws vs → (∀ a, NV H0 a → NV E.H0 a) →
    (∀ (n : Nat) (w : W) (a : Addr), ws[n]? = some w → w.own = true → vs[n]? = some (.ref a) → ¬ OwnA c σ a) → PostS T Wx E F (setSs is ws c) D → D.nx (setsσ σ is vs) H ∧ is.length = vs.length
  | [], _, _, c, σ, B, hp, .nil, d, fr, q => by
    simp only [setSs] at q
    exact ⟨q F σ H (fun _ _ h => h) B, rfl⟩
  | [], _, _, c, σ, B, hp, .cons _ _ _, d, fr, q => by simp only [setSs] at q; exact q.elim
  | i :: is, _, _, c, σ, B, hp, .nil, d, fr, q => by simp only [setSs] at q; exact q.elim
  | i :: is, w :: ws, v :: vs, c, σ, B, hp, .cons r n t, d, fr, q => by
    simp only [setSs] at q
    split at q
    · rename_i hi
      have B' := B.set hi (hp i List.mem_cons_self) r.1 fun o a e => ⟨d a (r.2 o a e), fr 0 w a rfl o (by rw [e]; rfl)⟩
      have := sets_ok (σ := σ.set i (some v)) B' (fun j hj => hp j (List.mem_cons_of_mem _ hj)) t d (fun m u a hu ou hv z => ?_) q
      · exact ⟨this.1, by simp [this.2]⟩
      · obtain ⟨j, x, h1, h2, h3⟩ := z
        by_cases e : i = j
        · subst e
          rw [List.getElem?_set_self hi] at h1
          rw [List.getElem?_set_self (by rw [← B.sim.len]; exact hi)] at h3
          cases h1
          exact n m u a hu ou hv h2 (by cases h3; rfl)
        · rw [List.getElem?_set_ne e] at h1 h3
          exact fr (m + 1) u a (by simpa using hu) ou (by simpa using hv) ⟨j, x, h1, h2, h3⟩
    · exact q.elim
theorem gs_names {K : PySem.W.Frag} {H : Hp} {Q : L2.St → Hp → Prop} : ∀ {is : List Nat} {vs : List V} {σ : L2.St}, is.length = vs.length → Q (setsσ σ is vs) H → gsOf K (is.map Tg.nm) vs σ H Q
  | [], [], σ, _, q => ⟨rfl, q⟩
  | [], _ :: _, _, h, _ => by simp at h
  | _ :: _, [], _, h, _ => by simp at h
  | i :: is, v :: vs, σ, h, q => ⟨v, vs, rfl, gs_names (is := is) (vs := vs) (σ := σ.set i (some v)) (by simpa using h) q⟩
def isStar : Expr → Bool
  | .Starred _ _ => true
  | _ => false
/-- which way several stores go -/
def swD (sc : Scope) (ts vs : List Expr) : Option (Option (List Str)) :=
  if !(ts.length == 2 || ts.length == 3) || vs.length != ts.length then some none
  else if vs.any isStar then some none
  else
    let line := (ts.head?.map (·.pos.line)).getD 0
    let names := ts.filterMap fun
      | .Name id pos => if sc.names.lookup id == some .local && pos.line == line then some id else none
      | _ => none
    if names.length != ts.length || names.eraseDups.length != names.length then some none
    else if vs.all (foldedForSure 8) then some none
    else if vs.all (constantsAlone 8) then none
    else some (some names)
theorem sw_dec (G : Gd Γ T P nc k Wx N sc X) {ts vs : List Expr} {k1 k2 : Nat} {p1 p2 : Pos} {r : Option (List Str)} (h : swD sc ts vs = some r) : swappedStores [.Tuple ts k1 p1] (.Tuple vs k2 p2) X.env = pure r := by
  have hb : X.env.blockKind = .function := by
    unfold Env.blockKind
    rw [G.hs, G.kind]; rfl
  have hk : ∀ id, X.env.kindOf id = sc.names.lookup id := fun id => by unfold Env.kindOf; rw [G.hs]
  unfold swD at h
  unfold swappedStores
  have hbb : (ScopeKind.function != ScopeKind.function) = false := by decide
  simp only [hb, hk, hbb, Bool.or_false]
  simp only at h
  split at h
  · rename_i c1
    cases h
    rw [if_pos c1]
  · rename_i c1
    rw [if_neg c1]
    split at h
    · rename_i c2
      cases h
      exact if_pos c2
    · rename_i c2
      refine (if_neg c2).trans ?_
      split at h
      · rename_i c3
        cases h
        exact if_pos c3
      · rename_i c3
        refine (if_neg c3).trans ?_
        split at h
        · rename_i c4
          cases h
          exact if_pos c4
        · rename_i c4
          refine (if_neg c4).trans ?_
          split at h
          · cases h
          · rename_i c5
            cases h
            exact if_neg c5
/-- names as a target, in a row -/
def nmB (N : List Str) (sc : Scope) (pr : List Nat) : List Nat → List Expr → Bool
  | [], [] => true
  | i :: is, .Name x _ :: es => decide (N[i]? = some x) && locB sc x && !pr.contains i && nmB N sc pr is es
  | _, _ => false
theorem nm_tgs {N : List Str} {sc : Scope} {pr : List Nat} : ∀ {is : List Nat} {es : List Expr}, nmB N sc pr is es = true → tgsB N sc pr (is.map Tg.nm) es = true ∧ (∀ i ∈ is, i ∉ pr)
  | [], [], _ => ⟨rfl, fun _ h => nomatch h⟩
  | [], _ :: _, h => by simp [nmB] at h
  | _ :: _, [], h => by simp [nmB] at h
  | i :: is, e :: es, h => by
    unfold nmB at h
    split at h
    · rename_i e1 _
      cases e1
    · rename_i i' is' x q es' e1 e2
      cases e1; cases e2
      simp only [Bool.and_eq_true] at h
      obtain ⟨h1, h2⟩ := nm_tgs h.2
      refine ⟨?_, fun j hj => ?_⟩
      · show (tgB N sc pr (.nm i) (.Name x q) && tgsB N sc pr (is.map Tg.nm) es) = true
        rw [h1, Bool.and_true]
        simp only [tgB, Bool.and_eq_true]
        exact h.1
      · rcases List.mem_cons.mp hj with rfl | hj
        · simpa using h.1.2
        · exact h2 j hj
    · cases h
theorem s_par (G : Gd Γ T P nc k Wx N sc X) (cm : Γ.cm = true) {is : List Nat} {es : List Ex} {ts vs : List Expr} {k1 k2 : Nat} {p1 p2 p : Pos} (h : APs T P nc k Wx X es vs) (hl : vs.length ≤ 1000) (hg : nmB N sc pr is ts = true) (hf : Fnx X sc) (hw : swD sc ts vs = some none) :
    SOk T P nc k Wx pr X (.par is es) (.Assign [.Tuple ts k1 p1] (.Tuple vs k2 p2) p) := by
  obtain ⟨g1, g2⟩ := nm_tgs hg
  have g : PG X (.Tuple ts k1 p1) (gOf T.K (.tp (is.map Tg.nm))) := pg_of (sc := sc) (pr := pr) G.kT (G.calm cm) G.hN G.nd (fun y => by rw [G.hs]; exact ⟨fun z => z, fun z => z⟩) hf (.tp (is.map Tg.nm)) _ g1
  refine (ps_asg (pe_tup (aps_aws h)) g (sw_tup _ _ _ _ _ _) (sw_dec G hw) rfl).impC fun D σ H ⟨E, F, c, e', B, q⟩ => ⟨F, c, B.sim, ?_⟩
  simp only [runX, run] at q
  refine (q.ofR B).mono fun ws F1 c1 H1 he st ⟨q1, B1⟩ us r => ⟨?_, fun a ha => ?_⟩
  · have l1 := (Paired.at_ h).1
    have l2 := evWs_len he
    have l3 := r.length
    rw [← l3, l2, l1]
    exact small_line hl
  · split at q1
    · have s2 := B1.sim.newH (p := a) (o := .tup us) ha
      have B2 := B1.stp s2
      have fr : ∀ (n : Nat) (w : W) (b : Addr), ws[n]? = some w → w.own = true → us[n]? = some (.ref b) → ¬ OwnA c1 σ b := fun n w b hn o hu z => by
        obtain ⟨_, o', h', io⟩ := B.sim.own_at (st.osA z)
        exact ((r.at_ n w _ hn hu).2 o b rfl).no h' io
      have r2 : RWs T F1 H (upd H1 a (.tup us)) ws us := r.keepH (upd_old ha)
      obtain ⟨d1, d2⟩ := sets_ok B2 (fun i hi => by rw [e']; exact g2 i hi) r2 B.dom fr q1
      exact ⟨a, us, rfl, .of upd_same, by simp [d2], gs_names d2 d1⟩
    · exact q1.elim
theorem par_imp {is : List Nat} {es : List Ex} (hp : ∀ i ∈ is, i ∉ pr) {D : Ends} {σ : L2.St} {H : Hp} (q : tS T Wx pr (runX P nc k (.par is es)) D σ H) : tWs T Wx (evWs nc (callN P nc k) es) σ H fun vs H1 => D.nx (setsσ σ is vs) H1 ∧ is.length = vs.length := by
  obtain ⟨E, F, c, e', B, q⟩ := q
  refine ⟨F, c, B.sim, ?_⟩
  simp only [runX, run] at q
  refine (q.ofR B).mono fun ws F1 c1 H1 he st ⟨q1, B1⟩ us r => ?_
  split at q1
  · have fr : ∀ (n : Nat) (w : W) (b : Addr), ws[n]? = some w → w.own = true → us[n]? = some (.ref b) → ¬ OwnA c1 σ b := fun n w b hn o hu z => by
      obtain ⟨_, o', h', io⟩ := B.sim.own_at (st.osA z)
      exact ((r.at_ n w _ hn hu).2 o b rfl).no h' io
    exact sets_ok B1 (fun i hi => by rw [e']; exact hp i hi) r B.dom fr q1
  · exact q1.elim
theorem s_par2 (G : Gd Γ T P nc k Wx N sc X) (cm : Γ.cm = true) {i j : Nat} {x y : Str} {es : List Ex} {a b : Expr} {k1 k2 : Nat} {px py p1 p2 p : Pos} (h : APs T P nc k Wx X es [a, b]) (hi : N[i]? = some x) (hj : N[j]? = some y) (hij : i ≠ j) (hx : sc.names.lookup x = some .local) (hy : sc.names.lookup y = some .local) (hpi : i ∉ pr) (hpj : j ∉ pr)
    (hw : swD sc [.Name x px, .Name y py] [a, b] = some (some [x, y])) : SOk T P nc k Wx pr X (.par [i, j] es) (.Assign [.Tuple [.Name x px, .Name y py] k1 p1] (.Tuple [a, b] k2 p2) p) := by
  refine (ps_par (G.calm cm) G.nd' (by rw [G.hN]; exact hi) (by rw [G.hN]; exact hj) hij (by rw [G.hs]; exact hx) (by rw [G.hs]; exact hy) (aps_aws h) (sw_dec G hw) (sw_tup _ _ _ _ _ _)).impC fun D σ H q => ?_
  have q' := par_imp (is := [i, j]) (pr := pr) (fun n hn => by
    rcases List.mem_cons.mp hn with rfl | hn
    · exact hpi
    · rw [List.mem_singleton.mp hn]; exact hpj) q
  obtain ⟨F, c, S, q'⟩ := q'
  refine ⟨F, c, S, q'.mono fun ws F1 c1 H1 _ st q2 vs r => ?_⟩
  obtain ⟨d1, d2⟩ := q2 vs r
  match vs, d2 with
  | [v, u], _ => exact ⟨v, u, rfl, d1⟩
theorem s_par3 (G : Gd Γ T P nc k Wx N sc X) (cm : Γ.cm = true) {i j l : Nat} {x y z : Str} {es : List Ex} {a b c : Expr} {k1 k2 : Nat} {px py pz p1 p2 p : Pos} (h : APs T P nc k Wx X es [a, b, c]) (hi : N[i]? = some x) (hj : N[j]? = some y) (hl : N[l]? = some z) (hij : i ≠ j) (hil : i ≠ l) (hjl : j ≠ l)
    (hx : sc.names.lookup x = some .local) (hy : sc.names.lookup y = some .local) (hz : sc.names.lookup z = some .local) (hp : ∀ n ∈ [i, j, l], n ∉ pr)
    (hw : swD sc [.Name x px, .Name y py, .Name z pz] [a, b, c] = some (some [x, y, z])) : SOk T P nc k Wx pr X (.par [i, j, l] es) (.Assign [.Tuple [.Name x px, .Name y py, .Name z pz] k1 p1] (.Tuple [a, b, c] k2 p2) p) := by
  refine (ps_par3 (G.calm cm) G.nd' (by rw [G.hN]; exact hi) (by rw [G.hN]; exact hj) (by rw [G.hN]; exact hl) hij hil hjl (by rw [G.hs]; exact hx) (by rw [G.hs]; exact hy) (by rw [G.hs]; exact hz) (aps_aws h) (sw_dec G hw) (sw_tup _ _ _ _ _ _)).impC fun D σ H q => ?_
  obtain ⟨F, c, S, q'⟩ := par_imp (is := [i, j, l]) (pr := pr) hp q
  refine ⟨F, c, S, q'.mono fun ws F1 c1 H1 _ st q2 vs r => ?_⟩
  obtain ⟨d1, d2⟩ := q2 vs r
  match vs, d2 with
  | [v, u, w], _ => exact ⟨v, u, w, rfl, d1⟩

/-! ### name = [..] -/
def compSc : Expr → Option Scope
  | .ListComp _ _ s _ => some s
  | .SetComp _ _ s _ => some s
  | .DictComp _ _ _ s _ => some s
  | _ => none
/-- does the store go within -/
def swB (sc : Scope) (x : Expr) (y : Str) (p : Pos) : Bool := match compSc x with
  | none => false
  | some s => sc.names.lookup y == some .local && p.line == x.pos.line && !(s.names.any fun (n, k) => n == y && (k == .local || k == .cell))
theorem sw_set (G : Gd Γ T P nc k Wx N sc X) (x : Expr) (y : Str) (p' : Pos) (l : Nat) : swapsWith x (some (.Name y p')) l X.env = pure (swB sc x y p') := by
  have hb : X.env.blockKind = .function := by
    unfold Env.blockKind
    rw [G.hs, G.kind]; rfl
  have hk : X.env.kindOf y = sc.names.lookup y := by unfold Env.kindOf; rw [G.hs]
  have hbb : (ScopeKind.function == ScopeKind.function) = true := by decide
  unfold swapsWith swB
  cases x <;> first
    | rfl
    | (simp only [compSc, hb, hk, hbb, Bool.true_and]; done)
    | (simp only [compSc, hb, hk, hbb, Bool.true_and]; rfl)
/-- name = {..} on one line, the name a local -/
theorem ps_setDc {X : Cx} {i : Nat} {y : Str} {py : Pos} {kx vx tg iter : Expr} {ifs : List Expr} {scope : Scope} {own : List (Str × Nat)} {pos spos : Pos} {wi : TI} {g : TG} {tt : TT} {tk tv : TE} (hc : X.calm = true) (hN : X.N.Nodup) (hy : X.N[i]? = some y) (hyl : X.env.scope.names.lookup y = some .local)
    (hsw : swapsWith (.DictComp kx vx [⟨tg, iter, ifs, 0⟩] scope pos) (some (.Name y py)) spos.line X.env = pure true) (hi : PI X tg iter wi) (ok : BlkOk X.N X.env.scope scope own)
    (hg : ∀ (s : Shared) (H : Hp) (C : Addr) (cl : List (Str × Addr)) (fp : List Addr), PG (X.blk s H scope (compEnvC scope cl C X.env) fp) tg g) (ht : ∀ (s : Shared) (H : Hp) (C : Addr) (cl : List (Str × Addr)) (fp : List Addr), PTs (X.blk s H scope (compEnvC scope cl C X.env) fp) ifs tt)
    (hk : ∀ (s : Shared) (H : Hp) (C : Addr) (cl : List (Str × Addr)) (fp : List Addr), PE (X.blk s H scope (compEnvC scope cl C X.env) fp) kx tk)
    (he : ∀ (s : Shared) (H : Hp) (C : Addr) (cl : List (Str × Addr)) (fp : List Addr), PE (X.blk s H scope (compEnvC scope cl C X.env) fp) vx tv) (hs : ∀ x, foldedSetIterable iter X.env x = pure x) :
    PS X (.Assign [.Name y py] (.DictComp kx vx [⟨tg, iter, ifs, 0⟩] scope pos) spos) (tAsg (tDc wi g tt tk tv (own.map (·.2))) (gName i)) := by
  refine ⟨fun pins s σ H D I h => ?_⟩
  rw [exec_Assign_Name_used _ _ _ _ hsw]
  refine wpAny_bind (wpAny_standAt (wpAny_bind ?_))
  show wpAny _ X.A (do let _ ← comprehension (.DictComp kx vx [⟨tg, iter, ifs, 0⟩] scope pos) scope X.env (firstIterPos [⟨tg, iter, ifs, 0⟩] pos) newDict false (eval iter X.env) (some (assign (.Name y py) X.env))) _ _ s
  have q : tDc wi g tt tk tv (own.map (·.2)) σ H (fun x H1 => gName i x σ H1 D.nx) := h
  refine wpAny_bind (thn (dc_core (Qf := fun _ s' => SP X pins D .next s') hc hN I hi ok hg ht hk he hs q fun L C s' m H' I' q hn f => ?_) fun _ s' hq => wpAny_pure (wpAny_pure hq))
  show wpAny _ _ (assign (.Name y py) X.env (.ref L)) _ _ _
  refine wpAny_assign_Name (store_ok2 (v := V.ref L) I' hN hy (.inl hyl) rfl (fun s2 J ⟨a, sb, ha⟩ => ?_) (.inr hyl))
  obtain ⟨f0, f1, f2, f3, f4, f5⟩ := f
  have ne : C ≠ a := by
    rcases ha with z | z
    · rw [z]; exact f1
    · exact fun e => f4 y a z e.symm
  exact ⟨m, hn.sameBut sb ne, fun h3 sb3 => ⟨_, H', J.turned (t' := s2.toks) (fun b o hb e => (sb3.2 b hb).trans e) f0 f1 f3 f4 f5, q⟩⟩
section
variable {own : List Nat} {on : List (Str × Nat)} {t : Tg} {it e ek : Ex} {d : Option Ex} {tg iter elt kx vx : Expr} {ifs : List Expr} {scope : Scope} {p p' p2 : Pos} {i : Nat} {y : Str}
theorem set_imp {te : TE} (hp : i ∉ pr) {ex : Ex} (hi : ∀ σ H Q, tE T Wx (evX P nc k ex) σ H Q → te σ H Q) : ∀ D σ H, tS T Wx pr (runX P nc k (.set i ex)) D σ H → tAsg te (gName i) D σ H := fun D σ H ⟨E, F, c, e', B, q⟩ => by
  refine hi σ H _ ⟨F, c, B.sim, ?_⟩
  simp only [runX, run] at q
  refine (q.ofR B).mono fun w F1 c1 H1 _ st ⟨q1, B1⟩ v r => ?_
  exact set_post B st (by rw [e']; exact hp) r q1
theorem s_setlc (G : Gd Γ T P nc k Wx N sc X) (cm : Γ.cm = true) (hy : N[i]? = some y) (hl : sc.names.lookup y = some .local) (hp : i ∉ pr) (hsw : swB sc (.ListComp elt [⟨tg, iter, ifs, 0⟩] scope p) y p' = true) (hi : AIt T P nc k Wx X it tg iter) (hn : noSet iter = true) (ho : ownNames N own = some on) (hb : blkC N sc scope on = true) (ht : tgB N scope [] t tg = true) (hw : tgOwn own t = true)
    (hd : ∀ Y, Gd Γ T P nc k W0 N (relS scope sc) Y → CTs T P nc k Y d ifs) (he : ∀ Y, Gd Γ T P nc k W0 N (relS scope sc) Y → AE T P nc k W0 Y e elt) :
    SOk T P nc k Wx pr X (.set i (.lc own t it d e)) (.Assign [.Name y p'] (.ListComp elt [⟨tg, iter, ifs, 0⟩] scope p) p2) := by
  have ok := blkOk_by hb
  have ok' : BlkOk X.N X.env.scope scope on := by rw [G.hN, G.hs]; exact ok
  refine (ps_setLc (G.calm cm) G.nd' (by rw [G.hN]; exact hy) (by rw [G.hs]; exact hl) (by rw [sw_set G, hsw]) hi ok' (fun s H C cl fp => lc_tg G cm ht s H C cl fp) (fun s H C cl fp => hd _ (G.blk cm ok.kind s H C cl fp)) (fun s H C cl fp => he _ (G.blk cm ok.kind s H C cl fp)) (fun x => noSet_pure hn _ x)).impC fun D σ H q => ?_
  rw [own_names ho]
  exact set_imp hp (fun σ H Q z => lc_imp hw z) D σ H q
theorem s_setdc (G : Gd Γ T P nc k Wx N sc X) (cm : Γ.cm = true) (hy : N[i]? = some y) (hl : sc.names.lookup y = some .local) (hp : i ∉ pr) (hsw : swB sc (.DictComp kx vx [⟨tg, iter, ifs, 0⟩] scope p) y p' = true) (hi : AIt T P nc k Wx X it tg iter) (hn : noSet iter = true) (ho : ownNames N own = some on) (hb : blkC N sc scope on = true) (ht : tgB N scope [] t tg = true) (hw : tgOwn own t = true)
    (hd : ∀ Y, Gd Γ T P nc k W0 N (relS scope sc) Y → CTs T P nc k Y d ifs) (hk : ∀ Y, Gd Γ T P nc k W0 N (relS scope sc) Y → AE T P nc k W0 Y ek kx) (he : ∀ Y, Gd Γ T P nc k W0 N (relS scope sc) Y → AE T P nc k W0 Y e vx) :
    SOk T P nc k Wx pr X (.set i (.dc own t it d ek e)) (.Assign [.Name y p'] (.DictComp kx vx [⟨tg, iter, ifs, 0⟩] scope p) p2) := by
  have ok := blkOk_by hb
  have ok' : BlkOk X.N X.env.scope scope on := by rw [G.hN, G.hs]; exact ok
  refine (ps_setDc (G.calm cm) G.nd' (by rw [G.hN]; exact hy) (by rw [G.hs]; exact hl) (by rw [sw_set G, hsw]) hi ok' (fun s H C cl fp => lc_tg G cm ht s H C cl fp) (fun s H C cl fp => hd _ (G.blk cm ok.kind s H C cl fp)) (fun s H C cl fp => hk _ (G.blk cm ok.kind s H C cl fp)) (fun s H C cl fp => he _ (G.blk cm ok.kind s H C cl fp)) (fun x => noSet_pure hn _ x)).impC fun D σ H q => ?_
  rw [own_names ho]
  exact set_imp hp (fun σ H Q z => dc_imp hw z) D σ H q
end
end
end Cl

/-! Cl, part Pa: raising an error of an own class. -/
namespace Cl
open PySem PySem.Spec PyProof.Rows L2
section
variable {Γ : Gt} {T : Tb} {P : Pg} {nc k : Nat} {Wx : WX} {N : List Str} {sc : Scope} {X : Cx} {pr : List Nat}
theorem s_rse0 (G : Gd Γ T P nc k Wx N sc X) (cm : Γ.cm = true) {c : Nat} {x : Str} {p p1 p2 : Pos} (hc : Γ.xc.lookup x = some (c, none)) (hg : glB sc x = true) : SOk T P nc k Wx pr X (.rse c []) (.Raise (some (.Call (.Name x p) [] [] p1)) none p2) := by
  obtain ⟨g1, g2⟩ := gl_of G hg
  obtain ⟨hm, R⟩ := G.xcs x c _ hc
  refine (ps_raise (G.calm cm) G.tk (pmk_zero R hm g1 g2)).impC fun D σ H ⟨E, F, c1, e', B, q⟩ => ?_
  simp only [runX, run, evDs] at q
  exact q F σ _ none H (fun _ _ h => h) B ⟨rfl, .inl ⟨rfl, rfl⟩⟩
theorem s_rse1 (G : Gd Γ T P nc k Wx N sc X) (cm : Γ.cm = true) {c : Nat} {x f : Str} {e : Ex} {a : Expr} {p p1 p2 : Pos} (hc : Γ.xc.lookup x = some (c, some f)) (hg : glB sc x = true) (h : APs T P nc k Wx X [e] [a]) (hn : noStar a = true) :
    SOk T P nc k Wx pr X (.rse c [e]) (.Raise (some (.Call (.Name x p) [a] [] p1)) none p2) := by
  obtain ⟨g1, g2⟩ := gl_of G hg
  obtain ⟨hm, hf, R, hno, fi, fdd, ps, iC, tI, F1, hb⟩ := G.xcs x c _ hc
  refine (ps_raise (G.calm cm) G.tk (pmk_oex (ds := []) (dvs := []) R iC tI F1 ((G.room cm).mono (by omega)) hb .nil (passes_call G.tk fun _ _ _ _ z => z.elim) g1 hm (aps_ads h) g2 (star_each hn _ _) rfl)).impC fun D σ H ⟨E, F, c1, e', B, q⟩ => ⟨F, c1, B.sim, ?_⟩
  simp only [runX, run] at q
  refine (q.ofR B).mono fun ds F1 c2 H1 he st ⟨q1, B1⟩ vs r => ?_
  have hl := evDs_len he
  match ds, hl, r with
  | [d], _, .cons (v := v) rv .nil =>
    refine ⟨by show 1 ≤ 1000; decide, fun a ha => ⟨a, T.xa c, v, rfl, R, hno, upd_same, fun dx hx hne => ⟨rfl, dx, [(f, v)], upd_same, ?_, ?_, ?_⟩⟩⟩
    · rw [upd_ne hne, upd_same]
    · rw [upd_ne hne] at hx; exact hx
    · have hx1 : H1 dx = none := by rw [upd_ne hne] at hx; exact hx
      have eH : upd (del (upd (upd (upd H1 a (exo a (T.xa c) none)) dx (exd dx [(f, v)])) a (exo a (T.xa c) (some dx))) a) dx (.xd [(f, v)]) = upd H1 dx (.xd [(f, v)]) := by
        funext b
        by_cases e1 : b = dx
        · rw [e1, upd_same, upd_same]
        · rw [upd_ne e1, upd_ne e1]
          by_cases e2 : b = a
          · rw [e2, del_same, ha]
          · rw [del_ne e2, upd_ne e2, upd_ne e1, upd_ne e2]
      rw [eH]
      have st2 := B1.sim.newH (o := .xd [(f, v)]) hx1
      exact q1 F1 σ _ (some dx) _ (fun _ _ h => h) (B1.stp st2) ⟨rfl, .inr ⟨dx, [v], rfl, by rw [hf, upd_same]; rfl, .cons rv .nil, by rw [hf]; rfl⟩⟩
end
end Cl

/-! Cl, part Q: the look at statements and defs; every def keeps its promise. -/
namespace Cl
open PySem PySem.Spec PyProof.Rows L2

/-- names swapped in a row of stores -/
def parB (N : List Str) (sc : Scope) (pr : List Nat) : List Nat → List Expr → List Str → Bool
  | [i, j], [.Name x _, .Name y _], [x', y'] => decide (x = x') && decide (y = y') && decide (N[i]? = some x) && decide (N[j]? = some y) && decide (i ≠ j) && decide (sc.names.lookup x = some .local) && decide (sc.names.lookup y = some .local) && !pr.contains i && !pr.contains j
  | [i, j, l], [.Name x _, .Name y _, .Name z _], [x', y', z'] => decide (x = x') && decide (y = y') && decide (z = z') && decide (N[i]? = some x) && decide (N[j]? = some y) && decide (N[l]? = some z) && decide (i ≠ j) && decide (i ≠ l) && decide (j ≠ l) &&
      decide (sc.names.lookup x = some .local) && decide (sc.names.lookup y = some .local) && decide (sc.names.lookup z = some .local) && !pr.contains i && !pr.contains j && !pr.contains l
  | _, _, _ => false
def isVar : Ex → Option Nat
  | .var i => some i
  | _ => none
def isCmp : Ex → Bool
  | .lc _ _ _ _ _ => true
  | .dc _ _ _ _ _ _ => true
  | _ => false
def noSwap (sc : Scope) (es : List Expr) : Expr → Bool
  | .Tuple vs _ _ => decide (swD sc es vs = some none)
  | _ => true
mutual
def chkS (Γ : Gt) (N : List Str) (pr : List Nat) (sc : Scope) : St → Stmt → Bool
  | .pas, x => match x with
    | .Pass _ => true
    | _ => false
  | .nev, _ => true
  | .expr e, x => match x with
    | .Expr y _ => noComp y && chk Γ N e sc 0 y y
    | _ => false
  | .set i e, x => match x with
    | .Assign [.Name y p'] v _ => decide (N[i]? = some y) && locB sc y && !pr.contains i && chk Γ N e sc 0 v v && (!swB sc v y p' || isCmp e)
    | _ => false
  | .par is es, x => match x with
    | .Assign [.Tuple ts _ _] (.Tuple vs _ _) _ => Γ.cm && chks Γ N es sc vs && decide (vs.length ≤ 1000) && match swD sc ts vs with
      | some none => nmB N sc pr is ts
      | some (some ns) => parB N sc pr is ts ns
      | none => false
    | _ => false
  | .unp t e, x => match x with
    | .Assign [.Tuple es j q] v _ => Γ.cm && chk Γ N e sc 0 v v && tgB N sc pr t (.Tuple es j q) && noSwap sc es v
    | _ => false
  | .six i kx e, x => match x with
    | .Assign [.Subscript o ix _] v _ => chk Γ N e sc 0 v v && varB N sc i o && chk Γ N kx sc 0 ix ix && noSlice ix
    | _ => false
  | .psx i kx j e, x => match x with
    | .Assign [.Tuple [.Subscript o ix p', nx] jn q] v _ => Γ.cm && chk Γ N e sc 0 v v && varB N sc i o && chk Γ N kx sc 0 ix ix && noSlice ix && tgB N sc pr (.nm j) nx && noSwap sc [.Subscript o ix p', nx] v
    | _ => false
  | .aug i o e, x => match x with
    | .AugAssign (.Name y _) op v _ => decide (op = bopO o) && decide (N[i]? = some y) && locB sc y && !pr.contains i && chk Γ N e sc 0 v v
    | _ => false
  | .aix i kx o e, x => match x with
    | .AugAssign (.Subscript b ix _) op v _ => decide (op = bopO o) && chk Γ N e sc 0 v v && varB N sc i b && chk Γ N kx sc 0 ix ix && noSlice ix
    | _ => false
  | .sfl i c j e, x => match x with
    | .Assign [.Attribute o f _] v _ => chk Γ N e sc 0 v v && varB N sc i o && sflB Γ c j f
    | _ => false
  | .ret e, x => match x with
    | .Return (some v) _ => match isVar e with
      | some i => varB N sc i v && !pr.contains i
      | none => chk Γ N e sc 0 v v
    | _ => false
  | .retn, x => match x with
    | .Return none _ => true
    | _ => false
  | .ite d a b, x => match x with
    | .If v xs ys _ => chk Γ N d sc 1 v v && chkSs Γ N pr sc a xs && chkSs Γ N pr sc b ys
    | _ => false
  | .whl _ d b, x => match x with
    | .While v xs [] _ => chk Γ N d sc 1 v v && chkSs Γ N pr sc b xs
    | _ => false
  | .fr t it b, x => match x with
    | .For tg iter xs [] _ => Γ.cm && chk Γ N it sc 2 tg iter && tgB N sc pr t tg && chkSs Γ N pr sc b xs
    | _ => false
  | .tel _ _ _ _, _ => false
  | .rse c es, x => match x with
    | .Raise (some (.Call (.Name y _) as [] _)) none _ => Γ.cm && glB sc y && (match Γ.xc.lookup y with
      | some (c', none) => decide (c = c') && es.isEmpty && as.isEmpty
      | some (c', some _) => decide (c = c') && decide (es.length = 1) && chks Γ N es sc as
      | none => false)
    | _ => false
def chkSs (Γ : Gt) (N : List Str) (pr : List Nat) (sc : Scope) : List St → List Stmt → Bool
  | [], x => match x with
    | [] => true
    | _ => false
  | s :: ss, x => match x with
    | y :: ys => chkS Γ N pr sc s y && chkSs Γ N pr sc ss ys
    | [] => false
end
mutual
theorem tg_pins {N : List Str} {sc : Scope} {pr : List Nat} : ∀ {t : Tg} {e : Expr}, tgB N sc pr t e = true → ∀ i ∈ tgS t, i ∉ pr
  | .nm j, e, h, i, hi => by
    simp only [tgS, List.mem_singleton] at hi
    subst hi
    cases e with
    | Name x p =>
      simp only [tgB, Bool.and_eq_true] at h
      simpa using h.2
    | _ => simp [tgB] at h
  | .tp ts, e, h, i, hi => by
    cases e with
    | Tuple es n p =>
      simp only [tgB] at h
      simp only [tgS] at hi
      exact tgs_pins h i hi
    | _ => simp [tgB] at h
theorem tgs_pins {N : List Str} {sc : Scope} {pr : List Nat} : ∀ {ts : List Tg} {es : List Expr}, tgsB N sc pr ts es = true → ∀ i ∈ tgSs ts, i ∉ pr
  | [], _, _, i, hi => by simp [tgSs] at hi
  | _ :: _, [], h, _, _ => by simp [tgsB] at h
  | t :: ts, e :: es, h, i, hi => by
    have ns : noStar e = true := by
      cases e <;> first | rfl | (simp [tgsB] at h)
    have h' : tgB N sc pr t e = true ∧ tgsB N sc pr ts es = true := by
      cases e <;> first | (cases ns; done) | (simpa [tgsB] using h)
    rw [tgSs, List.mem_append] at hi
    rcases hi with hi | hi
    · exact tg_pins h'.1 i hi
    · exact tgs_pins h'.2 i hi
end
section
variable {Γ : Gt} {T : Tb} {P : Pg} {nc k : Nat} {Wx : WX} {N : List Str} {sc : Scope} {X : Cx} {pr : List Nat}
theorem s_set_ok (G : Gd Γ T P nc k Wx N sc X) (hf : Fnx X sc) {i : Nat} {y : Str} {e : Ex} {v : Expr} {p p' : Pos} (hy : N[i]? = some y) (hl : locB sc y = true) (hp : i ∉ pr) (h : chk Γ N e sc 0 v v = true) (hs : swB sc v y p' = false ∨ isCmp e = true) :
    SOk T P nc k Wx pr X (.set i e) (.Assign [.Name y p'] v p) := by
  cases q : swB sc v y p' with
  | false => exact s_set G (chk_ok e 0 _ _ G h).1 hy hl hf hp (by rw [sw_set G, q])
  | true =>
    have hc : isCmp e = true := by
      rcases hs with z | z
      · rw [q] at z; cases z
      · exact z
    have loc : sc.names.lookup y = some .local := by
      unfold swB at q
      split at q
      · cases q
      · simp only [Bool.and_eq_true] at q
        simpa using q.1.1
    cases e with
    | lc own t it d e =>
      simp only [chk, gen] at h
      split at h
      · simp only [Bool.and_eq_true] at h
        obtain ⟨⟨⟨⟨⟨⟨cm, h1⟩, h2⟩, h3⟩, h4⟩, h5⟩, h6⟩ := h
        split at h2
        · rename_i on hon
          exact s_setlc G cm hy loc hp q (chk_ok it 2 _ _ G h1).1 (chk_ok it 2 _ _ G h1).2 hon h2 h3 h4 (fun Y G' => chkC_ok d _ G' h5) (fun Y G' => (chk_ok e 0 _ _ G' h6).1)
        · cases h2
      · cases h
    | dc own t it d ek e =>
      simp only [chk, gen] at h
      split at h
      · simp only [Bool.and_eq_true] at h
        obtain ⟨⟨⟨⟨⟨⟨⟨cm, h1⟩, h2⟩, h3⟩, h4⟩, h5⟩, h6⟩, h7⟩ := h
        split at h2
        · rename_i on hon
          exact s_setdc G cm hy loc hp q (chk_ok it 2 _ _ G h1).1 (chk_ok it 2 _ _ G h1).2 hon h2 h3 h4 (fun Y G' => chkC_ok d _ G' h5) (fun Y G' => (chk_ok ek 0 _ _ G' h6).1) (fun Y G' => (chk_ok e 0 _ _ G' h7).1)
        · cases h2
      · cases h
    | _ => cases hc
theorem nc_of {pr : List Nat} {i : Nat} (h : (!pr.contains i) = true) : i ∉ pr := by simpa using h
theorem s_par_ok (G : Gd Γ T P nc k Wx N sc X) (cm : Γ.cm = true) (hf : Fnx X sc) {is : List Nat} {es : List Ex} {ts vs : List Expr} {k1 k2 : Nat} {p1 p2 p : Pos} (h : APs T P nc k Wx X es vs) (hl : vs.length ≤ 1000) (hs : (match swD sc ts vs with
      | some none => nmB N sc pr is ts
      | some (some ns) => parB N sc pr is ts ns
      | none => false) = true) : SOk T P nc k Wx pr X (.par is es) (.Assign [.Tuple ts k1 p1] (.Tuple vs k2 p2) p) := by
  split at hs
  · rename_i hw
    exact s_par G cm h hl hs hf hw
  · rename_i ns hw
    unfold parB at hs
    split at hs
    · simp only [Bool.and_eq_true, decide_eq_true_eq] at hs
      obtain ⟨⟨⟨⟨⟨⟨⟨⟨rfl, rfl⟩, h3⟩, h4⟩, h5⟩, h6⟩, h7⟩, h8⟩, h9⟩ := hs
      have hlen : vs.length = 2 := by
        unfold swD at hw
        split at hw
        · cases hw
        · rename_i hc
          simp at hc
          exact hc
      match vs, hlen with
      | [a, b], _ => exact s_par2 G cm h h3 h4 h5 h6 h7 (nc_of h8) (nc_of h9) hw
    · simp only [Bool.and_eq_true, decide_eq_true_eq] at hs
      obtain ⟨⟨⟨⟨⟨⟨⟨⟨⟨⟨⟨⟨⟨⟨rfl, rfl⟩, rfl⟩, h4⟩, h5⟩, h6⟩, h7⟩, h8⟩, h9⟩, g1⟩, g2⟩, g3⟩, g4⟩, g5⟩, g6⟩ := hs
      have hlen : vs.length = 3 := by
        unfold swD at hw
        split at hw
        · cases hw
        · rename_i hc
          simp at hc
          exact hc
      match vs, hlen with
      | [a, b, c], _ => exact s_par3 G cm h h4 h5 h6 h7 h8 h9 g1 g2 g3 (fun n hn => by
          simp only [List.mem_cons, List.not_mem_nil, or_false] at hn
          rcases hn with rfl | rfl | rfl
          · exact nc_of g4
          · exact nc_of g5
          · exact nc_of g6) hw
    · cases hs
  · cases hs
theorem noSwap_ok (G : Gd Γ T P nc k Wx N sc X) {es : List Expr} {j : Nat} {q : Pos} {v : Expr} (h : noSwap sc es v = true) : swappedStores [.Tuple es j q] v X.env = pure none := by
  cases v with
  | Tuple vs _ _ => exact sw_dec G (of_decide_eq_true h)
  | _ => rfl
mutual
theorem chkS_ok (G : Gd Γ T P nc k Wx N sc X) (hf : Fnx X sc) (ho : PassesOwn (model X.prog X.w) X.A X.env X.xe) : ∀ (s : St) (x : Stmt), chkS Γ N pr sc s x = true → SOk T P nc k Wx pr X s x
  | .pas, x, h => by
    simp only [chkS] at h
    split at h
    · exact s_pas
    · cases h
  | .nev, x, h => s_nev
  | .expr e, x, h => by
    simp only [chkS] at h
    split at h
    · simp only [Bool.and_eq_true] at h
      exact s_expr (chk_ok e 0 _ _ G h.2).1 h.1
    · cases h
  | .set i e, x, h => by
    simp only [chkS] at h
    split at h
    · simp only [Bool.and_eq_true, decide_eq_true_eq, Bool.or_eq_true, Bool.not_eq_true'] at h
      obtain ⟨⟨⟨⟨h1, h2⟩, h3⟩, h4⟩, h5⟩ := h
      exact s_set_ok G hf h1 h2 (by simpa using h3) h4 h5
    · cases h
  | .par is es, x, h => by
    simp only [chkS] at h
    split at h
    · simp only [Bool.and_eq_true, decide_eq_true_eq] at h
      exact s_par_ok G h.1.1.1 hf (chks_ok es _ G h.1.1.2) h.1.2 h.2
    · cases h
  | .unp t e, x, h => by
    simp only [chkS] at h
    split at h
    · simp only [Bool.and_eq_true] at h
      exact s_unp G h.1.1.1 (chk_ok e 0 _ _ G h.1.1.2).1 h.1.2 (tg_pins h.1.2) hf (noSwap_ok G h.2)
    · cases h
  | .six i kx e, x, h => by
    simp only [chkS] at h
    split at h
    · simp only [Bool.and_eq_true] at h
      exact s_six G (chk_ok e 0 _ _ G h.1.1.1).1 h.1.1.2 (chk_ok kx 0 _ _ G h.1.2).2 h.2
    · cases h
  | .psx i kx j e, x, h => by
    simp only [chkS] at h
    split at h
    · simp only [Bool.and_eq_true] at h
      obtain ⟨⟨⟨⟨⟨⟨h1, h2⟩, h3⟩, h4⟩, h5⟩, h6⟩, h7⟩ := h
      exact s_psx G h1 (chk_ok e 0 _ _ G h2).1 h3 (chk_ok kx 0 _ _ G h4).2 h5 h6 (tg_pins h6 j (by simp [tgS])) hf (noSwap_ok G h7)
    · cases h
  | .aug i o e, x, h => by
    simp only [chkS] at h
    split at h
    · simp only [Bool.and_eq_true, decide_eq_true_eq] at h
      obtain ⟨⟨⟨⟨rfl, h1⟩, h2⟩, h3⟩, h4⟩ := h
      exact s_aug G (chk_ok e 0 _ _ G h4).1 h1 h2 hf (nc_of h3)
    · cases h
  | .aix i kx o e, x, h => by
    simp only [chkS] at h
    split at h
    · simp only [Bool.and_eq_true, decide_eq_true_eq] at h
      obtain ⟨⟨⟨⟨rfl, h1⟩, h2⟩, h3⟩, h4⟩ := h
      exact s_aix G (chk_ok e 0 _ _ G h1).1 h2 (chk_ok kx 0 _ _ G h3).1 h4
    · cases h
  | .sfl i c j e, x, h => by
      simp only [chkS] at h
      split at h
      · simp only [Bool.and_eq_true] at h
        exact s_sfl G (chk_ok e 0 _ _ G h.1.1).1 h.1.2 h.2
      · cases h
  | .ret e, x, h => by
    simp only [chkS] at h
    split at h
    · split at h
      · rename_i i hi
        simp only [Bool.and_eq_true] at h
        have : e = .var i := by cases e <;> simp [isVar] at hi; rw [hi]
        subst this
        exact s_retv G h.1 (nc_of h.2)
      · rename_i hi
        exact s_ret (chk_ok e 0 _ _ G h).1 fun i z => by subst z; cases hi
    · cases h
  | .retn, x, h => by
    simp only [chkS] at h
    split at h
    · exact s_retn
    · cases h
  | .ite d a b, x, h => by
    simp only [chkS] at h
    split at h
    · simp only [Bool.and_eq_true] at h
      exact s_ite (chk_ok d 1 _ _ G h.1.1).1 (chkSs_ok G hf ho a _ h.1.2) (chkSs_ok G hf ho b _ h.2)
    · cases h
  | .whl n d b, x, h => by
    simp only [chkS] at h
    split at h
    · simp only [Bool.and_eq_true] at h
      exact s_whl ho (chk_ok d 1 _ _ G h.1).1 (chkSs_ok G hf ho b _ h.2)
    · cases h
  | .fr t it b, x, h => by
    simp only [chkS] at h
    split at h
    · simp only [Bool.and_eq_true] at h
      obtain ⟨⟨⟨cm, h1⟩, h2⟩, h3⟩ := h
      exact s_fr (G.calm cm) G.kT ho (chk_ok it 2 _ _ G h1).1 (chk_ok it 2 _ _ G h1).2 (pg_of (sc := sc) (pr := pr) G.kT (G.calm cm) G.hN G.nd (fun y => by rw [G.hs]; exact ⟨fun z => z, fun z => z⟩) hf t _ h2) (tg_pins h2) (chkSs_ok G hf ho b _ h3)
    · cases h
  | .tel _ _ _ _, x, h => by simp [chkS] at h
  | .rse c es, x, h => by
    simp only [chkS] at h
    split at h
    · rename_i y p as p1 p2
      simp only [Bool.and_eq_true] at h
      obtain ⟨⟨cm, hg⟩, h⟩ := h
      split at h
      · rename_i c' hx
        simp only [Bool.and_eq_true, decide_eq_true_eq, List.isEmpty_iff] at h
        obtain ⟨⟨rfl, rfl⟩, rfl⟩ := h
        exact s_rse0 G cm hx hg
      · rename_i c' f hx
        simp only [Bool.and_eq_true, decide_eq_true_eq] at h
        obtain ⟨⟨rfl, hl⟩, h⟩ := h
        have hs := chks_ok es _ G h
        have hst := chks_star h
        match es, as, hl, hs, hst with
        | [e], [a], _, hs, hst => exact s_rse1 G cm hx hg hs (by have := hst.1; simpa using this)
      · cases h
    · cases h
theorem chkSs_ok (G : Gd Γ T P nc k Wx N sc X) (hf : Fnx X sc) (ho : PassesOwn (model X.prog X.w) X.A X.env X.xe) : ∀ (ss : List St) (xs : List Stmt), chkSs Γ N pr sc ss xs = true → SsOk T P nc k Wx pr X ss xs
  | [], x, h => by
    simp only [chkSs] at h
    split at h
    · exact ss_nil
    · cases h
  | s :: ss, x, h => by
    simp only [chkSs] at h
    split at h
    · simp only [Bool.and_eq_true] at h
      exact ss_cons (chkS_ok G hf ho s _ h.1) (chkSs_ok G hf ho ss _ h.2)
    · cases h
end
end
end Cl

/-! Cl, part Qb: a def that is told a lambda. -/
namespace Cl
open PySem PySem.Spec PyProof.Rows L2

/-- the suite's table: the error at a, its dict -/
def Tb.held (T : Tb) (a : Addr) (ob : List (Addr × HO)) : Tb := { T with fa := fun j => if j = 999 then a else T.fa j, ob := ob ++ T.ob }
section
variable {T : Tb} {P : Pg} {nc k : Nat} {N : List Str} {F F' H H' : Hp} {c c' : Sg} {σ σ' : L2.St} {E : Ent}
def NoOwn (c : Sg) : Prop := ∀ (i : Nat) (w : W), c[i]? = some (some w) → w.own = false
theorem NoOwn.osA (h : NoOwn c) {a : Addr} : ¬ OwnA c σ a := fun ⟨i, w, h1, h2, _⟩ => by rw [h i w h1] at h2; cases h2
theorem simple_no (h : simpleS c = true) : NoOwn c := fun i w e => by
  have := List.all_eq_true.mp h _ (List.mem_of_getElem? e)
  exact simple_own this
/-- a new entry -/
theorem Bd.fresh (S : Sim T F c σ H) (n : NoOwn c) : Bd T ⟨F, c, σ, H, []⟩ F c σ H where
  gr := fun _ _ h => h
  sim := S
  s0 := S
  fr := fun _ _ h _ _ => h
  ow := fun i w a h o _ => by rw [n i w h] at o; cases o
  pw := fun i h => nomatch h
  dom := fun _ h => h
  nf := fun _ _ h => .inl h
  pin := fun i h => nomatch h
theorem Bd.stp0 (B : Bd T E F c σ H) (n : NoOwn E.c0) : Stp T [] E.F0 [] E.H0 F [] H where
  gr := B.gr
  sim := ⟨B.sim.sub, rfl, fun i w h => by simp at h, fun i j w u a h => by simp at h, B.sim.ft, B.sim.tb⟩
  fr := fun a o h p _ => B.fr a o h p n.osA
  os := fun i w h => by simp at h
  dom := B.dom
  nf := fun a o h => by
    rcases B.nf a o h with z | z | z
    · exact .inl z
    · exact .inr (.inl z)
    · exact absurd z n.osA
/-- simple results do not depend on the table -/
theorem RS.simple {T T' : Tb} {w : W} {v : V} (h : simpleW w = true) (r : RS T F H w v) : RS T' F' H' w v := by
  cases w with
  | d x => cases x with
    | non => cases r; exact .non
    | bl b => cases r; exact .bl b
    | int i => cases r; exact .int i
    | str s => cases r; exact .str s
    | _ => cases h
  | _ => cases h
theorem Stp.unheld {a : Addr} {ob : List (Addr × HO)} (s : Stp (T.held a ob) [] F [] H F' [] H') : Stp T [] F [] H F' [] H' := ⟨s.gr, ⟨s.sim.sub, rfl, fun i w h => by simp at h, fun i j w u a h => by simp at h, s.sim.ft, ⟨s.sim.tb.1, fun p hp => s.sim.tb.2 p (List.mem_append.mpr (.inr hp))⟩⟩, s.fr, s.os, s.dom, s.nf⟩
theorem Sim.unheld {a : Addr} {ob : List (Addr × HO)} {i : Nat} (s : Sim (T.held a ob) F c σ H) (h : simpleS (c.set i none) = true) : Sim T F (c.set i none) (σ.set i none) H := by
  have hl := s.len
  refine ⟨s.sub, by rw [List.length_set, List.length_set]; exact hl, fun j w e => ?_, fun j l w u b e o => ?_, s.ft, ⟨s.tb.1, fun p hp => s.tb.2 p (List.mem_append.mpr (.inr hp))⟩⟩
  · have hs := List.all_eq_true.mp h _ (List.mem_of_getElem? e)
    rw [get_set] at e
    split at e
    · cases e
    · rename_i ne
      obtain ⟨v, h1, h2⟩ := s.at_ j w e
      refine ⟨v, ?_, h2.simple hs⟩
      rw [get_set, if_neg (fun z => ne ⟨z.1, by rw [hl]; exact z.2⟩)]
      exact h1
  · have hs := List.all_eq_true.mp h _ (List.mem_of_getElem? e)
    rw [simple_own hs] at o; cases o
/-- what a run's outcome is as a result -/
def outW : Out → Option W
  | .nx _ => some (.d .non)
  | .rt w _ => some w
  | _ => none
theorem post_ok {ss : List St} {w : W} {Q : VK} (S : Sim T F c σ H) (n : NoOwn c) (hw : outW (runs nc (callN P nc k) ss c) = some w) (hs : simpleW w = true) (q : ∀ F2 v H2, Stp T [] F [] H F2 [] H2 → RS T F2 H2 w v → Q v H2) :
    tS T (fun _ _ _ _ => False) [] (runsX P nc k ss) { nx := fun _ H' => Q .non H', rt := Q } σ H := by
  refine ⟨⟨F, c, σ, H, []⟩, F, c, rfl, Bd.fresh S n, ?_⟩
  show PostS _ _ _ _ (runs nc (callN P nc k) ss c) _
  cases hr : runs nc (callN P nc k) ss c with
  | bad => rw [hr] at hw; cases hw
  | exc _ _ _ => rw [hr] at hw; cases hw
  | nx c' =>
    rw [hr] at hw; cases hw
    exact fun F' σ' H' g B => q F' _ H' (B.stp0 n) .non
  | rt w' c' =>
    rw [hr] at hw; cases hw
    exact fun F' σ' H' v g B r => q F' v H' (B.stp0 n) r.1
/-- the same within a suite: what follows is post -/
theorem suite_ok {a : Addr} {ob : List (Addr × HO)} {i : Nat} {B post : List St} {w : W} {Q : VK} (S : Sim (T.held a ob) F c σ H) (n : NoOwn c)
    (hw : outW ((runs nc (callN P nc k) B c).seq fun c1 => if simpleS (c1.set i none) then runs nc (callN P nc k) post (c1.set i none) else .bad) = some w) (hs : simpleW w = true) (q : ∀ F2 v H2, Stp T [] F [] H F2 [] H2 → RS T F2 H2 w v → Q v H2)
    {DN : L2.St → Hp → Prop} {DR' : VK} (hD : ∀ σ' H', tS T (fun _ _ _ _ => False) [] (runsX P nc k post) { nx := fun _ H' => Q .non H', rt := Q } (σ'.set i none) H' → DN σ' H') (hR : ∀ v H', Q v H' → DR' v H') {bk ct : L2.St → Hp → Prop} :
    tS (T.held a ob) (fun _ _ _ _ => False) [] (runsX P nc k B) { nx := DN, rt := DR', bk := bk, ct := ct } σ H := by
  refine ⟨⟨F, c, σ, H, []⟩, F, c, rfl, Bd.fresh S n, ?_⟩
  show PostS _ _ _ _ (runs nc (callN P nc k) B c) _
  cases hr : runs nc (callN P nc k) B c with
  | bad => rw [hr] at hw; cases hw
  | exc _ _ _ => rw [hr] at hw; cases hw
  | nx c' =>
    rw [hr, Out.seq_nx] at hw
    split at hw
    · rename_i hsi
      refine fun F' σ' H' g Bb => hD σ' H' (post_ok (Bb.sim.unheld hsi) (simple_no hsi) hw hs fun F2 v H2 st r => ?_)
      exact q F2 v H2 ((Bb.stp0 n).unheld.trans st) r
    · cases hw
  | rt w' c' =>
    rw [hr, Out.seq_rt] at hw; cases hw
    exact fun F' σ' H' v g Bb r => hR v H' (q F' v H' (Bb.stp0 n).unheld (r.1.simple hs))
end
/-! ### isinstance of the held error -/
theorem ise_ok {Y : Cx} {T' : Tb} {cl : Calls} {nc i : Nat} {b : Bool} {a D : Addr} {oe : Obj} {d : Option Addr} {pn : List (Addr × Obj)} {Wx : WX} {y x : Str} {p1 p2 p3 p4 : Pos} {cv : Value} {v : V} (ha : T'.fa 999 = a) (hd : ∀ dd, d = some dd → ∃ fs, (dd, HO.xd fs) ∈ T'.ob) (C : ExcC Y.K D) (hz : Zc (.ref D) d oe)
    (hf : ∃ vs, oe.data = .fields vs) (hN : Y.N[i]? = some y) (hv : Vis Y.env.scope y) (d1 : (y == ("__debug__" : Str)) = false) (d2 : (y == ("__classdict__" : Str)) = false) (hx : PE (Y.suite a ((a, oe) :: pn)) (.Name x p3) (tC v)) (ru : ∀ u, RelV v u → u = cv)
    (kit : PySem.W.kitOne Y.K (.ref D) cv = some b) (hg : Gl Y "isinstance") (hm : Y.mg "isinstance" = none) : PE (Y.suite a ((a, oe) :: pn)) (.Call (.Name "isinstance" p1) [.Name y p2, .Name x p3] [] p4) (tE T' Wx (ev nc cl (.ise i b))) := by
  have hv' : Vis (Y.suite a ((a, oe) :: pn)).env.scope y := hv
  have hN' : (Y.suite a ((a, oe) :: pn)).N[i]? = some y := hN
  refine (pe_callB (X := Y.suite a ((a, oe) :: pn)) (call_err C hz hf) hg hm rfl (pa_cons (pe_var hN' hv' d1 d2) (pa_cons hx pa_nil))).impC fun σ H Q ⟨F, c, S, q⟩ => ?_
  simp only [ev] at q
  split at q
  · rename_i n hc
    split at q
    · rename_i hn
      subst hn
      obtain ⟨u, h1, h2⟩ := S.at_ i _ hc
      have h3 : u = .ref a := by
        cases h2
        rw [ha]
      subst h3
      refine ⟨_, h1, fun dd hdd => ?_, v, cv, b, rfl, ru, kit, q F H (.refl S) _ ⟨.bl b, fun z => nomatch z⟩⟩
      obtain ⟨fs, hm⟩ := hd dd hdd
      exact ⟨fs, (S.tb.2 _ hm).2.2⟩
    · exact q.elim
  · exact q.elim
end Cl

/-! Cl, part Qc: the look at a def that is told a lambda; it keeps its promise. -/
namespace Cl
open PySem PySem.Spec PyProof.Rows L2

def sufG (Γ : Gt) (en : Str) (k : Nat) : Gt := { Γ with fn := [], con := [], cls := [], cm := false, lm := [], ei := some (en, k), xc := [], gd := false, fng := [] }
def posG (Γ : Gt) : Gt := { Γ with fn := [], lm := [], xc := [], gd := false, fng := [] }
def telB (Γ : Gt) (N : List Str) (sc : Scope) (en : Str) (ks : List Nat) (hb : List Stmt) : St → Bool
  | .tel i k b r => decide (N[i]? = some en) && decide (k ∈ ks) && chkSs (sufG Γ en k) N [] sc b hb && telB Γ N sc en ks hb r
  | .nev => true
  | _ => false
/-- the suite for the errors of class k -/
def telF (k : Nat) : St → Option (Nat × List St)
  | .tel i k' b r => if k' = k then some (i, b) else telF k r
  | _ => none
theorem telB_at {Γ : Gt} {N : List Str} {sc : Scope} {en : Str} {ks : List Nat} {hb : List Stmt} {k i : Nat} {b : List St} : ∀ t : St, telB Γ N sc en ks hb t = true → telF k t = some (i, b) → N[i]? = some en ∧ k ∈ ks ∧ chkSs (sufG Γ en k) N [] sc b hb = true
  | .tel i' k' b' r, h, e => by
    simp only [telB, Bool.and_eq_true, decide_eq_true_eq] at h
    obtain ⟨⟨⟨h1, h2⟩, h3⟩, h4⟩ := h
    rw [telF] at e
    split at e
    · rename_i q
      subst q
      cases e
      exact ⟨h1, h2, h3⟩
    · exact telB_at r h4 e
  | .pas, _, e => nomatch e
  | .expr _, _, e => nomatch e
  | .set _ _, _, e => nomatch e
  | .par _ _, _, e => nomatch e
  | .unp _ _, _, e => nomatch e
  | .six _ _ _, _, e => nomatch e
  | .aug _ _ _, _, e => nomatch e
  | .aix _ _ _ _, _, e => nomatch e
  | .sfl _ _ _ _, _, e => nomatch e
  | .ret _, _, e => nomatch e
  | .retn, _, e => nomatch e
  | .ite _ _ _, _, e => nomatch e
  | .whl _ _ _, _, e => nomatch e
  | .fr _ _ _, _, e => nomatch e
  | .rse _ _, _, e => nomatch e
  | .psx _ _ _ _, _, e => nomatch e
  | .nev, _, e => nomatch e
/-- how the chain runs on an error of class k -/
theorem tel_run {Γ : Gt} {N : List Str} {sc : Scope} {en : Str} {ks : List Nat} {hb : List Stmt} {nc : Nat} {cl : Calls} {k : Nat} {σ : Sg} (h0 : σ[(0 : Nat)]? = some (some (.d (.int (k : Int))))) : ∀ t : St, telB Γ N sc en ks hb t = true →
    (∃ i b, telF k t = some (i, b) ∧ run nc cl t σ = (runs nc cl b ((σ.set 0 none).set i (some (.d (.fn 999))))).seq fun σ1 => if simpleS (σ1.set i none) then .nx (σ1.set i none) else .bad) ∨ run nc cl t σ = .bad
  | .tel i k' b r, h => by
    simp only [telB, Bool.and_eq_true, decide_eq_true_eq] at h
    by_cases e : k' = k
    · refine .inl ⟨i, b, by rw [telF, if_pos e], ?_⟩
      simp only [run, h0]
      rw [if_pos (by rw [e])]
    · have hr : run nc cl (.tel i k' b r) σ = run nc cl r σ := by
        simp only [run, h0]
        rw [if_neg (fun z => e (by exact_mod_cast z.symm))]
      rw [hr]
      rcases tel_run h0 r h.2 with ⟨i2, b2, h1, h2⟩ | h
      · exact .inl ⟨i2, b2, by rw [telF, if_neg e]; exact h1, h2⟩
      · exact .inr h
  | .nev, _ => .inr rfl
  | .pas, h => nomatch h
  | .expr _, h => nomatch h
  | .set _ _, h => nomatch h
  | .par _ _, h => nomatch h
  | .unp _ _, h => nomatch h
  | .six _ _ _, h => nomatch h
  | .aug _ _ _, h => nomatch h
  | .aix _ _ _ _, h => nomatch h
  | .sfl _ _ _ _, h => nomatch h
  | .ret _, h => nomatch h
  | .retn, h => nomatch h
  | .ite _ _ _, h => nomatch h
  | .whl _ _ _, h => nomatch h
  | .fr _ _ _, h => nomatch h
  | .rse _ _, h => nomatch h
  | .psx _ _ _ _, h => nomatch h
/-- how it runs where nothing was raised -/
theorem tel_non {Γ : Gt} {N : List Str} {sc : Scope} {en : Str} {ks : List Nat} {hb : List Stmt} {nc : Nat} {cl : Calls} {σ : Sg} (h0 : σ[(0 : Nat)]? = some (some (.d .non))) : ∀ t : St, telB Γ N sc en ks hb t = true → run nc cl t σ = .nx (σ.set 0 none) ∨ run nc cl t σ = .bad
  | .tel i k' b r, h => .inl (by simp only [run, h0])
  | .nev, _ => .inr rfl
  | .pas, h => nomatch h
  | .expr _, h => nomatch h
  | .set _ _, h => nomatch h
  | .par _ _, h => nomatch h
  | .unp _ _, h => nomatch h
  | .six _ _ _, h => nomatch h
  | .aug _ _ _, h => nomatch h
  | .aix _ _ _ _, h => nomatch h
  | .sfl _ _ _ _, h => nomatch h
  | .ret _, h => nomatch h
  | .retn, h => nomatch h
  | .ite _ _ _, h => nomatch h
  | .whl _ _ _, h => nomatch h
  | .fr _ _ _, h => nomatch h
  | .rse _ _, h => nomatch h
  | .psx _ _ _ _, h => nomatch h
end Cl

/-! Cl, part Qd: defs; the promise of those that are told a lambda. -/
namespace Cl
open PySem PySem.Spec PyProof.Rows L2

/-- a def: as it is written, and as it is run clean -/
structure Df where
  name : Str
  qual : Str
  st : Stmt
  ps : List Str
  N : List Str
  fd : Fd
  /-- a name of the module -/
  gl : Bool := true
  /-- it makes lambdas -/
  tb : Bool := false
  /-- it wants that no guard is up -/
  rp : Bool := false
def fnScB (N P : List Str) (sc : Scope) : Bool :=
  decide (sc.kind = .function) && !sc.isCoroutine && !sc.isGenerator && decide N.Nodup && decide (N.take P.length = P) && (P.all fun x => locB sc x) && sc.names.all fun y => decide (y.2 ≠ .free)
theorem fnSc_ok {N P : List Str} {sc : Scope} (h : fnScB N P sc = true) : FnScope N P sc := by
  unfold fnScB at h
  simp only [Bool.and_eq_true, decide_eq_true_eq, Bool.not_eq_true', List.all_eq_true] at h
  obtain ⟨⟨⟨⟨⟨⟨h1, h2⟩, h3⟩, h4⟩, h5⟩, h6⟩, h7⟩ := h
  refine ⟨h1, h2, h3, h4, h5, fun x hx => ?_, h7⟩
  have := h6 x hx
  unfold locB at this
  split at this
  · exact .inl (by assumption)
  · exact .inr (by assumption)
  · cases this
/-- the look at a def that is told a lambda -/
def chkG (Γ : Gt) (d : Df) : Bool := fnScB d.N d.ps (defScope d.st) && decide (d.fd.np = 1) && decide (d.fd.nn = d.N.length) && d.fd.io.isEmpty && match d.ps, defBody d.st, d.fd.body, Γ.cat with
  | [a], .Try [.Expr (.Call (.Name a' _) [] [] _) _] [.ExceptHandler (some (.Name ex _)) (some en) (b0 :: hb) _] [] [] _ :: rest, t :: post, some (cx, ks) =>
    decide (a' = a) && decide (ex = cx) && glB (defScope d.st) ex && decide ((defScope d.st).names.lookup en = some .local) && d.N.contains en && visB (defScope d.st) a && !(a == ("__debug__" : Str)) && !(a == ("__classdict__" : Str)) &&
      telB Γ d.N (defScope d.st) en ks (b0 :: hb) t && chkSs (posG Γ) d.N [] (defScope d.st) post rest
  | _, _, _, _ => false
def gOfD (Γ : Gt) (d : Df) : Gt := { Γ with lm := if d.tb then Γ.lm else [], gd := d.rp }
def chkD (Γ : Gt) (d : Df) : Bool := d.fd.mkC.isSome || (d.fd.mkC.isNone && d.fd.lm && chkG Γ d) || (d.fd.mkC.isNone && !d.fd.lm && (
  fnScB d.N d.ps (defScope d.st) && decide (d.fd.np = d.ps.length) && decide (d.fd.nn = d.N.length) && (d.fd.io.all fun i => decide (i < d.fd.np)) && chkSs (gOfD Γ d) d.N d.fd.io (defScope d.st) d.fd.body (defBody d.st)))
/-- what the written part says -/
structure Tx (Γ : Gt) (T : Tb) (Ds : List Df) (nc : Nat) (mg : Str → Option Value) (fdo : Nat → FuncData) : Prop where
  blt : ∀ x ∈ bnames, mg x = none
  con : ∀ x d, Γ.con.lookup x = some d → ∃ u v, mg x = some u ∧ RelV v u ∧ ∀ F, DR T F d v
  cls : ∀ x c, Γ.cls.lookup x = some c → mg x = some (.ref (T.ca c)) ∧ c < nc
  fns : ∀ x f, Γ.fn.lookup x = some f → ∃ d, Ds[f]? = some d ∧ (((d.fd.mkC = none ∧ d.fd.lm = false) ∧ d.rp = false ∧ mg x = some (.ref (T.fa f))) ∨ ∃ c i di, d.fd.mkC = some (c, i) ∧ Ds[i]? = some di ∧ ((di.fd.mkC = none ∧ di.fd.lm = false) ∧ di.rp = false) ∧ di.fd.np = d.fd.np + 1 ∧ mg x = some (.ref (T.ca c)) ∧ Mk T.K (T.ca c) (T.fa i))
  fun_ : ∀ f d, Ds[f]? = some d → d.fd.mkC = none → Fun T.K d.name d.qual d.st (T.fa f) (fdo f) ∧ Binds T.K (fdo f) d.ps []
  cok : ClsOk T nc
  cfn : Γ.cfs.length = nc
  cfe : ∀ c, T.cf c = Γ.cfs.getD c []
  cm : Γ.cm = true
  fng : ∀ x f, Γ.fng.lookup x = some f → ∃ d, Ds[f]? = some d ∧ (d.fd.mkC = none ∧ d.fd.lm = false) ∧ d.rp = true ∧ mg x = some (.ref (T.fa f))
  ein : Γ.ei = none
  isx : ∀ x bs, Γ.isx.lookup x = some bs → ∃ (v : V) (cv : Value), ((mg x = some cv) ∨ (mg x = none ∧ bootBuiltins x = some cv ∧ x ≠ "__name__")) ∧ RelV v cv ∧ (∀ u, RelV v u → u = cv) ∧ ∀ n b, bs.lookup n = some b → ExcC T.K (T.xa n) ∧ PySem.W.kitOne T.K (.ref (T.xa n)) cv = some b
  cat : ∀ x ks, Γ.cat = some (x, ks) → ∃ CS, mg x = some (.ref CS) ∧ ∀ n ∈ ks, PySem.W.exmOne T.K (.ref (T.xa n)) (.ref CS) = some true
  lam : ∀ x g, Γ.lm.lookup x = some g → ∃ d, Ds[g]? = some d ∧ d.fd.mkC = none ∧ d.fd.lm = true ∧ d.name = x ∧ d.qual = x ∧ mg x = some (.ref (T.fa g))
  xcs : ∀ (P : Program) (w : World) (base : Heap) x c o, Γ.xc.lookup x = some (c, o) → mg x = some (.ref (T.xa c)) ∧ match o with
    | none => Exc0 T.K (T.xa c)
    | some f => T.xf c = [f] ∧ OexC T.K (T.xa c) ∧ PySem.W.findIn T.K (.ref (T.xa c)) f = some none ∧ ∃ fi fdd ps, PySem.W.findIn T.K (.ref (T.xa c)) "__init__" = some (some (.ref fi)) ∧ PySem.W.typeIn T.K (.ref fi) = some (.type "function") ∧ FnOk P w T.K mg base (CX P w) 1 fi fdd ps (spX T.K f) ∧ Binds T.K fdd ps []
abbrev pgOf (Ds : List Df) : Pg := Ds.map (·.fd)
end Cl

/-! Cl, part Qe: defs that are told a lambda keep their promise. -/
namespace Cl
open PySem PySem.Spec PyProof.Rows L2

theorem chkG_at {Γ : Gt} {d : Df} (h : chkG Γ d = true) : FnScope d.N d.ps (defScope d.st) ∧ d.fd.np = 1 ∧ d.fd.nn = d.N.length ∧ d.fd.io = [] ∧ ∃ (a ex en : Str) (p1 p2 p3 p4 p5 p6 : Pos) (b0 : Stmt) (hb rest : List Stmt) (t : St) (post : List St) (ks : List Nat),
    d.ps = [a] ∧ defBody d.st = .Try [.Expr (.Call (.Name a p1) [] [] p2) p3] [.ExceptHandler (some (.Name ex p4)) (some en) (b0 :: hb) p5] [] [] p6 :: rest ∧ d.fd.body = t :: post ∧ Γ.cat = some (ex, ks) ∧ glB (defScope d.st) ex = true ∧ (defScope d.st).names.lookup en = some .local ∧ en ∈ d.N ∧
      visB (defScope d.st) a = true ∧ (a == ("__debug__" : Str)) = false ∧ (a == ("__classdict__" : Str)) = false ∧ telB Γ d.N (defScope d.st) en ks (b0 :: hb) t = true ∧ chkSs (posG Γ) d.N [] (defScope d.st) post rest = true := by
  unfold chkG at h
  simp only [Bool.and_eq_true, decide_eq_true_eq] at h
  obtain ⟨⟨⟨⟨sc, hnp⟩, hnn⟩, hio⟩, hc⟩ := h
  refine ⟨fnSc_ok sc, hnp, hnn, by simpa using hio, ?_⟩
  split at hc
  · simp only [Bool.and_eq_true, decide_eq_true_eq, Bool.not_eq_true'] at hc
    obtain ⟨⟨⟨⟨⟨⟨⟨⟨⟨rfl, rfl⟩, hgx⟩, hen⟩, hin⟩, hva⟩, d1⟩, d2⟩, htel⟩, hpost⟩ := hc
    exact ⟨_, _, _, _, _, _, _, _, _, _, _, _, _, _, _, by assumption, by assumption, by assumption, by assumption, hgx, hen, by simpa using hin, hva, d1, d2, htel, hpost⟩
  · cases hc
theorem vis_by {sc : Scope} {x : Str} (h : visB sc x = true) : Vis sc x := by
  unfold visB at h
  split at h <;> first | exact .inl (by assumption) | exact .inr (.inl (by assumption)) | exact .inr (.inr (by assumption)) | cases h
theorem gl_by {sc : Scope} {x : Str} (h : glB sc x = true) : sc.names.lookup x = some .globalImplicit ∧ (x == ("__debug__" : Str)) = false := by
  unfold glB at h
  rw [Bool.and_eq_true] at h
  exact ⟨of_decide_eq_true h.1, by simpa using h.2⟩
section
variable {Γ : Gt} {T : Tb} {Ds : List Df} {nc : Nat} {mg : Str → Option Value} {fdo : Nat → FuncData}
theorem clsOk_held {n : Nat} (C : ClsOk T n) {a : Addr} {ob : List (Addr × HO)} : ClsOk (T.held a ob) n := fun k hk => by
  have c := C k hk
  exact ⟨c.cl, c.ha, c.hn, c.ht, c.hm, c.to, c.of, c.own, c.na, c.nd, c.few⟩
abbrev zcx (Y : Cx) (N : List Str) (x : Str) (sc : Scope) (g : Addr) (cdg : Value) (s : Shared) (H : Hp) : Cx := (cxOf C8.CX0 Y.prog Y.w Y.K Y.mg Y.base N x sc g cdg Y.A Y.stack s H C8.E0).nox
/-- what follows the try -/
theorem gd_post (X : Tx Γ T Ds nc mg fdo) {k : Nat} {Y : Cx} {N : List Str} {x : Str} {sc : Scope} {g : Addr} {cdg : Value} {s : Shared} {H : Hp} (nd : N.Nodup) (kd : sc.kind = .function) (hK : Y.K = T.K) (hM : Y.mg = mg) (hr : Room (5 * k + 3) (zcx Y N x sc g cdg s H).A) :
    Gd (posG Γ) T (pgOf Ds) nc k (fun _ _ _ _ => False) N sc (zcx Y N x sc g cdg s H) where
  kT := hK
  hN := rfl
  nd := nd
  hs := rfl
  calm := fun _ => rfl
  un := by have := hr.un; omega
  room := fun _ => hr.mono (by omega)
  blt := by subst hM; exact X.blt
  con := by subst hM; exact X.con
  cls := by subst hM; exact X.cls
  fns := fun x f h => nomatch h
  gd := fun h => nomatch h
  fng := fun x f h => nomatch h
  tk := LamX.takes0
  cok := X.cok
  cfn := X.cfn
  cfe := X.cfe
  eic := fun _ => X.ein
  lms := fun x g h => nomatch h
  ies := fun i y n c bs b h => by
    have h : Γ.ei = some (y, n) := h
    rw [X.ein] at h; cases h
  xcs := fun x c o h => nomatch h
  kind := kd
/-- the suite -/
theorem gd_suite (X : Tx Γ T Ds nc mg fdo) {k n : Nat} {en : Str} {Y : Cx} {N : List Str} {x : Str} {sc : Scope} {g a : Addr} {cdg : Value} {s : Shared} {H : Hp} {oe : Obj} {dd : Option Addr} {pn : List (Addr × Obj)} {ob : List (Addr × HO)} (nd : N.Nodup) (kd : sc.kind = .function) (hK : Y.K = T.K) (hM : Y.mg = mg)
    (hr : Room (5 * k + 3) (zcx Y N x sc g cdg s H).A) (hz : Zc (.ref (T.xa n)) dd oe) (hf : ∃ vs, oe.data = .fields vs) (hob : ∀ d0, dd = some d0 → ∃ fs, (d0, HO.xd fs) ∈ ob) :
    Gd (sufG Γ en n) (T.held a ob) (pgOf Ds) nc k (fun _ _ _ _ => False) N sc ((zcx Y N x sc g cdg s H).suite a ((a, oe) :: pn)) where
  kT := hK
  hN := rfl
  nd := nd
  hs := rfl
  calm := fun h => nomatch h
  un := by
    have := hr.un
    show (zcx Y N x sc g cdg s H).A.units + 66 < cLine
    omega
  room := fun h => nomatch h
  blt := by subst hM; exact X.blt
  con := fun x d h => nomatch h
  cls := fun x c h => nomatch h
  fns := fun x f h => nomatch h
  gd := fun h => nomatch h
  fng := fun x f h => nomatch h
  tk := LamX.takes0
  cok := clsOk_held X.cok
  cfn := X.cfn
  cfe := X.cfe
  eic := fun h => nomatch h
  lms := fun x g h => nomatch h
  ies := fun i y m c bs b h hbs hb hi hl d1 d2 hg hgi p1 p2 p3 p4 => by
    cases h
    obtain ⟨v, cv, hcv, rv, ru, kit⟩ := X.isx c bs hbs
    obtain ⟨C, kit⟩ := kit _ b hb
    rw [← hK] at C kit
    obtain ⟨g1, g2⟩ := gl_by hg
    obtain ⟨g3, _⟩ := gl_by hgi
    refine ise_ok (Y := zcx Y N x sc g cdg s H) (by show (if (999 : Nat) = 999 then a else T.fa 999) = a; rw [if_pos rfl]) (fun d0 h0 => ?_) C hz hf hi (.inl hl) d1 d2 ?_ ru kit g3 (by show Y.mg _ = none; rw [hM]; exact X.blt _ (by decide +kernel))
    · obtain ⟨fs, hm⟩ := hob d0 h0
      exact ⟨fs, List.mem_append.mpr (.inl hm)⟩
    · rcases hcv with hcv | ⟨h1, h2, h3⟩
      · exact pe_glob g1 (by show Y.mg c = _; rw [hM]; exact hcv) rv g2
      · exact pe_bltn g1 (by show Y.mg c = _; rw [hM]; exact h1) h2 rv h3 g2
  xcs := fun x c o h => nomatch h
  kind := kd
theorem pe_weak {X : Cx} {e : Expr} {te : TE} (h : PE X e te) : PE X e (fun σ H Q => ∃ Q0, te σ H Q0 ∧ ∀ v H', Q0 v H' → Q v H') :=
  ⟨fun pins s σ H Q I ⟨Q0, h0, hq⟩ => thn (h.run pins s σ H Q0 I h0) fun u s1 ⟨v, H1, I1, r, q⟩ => ⟨v, H1, I1, r, hq v H1 q⟩⟩
theorem callN_lm {P : Pg} {fd : Fd} {k g : Nat} {x : D} {w : W} {os : List W} (hp : P[g]? = some fd) (hm : fd.mkC = none) (hnp : fd.np = 1) (h : callN P nc (k + 1) g [.d x] = .ok w os) : outW (runs nc (callN P nc k) fd.body (some (.d x) :: List.replicate (fd.nn - 1) none)) = some w := by
  simp only [callN, hp, hm, hnp] at h
  split at h
  · have e : ([W.d x].map some ++ List.replicate (fd.nn - 1) none) = (some (.d x) :: List.replicate (fd.nn - 1) none) := rfl
    rw [e] at h
    cases hr : runs nc (callN P nc k) fd.body (some (.d x) :: List.replicate (fd.nn - 1) none) with
    | bad => rw [hr] at h; cases h
    | nx σ => rw [hr] at h; cases h; rfl
    | rt w' σ => rw [hr] at h; cases h; rfl
    | exc _ _ σ => rw [hr] at h; cases h
  · cases h
theorem seq_seq {o : Out} {f g : Sg → Out} : (o.seq f).seq g = o.seq fun c => (f c).seq g := by cases o <;> rfl
theorem rep_none {n i : Nat} {w : W} : ¬ (List.replicate n (none : Option W))[i]? = some (some w) := fun h => by
  rw [List.getElem?_replicate] at h
  split at h <;> cases h
theorem giv_ok (X : Tx Γ T Ds nc mg fdo) {k g : Nat} {d : Df} (hd : Ds[g]? = some d) (hm : d.fd.mkC = none) (hc : chkG Γ d = true) {cdg : Value} {q : Str} {Y : Cx} (hK : Y.K = T.K) (hM : Y.mg = mg) (hr : Room (5 * k + 4) Y.A) :
    ∃ a, d.ps = [a] ∧ d.N[0]? = some a ∧ Vis (defScope d.st) a ∧ (a == ("__debug__" : Str)) = false ∧ (a == ("__classdict__" : Str)) = false ∧ FnScope d.N d.ps (defScope d.st) ∧ LamX.GivesTo Y d.N d.name (defScope d.st) (T.fa g) cdg (defBody d.st) a q (TTof T (pgOf Ds) nc k g) := by
  obtain ⟨S, hnp, hnn, hio, a, ex, en, p1, p2, p3, p4, p5, p6, b0, hb, rest, t, post, ks, hps, hbody, hfd, hcat, hgx, hen, hin, hva, d1, d2, htel, hpost⟩ := chkG_at hc
  have h0 : d.N[0]? = some a := by
    have := S.pre
    rw [hps] at this
    cases hN : d.N with
    | nil => rw [hN] at this; simp at this
    | cons y ys => rw [hN] at this; simp at this; simp [this]
  have hn1 : 1 ≤ d.N.length := by have := lt_of_get h0; omega
  refine ⟨a, hps, h0, vis_by hva, d1, d2, S, ?_⟩
  intro f c' s H Q tl act hco h
  have hp : (pgOf Ds)[g]? = some d.fd := by rw [List.getElem?_map, hd]; rfl
  obtain ⟨CS, hCS, hexm⟩ := X.cat ex ks hcat
  obtain ⟨g1, g2⟩ := gl_by hgx
  obtain ⟨i, hi⟩ : ∃ i, d.N[i]? = some en := by
    obtain ⟨i, h1, h2⟩ := List.mem_iff_getElem.mp hin
    exact ⟨i, by rw [List.getElem?_eq_getElem h1, h2]⟩
  have hil := lt_of_get hi
  have same : ∀ {j}, d.N[j]? = some en → j = i := fun {j} hj => ((List.getElem?_inj (lt_of_get hj) S.nd).mp (by rw [hj, hi]))
  have hl0 : (List.replicate d.N.length (none : Option W)).length = d.N.length := List.length_replicate
  have start_ : ∀ x : W, ((some x :: List.replicate (d.fd.nn - 1) none : Sg).set 0 none) = List.replicate d.N.length none := fun x => by
    rw [hnn, List.set_cons_zero, ← List.replicate_succ]
    congr 1
    omega
  -- what callN says, in parts
  have said : ∀ {x : D} {F' H' : Hp} {Q : VK}, GR T (pgOf Ds) nc k g x F' H' Q → ∃ w, outW ((run nc (callN (pgOf Ds) nc (k - 1)) t (some (.d x) :: List.replicate (d.fd.nn - 1) none)).seq fun c => runs nc (callN (pgOf Ds) nc (k - 1)) post c) = some w ∧ simpleW w = true ∧ ∀ F2 v H2, Stp T [] F' [] H' F2 [] H2 → RS T F2 H2 w v → Q v H2 := fun {x F' H' Q} ⟨w, os, h1, h2, h3⟩ => by
    cases k with
    | zero => cases h1
    | succ k =>
      have := callN_lm hp hm hnp h1
      rw [hfd] at this
      exact ⟨w, this, h2, h3⟩
  have hr3 : Room (5 * (k - 1) + 3) (zcx Y d.N d.name (defScope d.st) (T.fa g) cdg s H).A := (hr.deeper _).mono (by omega)
  refine ⟨_, by
    rw [hbody]
    exact pss_cons (ps_try_as (X := zcx Y d.N d.name (defScope d.st) (T.fa g) cdg s H) (c := .ref CS) (i := i)
      (tb := fun W D σ H => ∃ (Ech : XK) (Q0 : VK), (∀ cls d σ' H', Ech cls d H' → W cls d σ' H') ∧ σ[0]? = some (some (.ref f)) ∧ H c' = some (LamX.CodeO c' q) ∧ tl Ech H Q0 ∧ ∀ v H', Q0 v H' → D.nx σ H')
      (ts := fun a0 cls dd D σ H => σ.length = d.N.length → ∃ e B ob, cls = .ref (T.xa e) ∧ telF e t = some (i, B) ∧ (∀ d0, dd = some d0 → ∃ fs, (d0, HO.xd fs) ∈ ob) ∧ tS (T.held a0 ob) (fun _ _ _ _ => False) [] (runsX (pgOf Ds) nc (k - 1) B) D σ H)
      (Wout := fun _ _ _ _ => False) rfl rfl S.nd hi hen ⟨g1, g2, .inl (by show Y.mg ex = _; rw [hM]; exact hCS)⟩ LamX.takes0
      (fun W pn xe tk _ => ⟨fun pins s' σ H' D I ⟨Ech, Q0, hW, h1, h2, h3, hq⟩ => (pss_one (ps_expr (pe_weak (act W pn xe Ech p1 p2 tk hW)) (sw_no rfl _ _ _))).run pins s' σ H' D I ⟨Q0, ⟨h1, h2, h3⟩, hq⟩⟩)
      (fun a0 oe cls dd pn hz hf => ⟨fun pins s' σ H' D I hts => by
        obtain ⟨e, B, ob, rfl, ht, hob, z⟩ := hts I.len
        obtain ⟨_, _, hB⟩ := telB_at t htel ht
        exact (chkSs_ok (gd_suite X S.nd S.kind hK hM hr3 hz hf hob) (fun _ _ => rfl) PassesOwn.never B (b0 :: hb) hB).run pins s' σ H' D I z⟩))
      (chkSs_ok (gd_post X S.nd S.kind hK hM hr3) (fun _ _ => rfl) PassesOwn.never post rest hpost), ?_⟩
  refine ⟨_, _, fun cls dd σ' H' hE => ?_, rfl, hco, h, fun v H' hq => ?_⟩
  · obtain ⟨F', e, ds, S0, xr, hG⟩ := hE
    obtain ⟨w, ho, hs, hq⟩ := said hG
    rcases tel_run (nc := nc) (cl := callN (pgOf Ds) nc (k - 1)) (k := e) (σ := some (.d (.int (e : Int))) :: List.replicate (d.fd.nn - 1) none) rfl t htel with ⟨i', B, ht, hrun⟩ | hrun
    · obtain ⟨hi', hk, _⟩ := telB_at t htel ht
      obtain rfl := same hi'
      rw [hrun, start_, seq_seq] at ho
      refine ⟨true, by rw [xr.1]; show PySem.W.exmOne Y.K _ _ = _; rw [hK]; exact hexm e hk, fun _ a0 ha0 hlen => ?_, fun z => nomatch z⟩
      rw [List.length_set] at hlen
      have main : ∀ ob : List (Addr × HO), (∀ p ∈ ob, isOwn p.2 = false ∧ (∀ ps, p.2 ≠ .tbl ps) ∧ H' p.1 = some p.2) → Sim (T.held a0 ob) F' ((List.replicate d.N.length none).set i' (some (.d (.fn 999)))) (σ'.set i' (some (.ref a0))) H' := fun ob hob => by
        refine ⟨S0.sub, by rw [List.length_set, List.length_set, hl0, hlen], fun j w' hj => ?_, fun j l w1 w2 b h1 o1 => ?_, S0.ft, ⟨S0.tb.1, fun p hp => (List.mem_append.mp hp).elim (hob p) (S0.tb.2 p)⟩⟩
        · rw [get_set] at hj
          split at hj
          · rename_i hc
            cases hj
            refine ⟨.ref a0, by rw [get_set, if_pos ⟨hc.1, by rw [hlen]; exact hil⟩], ?_⟩
            have : (T.held a0 ob).fa 999 = a0 := by show (if (999 : Nat) = 999 then a0 else T.fa 999) = a0; rw [if_pos rfl]
            have z := DR.fn (T := T.held a0 ob) (F := F') 999
            rw [this] at z
            exact z
          · exact absurd hj rep_none
        · rw [get_set] at h1
          split at h1
          · cases h1; cases o1
          · exact absurd h1 rep_none
      have noO : NoOwn ((List.replicate d.N.length none).set i' (some (.d (.fn 999)))) := fun j w' hj => by
        rw [get_set] at hj
        split at hj
        · cases hj; rfl
        · exact absurd hj rep_none
      have ho' : outW ((runs nc (callN (pgOf Ds) nc (k - 1)) B ((List.replicate d.N.length none).set i' (some (.d (.fn 999))))).seq fun c1 => if simpleS (c1.set i' none) then runs nc (callN (pgOf Ds) nc (k - 1)) post (c1.set i' none) else .bad) = some w := by
        rw [← ho]
        congr 2
        funext c1
        split <;> rfl
      obtain ⟨ob, h1, h2⟩ : ∃ ob : List (Addr × HO), (∀ p ∈ ob, isOwn p.2 = false ∧ (∀ ps, p.2 ≠ .tbl ps) ∧ H' p.1 = some p.2) ∧ ∀ d0, dd = some d0 → ∃ fs, (d0, HO.xd fs) ∈ ob := by
        rcases xr.2 with ⟨_, rfl⟩ | ⟨d0, vs, rfl, hx, _⟩
        · exact ⟨[], (fun p hp => nomatch hp), (fun d0 z => nomatch z)⟩
        · refine ⟨[(d0, .xd ((T.xf e).zip vs))], fun p hp => ?_, fun d1 z => ?_⟩
          · rw [List.mem_singleton] at hp
            subst hp
            exact ⟨rfl, (fun ps z => nomatch z), hx⟩
          · cases z
            exact ⟨_, List.mem_singleton.mpr rfl⟩
      exact ⟨e, B, ob, xr.1, ht, h2, suite_ok (post := post) (Q := Q) (main ob h1) noO ho' hs hq (fun σ2 H2 z => z) (fun v H2 z => z)⟩
    · rw [hrun] at ho
      cases ho
  · obtain ⟨F', S0, hG⟩ := hq
    obtain ⟨w, ho, hs, hq⟩ := said hG
    rcases tel_non (nc := nc) (cl := callN (pgOf Ds) nc (k - 1)) (σ := some (.d .non) :: List.replicate (d.fd.nn - 1) none) rfl t htel with hrun | hrun
    · rw [hrun, Out.seq_nx, start_] at ho
      have Sz : Sim T F' (List.replicate d.N.length none) (L2.start d.N [.ref f]) H' := by
        refine ⟨S0.sub, ?_, fun j w' hj => absurd hj rep_none, fun j l w1 w2 b h1 o1 => absurd h1 rep_none, S0.ft, S0.tb⟩
        rw [hl0]
        show _ = ([V.ref f].map some ++ List.replicate (d.N.length - 1) none).length
        rw [List.length_append, List.length_replicate]
        show _ = 1 + _
        omega
      exact post_ok Sz (fun j w' hj => absurd hj rep_none) ho hs hq
    · rw [hrun] at ho
      cases ho
end
end Cl

/-! Cl, part R: every def keeps its promise. -/
namespace Cl
open PySem PySem.Spec PyProof.Rows L2

section
variable {Γ : Gt} {T : Tb} {Ds : List Df} {nc : Nat} {mg : Str → Option Value} {fdo : Nat → FuncData} {P : Program} {w : World} {base : Heap}
theorem get_map_some {α : Type} {l : List α} {n : Nat} {x : α} : (l.map some)[n]? = some (some x) ↔ l[n]? = some x := by
  rw [List.getElem?_map]
  cases l[n]? with
  | none => simp
  | some y => simp
theorem get_ext {α : Type} {l : List α} {m n : Nat} {x : α} : (l.map some ++ List.replicate m none)[n]? = some (some x) ↔ l[n]? = some x := by
  rw [List.getElem?_append]
  split
  · exact get_map_some
  · rename_i h
    rw [List.length_map] at h
    rw [List.getElem?_replicate, List.getElem?_eq_none (Nat.le_of_not_lt h)]
    split <;> simp
theorem ownA_ext {ws : List W} {vs : List V} {m n : Nat} {a : Addr} : OwnA (ws.map some ++ List.replicate m none) (vs.map some ++ List.replicate n none) a ↔ OwnA (ws.map some) (vs.map some) a := by
  constructor
  · rintro ⟨i, w, h1, h2, h3⟩
    exact ⟨i, w, get_map_some.mpr (get_ext.mp h1), h2, get_map_some.mpr (get_ext.mp h3)⟩
  · rintro ⟨i, w, h1, h2, h3⟩
    exact ⟨i, w, get_ext.mpr (get_map_some.mp h1), h2, get_ext.mpr (get_map_some.mp h3)⟩
theorem ownIx_at : ∀ {ws : List W} {b i : Nat}, i ∈ ownIx b ws → ∃ n w, i = b + n ∧ ws[n]? = some w ∧ w.own = true
  | [], b, i, h => by simp [ownIx] at h
  | w :: ws, b, i, h => by
    rw [ownIx] at h
    have tl : i ∈ ownIx (b + 1) ws → ∃ n w', i = b + n ∧ (w :: ws)[n]? = some w' ∧ w'.own = true := fun h => by
      obtain ⟨n, w', e1, e2, e3⟩ := ownIx_at h
      exact ⟨n + 1, w', by omega, by simpa using e2, e3⟩
    split at h
    · rename_i ow
      rcases List.mem_cons.mp h with rfl | h
      · exact ⟨0, w, rfl, rfl, ow⟩
      · exact tl h
    · exact tl h
theorem outs_pair {R : Nat → W → Prop} {c : Sg} : ∀ {is : List Nat} {os : List W}, outsOf c is = some os → (∀ i ∈ is, ∀ o : W, c[i]? = some (some o) → o.own = true → R i o) → Paired R is os
  | [], os, h, _ => by simp only [outsOf] at h; cases h; exact .nil
  | i :: is, os, h, k => by
    simp only [outsOf] at h
    split at h
    · rename_i o os' h1 h2
      split at h
      · rename_i ow
        cases h
        exact .cons (k i List.mem_cons_self o h1 ow) (outs_pair h2 fun j hj => k j (List.mem_cons_of_mem _ hj))
      · cases h
    · cases h
/-- the name of a lambda that d makes -/
def qL (d : Df) : Str := (envOfC d.qual (defScope d.st) 0 0 .none).qual ++ "<lambda>"
/-- the tables of the defs that make lambdas -/
def Tabd (T : Tb) (Ds : List Df) (base : Heap) (mg : Str → Option Value) : Prop := ∀ (f : Nat) (d : Df), Ds[f]? = some d → d.tb = true → ∃ c Pt, (∀ oc od fd osl, T.K.lookup (T.fa f) = some ⟨oc, od, .func fd, osl⟩ → fd.code = .ref c) ∧ LamX.TabB base mg c Pt ∧ (Pt, qL d) ∈ T.tl ∧ ∀ p ∈ T.tl, p.1 = Pt → p.2 = qL d
theorem chkD_at {d : Df} (cd : chkD Γ d = true) (hm : d.fd.mkC = none ∧ d.fd.lm = false) : FnScope d.N d.ps (defScope d.st) ∧ d.fd.np = d.ps.length ∧ d.fd.nn = d.N.length ∧ (∀ i ∈ d.fd.io, i < d.fd.np) ∧ chkSs (gOfD Γ d) d.N d.fd.io (defScope d.st) d.fd.body (defBody d.st) = true := by
  unfold chkD at cd
  rw [hm.1, hm.2] at cd
  simp only [Bool.not_false, Bool.false_and, Bool.or_false, Option.isSome_none, Option.isNone_none, Bool.false_or, Bool.true_and, Bool.and_false, Bool.and_eq_true, decide_eq_true_eq, List.all_eq_true] at cd
  obtain ⟨⟨⟨⟨sc, hnp⟩, hnn⟩, hio⟩, hb⟩ := cd
  exact ⟨fnSc_ok sc, hnp, hnn, hio, hb⟩
/-- a def's body, where the defs that it calls keep their promises -/
theorem fn_body (X : Tx Γ T Ds nc mg fdo) (hc : (Ds.all fun d => chkD Γ d) = true) (hT : Tabd T Ds base mg) {k : Nat}
    (I1 : ∀ (f : Nat) (d : Df), Ds[f]? = some d → d.fd.mkC = none ∧ d.fd.lm = false → d.rp = false → FnOk P w T.K mg base (CX P w) (5 * k) (T.fa f) (fdo f) d.ps (spR T (pgOf Ds) nc k f d.fd.np))
    (I2 : ∀ (f : Nat) (d : Df), Ds[f]? = some d → d.fd.mkC = none ∧ d.fd.lm = false → d.rp = true → FnG P w T.K mg base (CX P w) (5 * k) (T.fa f) (fdo f) d.ps (spR T (pgOf Ds) nc k f d.fd.np))
    (I3 : ∀ (f : Nat) (d : Df), Ds[f]? = some d → d.fd.mkC = none ∧ d.fd.lm = false → d.rp = false → FnOk P w T.K mg base (CX P w) (5 * (k - 1)) (T.fa f) (fdo f) d.ps (spR T (pgOf Ds) nc (k - 1) f d.fd.np))
    {f : Nat} {d : Df} (hd : Ds[f]? = some d) (hm : d.fd.mkC = none ∧ d.fd.lm = false) (S : FnScope d.N d.ps (defScope d.st)) (hnp : d.fd.np = d.ps.length) (hnn : d.fd.nn = d.N.length) (hio : ∀ i ∈ d.fd.io, i < d.fd.np) (hb : chkSs (gOfD Γ d) d.N d.fd.io (defScope d.st) d.fd.body (defBody d.st) = true)
    {oc : Value} {od : Option Addr} {cdv : Value} {fd0 : FuncData} {osl : Array (Option Value)} (lk : T.K.lookup (T.fa f) = some ⟨oc, od, .func fd0, osl⟩) (hcdv : fd0.code = cdv)
    {A : Around} {outer : List Env} {s : Shared} {H : Hp} {vs : List V} {Q : VK} {E : XK} (hgd : d.rp = true → A.guards = some []) (hr : Room (5 * k + 4) (A.deeper (envOfC d.qual (defScope d.st) s.heap.objs.size (T.fa f) cdv))) (hsp : spR T (pgOf Ds) nc (k + 1) f d.fd.np vs H Q E) :
    ∃ t, PSs (cxOf (CX P w) P w T.K mg base d.N d.qual (defScope d.st) (T.fa f) cdv A outer s H E) (defBody d.st) t ∧ t { nx := fun _ H' => Q .non H', rt := Q } (start d.N vs) H := by
    obtain ⟨F0, ws, hlen, sim0, q⟩ := hsp
    have G : Gd (gOfD Γ d) T (pgOf Ds) nc k (fun cls d _ H => E cls d H) d.N (defScope d.st) (cxOf (CX P w) P w T.K mg base d.N d.qual (defScope d.st) (T.fa f) cdv A outer s H E) := {
      kT := rfl
      hN := rfl
      nd := S.nd
      hs := rfl
      calm := fun _ => rfl
      un := by have h1 : (A.deeper (envOfC d.qual (defScope d.st) s.heap.objs.size (T.fa f) cdv)).units + 16 * (5 * k + 4) + 200 < cLine := hr.un; show (A.deeper (envOfC d.qual (defScope d.st) s.heap.objs.size (T.fa f) cdv)).units + 66 < cLine; omega
      room := fun _ => hr.mono (by omega)
      blt := X.blt
      con := X.con
      cls := X.cls
      fns := fun x g hg => by
        obtain ⟨d', h2, ⟨m', rp', h1⟩ | ⟨cc, i, di, m', h3, m2, hnp', h1, M⟩⟩ := X.fns x g hg
        · obtain ⟨F', bi'⟩ := X.fun_ g d' h2 m'.1
          exact ⟨X.cm, d'.fd, by rw [List.getElem?_map, h2]; rfl, .inl ⟨fdo g, d'.ps, I1 g d' h2 m' rp', h1, F'.kp, bi'⟩⟩
        · obtain ⟨F', bi'⟩ := X.fun_ i di h3 m2.1.1
          refine ⟨X.cm, d'.fd, by rw [List.getElem?_map, h2]; rfl, .inr ⟨cc, i, fdo i, di.ps, m', ?_, h1, M, bi'⟩⟩
          rw [← hnp']
          exact I3 i di h3 m2.1 m2.2
      gd := hgd
      fng := fun x g hg => by
        obtain ⟨d', h2, m', rp', h1⟩ := X.fng x g hg
        obtain ⟨F', bi'⟩ := X.fun_ g d' h2 m'.1
        exact ⟨X.cm, d'.fd, fdo g, d'.ps, by rw [List.getElem?_map, h2]; rfl, I2 g d' h2 m' rp', h1, F'.kp, bi'⟩
      tk := takes_of rfl rfl rfl rfl
      cok := X.cok
      cfn := X.cfn
      cfe := X.cfe
      xcs := X.xcs P w base
      eic := fun _ => X.ein
      ies := fun i y n c bs b h => by
        have h : Γ.ei = some (y, n) := h
        rw [X.ein] at h; cases h
      lms := fun x g hg => by
        have hg : (if d.tb then Γ.lm else []).lookup x = some g := hg
        split at hg
        · rename_i htb
          obtain ⟨d', h2, m2, l2, rfl, hq, hmg⟩ := X.lam x g hg
          have cg := List.all_eq_true.mp hc d' (List.mem_of_getElem? h2)
          unfold chkD at cg
          rw [m2, l2] at cg
          simp only [Option.isSome_none, Option.isNone_none, Bool.not_true, Bool.false_and, Bool.and_false, Bool.or_false, Bool.false_or, Bool.true_and] at cg
          obtain ⟨F', bi'⟩ := X.fun_ g d' h2 m2
          obtain ⟨oc', od', kV', doc', pm', an', cdv', ct', osl', efd', lk', hcd'⟩ := F'.ex
          rw [efd'] at lk' bi'
          rw [hq] at lk' bi' hcd'
          obtain ⟨c, Pt, t1, t2, t3, t4⟩ := hT f d hd htb
          obtain ⟨a, hps, h0, hva, e1, e2, S', _⟩ := giv_ok (nc := nc) X (k := k) h2 m2 cg (cdg := cdv') (q := qL d) (Y := cxOf (CX P w) P w T.K mg base d.N d.qual (defScope d.st) (T.fa f) cdv A outer s H E) rfl rfl hr
          rw [hps] at bi' S'
          refine ⟨hr, _, _, _, _, _, _, _, _, _, _, _, _, _, d'.N, a, c, Pt, hmg, F'.kp, lk', hcd', bi', S', h0, hva, fun X' q1 q2 q3 q4 q5 q6 => ?_, t2, (hcdv ▸ t1 _ _ _ _ lk), t3, t4, e1, e2⟩
          obtain ⟨a', hps', _, _, _, _, _, hG⟩ := giv_ok (nc := nc) X (k := k) h2 m2 cg (cdg := cdv') (q := qL d) (Y := X') q3 q4 (by rw [q6]; exact hr)
          rw [hps] at hps'
          cases hps'
          exact hG
        · cases hg
      kind := S.kind }
    have body := chkSs_ok (pr := d.fd.io) G (fun _ _ => rfl) (passes_of (K := fun e s'' => CX P w outer H s E e s'') (E₁ := fun e s'' => CX P w outer H s E e s'') rfl) d.fd.body (defBody d.st) hb
    refine ⟨_, body, ?_⟩
    have hp : (pgOf Ds)[f]? = some d.fd := by rw [List.getElem?_map, hd]; rfl
    simp only [callN, hp, hm.1] at q
    by_cases hcond : ws.length = d.fd.np ∧ d.fd.np ≤ d.fd.nn ∧ ioOk ws d.fd.io = true
    · rw [if_pos hcond] at q
      obtain ⟨c1, c2, c3⟩ := hcond
      have ioat : ∀ i w, ws[i]? = some w → w.own = d.fd.io.contains i := fun i w h => by
        have := List.all_eq_true.mp c3 i (List.mem_range.mpr (lt_of_get h))
        rw [h] at this
        simpa using this
      have e0 : start d.N vs = vs.map some ++ List.replicate (d.N.length - vs.length) none := rfl
      have oA : ∀ a, OwnA (ws.map some ++ List.replicate (d.fd.nn - d.fd.np) none) (start d.N vs) a ↔ OwnA (ws.map some) (vs.map some) a := fun a => by rw [e0]; exact ownA_ext
      have S0 : Sim T F0 (ws.map some ++ List.replicate (d.fd.nn - d.fd.np) none) (start d.N vs) H := by
        rw [e0]
        refine ⟨sim0.sub, ?_, fun i w h => ?_, fun i j w u a h1 o1 h2 o2 h3 h4 => ?_, sim0.ft, sim0.tb⟩
        · rw [List.length_append, List.length_append, List.length_map, List.length_map, List.length_replicate, List.length_replicate, hlen, c1, hnn]
        · obtain ⟨v, g1, g2⟩ := sim0.at_ i w (get_map_some.mpr (get_ext.mp h))
          exact ⟨v, get_ext.mpr (get_map_some.mp g1), g2⟩
        · exact sim0.inj i j w u a (get_map_some.mpr (get_ext.mp h1)) o1 (get_map_some.mpr (get_ext.mp h2)) o2 (get_map_some.mpr (get_ext.mp h3)) (get_map_some.mpr (get_ext.mp h4))
      have B0 : Bd T ⟨F0, ws.map some ++ List.replicate (d.fd.nn - d.fd.np) none, start d.N vs, H, d.fd.io⟩ F0 (ws.map some ++ List.replicate (d.fd.nn - d.fd.np) none) (start d.N vs) H := {
        gr := fun _ _ h => h
        sim := S0
        s0 := S0
        fr := fun _ _ h _ _ => h
        ow := fun i w a h o e => .inl (by
          have := ioat i w (get_ext.mp h)
          rw [o] at this
          simpa using this.symm)
        pw := fun i hi => by
          have hl := hio i hi
          have hl' : i < ws.length := by rw [c1]; exact hl
          refine ⟨ws[i], get_ext.mpr (List.getElem?_eq_getElem hl'), ?_⟩
          rw [ioat i _ (List.getElem?_eq_getElem hl')]
          simpa using hi
        dom := fun _ h => h
        nf := fun _ _ h => .inl h
        pin := fun _ _ => rfl }
      -- behind the body
      have outs : ∀ {F' : Hp} {c' : Sg} {σ' : L2.St} {H' : Hp} {os : List W}, Bd T ⟨F0, ws.map some ++ List.replicate (d.fd.nn - d.fd.np) none, start d.N vs, H, d.fd.io⟩ F' c' σ' H' → outsOf c' (ownIx 0 ws) = some os →
          Paired (fun i o => ∃ u, vs[i]? = some u ∧ RS T F' H' o u) (ownIx 0 ws) os := fun {F' c' σ' H' os} B ho => by
        refine outs_pair ho fun i hi o h1 ow => ?_
        obtain ⟨n, w, e1, e2, e3⟩ := ownIx_at hi
        have en : i = n := by omega
        subst en
        have hin : i ∈ d.fd.io := by
          have := ioat i w e2
          rw [e3] at this
          simpa using this.symm
        obtain ⟨v, g1, g2⟩ := B.sim.at_ i o h1
        rw [B.pin i hin] at g1
        exact ⟨v, get_ext.mp (by rw [← e0]; exact g1), g2⟩
      refine ⟨_, F0, _, rfl, B0, ?_⟩
      revert q
      generalize hrun : runs nc (callN (pgOf Ds) nc k) d.fd.body (ws.map some ++ List.replicate (d.fd.nn - d.fd.np) none) = r
      intro q
      show PostS T _ _ F0 (runs nc (callN (pgOf Ds) nc k) d.fd.body (ws.map some ++ List.replicate (d.fd.nn - d.fd.np) none)) _
      rw [hrun]
      have sub' : ∀ {F' : Hp} {c' : Sg} {σ' : L2.St} {H' : Hp}, Bd T ⟨F0, ws.map some ++ List.replicate (d.fd.nn - d.fd.np) none, start d.N vs, H, d.fd.io⟩ F' c' σ' H' →
          (∀ a o, F0 a = some o → F' a = some o) ∧ (∀ a o, F' a = some o → H' a = some o) ∧ (∀ a o, H a = some o → (∀ ps, o ≠ .tbl ps) → ¬ OwnA (ws.map some) (vs.map some) a → H' a = some o) ∧ (∀ a, NV H' a → NV H a) ∧ (∀ a o, F' a = some o → F0 a = some o ∨ NV H a ∨ OwnA (ws.map some) (vs.map some) a) ∧ (∀ a ps, F' a ≠ some (.tbl ps)) ∧ TB T H' := fun {F' c' σ' H'} B =>
        ⟨B.gr, B.sim.sub, fun a o h p n => B.fr a o h p fun z => n ((oA a).mp z), B.dom, fun a o h => by
          rcases B.nf a o h with z | z | z
          · exact .inl z
          · exact .inr (.inl z)
          · exact .inr (.inr ((oA a).mp z)), B.sim.ft, B.sim.tb⟩
      cases r with
      | bad => exact q.elim
      | nx c' =>
        simp only at q
        intro F' σ' H' g B
        cases ho : outsOf c' (ownIx 0 ws) with
        | none => rw [ho] at q; exact q.elim
        | some os =>
          rw [ho] at q
          obtain ⟨s1, s2, s3, s4, s5, s6, s7⟩ := sub' B
          exact q F' .non H' s1 s2 s3 s4 s5 s6 s7 (outs B ho) ⟨.non, fun z => nomatch z⟩
      | rt w2 c' =>
        simp only at q
        intro F' σ' H' v g B rw'
        cases ho : outsOf c' (ownIx 0 ws) with
        | none => rw [ho] at q; exact q.elim
        | some os =>
          rw [ho] at q
          obtain ⟨s1, s2, s3, s4, s5, s6, s7⟩ := sub' B
          exact q F' v H' s1 s2 s3 s4 s5 s6 s7 (outs B ho) rw'
      | exc e ds c' =>
        simp only at q
        intro F' σ' cls dd H' g B xr
        cases ho : outsOf c' (ownIx 0 ws) with
        | none => rw [ho] at q; exact q.elim
        | some os =>
          rw [ho] at q
          obtain ⟨s1, s2, s3, s4, s5, s6, s7⟩ := sub' B
          exact q F' cls dd H' s1 s2 s3 s4 s5 s6 s7 (outs B ho) xr
    · rw [if_neg hcond] at q
      exact q.elim
mutual
theorem all_fn (X : Tx Γ T Ds nc mg fdo) (hc : (Ds.all fun d => chkD Γ d) = true) (hT : Tabd T Ds base mg) : ∀ (k f : Nat) (d : Df), Ds[f]? = some d → d.fd.mkC = none ∧ d.fd.lm = false → d.rp = false → FnOk P w T.K mg base (CX P w) (5 * k) (T.fa f) (fdo f) d.ps (spR T (pgOf Ds) nc k f d.fd.np)
  | 0, f, d, hd, hm, _ => by
    refine ⟨fun vs H Q E h => ?_, fun A outer s H args us vs Q E _ _ _ _ h => ?_⟩
    · obtain ⟨F, ws, _, _, q⟩ := h
      exact q.elim
    · obtain ⟨F, ws, _, _, q⟩ := h
      exact q.elim
  | k + 1, f, d, hd, hm, hrp => by
    show FnOk P w T.K mg base (CX P w) (5 * k + 4 + 1) (T.fa f) (fdo f) d.ps (spR T (pgOf Ds) nc (k + 1) f d.fd.np)
    obtain ⟨S, hnp, hnn, hio, hb⟩ := chkD_at (List.all_eq_true.mp hc d (List.mem_of_getElem? hd)) hm
    obtain ⟨F, bi⟩ := X.fun_ f d hd hm.1
    obtain ⟨oc, od, kV, doc, pm, an, cdv, ct, osl, efd, lk, hcd⟩ := F.ex
    rw [efd] at lk ⊢
    refine fn_of lk hcd S (fun vs H Q E h => ?_) fun A outer s H vs Q E hr hsp => ?_
    · obtain ⟨F, ws, l, _⟩ := h
      rw [l, hnp]
    · exact fn_body X hc hT (fun f d a b c => all_fn X hc hT k f d a b c) (fun f d a b c => all_fnG X hc hT k f d a b c) (fun f d a b c => match k with
        | 0 => all_fn X hc hT 0 f d a b c
        | k + 1 => all_fn X hc hT k f d a b c) hd hm S hnp hnn hio hb lk rfl (fun z => by rw [hrp] at z; cases z) hr hsp
theorem all_fnG (X : Tx Γ T Ds nc mg fdo) (hc : (Ds.all fun d => chkD Γ d) = true) (hT : Tabd T Ds base mg) : ∀ (k f : Nat) (d : Df), Ds[f]? = some d → d.fd.mkC = none ∧ d.fd.lm = false → d.rp = true → FnG P w T.K mg base (CX P w) (5 * k) (T.fa f) (fdo f) d.ps (spR T (pgOf Ds) nc k f d.fd.np)
  | 0, f, d, hd, hm, _ => by
    refine ⟨fun vs H Q E h => ?_, fun A outer s H args us vs Q E _ _ _ _ _ h => ?_⟩
    · obtain ⟨F, ws, _, _, q⟩ := h
      exact q.elim
    · obtain ⟨F, ws, _, _, q⟩ := h
      exact q.elim
  | k + 1, f, d, hd, hm, hrp => by
    show FnG P w T.K mg base (CX P w) (5 * k + 4 + 1) (T.fa f) (fdo f) d.ps (spR T (pgOf Ds) nc (k + 1) f d.fd.np)
    obtain ⟨S, hnp, hnn, hio, hb⟩ := chkD_at (List.all_eq_true.mp hc d (List.mem_of_getElem? hd)) hm
    obtain ⟨F, bi⟩ := X.fun_ f d hd hm.1
    obtain ⟨oc, od, kV, doc, pm, an, cdv, ct, osl, efd, lk, hcd⟩ := F.ex
    rw [efd] at lk ⊢
    refine fnG_of lk hcd S (fun vs H Q E h => ?_) fun A outer s H vs Q E hg hr hsp => ?_
    · obtain ⟨F, ws, l, _⟩ := h
      rw [l, hnp]
    · exact fn_body X hc hT (fun f d a b c => all_fn X hc hT k f d a b c) (fun f d a b c => all_fnG X hc hT k f d a b c) (fun f d a b c => match k with
        | 0 => all_fn X hc hT 0 f d a b c
        | k + 1 => all_fn X hc hT k f d a b c) hd hm S hnp hnn hio hb lk rfl (fun _ => hg) hr hsp
end
end
end Cl

/-! Cl, part S: the text's things, the law. -/
namespace Cl
open PySem PySem.Spec PyProof.Rows L2

/-- the defs as they stand in the written part -/
inductive FunsAt (K : PySem.W.Frag) : List Df → List Addr → List FuncData → Prop
  | nil : FunsAt K [] [] []
  | cons {d : Df} {f : Addr} {fd : FuncData} {ds : List Df} {fs : List Addr} {fds : List FuncData} : d.fd.mkC = none → (d.gl = true → PySem.W.nsIn K mainGlobals d.name = some (some (.ref f))) → Fun K d.name d.qual d.st f fd → Binds K fd d.ps [] → FunsAt K ds fs fds → FunsAt K (d :: ds) (f :: fs) (fd :: fds)
  | mk {d : Df} {f : Addr} {fd : FuncData} {ds : List Df} {fs : List Addr} {fds : List FuncData} : d.fd.mkC.isSome = true → FunsAt K ds fs fds → FunsAt K (d :: ds) (f :: fs) (fd :: fds)
theorem FunsAt.get {K : PySem.W.Frag} : ∀ {ds : List Df} {fs : List Addr} {fds : List FuncData}, FunsAt K ds fs fds → ∀ (i : Nat) (d : Df), ds[i]? = some d → d.fd.mkC = none → ∃ f fd, fs[i]? = some f ∧ fds[i]? = some fd ∧ (d.gl = true → PySem.W.nsIn K mainGlobals d.name = some (some (.ref f))) ∧ Fun K d.name d.qual d.st f fd ∧ Binds K fd d.ps []
  | _, _, _, .nil, i, d, h, _ => by simp at h
  | _, _, _, .cons _ a b c t, 0, d, h, _ => by simp at h; subst h; exact ⟨_, _, rfl, rfl, a, b, c⟩
  | _, _, _, .mk a t, 0, d, h, m => by simp at h; subst h; rw [m] at a; cases a
  | _, _, _, .cons _ a b c t, i + 1, d, h, m => by simpa using FunsAt.get t i d (by simpa using h) m
  | _, _, _, .mk a t, i + 1, d, h, m => by simpa using FunsAt.get t i d (by simpa using h) m
def fnTab (r : Bool) : Nat → List Df → List (Str × Nat)
  | _, [] => []
  | n, d :: ds => if d.gl = true ∧ d.rp = r then (d.name, n) :: fnTab r (n + 1) ds else fnTab r (n + 1) ds
theorem fnTab_at {r : Bool} : ∀ {ds : List Df} {n i : Nat} {x : Str}, (fnTab r n ds).lookup x = some i → ∃ j d, i = n + j ∧ ds[j]? = some d ∧ d.name = x ∧ d.gl = true ∧ d.rp = r
  | [], n, i, x, h => by simp [fnTab] at h
  | d :: ds, n, i, x, h => by
    rw [fnTab] at h
    split at h
    · rename_i hg
      rw [List.lookup_cons] at h
      cases hx : x == d.name with
      | true =>
        rw [hx] at h
        cases h
        exact ⟨0, d, rfl, rfl, (by simpa using hx : x = d.name).symm, hg⟩
      | false =>
        rw [hx] at h
        obtain ⟨j, d', e1, e2, e3⟩ := fnTab_at h
        exact ⟨j + 1, d', by omega, by simpa using e2, e3⟩
    · obtain ⟨j, d', e1, e2, e3⟩ := fnTab_at h
      exact ⟨j + 1, d', by omega, by simpa using e2, e3⟩
/-- the constants -/
inductive ConsAt (K : PySem.W.Frag) : List (Str × D) → Prop
  | nil : ConsAt K []
  | int {x : Str} {n : Int} {t : Tok} {r : List (Str × D)} : PySem.W.nsIn K mainGlobals x = some (some (.int n t)) → ConsAt K r → ConsAt K ((x, .int n) :: r)
  | str {x : Str} {n : Str} {t : Tok} {r : List (Str × D)} : PySem.W.nsIn K mainGlobals x = some (some (.str n t)) → ConsAt K r → ConsAt K ((x, .str n) :: r)
theorem ConsAt.get {K : PySem.W.Frag} : ∀ {cs : List (Str × D)}, ConsAt K cs → ∀ (x : Str) (d : D), cs.lookup x = some d → ∃ u v, PySem.W.nsIn K mainGlobals x = some (some u) ∧ RelV v u ∧ ∀ T F, DR T F d v
  | _, .nil, x, d, h => by simp at h
  | _, .int (x := y) (n := n) e t, x, d, h => by
    rw [List.lookup_cons] at h
    cases hx : x == y with
    | true =>
      rw [hx] at h
      cases h
      rw [(by simpa using hx : x = y)]
      exact ⟨_, .int n, e, ⟨_, rfl⟩, fun _ _ => .int n⟩
    | false =>
      rw [hx] at h
      exact ConsAt.get t x d h
  | _, .str (x := y) (n := n) e t, x, d, h => by
    rw [List.lookup_cons] at h
    cases hx : x == y with
    | true =>
      rw [hx] at h
      cases h
      rw [(by simpa using hx : x = y)]
      exact ⟨_, .str n, e, ⟨_, rfl⟩, fun _ _ => .str n⟩
    | false =>
      rw [hx] at h
      exact ConsAt.get t x d h
def NoBlt (K : PySem.W.Frag) : List Str → Prop
  | [] => True
  | x :: xs => PySem.W.nsIn K mainGlobals x = some none ∧ NoBlt K xs
theorem NoBlt.get {K : PySem.W.Frag} : ∀ {xs : List Str}, NoBlt K xs → ∀ x ∈ xs, PySem.W.nsIn K mainGlobals x = some none
  | [], _, x, h => nomatch h
  | y :: ys, h, x, hx => by
    rcases List.mem_cons.mp hx with rfl | hx
    · exact h.1
    · exact NoBlt.get h.2 x hx
/-- what a law with lambdas adds -/
structure Gx where
  lm : List (Str × Nat) := []
  isx : List (Str × List (Nat × Bool)) := []
  xc : List (Str × Nat × Option Str) := []
  cat : Option (Str × List Nat) := none
def tbOf (K : PySem.W.Frag) (fs cs : List Addr) (cf : List (List Str)) (tl : List (Addr × Str) := []) (xs : List Addr := []) (xf : List (List Str) := []) : Tb := ⟨K, fun i => fs.getD i 0, fun i => cs.getD i 0, fun i => cf.getD i [], tl, [], fun i => xs.getD i 0, fun i => xf.getD i []⟩
def gtOf (Ds : List Df) (con : List (Str × D)) (cls : List (Str × Nat)) (cfs : List (List Str)) (gx : Gx := {}) : Gt := ⟨fnTab false 0 Ds, [], con, cls, cfs, true, gx.lm, none, gx.isx, gx.xc, gx.cat, true, fnTab true 0 Ds⟩
structure TxX (gx : Gx) (T : Tb) (Ds : List Df) (mg : Str → Option Value) : Prop where
  isx : ∀ x bs, gx.isx.lookup x = some bs → ∃ (v : V) (cv : Value), ((mg x = some cv) ∨ (mg x = none ∧ bootBuiltins x = some cv ∧ x ≠ "__name__")) ∧ RelV v cv ∧ (∀ u, RelV v u → u = cv) ∧ ∀ n b, bs.lookup n = some b → ExcC T.K (T.xa n) ∧ PySem.W.kitOne T.K (.ref (T.xa n)) cv = some b
  cat : ∀ x ks, gx.cat = some (x, ks) → ∃ CS, mg x = some (.ref CS) ∧ ∀ n ∈ ks, PySem.W.exmOne T.K (.ref (T.xa n)) (.ref CS) = some true
  lam : ∀ x g, gx.lm.lookup x = some g → ∃ d, Ds[g]? = some d ∧ d.fd.mkC = none ∧ d.fd.lm = true ∧ d.name = x ∧ d.qual = x ∧ mg x = some (.ref (T.fa g))
  xcs : ∀ (P : Program) (w : World) (base : Heap) x c o, gx.xc.lookup x = some (c, o) → mg x = some (.ref (T.xa c)) ∧ match o with
    | none => Exc0 T.K (T.xa c)
    | some f => T.xf c = [f] ∧ OexC T.K (T.xa c) ∧ PySem.W.findIn T.K (.ref (T.xa c)) f = some none ∧ ∃ fi fdd ps, PySem.W.findIn T.K (.ref (T.xa c)) "__init__" = some (some (.ref fi)) ∧ PySem.W.typeIn T.K (.ref fi) = some (.type "function") ∧ FnOk P w T.K mg base (CX P w) 1 fi fdd ps (spX T.K f) ∧ Binds T.K fdd ps []
theorem txx_nil {T : Tb} {Ds : List Df} {mg : Str → Option Value} : TxX {} T Ds mg := ⟨(fun _ _ h => nomatch h), (fun _ _ h => nomatch h), (fun _ _ h => nomatch h), (fun _ _ _ _ _ _ h => nomatch h)⟩
theorem tx_mk {gx : Gx} {tl : List (Addr × Str)} {xs : List Addr} {xf : List (List Str)} {K : PySem.W.Frag} {h : Heap} {mg : Str → Option Value} {Ds : List Df} {fs cs : List Addr} {cf : List (List Str)} {fds : List FuncData} {con : List (Str × D)} {cls : List (Str × Nat)} (dflt : FuncData) (X : K.In h) (G : h.Ns mainGlobals mg) (hF : FunsAt K Ds fs fds) (hC : ConsAt K con) (hB : NoBlt K bnames)
    (hcls : ∀ x c, cls.lookup x = some c → PySem.W.nsIn K mainGlobals x = some (some (.ref (cs.getD c 0))) ∧ c < cf.length) (cok : ClsOk (tbOf K fs cs cf tl xs xf) cf.length) (hlm : ∀ (f : Nat) (d : Df), Ds[f]? = some d → d.gl = true → d.fd.lm = false) (hrm : ∀ (f : Nat) (d : Df), Ds[f]? = some d → d.rp = true → d.fd.mkC = none) (hx : TxX gx (tbOf K fs cs cf tl xs xf) Ds mg)
    (hmk : ∀ (f : Nat) (d : Df) (c i : Nat), Ds[f]? = some d → d.fd.mkC = some (c, i) → ∃ di, Ds[i]? = some di ∧ ((di.fd.mkC = none ∧ di.fd.lm = false) ∧ di.rp = false) ∧ di.fd.np = d.fd.np + 1 ∧ PySem.W.nsIn K mainGlobals d.name = some (some (.ref (cs.getD c 0))) ∧ Mk K (cs.getD c 0) (fs.getD i 0)) : Tx (gtOf Ds con cls cf gx) (tbOf K fs cs cf tl xs xf) Ds cf.length mg fun i => fds.getD i dflt where
  blt := fun x hx => PySem.W.mg_none_of X G (hB.get x hx)
  con := fun x d hx => by
    obtain ⟨u, v, e, r, q⟩ := hC.get x d hx
    exact ⟨u, v, PySem.W.mg_of X G e, r, fun F => q _ F⟩
  cls := fun x c hx => ⟨PySem.W.mg_of X G (hcls x c hx).1, (hcls x c hx).2⟩
  fns := fun x f hx => by
    obtain ⟨j, d, e1, e2, rfl, hg, hrp⟩ := fnTab_at hx
    rw [Nat.zero_add] at e1
    subst e1
    refine ⟨d, e2, ?_⟩
    cases hm : d.fd.mkC with
    | none =>
      obtain ⟨a, fd, h1, h2, h3, h4, h5⟩ := hF.get f d e2 hm
      refine .inl ⟨⟨rfl, hlm _ _ e2 hg⟩, hrp, ?_⟩
      show mg d.name = some (.ref (fs.getD f 0))
      rw [PySem.W.mg_of X G (h3 hg), List.getD_eq_getElem?_getD, h1]; rfl
    | some p =>
      obtain ⟨c, i⟩ := p
      obtain ⟨di, g1, g2, g3, g4, g5⟩ := hmk f d c i e2 hm
      exact .inr ⟨c, i, di, rfl, g1, g2, g3, PySem.W.mg_of X G g4, g5⟩
  fun_ := fun f d hd hm => by
    obtain ⟨a, fd, h1, h2, h3, h4, h5⟩ := hF.get f d hd hm
    have e1 : (tbOf K fs cs cf tl xs xf).fa f = a := by show fs.getD f 0 = a; rw [List.getD_eq_getElem?_getD, h1]; rfl
    have e2 : fds.getD f dflt = fd := by rw [List.getD_eq_getElem?_getD, h2]; rfl
    rw [e1, e2]
    exact ⟨h4, h5⟩
  cok := cok
  cm := rfl
  fng := fun x f hx => by
    obtain ⟨j, d, e1, e2, rfl, hg, hrp⟩ := fnTab_at hx
    rw [Nat.zero_add] at e1
    subst e1
    have hm := hrm _ _ e2 hrp
    refine ⟨d, e2, ⟨hm, hlm _ _ e2 hg⟩, hrp, ?_⟩
    obtain ⟨a, fd, h1, h2, h3, h4, h5⟩ := hF.get f d e2 hm
    show mg d.name = some (.ref (fs.getD f 0))
    rw [PySem.W.mg_of X G (h3 hg), List.getD_eq_getElem?_getD, h1]; rfl
  ein := rfl
  xcs := hx.xcs
  isx := hx.isx
  cat := hx.cat
  lam := hx.lam
  cfn := rfl
  cfe := fun c => rfl

/-- the promise of a law -/
def spLaw (K : PySem.W.Frag) (tl : List (Addr × Str)) : Sp := fun vs H Q _ => ∃ (a : Addr) (ns : List Int), vs = [.ref a] ∧ SqL K H a (ns.map V.int) ∧ ns.length ≤ 63 ∧ LamX.Tabs tl H ∧ ∀ H', Q (.bl true) H'
/-- all but the tables -/
def noTab (H : Hp) : Hp := fun b => match H b with
  | some (.tbl _) => none
  | o => o
theorem noTab_of {H : Hp} {a : Addr} {o : HO} (h : H a = some o) (n : ∀ ps, o ≠ .tbl ps) : noTab H a = some o := by
  unfold noTab
  split
  · rename_i ps e; rw [h] at e; exact absurd (Option.some.inj e) (n ps)
  · exact h
theorem noTab_sub {H : Hp} {a : Addr} {o : HO} (h : noTab H a = some o) : H a = some o := by
  unfold noTab at h
  split at h
  · cases h
  · exact h
theorem noTab_no {H : Hp} (a : Addr) (ps : Array Value) : noTab H a ≠ some (.tbl ps) := fun h => by
  have h2 := noTab_sub h
  unfold noTab at h
  rw [h2] at h
  cases h
theorem sqL_noTab {K : PySem.W.Frag} {H : Hp} {a : Addr} {xs : List V} (h : SqL K H a xs) : SqL K (noTab H) a xs := by
  rcases h with (z | ⟨ob, z⟩) | z
  · exact .inl (.inl (noTab_of z fun _ e => by cases e))
  · exact .inl (.inr ⟨ob, noTab_of z fun _ e => by cases e⟩)
  · exact .inr z
theorem law_fn {Γ : Gt} {T : Tb} {Ds : List Df} {nc : Nat} {mg : Str → Option Value} {fdo : Nat → FuncData} {P : Program} {w : World} {base : Heap} (X : Tx Γ T Ds nc mg fdo) (hc : (Ds.all fun d => chkD Γ d) = true) (hT : Tabd T Ds base mg) {k f : Nat} {d : Df} (hd : Ds[f]? = some d) (hm : d.fd.mkC = none ∧ d.fd.lm = false) (hrp : d.rp = false) (hn : d.fd.np = 1) (hob : T.ob = [])
    (hl : ∀ ns : List Int, ns.length ≤ 63 → callN (pgOf Ds) nc k f [.d (.scr ns)] = .ok (.d (.bl true)) []) : FnOk P w T.K mg base (CX P w) (5 * k) (T.fa f) (fdo f) d.ps (spLaw T.K T.tl) := by
  refine (all_fn X hc hT k f d hd hm hrp).imp fun vs H Q E h => ?_
  obtain ⟨a, ns, rfl, hS, hlen, tb, q⟩ := h
  refine ⟨noTab H, [.d (.scr ns)], by rw [hn]; rfl, ⟨fun _ _ h => noTab_sub h, rfl, fun i w h => ?_, fun i j w u a h1 o1 _ _ _ _ => ?_, noTab_no, ⟨tb, fun p hp => by rw [hob] at hp; cases hp⟩⟩, ?_⟩
  · match i, h with
    | 0, h => cases h; exact ⟨_, rfl, .scr (sqL_noTab hS)⟩
  · match i, h1 with
    | 0, h1 => cases h1; cases o1
  · rw [hl ns hlen]
    intro F' v H' _ _ _ _ _ _ _ _ r
    cases r.1
    exact q H'
theorem walk_law {l : PySem.W.OpenLaw} {k : Nat} {q : Program} {loose : List Str} {XP : (Str → Option Value) → Heap → Prop} {YP : World → Heap → Prop} {d : DefRec} {K : Params → PySem.W.Frag} (hn : l.most = some 63) (hdf : d.params.defaults = []) (hr : Room k callerA)
    (hY : ∀ (w : World) (h : Heap), YP w h → (K w.params).In h)
    (F : ∀ (w : World) (mg : Str → Option Value) (fa : Addr) (h : Heap), (K w.params).In h → h.Ns mainGlobals mg → mg d.name = some (.ref fa) →
      ∃ fd : FuncData, (∀ (s : Shared) (u : Value), BindsTo s fd ⟨[u], []⟩ [("script", u)]) ∧ ∀ base : Heap, (K w.params).In base → base.Ns mainGlobals mg → FnOk l.prog w (K w.params) mg base (CX l.prog w) k fa fd ["script"] (spLaw (K w.params) [])) :
    PySem.W.WalkO q loose XP YP l.row.toRowW d [] (fun f vs => PySem.call f vs) :=
  L2.walk_of (n := 63) (k := k) (x := "script") (CX := fun w => CX l.prog w) (sp := fun w => spLaw (K w.params) []) hn (by decide) hdf hr hY F (fun _ _ a ns hl _ hS => ⟨a, ns, rfl, hS, hl, (fun _ z => nomatch z), fun _ => rfl⟩) fun _ _ _ _ _ z => by
    obtain ⟨_, _, _, _, _, _, _, _, _, _, _, _, z⟩ := z
    exact z
/-- the law's end, with lambdas: cs, the code objects and their tables -/
theorem walk_lawT {l : PySem.W.OpenLaw} {k : Nat} {q : Program} {loose : List Str} {XP : (Str → Option Value) → Heap → Prop} {YP : World → Heap → Prop} {d : DefRec} {K : Params → PySem.W.Frag} (hn : l.most = some 63) (hdf : d.params.defaults = []) (hr : Room k callerA)
    (hY : ∀ (w : World) (h : Heap), YP w h → (K w.params).In h)
    (F : ∀ (w : World) (mg : Str → Option Value) (fa : Addr) (h : Heap), YP w h → (K w.params).In h → h.Ns mainGlobals mg → mg d.name = some (.ref fa) →
      ∃ (fd : FuncData) (cs : List (Addr × Addr)) (tl : List (Addr × Str)), (∀ p ∈ cs, h.get? p.2 = some { cls := .none, data := .fields #[] }) ∧ (∀ p ∈ cs, (K w.params).lookup p.2 = none) ∧ (∀ p ∈ cs, PySem.W.CodeHd h p.1 p.2) ∧ (∀ p ∈ tl, ∃ c, (c, p.1) ∈ cs) ∧ (∀ (s : Shared) (u : Value), BindsTo s fd ⟨[u], []⟩ [("script", u)]) ∧
        ∀ base : Heap, (K w.params).In base → base.Ns mainGlobals mg → (∀ p ∈ cs, LamX.TabB base mg p.1 p.2) → FnOk l.prog w (K w.params) mg base (CX l.prog w) k fa fd ["script"] (spLaw (K w.params) tl)) :
    PySem.W.WalkO q loose XP YP l.row.toRowW d [] (fun f vs => PySem.call f vs) :=
  LamX.walk_ofTs (n := 63) (k := k) (x := "script") (CX := fun w => CX l.prog w) hn (by decide) hdf hr hY (fun w mg fa h y kx g hm => by
    obtain ⟨fd, cs, tl, h1, h2, h3, h4, h5, h6⟩ := F w mg fa h y kx g hm
    refine ⟨fd, cs, spLaw (K w.params) tl, h1, h2, h3, h5, fun H a ns hl _ hT hS => ⟨a, ns, rfl, hS, hl, fun p hp => ?_, fun _ => rfl⟩, h6⟩
    obtain ⟨c, hc⟩ := h4 p hp
    exact LamX.TabS.nil (hT _ hc)) fun _ _ _ _ _ z => by
    obtain ⟨_, _, _, _, _, _, _, _, _, _, _, _, z⟩ := z
    exact z
end Cl

/-! Cl, part T: for the plain laws. -/
namespace Cl
open L2
section
variable {P : Pg} {nc k f : Nat} {ws : List W} {fd : Fd} {w : W} {σ : Sg} {os : List W} {cl : Calls}
theorem call_rt (hp : P[f]? = some fd) (hm : fd.mkC = none) (hw : ws.length = fd.np ∧ fd.np ≤ fd.nn ∧ ioOk ws fd.io = true) (hr : runs nc (callN P nc k) fd.body (ws.map some ++ List.replicate (fd.nn - fd.np) none) = .rt w σ) (ho : outsOf σ (ownIx 0 ws) = some os) :
    callN P nc (k + 1) f ws = .ok w os := by
  rw [callN]
  simp only [hp, hm, if_pos hw, hr, ho]
theorem call_nx (hp : P[f]? = some fd) (hm : fd.mkC = none) (hw : ws.length = fd.np ∧ fd.np ≤ fd.nn ∧ ioOk ws fd.io = true) (hr : runs nc (callN P nc k) fd.body (ws.map some ++ List.replicate (fd.nn - fd.np) none) = .nx σ) (ho : outsOf σ (ownIx 0 ws) = some os) :
    callN P nc (k + 1) f ws = .ok (.d .non) os := by
  rw [callN]
  simp only [hp, hm, if_pos hw, hr, ho]
theorem runs_cons (a : Cl.St) (ss : List Cl.St) (σ : Sg) : runs nc cl (a :: ss) σ = (run nc cl a σ).seq (fun σ' => runs nc cl ss σ') := rfl
theorem runs_app : ∀ (xs ys : List Cl.St) (σ : Sg), runs nc cl (xs ++ ys) σ = (runs nc cl xs σ).seq (fun σ' => runs nc cl ys σ')
  | [], ys, σ => rfl
  | x :: xs, ys, σ => by
    show (run nc cl x σ).seq (fun σ' => runs nc cl (xs ++ ys) σ') = ((run nc cl x σ).seq (fun σ' => runs nc cl xs σ')).seq _
    cases run nc cl x σ with
    | nx σ1 => exact runs_app xs ys σ1
    | rt _ _ => rfl
    | exc _ _ _ => rfl
    | bad => rfl
theorem runs_one {a : Cl.St} {σ' : Sg} (h : run nc cl a σ = .nx σ') : runs nc cl [a] σ = .nx σ' := by rw [runs_cons, h]; rfl
/-- a text in two parts -/
theorem runs_at {n : Nat} {ss : List Cl.St} {σ' : Sg} (h : runs nc cl (ss.take n) σ = .nx σ') : runs nc cl ss σ = runs nc cl (ss.drop n) σ' := by
  conv => lhs; rw [← List.take_append_drop n ss]
  rw [runs_app, h]; rfl
/-- the same, the body and the slots told -/
theorem call_rtE {body : List Cl.St} {st : Sg} (hp : P[f]? = some fd) (hm : fd.mkC = none) (hw : ws.length = fd.np ∧ fd.np ≤ fd.nn ∧ ioOk ws fd.io = true) (hb : fd.body = body) (hs : ws.map some ++ List.replicate (fd.nn - fd.np) none = st) (hr : runs nc (callN P nc k) body st = .rt w σ) (ho : outsOf σ (ownIx 0 ws) = some os) :
    callN P nc (k + 1) f ws = .ok w os := by
  subst hb hs
  exact call_rt hp hm hw hr ho
theorem run_whl (n : Nat) (c : Ex) (b : List Cl.St) (σ : Sg) : run nc cl (.whl n c b) σ = whL (tst c (ev nc cl c)) (runs nc cl b) n σ := rfl
theorem run_fr (t : Tg) (it : Ex) (b : List Cl.St) (σ : Sg) : run nc cl (.fr t it b) σ = .ofR (ev nc cl it σ) fun w σ1 => match itemsD w.toD with
    | some xs => if xs.length ≤ PySem.sizeLine then frL (fun x σ => match asg t x σ with
        | some σ' => runs nc cl b σ'
        | none => .bad) xs σ1 else .bad
    | none => .bad := rfl
theorem run_ite (c : Ex) (a b : List Cl.St) (σ : Sg) : run nc cl (.ite c a b) σ = .ofR (tst c (ev nc cl c) σ) fun k σ1 => if k then runs nc cl a σ1 else runs nc cl b σ1 := rfl
theorem run_set (i : Nat) (e : Ex) (σ : Sg) : run nc cl (.set i e) σ = .ofR (ev nc cl e σ) fun w σ' => setS σ' i w := rfl
/-- comparing plain results -/
def sameT : D → D → Bool
  | .tup xs, .tup ys => sameI xs ys
  | .int a, .int b => decide (a = b)
  | .bl a, .bl b => a == b
  | _, _ => false
where sameI : List D → List D → Bool
  | [], [] => true
  | .int a :: xs, .int b :: ys => decide (a = b) && sameI xs ys
  | _, _ => false
theorem sameI_eq : ∀ {xs ys : List D}, sameT.sameI xs ys = true → xs = ys := by
  intro xs
  induction xs with
  | nil =>
    intro ys h
    cases ys with
    | nil => rfl
    | cons y ys => simp [sameT.sameI] at h
  | cons x xs ih =>
    intro ys h
    cases ys with
    | nil => cases x <;> simp [sameT.sameI] at h
    | cons y ys =>
      cases x with
      | int a =>
        cases y with
        | int b =>
          simp only [sameT.sameI, Bool.and_eq_true, decide_eq_true_eq] at h
          rw [h.1, ih h.2]
        | _ => simp [sameT.sameI] at h
      | _ => simp [sameT.sameI] at h
theorem sameT_eq {x y : D} (h : sameT x y = true) : x = y := by
  unfold sameT at h
  split at h
  · rw [sameI_eq h]
  · rw [of_decide_eq_true h]
  · rw [eq_of_beq h]
  · cases h
def resIs (r : R (List W) W) (v : D) : Bool := match r with
  | .ok (.d x) [] => sameT x v
  | _ => false
theorem resIs_eq {r : R (List W) W} {v : D} (h : resIs r v = true) : r = .ok (.d v) [] := by
  unfold resIs at h
  split at h
  · rw [sameT_eq h]
  · cases h
def tIn (l : List Int) : D := .tup (l.map D.int)
end
end Cl
namespace Cl
section
variable {nc : Nat} {cl : Calls}
/-- a comprehension that leaves the slots as they are -/
theorem lcL_map {f : D → Sg → R Sg (Option D)} {g : D → D} {σ : Sg} : ∀ {xs acc : List D}, (∀ x ∈ xs, f x σ = .ok (some (g x)) σ) → lcL f xs acc σ = .ok (acc ++ xs.map g) σ
  | [], acc, _ => by rw [lcL]; simp
  | x :: xs, acc, h => by
    rw [lcL, h x List.mem_cons_self]
    simp only
    rw [lcL_map fun y hy => h y (List.mem_cons_of_mem _ hy)]
    simp
/-- one under which something stays -/
theorem lcL_inv {f : D → Sg → R Sg (Option D)} {I : Sg → Prop} {G : D → D → Prop} : ∀ {xs acc : List D} {σ : Sg}, (∀ x ∈ xs, ∀ σ, I σ → ∃ y σ', f x σ = .ok (some y) σ' ∧ I σ' ∧ G x y) → I σ →
    ∃ ys σ', lcL f xs acc σ = .ok (acc ++ ys) σ' ∧ I σ' ∧ (∀ y ∈ ys, ∃ x ∈ xs, G x y) ∧ ys.length = xs.length
  | [], acc, σ, _, i => ⟨[], σ, by rw [lcL]; simp, i, fun y hy => absurd hy (by simp), rfl⟩
  | x :: xs, acc, σ, h, i => by
    obtain ⟨y, σ', e, i', g⟩ := h x List.mem_cons_self σ i
    obtain ⟨ys, σ2, e2, i2, g2, l2⟩ := lcL_inv (acc := acc ++ [y]) (fun z hz => h z (List.mem_cons_of_mem _ hz)) i'
    refine ⟨y :: ys, σ2, ?_, i2, fun z hz => ?_, by simp [l2]⟩
    rotate_left
    · rcases List.mem_cons.mp hz with rfl | hz
      · exact ⟨x, List.mem_cons_self, g⟩
      · obtain ⟨a, ha, hg⟩ := g2 z hz
        exact ⟨a, List.mem_cons_of_mem _ ha, hg⟩
    rw [lcL, e]
    simp only
    rw [e2]
    simp
/-- a loop -/
theorem frL_inv {f : D → Sg → Out} {I : List D → Sg → Prop} : ∀ {xs : List D} {σ : Sg}, (∀ x r σ, I (x :: r) σ → ∃ σ', f x σ = .nx σ' ∧ I r σ') → I xs σ → ∃ σ', frL f xs σ = .nx σ' ∧ I [] σ'
  | [], σ, _, i => ⟨σ, rfl, i⟩
  | x :: xs, σ, h, i => by
    obtain ⟨σ', e, i'⟩ := h x xs σ i
    obtain ⟨σ2, e2, i2⟩ := frL_inv h i'
    exact ⟨σ2, by rw [frL, e]; exact e2, i2⟩
end
end Cl

/-! Cl, part U: for the plain laws, on. -/
namespace Cl
section
variable {nc : Nat} {cl : Calls}
theorem ev_lc (own : List Nat) (t : Tg) (it : Ex) (c : Option Ex) (e : Ex) (σ : Sg) : ev nc cl (.lc own t it c e) σ = (ev nc cl it σ).bind fun w σ1 => match itemsD w.toD with
    | some xs => if own.all (plainAt σ1) ∧ xs.length ≤ PySem.sizeLine then
        (lcL (lcTurn own t (evC nc cl c) (ev nc cl e)) xs [] (wipeS σ1 own)).bind fun ys σ2 => .ok (.fl ys) (backS σ1 σ2 own)
      else .bad
    | none => .bad := rfl
theorem lc_ok {own : List Nat} {t : Tg} {it : Ex} {c : Option Ex} {e : Ex} {σ σ1 σ2 : Sg} {w : W} {xs ys : List D} (hi : ev nc cl it σ = .ok w σ1) (hx : itemsD w.toD = some xs) (hp : own.all (plainAt σ1) = true) (hl : xs.length ≤ 1000)
    (h : lcL (lcTurn own t (evC nc cl c) (ev nc cl e)) xs [] (wipeS σ1 own) = .ok ys σ2) : ev nc cl (.lc own t it c e) σ = .ok (.fl ys) (backS σ1 σ2 own) := by
  rw [ev_lc, hi, R.bind_ok, hx]
  simp only
  rw [if_pos ⟨hp, by rw [PySem.sizeLine_eq]; omega⟩, h, R.bind_ok]
theorem blt1_ok {b : Blt} {e : Ex} {σ σ1 : Sg} {w r : W} (hv : ∀ i, e ≠ .var i) (h : ev nc cl e σ = .ok w σ1) (hb : bltop b [w.toD] = some r) : ev nc cl (.blt b [e]) σ = .ok r σ1 := by
  have ho : opd e (ev nc cl e) σ = .ok (.val w.toD) σ1 := by
    have : opd e (ev nc cl e) σ = (ev nc cl e σ).bind fun w σ' => .ok (.val w.toD) σ' := by
      cases e <;> first | rfl | exact absurd rfl (hv _)
    rw [this, h]; rfl
  have h1 : evOs nc cl [e] σ = .ok [.val w.toD] σ1 := by
    show R.bind (opd e (ev nc cl e) σ) _ = _
    rw [ho]; rfl
  show R.bind (evOs nc cl [e] σ) _ = _
  rw [h1, R.bind_ok]
  show ofO (bltop b [w.toD]) σ1 = _
  rw [hb]; rfl
theorem all_true : ∀ {ys : List D}, (∀ y ∈ ys, y = .bl true) → bltop .all [.lst ys] = some (.d (.bl true)) := by
  intro ys h
  have : blsD ys = some (List.replicate ys.length true) := by
    induction ys with
    | nil => rfl
    | cons y ys ih =>
      rw [h y List.mem_cons_self, blsD, ih fun z hz => h z (List.mem_cons_of_mem _ hz)]
      rfl
  show (blsD ys).map (fun bs => W.d (.bl (bs.all id))) = _
  rw [this]
  simp
theorem run_setE {i : Nat} {e : Ex} {σ σ1 : Sg} {w : W} (h : ev nc cl e σ = .ok w σ1) (hi : i < σ1.length) : run nc cl (.set i e) σ = .nx (σ1.set i (some w)) := by
  rw [run_set, h]
  show setS σ1 i w = _
  rw [setS, if_pos hi]
end
end Cl

/-! Cl, part Sa: an error's __init__ keeps its promise. -/
namespace Cl
open PySem PySem.Spec PyProof.Rows L2

theorem xiB_at {N : List Str} {f : Str} {st : Stmt} (h : xiB N f st = true) : ∃ (n0 n1 : Str) (p1 p2 p3 p4 : Pos), N = [n0, n1] ∧ defBody st = [.Assign [.Attribute (.Name n0 p1) f p2] (.Name n1 p3) p4] ∧ (defScope st).names.lookup n0 = some .local ∧ (defScope st).names.lookup n1 = some .local ∧
    (n0 == ("__debug__" : Str)) = false ∧ (n0 == ("__classdict__" : Str)) = false ∧ (n1 == ("__debug__" : Str)) = false ∧ (n1 == ("__classdict__" : Str)) = false := by
  unfold xiB at h
  split at h
  · simp only [Bool.and_eq_true, decide_eq_true_eq, Bool.not_eq_true'] at h
    obtain ⟨⟨⟨⟨⟨⟨⟨⟨rfl, rfl⟩, rfl⟩, h1⟩, h2⟩, h3⟩, h4⟩, h5⟩, h6⟩ := h
    exact ⟨_, _, _, _, _, _, by first | assumption | rfl, by assumption, h1, h2, h3, h4, h5, h6⟩
  · cases h
theorem xi_ok {P : Program} {w : World} {K : PySem.W.Frag} {mg : Str → Option Value} {base : Heap} {x qual f : Str} {st : Stmt} {fa : Addr} {fd : FuncData} {N : List Str} (F : Fun K x qual st fa fd) (h : xiB N f st = true) (hs : fnScB N N (defScope st) = true) : FnOk P w K mg base (CX P w) 1 fa fd N (spX K f) := by
  obtain ⟨oc, od, kV, doc, pm, an, cdv, ct, osl, efd, lk, hcd⟩ := F.ex
  obtain ⟨n0, n1, p1, p2, p3, p4, rfl, hb, l0, l1, d1, d2, d3, d4⟩ := xiB_at h
  rw [efd] at lk ⊢
  refine fn_of (k := 0) lk hcd (fnSc_ok hs) (fun vs H Q E h => ?_) fun A outer s H vs Q E hr hsp => ?_
  · obtain ⟨a, C, y, rfl, _⟩ := h
    rfl
  · obtain ⟨a, C, y, rfl, T, hno, ha, q⟩ := hsp
    refine ⟨_, by
      rw [hb]
      exact pss_one (ps_ost (pe_var (i := 0) rfl (.inl l0) d1 d2) (pe_var (i := 1) rfl (.inl l1) d3 d4)), ?_⟩
    exact ⟨y, rfl, .ref a, rfl, a, C, rfl, T, hno, .inl ⟨ha, fun dx h1 h2 => q dx h1 h2⟩⟩
end Cl

/-! Cl, part En: the law's end, where no guard is up. -/
namespace Cl
open PySem PySem.Spec PyProof.Rows L2

/-- what stands tracked as a law begins: the tables, the script -/
def hp0 (K : PySem.W.Frag) (tb : List Addr) (a : Addr) (u : HO) : Hp := fun b => if b ∈ tb then some (.tbl #[]) else if b = a ∧ (K.lookup a).isNone = true then some u else none
theorem hp0_tb {K : PySem.W.Frag} {tb : List Addr} {a b : Addr} {u : HO} (h : b ∈ tb) : hp0 K tb a u b = some (.tbl #[]) := if_pos h
theorem hp0_at {K : PySem.W.Frag} {tb : List Addr} {a b : Addr} {u o : HO} (h : hp0 K tb a u b = some o) : (b ∈ tb ∧ o = .tbl #[]) ∨ (b = a ∧ K.lookup a = none ∧ o = u) := by
  unfold hp0 at h
  split at h
  · rename_i hb; cases h; exact .inl ⟨hb, rfl⟩
  · split at h
    · rename_i hb; cases h; exact .inr ⟨hb.1, by simpa using hb.2, rfl⟩
    · cases h
theorem law_callG {P : Program} {w : World} {K : PySem.W.Frag} {mg mb : Str → Option Value} {k : Nat} {f a : Addr} {cs : List (Addr × Addr)} {fd : FuncData} {x : Str} {sp : Sp} {st : Shared} {vs : List Value} {ns : List Int}
    (kin : K.In st.heap) (gl : st.heap.Ns mainGlobals mg) (bl : st.heap.Ns builtinsNs mb) (bb : ∀ y : Str, y ≠ "__name__" → mb y = bootBuiltins y) (lim : st.heap.NoLimit) (gens : st.gens = #[])
    (tab : ∀ p ∈ cs, st.heap.get? p.2 = some { cls := .none, data := .fields #[] }) (tabK : ∀ p ∈ cs, K.lookup p.2 = none) (code : ∀ p ∈ cs, PySem.W.CodeHd st.heap p.1 p.2)
    (bm : ∃ (m : Addr) (ob : Obj), mg "__builtins__" = some (.ref m) ∧ m ≠ builtinsNs ∧ st.heap.get? m = some ob ∧ ob.cls = .type "module" ∧ ob.dict = some builtinsNs ∧ ob.data = .plain)
    (scr : st.heap.get? a = some { cls := .type "list", data := .seq vs.toArray }) (hints : IntsAre vs ns) (few : ns.length ≤ sizeLine) (room : Room k callerA)
    (F : ∀ base : Heap, K.In base → base.Ns mainGlobals mg → (∀ p ∈ cs, LamX.TabB base mg p.1 p.2) → FnG P w K mg base (CX P w) k f fd [x] sp) (bind : ∀ (s : Shared) (u : Value), BindsTo s fd ⟨[u], []⟩ [(x, u)])
    (say : ∀ H : Hp, (∀ p ∈ cs, H p.2 = some (.tbl #[])) → SqL K H a (ns.map V.int) → sp [.ref a] H (fun v _ => v = .bl true) fun _ _ _ => False)
    (noX : ∀ H e s', CX P w [] H st (fun _ _ _ => False) e s' → False) :
    codeAny (model P w) callerA (.call (.ref f) ⟨[.ref a], []⟩) (fun r s' => r = .ok (.ret (.bool true)) ∧ OldK st.heap s'.heap ∧ s'.os = st.os ∧ AllBare s'.gens) st := by
  have vals := vals_ints hints
  have nlen := hints.length
  let tb := cs.map (·.2)
  let H := hp0 K tb a (.frz { cls := .type "list", data := .seq vs.toArray } (.lst (ns.map V.int)))
  have inTb : ∀ {b}, b ∈ tb → ∃ p ∈ cs, p.2 = b := fun h => by
    obtain ⟨p, h1, h2⟩ := List.mem_map.mp h
    exact ⟨p, h1, h2⟩
  have tracked : ∀ b o, H b = some o → ∀ u, st.heap.get? b = some u → (u.data = .fields #[] ∨ u.data = .seq vs.toArray) ∧ K.lookup b = none := fun b o h u hu => by
    rcases hp0_at h with ⟨h1, _⟩ | ⟨rfl, h1, _⟩
    · obtain ⟨p, hp, rfl⟩ := inTb h1
      rw [tab p hp] at hu
      cases hu
      exact ⟨.inl rfl, tabK p hp⟩
    · rw [scr] at hu
      cases hu
      exact ⟨.inr rfl, h1⟩
  have stay : ∀ b u, st.heap.get? b = some u → ((u.data = .fields #[] ∨ u.data = .seq vs.toArray) → False) → (hidT st.heap H).get? b = some u := fun b u hu no => by
    refine hidT_get hu ?_
    cases q : H b with
    | none => rfl
    | some o => exact (no (tracked b o q u hu).1).elim
  have stayD : ∀ {b m}, st.heap.Ns b m → (hidT st.heap H).Ns b m := fun ⟨o, es, ep, h1, h2, h3⟩ => ⟨o, es, ep, stay _ _ h1 (fun z => by rw [h2] at z; rcases z with z | z <;> cases z), h2, h3⟩
  have kin' : K.In (hidT st.heap H) := fun b u hk => hidT_get (kin b u hk) (by
    cases q : H b with
    | none => rfl
    | some o => rw [(tracked b o q u (kin b u hk)).2] at hk; cases hk)
  have mod : L2.Mod K mg (hidT st.heap H) := by
    obtain ⟨mc, l1, l2⟩ := lim
    exact ⟨kin', stayD gl, ⟨mb, stayD bl, bb⟩, ⟨mc, stayD l1, l2⟩⟩
  have hok : HOk P w H st.heap := fun b o q => by
    rcases hp0_at q with ⟨h1, rfl⟩ | ⟨rfl, h1, rfl⟩
    · obtain ⟨p, hp, rfl⟩ := inTb h1
      exact tab p hp
    · exact ⟨scr, by rw [List.length_map]; exact few, vs, _, vals, scr⟩
  have tabs : ∀ p ∈ cs, H p.2 = some (.tbl #[]) := fun p hp => hp0_tb (List.mem_map.mpr ⟨p, hp, rfl⟩)
  have aNot : a ∉ tb := fun h => by
    obtain ⟨p, hp, e⟩ := inTb h
    have := tab p hp
    rw [e, scr] at this
    have z := congrArg Obj.data (Option.some.inj this)
    cases z
  have sq : SqL K H a (ns.map V.int) := by
    cases hk : K.lookup a with
    | none => exact .inl (.inr ⟨_, by show hp0 K tb a _ a = _; unfold hp0; rw [if_neg aNot, if_pos ⟨rfl, by rw [hk]; rfl⟩]⟩)
    | some o =>
      have e := kin a o hk
      rw [scr] at e
      cases e
      exact .inr ⟨_, vs.toArray, _, hk, rfl, rfl, rfl, by rw [List.size_toArray, nlen]; exact few, by simpa using vals⟩
  have tabB : ∀ p ∈ cs, LamX.TabB (hidT st.heap H) mg p.1 p.2 := fun p hp => by
    have ht := tab p hp
    obtain ⟨m, ob, g1, g2, g3, g4, g5, g6⟩ := bm
    obtain ⟨oG, esG, epG, gG, dG, _⟩ := gl
    refine ⟨?_, ⟨m, ob, g1, g2, fun e => ?_, fun e => ?_, stay _ _ g3 (fun z => by rw [g6] at z; rcases z with z | z <;> cases z), g4, g5, g6⟩, fun e => ?_⟩
    · obtain ⟨oc, cv, file, tf, flags, tg, inF, text, tt, c1, c2, c3, c4, c5⟩ := code p hp
      refine ⟨oc, cv, file, tf, flags, tg, inF, text, tt, stay _ _ c1 (fun z => ?_), c2, c3, c4, c5⟩
      rw [c3] at z
      rcases z with z | z <;> cases z
      simp at c4
    · rw [e, gG] at g3
      cases g3
      rw [dG] at g6
      cases g6
    · rw [e, ht] at g3
      cases g3
      cases g6
    · rw [e, ht] at gG
      cases gG
      cases dG
  have e0 : Env0 P w K mg (hidT st.heap H) callerA [] st H := ⟨rfl, mod, fun b o e => of_hidT e, Nat.le_of_eq (hidT_size _ _), trivial, (fun b hb => nomatch hb), hok, .of_eq gens⟩
  refine codeAny_mono ((F _ kin' (stayD gl) tabB).run callerA [] st H ⟨[.ref a], []⟩ [.ref a] [.ref a] _ _ rfl room e0 (bind st (.ref a)) (.cons rfl .nil) (say H tabs sq)) fun r s' hr => ?_
  match r, hr with
  | .error e, hr => exact (noX H e s' hr).elim
  | .ok (.ret u), ⟨v, H', os, bare, un, hok', rv, q⟩ =>
    have q : v = .bl true := q
    subst q
    obtain rfl : u = Value.bool true := rv
    have same : ∀ b o, b ∉ tb → st.heap.get? b = some o → s'.heap.get? b = some o := fun b o nb e => by
      cases q : H b with
      | none => exact un.keep b o e q (fun z => nomatch z) (fun z => nomatch z)
      | some u =>
        rcases hp0_at q with ⟨h1, _⟩ | ⟨rfl, _, rfl⟩
        · exact absurd h1 nb
        · obtain ⟨g1, _⟩ := hok' _ _ (un.frzs _ _ _ q)
          rw [scr] at e
          cases e
          exact g1
    have more : ∀ p ∈ cs, ∃ ps : Array Value, s'.heap.get? p.2 = some { cls := .none, data := .fields ps } := fun p hp => by
      obtain ⟨ps, z⟩ := un.tbls p.2 #[] (tabs p hp)
      exact ⟨_, hok' _ _ z⟩
    refine ⟨rfl, ⟨fun b o e => ?_, fun b o e => ?_⟩, os, bare⟩
    · by_cases hb : b ∈ tb
      · obtain ⟨p, hp, rfl⟩ := inTb hb
        obtain ⟨ps, hm⟩ := more p hp
        have ht := tab p hp
        rw [ht] at e
        cases e
        exact .inr (.inl ⟨((code p hp).tab ht).isCodeTable, rfl, #[], ps, rfl, by rw [Array.empty_append]; exact hm⟩)
      · exact .inl (same b o hb e)
    · by_cases hb : b ∈ tb
      · obtain ⟨p, hp, rfl⟩ := inTb hb
        obtain ⟨ps, hm⟩ := more p hp
        exact ⟨_, hm⟩
      · exact ⟨o, same b o hb e⟩
theorem FnG.imp {P : Program} {w : World} {K : PySem.W.Frag} {mg : Str → Option Value} {base : Heap} {C : CXT} {k : Nat} {f : Addr} {fd : FuncData} {ps : List Str} {sp sp' : Sp} (F : FnG P w K mg base C k f fd ps sp) (h : ∀ vs H Q E, sp' vs H Q E → sp vs H Q E) : FnG P w K mg base C k f fd ps sp' :=
  ⟨fun vs H Q E q => F.len vs H Q E (h _ _ _ _ q), fun A outer s H args us vs Q E g hr he hb hv q => F.run A outer s H args us vs Q E g hr he hb hv (h _ _ _ _ q)⟩
theorem spLaw_imp {T : Tb} {P : Pg} {nc k f : Nat} (hob : T.ob = []) (hl : ∀ ns : List Int, ns.length ≤ 63 → callN P nc k f [.d (.scr ns)] = .ok (.d (.bl true)) []) : ∀ vs H Q E, spLaw T.K T.tl vs H Q E → spR T P nc k f 1 vs H Q E := fun vs H Q E h => by
  obtain ⟨a, ns, rfl, hS, hlen, tb, q⟩ := h
  refine ⟨noTab H, [.d (.scr ns)], rfl, ⟨fun _ _ h => noTab_sub h, rfl, fun i w h => ?_, fun i j w u a h1 o1 _ _ _ _ => ?_, noTab_no, ⟨tb, fun p hp => by rw [hob] at hp; cases hp⟩⟩, ?_⟩
  · match i, h with
    | 0, h => cases h; exact ⟨_, rfl, .scr (sqL_noTab hS)⟩
  · match i, h1 with
    | 0, h1 => cases h1; cases o1
  · rw [hl ns hlen]
    intro F' v H' _ _ _ _ _ _ _ _ r
    cases r.1
    exact q H'
theorem law_fnG {Γ : Gt} {T : Tb} {Ds : List Df} {nc : Nat} {mg : Str → Option Value} {fdo : Nat → FuncData} {P : Program} {w : World} {base : Heap} (X : Tx Γ T Ds nc mg fdo) (hc : (Ds.all fun d => chkD Γ d) = true) (hT : Tabd T Ds base mg) {k f : Nat} {d : Df} (hd : Ds[f]? = some d) (hm : d.fd.mkC = none ∧ d.fd.lm = false) (hn : d.fd.np = 1) (hob : T.ob = [])
    (hl : ∀ ns : List Int, ns.length ≤ 63 → callN (pgOf Ds) nc k f [.d (.scr ns)] = .ok (.d (.bl true)) []) : FnG P w T.K mg base (CX P w) (5 * k) (T.fa f) (fdo f) d.ps (spLaw T.K T.tl) := by
  cases hrp : d.rp with
  | true =>
    have F := all_fnG (P := P) (w := w) X hc hT k f d hd hm hrp
    rw [hn] at F
    exact F.imp (spLaw_imp hob hl)
  | false =>
    have F := FnG.of (all_fn (P := P) (w := w) X hc hT k f d hd hm hrp)
    rw [hn] at F
    exact F.imp (spLaw_imp hob hl)
/-- the law's end: cs, the code objects and their tables -/
theorem walk_lawG {l : PySem.W.OpenLaw} {k : Nat} {q : Program} {loose : List Str} {XP : (Str → Option Value) → Heap → Prop} {YP : World → Heap → Prop} {d : DefRec} {K : Params → PySem.W.Frag} (hn : l.most = some 63) (hdf : d.params.defaults = []) (hr : Room k callerA)
    (hY : ∀ (w : World) (h : Heap), YP w h → (K w.params).In h)
    (F : ∀ (w : World) (mg mb : Str → Option Value) (fa : Addr) (h : Heap) (lo : List Str) (mean : ExcName → Option Value), PyProof.Rows.Top q lo mean mg mb h → YP w h → (K w.params).In h → h.Ns mainGlobals mg → mg d.name = some (.ref fa) →
      ∃ (fd : FuncData) (cs : List (Addr × Addr)) (tl : List (Addr × Str)), (∀ p ∈ cs, h.get? p.2 = some { cls := .none, data := .fields #[] }) ∧ (∀ p ∈ cs, (K w.params).lookup p.2 = none) ∧ (∀ p ∈ cs, PySem.W.CodeHd h p.1 p.2) ∧ (∀ p ∈ tl, ∃ c, (c, p.1) ∈ cs) ∧ (∀ (s : Shared) (u : Value), BindsTo s fd ⟨[u], []⟩ [("script", u)]) ∧
        ∀ base : Heap, (K w.params).In base → base.Ns mainGlobals mg → (∀ p ∈ cs, LamX.TabB base mg p.1 p.2) → FnG l.prog w (K w.params) mg base (CX l.prog w) k fa fd ["script"] (spLaw (K w.params) tl)) :
    PySem.W.WalkO q loose XP YP l.row.toRowW d [] (fun f vs => PySem.call f vs) := by
  refine Att.attach_callB hn hdf fun w s₀ s₁ mg mb fa o pm cd doc a vs ns G Y ho hd hcd hmg hobj hints hlen hbits hg => ?_
  have kx := hY w _ Y
  obtain ⟨fd, cs, tl, h1, h2, h3, h4, h5, h6⟩ := F w mg mb fa _ _ _ G.T Y kx G.T.g hmg
  refine law_callG kx G.T.g G.T.b G.T.builtins G.T.nolimit hg h1 h2 h3 G.T.bmain hobj hints (Nat.le_trans hlen (by decide)) hr h6 h5 (fun H hT hS => ⟨a, ns, rfl, hS, hlen, fun p hp => ?_, fun _ => rfl⟩) fun H e s' z => ?_
  · obtain ⟨c, hc⟩ := h4 p hp
    exact LamX.TabS.nil (hT _ hc)
  · obtain ⟨_, _, _, _, _, _, _, _, _, _, _, _, z⟩ := z
    exact z
/-- a fact of each of a list of pairs -/
inductive AllP {α β : Type} (p : α → β → Prop) : List (α × β) → Prop
  | nil : AllP p []
  | cons {a : α} {b : β} {r : List (α × β)} : p a b → AllP p r → AllP p ((a, b) :: r)
theorem AllP.get {α β : Type} [BEq α] [LawfulBEq α] {p : α → β → Prop} : ∀ {l : List (α × β)}, AllP p l → ∀ a b, l.lookup a = some b → p a b
  | _, .nil, a, b, h => by simp at h
  | _, .cons (a := x) q t, a, b, h => by
    rw [List.lookup_cons] at h
    cases hx : a == x with
    | true =>
      rw [hx] at h
      cases h
      rw [eq_of_beq hx]
      exact q
    | false =>
      rw [hx] at h
      exact t.get a b h
theorem tab_in {K : PySem.W.Frag} {x : Str} {f c P : Addr} {oc tq : Value} {od to : Option Addr} {fd : FuncData} {sl ts : Array (Option Value)} {tv : Array Value} (ha : PySem.W.nsIn K mainGlobals x = some (some (.ref f))) (hl : K.lookup f = some ⟨oc, od, .func fd, sl⟩) (hc : fd.code = .ref c) (ht : K.lookup c = some ⟨tq, to, .fields tv, ts⟩) (hv : (tv[11]? : Option Value) = some (.ref P)) : PySem.W.tabIn K x = some (c, P) := by
  unfold PySem.W.tabIn
  rw [ha]
  simp only [hl, hc, ht, hv]
/-- the code object of a def that makes lambdas, its table -/
theorem tab_at {p : Program} {loose : List Str} {mean : ExcName → Option Value} {mg mb : Str → Option Value} {h : Heap} {K : PySem.W.Frag} {x : Str} {c P : Addr} (T : PyProof.Rows.Top p loose mean mg mb h) (X : K.In h) (hr : ((PyProof.Rows.recsOf p).any fun e => e.name == x) = true) (ht : PySem.W.tabIn K x = some (c, P)) : PySem.W.CodeHd h c P ∧ h.get? P = some { cls := .none, data := .fields #[] } := by
  cases hf : (PyProof.Rows.recsOf p).find? (fun e => e.name == x) with
  | some d => exact PySem.W.tab_of T X hf ht
  | none =>
    rw [List.find?_eq_none] at hf
    obtain ⟨e, h1, h2⟩ := List.any_eq_true.mp hr
    exact absurd h2 (hf e h1)
end Cl

/-! Pm, part A: sums, perms as functions, the inequality of shifts and crossings. -/
namespace Pm
/-- sums over a list -/
def S (l : List Nat) (f : Nat → Nat) : Nat := match l with
  | [] => 0
  | a :: r => f a + S r f
@[simp] theorem S_nil (f : Nat → Nat) : S [] f = 0 := rfl
@[simp] theorem S_cons (a : Nat) (r : List Nat) (f : Nat → Nat) : S (a :: r) f = f a + S r f := rfl
theorem S_app (f : Nat → Nat) : ∀ l m : List Nat, S (l ++ m) f = S l f + S m f
  | [], m => by simp
  | a :: r, m => by simp [S_app f r m]; omega
theorem S_congr {f g : Nat → Nat} : ∀ {l : List Nat}, (∀ x ∈ l, f x = g x) → S l f = S l g
  | [], _ => rfl
  | a :: r, h => by
    rw [S_cons, S_cons, h a List.mem_cons_self, S_congr fun x hx => h x (List.mem_cons_of_mem _ hx)]
theorem S_add (f g : Nat → Nat) : ∀ l : List Nat, S l (fun x => f x + g x) = S l f + S l g
  | [] => rfl
  | a :: r => by simp [S_add f g r]; omega
theorem S_zero : ∀ l : List Nat, S l (fun _ => 0) = 0
  | [] => rfl
  | a :: r => by simp [S_zero r]
theorem S_mul (c : Nat) (f : Nat → Nat) : ∀ l : List Nat, S l (fun x => c * f x) = c * S l f
  | [] => by simp
  | a :: r => by simp [S_mul c f r, Nat.mul_add]
theorem S_le {f g : Nat → Nat} : ∀ {l : List Nat}, (∀ x ∈ l, f x ≤ g x) → S l f ≤ S l g
  | [], _ => Nat.le_refl _
  | a :: r, h => by
    have h1 := h a List.mem_cons_self
    have h2 := S_le (l := r) fun x hx => h x (List.mem_cons_of_mem _ hx)
    simp only [S_cons]
    omega
theorem S_perm {f : Nat → Nat} {l m : List Nat} (p : l.Perm m) : S l f = S m f := by
  induction p with
  | nil => rfl
  | cons x _ ih => simp [ih]
  | swap x y l => simp; omega
  | trans _ _ h1 h2 => exact h1.trans h2
theorem S_comm (F : Nat → Nat → Nat) (m : List Nat) : ∀ l : List Nat, S l (fun x => S m fun y => F x y) = S m (fun y => S l fun x => F x y)
  | [] => by simp [S_zero]
  | a :: r => by
    simp only [S_cons]
    rw [S_comm F m r, ← S_add]
theorem S_map (f g : Nat → Nat) : ∀ l : List Nat, S (l.map g) f = S l fun x => f (g x)
  | [] => rfl
  | a :: r => by simp [S_map f g r]
theorem S_sum (f : Nat → Nat) : ∀ l : List Nat, (l.map f).sum = S l f
  | [] => rfl
  | a :: r => by simp [S_sum f r]
theorem S_one (b : Nat) (c : Nat → Nat) : ∀ {l : List Nat}, l.Nodup → S l (fun x => if x = b then c x else 0) = if b ∈ l then c b else 0
  | [], _ => by simp
  | a :: r, h => by
    rw [List.nodup_cons] at h
    rw [S_cons, S_one b c h.2]
    by_cases e : a = b
    · subst e
      rw [if_pos rfl, if_neg h.1, if_pos List.mem_cons_self]; rfl
    · rw [if_neg e, Nat.zero_add]
      have : (b ∈ a :: r) ↔ b ∈ r := by
        rw [List.mem_cons]
        exact ⟨fun z => z.resolve_left fun q => e q.symm, .inr⟩
      by_cases hb : b ∈ r
      · rw [if_pos hb, if_pos (this.mpr hb)]
      · rw [if_neg hb, if_neg (fun z => hb (this.mp z))]
abbrev Rn (n : Nat) : List Nat := List.range n
theorem S_succ (f : Nat → Nat) (n : Nat) : S (Rn (n + 1)) f = S (Rn n) f + f n := by
  show S (List.range (n + 1)) f = _
  rw [List.range_succ, S_app]; simp
theorem S_pick {n b : Nat} (hb : b < n) (c : Nat → Nat) : S (Rn n) (fun x => if x = b then c x else 0) = c b := by
  rw [S_one b c List.nodup_range, if_pos (List.mem_range.mpr hb)]
theorem S_R {f g : Nat → Nat} {n : Nat} (h : ∀ x, x < n → f x = g x) : S (Rn n) f = S (Rn n) g := S_congr fun x hx => h x (List.mem_range.mp hx)
/-- how many below c -/
theorem cnt_lt (c : Nat) : ∀ n : Nat, S (Rn n) (fun x => if x < c then 1 else 0) = min n c
  | 0 => by simp [Rn]
  | n + 1 => by
    rw [S_succ, cnt_lt c n]
    split <;> omega
theorem cnt_gt (c : Nat) : ∀ n : Nat, S (Rn n) (fun x => if c < x then 1 else 0) = n - (c + 1)
  | 0 => by simp [Rn]
  | n + 1 => by
    rw [S_succ, cnt_gt c n]
    split <;> omega

/-! ### pigeons -/
theorem len_le {α : Type} [DecidableEq α] : ∀ {l m : List α}, l.Nodup → (∀ x ∈ l, x ∈ m) → l.length ≤ m.length
  | [], m, _, _ => by simp
  | a :: r, m, h, s => by
    rw [List.nodup_cons] at h
    have ha := s a List.mem_cons_self
    have ih := len_le (l := r) (m := m.erase a) h.2 fun x hx => by
      have hne : x ≠ a := fun e => h.1 (e ▸ hx)
      exact (List.mem_erase_of_ne hne).mpr (s x (List.mem_cons_of_mem _ hx))
    rw [List.length_erase_of_mem ha] at ih
    have := List.length_pos_of_mem ha
    rw [List.length_cons]
    omega
theorem full {l : List Nat} {n : Nat} (hl : l.length = n) (hn : l.Nodup) (hb : ∀ x ∈ l, x < n) : l.Perm (Rn n) := by
  refine (List.perm_ext_iff_of_nodup hn List.nodup_range).mpr fun a => ⟨fun h => List.mem_range.mpr (hb a h), fun h => ?_⟩
  by_cases q : a ∈ l
  · exact q
  · exfalso
    have := len_le (l := a :: l) (m := Rn n) (List.nodup_cons.mpr ⟨q, hn⟩) fun x hx => by
      rcases List.mem_cons.mp hx with rfl | hx
      · exact h
      · exact List.mem_range.mpr (hb x hx)
    rw [List.length_cons, hl, Rn, List.length_range] at this
    omega

/-! ### perms -/
/-- f leads the first n to themselves, each once -/
structure Pf (f : Nat → Nat) (n : Nat) : Prop where
  lt : ∀ x, x < n → f x < n
  inj : ∀ x y, x < n → y < n → f x = f y → x = y
theorem Pf.nodup {f : Nat → Nat} {n : Nat} (h : Pf f n) : ((Rn n).map f).Nodup := by
  rw [List.nodup_iff_pairwise_ne, List.pairwise_map]
  have : (Rn n).Pairwise (· ≠ ·) := List.nodup_range
  refine this.imp_of_mem fun {a b} ha hb hne e => hne (h.inj a b (List.mem_range.mp ha) (List.mem_range.mp hb) e)
theorem Pf.perm {f : Nat → Nat} {n : Nat} (h : Pf f n) : ((Rn n).map f).Perm (Rn n) :=
  full (by simp [Rn]) h.nodup fun x hx => by
    obtain ⟨y, hy, rfl⟩ := List.mem_map.mp hx
    exact h.lt y (List.mem_range.mp hy)
/-- a sum over places by goals -/
theorem Pf.sum {f : Nat → Nat} {n : Nat} (h : Pf f n) (c : Nat → Nat) : S (Rn n) (fun x => c (f x)) = S (Rn n) c := by
  rw [← S_map c f, S_perm h.perm]
theorem Pf.surj {f : Nat → Nat} {n : Nat} (h : Pf f n) {y : Nat} (hy : y < n) : ∃ x, x < n ∧ f x = y := by
  have := h.perm.mem_iff.mpr (List.mem_range.mpr hy)
  obtain ⟨x, hx, e⟩ := List.mem_map.mp this
  exact ⟨x, List.mem_range.mp hx, e⟩
def dist (a b : Nat) : Nat := (a - b) + (b - a)
/-- crossings, shifts -/
def Inv (f : Nat → Nat) (n : Nat) : Nat := S (Rn n) fun x => S (Rn n) fun y => if x < y ∧ f y < f x then 1 else 0
def Sh (f : Nat → Nat) (n : Nat) : Nat := S (Rn n) fun x => dist (f x) x
theorem Inv_congr {f g : Nat → Nat} {n : Nat} (h : ∀ x, x < n → f x = g x) : Inv f n = Inv g n :=
  S_R fun x hx => S_R fun y hy => by rw [h x hx, h y hy]
theorem Sh_congr {f g : Nat → Nat} {n : Nat} (h : ∀ x, x < n → f x = g x) : Sh f n = Sh g n := S_R fun x hx => by rw [h x hx]
theorem Sh_le {f : Nat → Nat} {n : Nat} (h : Pf f n) : Sh f n ≤ 2 * Inv f n := by
  have e : Inv f n = S (Rn n) fun x => S (Rn n) fun y => if y < x ∧ f x < f y then 1 else 0 := S_comm _ _ _
  have : Sh f n ≤ S (Rn n) fun x => (S (Rn n) fun y => if x < y ∧ f y < f x then 1 else 0) + S (Rn n) fun y => if y < x ∧ f x < f y then 1 else 0 := by
    refine S_le fun x hx => ?_
    have hx := List.mem_range.mp hx
    have c1 : S (Rn n) (fun y => if y < x then 1 else 0) = x := by rw [cnt_lt]; omega
    have c2 : S (Rn n) (fun y => if f y < f x then 1 else 0) = f x := by
      rw [h.sum fun z => if z < f x then 1 else 0, cnt_lt]
      have := h.lt x hx
      omega
    have d1 : S (Rn n) (fun y => if y < x then 1 else 0) = S (Rn n) (fun y => if y < x ∧ f y < f x then 1 else 0) + S (Rn n) (fun y => if y < x ∧ f x < f y then 1 else 0) := by
      rw [← S_add]
      refine S_R fun y hy => ?_
      have : f y = f x → y = x := h.inj y x hy hx
      split <;> split <;> split <;> omega
    have d2 : S (Rn n) (fun y => if f y < f x then 1 else 0) = S (Rn n) (fun y => if y < x ∧ f y < f x then 1 else 0) + S (Rn n) (fun y => if x < y ∧ f y < f x then 1 else 0) := by
      rw [← S_add]
      refine S_R fun y hy => ?_
      have : y = x → f y = f x := fun e => by rw [e]
      split <;> split <;> split <;> omega
    unfold dist
    omega
  rw [S_add, ← e] at this
  have e2 : S (Rn n) (fun x => S (Rn n) fun y => if x < y ∧ f y < f x then 1 else 0) = Inv f n := rfl
  rw [e2] at this
  omega

theorem Inv_succ (f : Nat → Nat) (n : Nat) : Inv f (n + 1) = Inv f n + S (Rn n) fun x => if f n < f x then 1 else 0 := by
  unfold Inv
  rw [S_succ]
  have z : S (Rn (n + 1)) (fun y => if n < y ∧ f y < f n then 1 else 0) = 0 :=
    (S_R fun y hy => by rw [if_neg (by omega)]).trans (S_zero _)
  rw [z, Nat.add_zero, ← S_add]
  refine S_R fun x hx => ?_
  rw [S_succ]
  congr 1
  by_cases q : f n < f x
  · rw [if_pos q, if_pos ⟨hx, q⟩]
  · rw [if_neg q, if_neg fun z => q z.2]
/-! ### rounds, by their least places -/
def it (f : Nat → Nat) : Nat → Nat → Nat
  | 0, p => p
  | k + 1, p => f (it f k p)
def isMin (f : Nat → Nat) (p : Nat) : Prop := ∀ k, p ≤ it f k p
open Classical in
/-- how many rounds -/
noncomputable def Cy (f : Nat → Nat) (n : Nat) : Nat := S (Rn n) fun p => if isMin f p then 1 else 0
/-- without the last place -/
def cut (f : Nat → Nat) (n : Nat) : Nat → Nat := fun x => if f x = n then f n else f x
theorem cut_pf {f : Nat → Nat} {n : Nat} (h : Pf f (n + 1)) : Pf (cut f n) n := by
  have hn := h.lt n (Nat.lt_succ_self n)
  refine ⟨fun x hx => ?_, fun x y hx hy e => ?_⟩
  · have h1 := h.lt x (by omega)
    unfold cut
    split
    · rename_i e
      have : f n ≠ n := fun z => by
        have := h.inj x n (by omega) (by omega) (by rw [e, z])
        omega
      omega
    · omega
  · have i1 := h.inj x y (by omega) (by omega)
    have i2 := h.inj x n (by omega) (by omega)
    have i3 := h.inj y n (by omega) (by omega)
    unfold cut at e
    split at e <;> split at e <;> first | omega | (exact i1 (by omega))
theorem isMin_cut {f : Nat → Nat} {n p : Nat} (h : Pf f (n + 1)) (hp : p < n) : isMin f p ↔ isMin (cut f n) p := by
  have lt : ∀ k, it f k p < n + 1 := fun k => by
    induction k with
    | zero => exact Nat.lt_succ_of_lt hp
    | succ k ih => exact h.lt _ ih
  have c := cut_pf h
  have lt' : ∀ k, it (cut f n) k p < n := fun k => by
    induction k with
    | zero => exact hp
    | succ k ih => exact c.lt _ ih
  constructor
  · intro m k
    have : ∃ j, it (cut f n) k p = it f j p := by
      induction k with
      | zero => exact ⟨0, rfl⟩
      | succ k ih =>
        obtain ⟨j, e⟩ := ih
        show ∃ j, cut f n (it (cut f n) k p) = it f j p
        rw [e]
        unfold cut
        split
        · rename_i q
          exact ⟨j + 2, by show f n = f (f (it f j p)); rw [q]⟩
        · exact ⟨j + 1, rfl⟩
    obtain ⟨j, e⟩ := this
    rw [e]
    exact m j
  · intro m k
    have : (∃ j, it f k p = it (cut f n) j p) ∨ (it f k p = n ∧ ∃ j, f n = it (cut f n) j p) := by
      induction k with
      | zero => exact .inl ⟨0, rfl⟩
      | succ k ih =>
        show (∃ j, f (it f k p) = it (cut f n) j p) ∨ (f (it f k p) = n ∧ ∃ j, f n = it (cut f n) j p)
        rcases ih with ⟨j, e⟩ | ⟨e, j, e2⟩
        · have s : it (cut f n) (j + 1) p = cut f n (it f k p) := by rw [e]; rfl
          unfold cut at s
          split at s
          · rename_i q
            exact .inr ⟨q, j + 1, s.symm⟩
          · exact .inl ⟨j + 1, s.symm⟩
        · rw [e]
          exact .inl ⟨j, e2⟩
    rcases this with ⟨j, e⟩ | ⟨e, _⟩
    · rw [e]; exact m j
    · omega
theorem isMin_last {f : Nat → Nat} {n : Nat} : isMin f n → n ≤ f n := fun m => m 1
theorem isMin_fix {f : Nat → Nat} {n : Nat} (e : f n = n) : isMin f n := fun k => by
  have : it f k n = n := by
    induction k with
    | zero => rfl
    | succ k ih => show f (it f k n) = n; rw [ih, e]
  omega
theorem Cy_cut {f : Nat → Nat} {n : Nat} (h : Pf f (n + 1)) : Cy f (n + 1) = Cy (cut f n) n + if f n = n then 1 else 0 := by
  unfold Cy
  rw [S_succ]
  congr 1
  · refine S_R fun p hp => ?_
    by_cases q : isMin f p
    · rw [if_pos q, if_pos ((isMin_cut h hp).mp q)]
    · rw [if_neg q, if_neg fun z => q ((isMin_cut h hp).mpr z)]
  · by_cases q : f n = n
    · rw [if_pos q, if_pos (isMin_fix q)]
    · have := h.lt n (Nat.lt_succ_self n)
      rw [if_neg q, if_neg fun z => by
        have := isMin_last z
        omega]
/-- Diaconis, Graham -/
theorem Sh_ge : ∀ {n : Nat} {f : Nat → Nat}, Pf f n → Inv f n + n ≤ Sh f n + Cy f n
  | 0, f, _ => by simp [Inv, Sh, Cy, Rn]
  | n + 1, f, h => by
    have ih := Sh_ge (cut_pf h)
    have hn := h.lt n (Nat.lt_succ_self n)
    rw [Cy_cut h]
    have eI : Inv f (n + 1) = S (Rn n) (fun x => S (Rn n) fun y => if x < y ∧ f y < f x then 1 else 0) + S (Rn n) (fun x => if f n < f x then 1 else 0) := by
      unfold Inv
      rw [S_succ]
      have z : S (Rn (n + 1)) (fun y => if n < y ∧ f y < f n then 1 else 0) = 0 := by
        exact (S_R fun y hy => by rw [if_neg (by omega)]).trans (S_zero _)
      rw [z, Nat.add_zero, ← S_add]
      refine S_R fun x hx => ?_
      rw [S_succ]
      congr 1
      have : (x < n ∧ f n < f x) ↔ f n < f x := ⟨fun q => q.2, fun q => ⟨hx, q⟩⟩
      by_cases q : f n < f x
      · rw [if_pos q, if_pos ⟨hx, q⟩]
      · rw [if_neg q, if_neg fun z => q z.2]
    have eS : Sh f (n + 1) = S (Rn n) (fun x => dist (f x) x) + dist (f n) n := S_succ _ _
    by_cases hf : f n = n
    · -- the last place stays
      rw [if_pos hf]
      have fx : ∀ x, x < n → f x ≠ n := fun x hx e => by
        have := h.inj x n (by omega) (by omega) (by rw [e, hf])
        omega
      have cx : ∀ x, x < n → cut f n x = f x := fun x hx => by unfold cut; rw [if_neg (fx x hx)]
      have i1 : Inv (cut f n) n = Inv f n := Inv_congr cx
      have s1 : Sh (cut f n) n = Sh f n := Sh_congr cx
      have z : S (Rn n) (fun x => if f n < f x then 1 else 0) = 0 := by
        exact (S_R fun x hx => by
          have := h.lt x (by omega)
          rw [if_neg (by omega)]).trans (S_zero _)
      have d0 : dist (f n) n = 0 := by unfold dist; omega
      rw [eI, eS, z, d0]
      rw [i1, s1] at ih
      unfold Inv Sh at ih
      omega
    · rw [if_neg hf]
      obtain ⟨b, hb, eb⟩ := h.surj (Nat.lt_succ_self n)
      have hbn : b < n := by
        have : b ≠ n := fun e => hf (e ▸ eb)
        omega
      have only : ∀ x, x < n → (f x = n ↔ x = b) := fun x hx => ⟨fun e => h.inj x b (by omega) (by omega) (by rw [e, eb]), fun e => by rw [e, eb]⟩
      have an : f n < n := by omega
      -- counts
      have k1 : S (Rn n) (fun x => if f n < f x then 1 else 0) = n - f n := by
        have := h.sum fun z => if f n < z then 1 else 0
        rw [cnt_gt, S_succ] at this
        simp only [Nat.lt_irrefl, if_false] at this
        omega
      have k2 : S (Rn n) (fun y => if b < y then 1 else 0) = n - (b + 1) := cnt_gt b n
      have X := S (Rn n) fun x => if x < b ∧ f n < f x then 1 else 0
      have k3 : S (Rn n) (fun x => if x < b ∧ f n < f x then 1 else 0) + f n = S (Rn n) (fun y => if b < y ∧ f y < f n then 1 else 0) + b := by
        have c1 : S (Rn n) (fun y => if y < b then 1 else 0) = b := by rw [cnt_lt]; omega
        have c2 : S (Rn (n + 1)) (fun y => if f y < f n then 1 else 0) = f n := by
          rw [h.sum fun z => if z < f n then 1 else 0, cnt_lt]; omega
        rw [S_succ] at c2
        simp only [Nat.lt_irrefl, if_false, Nat.add_zero] at c2
        have d1 : S (Rn n) (fun y => if y < b then 1 else 0) = S (Rn n) (fun y => if y < b ∧ f y < f n then 1 else 0) + S (Rn n) (fun y => if y < b ∧ f n < f y then 1 else 0) := by
          rw [← S_add]
          refine S_R fun y hy => ?_
          have : f y = f n → y = n := h.inj y n (by omega) (by omega)
          split <;> split <;> split <;> omega
        have d2 : S (Rn n) (fun y => if f y < f n then 1 else 0) = S (Rn n) (fun y => if y < b ∧ f y < f n then 1 else 0) + S (Rn n) (fun y => if b < y ∧ f y < f n then 1 else 0) := by
          rw [← S_add]
          refine S_R fun y hy => ?_
          have : y = b → f y = n := (only y hy).mpr
          split <;> split <;> split <;> omega
        omega
      -- crossings
      have A : S (Rn n) (fun x => S (Rn n) fun y => if x < y ∧ f y < f x then 1 else 0) =
          S (Rn n) (fun x => S (Rn n) fun y => if x ≠ b ∧ y ≠ b ∧ x < y ∧ f y < f x then 1 else 0) + (n - (b + 1)) := by
        rw [← k2, ← S_pick hbn fun _ => S (Rn n) fun y => if b < y then 1 else 0, ← S_add]
        refine S_R fun x hx => ?_
        by_cases e : x = b
        · rw [if_pos e, ← S_add]
          refine S_R fun y hy => ?_
          have h1 := h.lt y (by omega)
          have h2 := only y hy
          have h3 := (only x hx).mpr e
          split <;> split <;> split <;> omega
        · rw [if_neg e, Nat.add_zero]
          refine S_R fun y hy => ?_
          have h1 := h.lt x (by omega)
          have h2 := only y hy
          have h3 := only x hx
          split <;> split <;> omega
      have B : Inv (cut f n) n = S (Rn n) (fun x => S (Rn n) fun y => if x ≠ b ∧ y ≠ b ∧ x < y ∧ f y < f x then 1 else 0) +
          (S (Rn n) (fun y => if b < y ∧ f y < f n then 1 else 0) + S (Rn n) fun x => if x < b ∧ f n < f x then 1 else 0) := by
        rw [← S_pick hbn fun _ => S (Rn n) fun y => if b < y ∧ f y < f n then 1 else 0, ← S_add, ← S_add]
        refine S_R fun x hx => ?_
        have cu : ∀ z, z < n → cut f n z = if z = b then f n else f z := fun z hz => by
          unfold cut
          by_cases e : z = b
          · rw [if_pos ((only z hz).mpr e), if_pos e]
          · rw [if_neg fun q => e ((only z hz).mp q), if_neg e]
        have e1 : S (Rn n) (fun y => if x < y ∧ cut f n y < cut f n x then 1 else 0) = S (Rn n) fun y => if x < y ∧ (if y = b then f n else f y) < (if x = b then f n else f x) then 1 else 0 :=
          S_R fun y hy => by rw [cu x hx, cu y hy]
        rw [e1]
        by_cases e : x = b
        · simp only [if_pos e]
          have z : (if x < b ∧ f n < f x then 1 else 0) = 0 := if_neg (by omega)
          rw [z, Nat.add_zero, ← S_add]
          refine S_R fun y hy => ?_
          by_cases ey : y = b
          · rw [if_pos ey]
            split <;> split <;> split <;> omega
          · rw [if_neg ey]
            split <;> split <;> split <;> omega
        · simp only [if_neg e]
          rw [Nat.zero_add, ← S_pick hbn fun _ => if x < b ∧ f n < f x then 1 else 0, ← S_add]
          refine S_R fun y hy => ?_
          by_cases ey : y = b
          · rw [if_pos ey, if_pos ey]
            split <;> split <;> split <;> omega
          · rw [if_neg ey, if_neg ey]
            split <;> split <;> omega
      -- shifts
      have D1 : S (Rn n) (fun x => dist (f x) x) = S (Rn n) (fun x => if x = b then 0 else dist (f x) x) + dist n b := by
        rw [← S_pick hbn fun _ => dist n b, ← S_add]
        refine S_R fun x hx => ?_
        by_cases e : x = b
        · rw [if_pos e, if_pos e, (only x hx).mpr e, e]; omega
        · rw [if_neg e, if_neg e]; rfl
      have D2 : Sh (cut f n) n = S (Rn n) (fun x => if x = b then 0 else dist (f x) x) + dist (f n) b := by
        rw [← S_pick hbn fun _ => dist (f n) b, ← S_add]
        refine S_R fun x hx => ?_
        unfold cut
        by_cases e : x = b
        · rw [if_pos ((only x hx).mpr e), if_pos e, if_pos e, e]; omega
        · rw [if_neg fun q => e ((only x hx).mp q), if_neg e, if_neg e]; rfl
      rw [eI, eS, A, D1, k1]
      rw [B, D2] at ih
      unfold dist at ih ⊢
      omega
end Pm

/-! Pm, part B: led back, from behind; blocks. -/
namespace Pm
theorem Pf.sum2 {f : Nat → Nat} {n : Nat} (h : Pf f n) (c : Nat → Nat → Nat) : S (Rn n) (fun x => S (Rn n) fun y => c (f x) (f y)) = S (Rn n) fun x => S (Rn n) fun y => c x y := by
  have e : ∀ x, S (Rn n) (fun y => c (f x) (f y)) = S (Rn n) fun y => c (f x) y := fun x => h.sum fun y => c (f x) y
  rw [S_congr fun x _ => e x]
  exact h.sum fun x => S (Rn n) fun y => c x y
theorem dist_comm (a b : Nat) : dist a b = dist b a := by unfold dist; omega
section
variable {f g : Nat → Nat} {n : Nat}
/-- g leads back -/
def Bk (f g : Nat → Nat) (n : Nat) : Prop := ∀ x, x < n → g (f x) = x
theorem Bk.pf (h : Pf f n) (b : Bk f g n) : Pf g n := by
  refine ⟨fun x hx => ?_, fun x y hx hy e => ?_⟩
  · obtain ⟨z, hz, rfl⟩ := h.surj hx
    rw [b z hz]; exact hz
  · obtain ⟨z, hz, rfl⟩ := h.surj hx
    obtain ⟨w, hw, rfl⟩ := h.surj hy
    rw [b z hz, b w hw] at e
    rw [e]
theorem Bk.sh (h : Pf f n) (b : Bk f g n) : Sh g n = Sh f n := by
  unfold Sh
  rw [← h.sum fun x => dist (g x) x]
  exact S_R fun x hx => by rw [b x hx, dist_comm]
theorem Bk.inv (h : Pf f n) (b : Bk f g n) : Inv g n = Inv f n := by
  unfold Inv
  rw [← h.sum2 fun x y => if x < y ∧ g y < g x then 1 else 0, S_comm]
  refine S_R fun x hx => S_R fun y hy => ?_
  rw [b x hx, b y hy]
  by_cases q : x < y ∧ f y < f x
  · rw [if_pos q, if_pos ⟨q.2, q.1⟩]
  · rw [if_neg q, if_neg fun z => q ⟨z.2, z.1⟩]
/-- g from behind -/
def Mi (f g : Nat → Nat) (n : Nat) : Prop := ∀ x, x < n → g (n - 1 - x) = n - 1 - f x
theorem rev_pf (n : Nat) : Pf (fun x => n - 1 - x) n := ⟨fun x hx => by omega, fun x y hx hy e => by omega⟩
theorem Mi.sh (h : Pf f n) (m : Mi f g n) : Sh g n = Sh f n := by
  unfold Sh
  rw [← (rev_pf n).sum fun x => dist (g x) x]
  refine S_R fun x hx => ?_
  have := h.lt x hx
  rw [m x hx]
  unfold dist
  omega
theorem Mi.inv (h : Pf f n) (m : Mi f g n) : Inv g n = Inv f n := by
  unfold Inv
  rw [← (rev_pf n).sum2 fun x y => if x < y ∧ g y < g x then 1 else 0, S_comm]
  refine S_R fun x hx => S_R fun y hy => ?_
  have h1 := h.lt x hx
  have h2 := h.lt y hy
  rw [m x hx, m y hy]
  by_cases q : x < y ∧ f y < f x
  · rw [if_pos q, if_pos (by omega)]
  · rw [if_neg q, if_neg (by omega)]
end

/-! ### blocks -/
def G (g : List Nat) (x : Nat) : Nat := g.getD x 0
def bg (len : Nat → Nat) (p : Nat) : Nat := S (Rn p) len
def blk (len st : Nat → Nat) (n : Nat) : List Nat := (Rn n).flatMap fun p => (Rn (len p)).map (st p + ·)
section
variable {len st : Nat → Nat}
theorem bg_succ (p : Nat) : bg len (p + 1) = bg len p + len p := S_succ _ _
theorem bg_mono {p q : Nat} (h : p ≤ q) : bg len p ≤ bg len q := by
  induction q with
  | zero => rw [Nat.le_zero.mp h]; exact Nat.le_refl _
  | succ q ih =>
    rcases Nat.lt_or_ge p (q + 1) with z | z
    · have := ih (by omega)
      rw [bg_succ]
      omega
    · rw [show p = q + 1 by omega]; exact Nat.le_refl _
theorem bg_next {p q : Nat} (h : p < q) : bg len p + len p ≤ bg len q := by
  have := bg_mono (len := len) (show p + 1 ≤ q from h)
  rw [bg_succ] at this
  exact this
theorem blk_succ (n : Nat) : blk len st (n + 1) = blk len st n ++ (Rn (len n)).map (st n + ·) := by
  show (List.range (n + 1)).flatMap _ = _
  rw [List.range_succ, List.flatMap_append]
  simp [blk, Rn]
theorem blk_len : ∀ n : Nat, (blk len st n).length = bg len n
  | 0 => rfl
  | n + 1 => by rw [blk_succ, List.length_append, blk_len n, bg_succ]; simp [Rn]
theorem blk_at {p s : Nat} (hs : s < len p) : ∀ {n : Nat}, p < n → (blk len st n)[bg len p + s]? = some (st p + s)
  | n + 1, hp => by
    rw [blk_succ]
    rcases Nat.lt_or_ge p n with h | h
    · rw [List.getElem?_append_left (by rw [blk_len]; have := bg_next (len := len) h; omega)]
      exact blk_at hs h
    · have : p = n := by omega
      subst this
      rw [List.getElem?_append_right (by rw [blk_len]; omega), blk_len, Nat.add_sub_cancel_left, List.getElem?_map, List.getElem?_range hs]
      rfl
theorem blk_G {p s n : Nat} (hp : p < n) (hs : s < len p) : G (blk len st n) (bg len p + s) = st p + s := by
  unfold G
  rw [List.getD_eq_getElem?_getD, blk_at hs hp]; rfl
theorem place_ex : ∀ {n x : Nat}, x < bg len n → ∃ p s, p < n ∧ s < len p ∧ x = bg len p + s
  | 0, x, h => absurd h (Nat.not_lt_zero _)
  | n + 1, x, h => by
    rcases Nat.lt_or_ge x (bg len n) with z | z
    · obtain ⟨p, s, h1, h2, h3⟩ := place_ex z
      exact ⟨p, s, by omega, h2, h3⟩
    · rw [bg_succ] at h
      exact ⟨n, x - bg len n, by omega, by omega, by omega⟩
theorem S_split (c : Nat → Nat) (m : Nat) : ∀ k : Nat, S (Rn (m + k)) c = S (Rn m) c + S (Rn k) fun s => c (m + s)
  | 0 => by simp [Rn]
  | k + 1 => by rw [show m + (k + 1) = (m + k) + 1 by omega, S_succ, S_split c m k, S_succ]; omega
/-- a sum over places, piece by piece -/
theorem S_blk (c : Nat → Nat) : ∀ n : Nat, S (Rn (bg len n)) c = S (Rn n) fun p => S (Rn (len p)) fun s => c (bg len p + s)
  | 0 => by simp [bg, Rn]
  | n + 1 => by rw [bg_succ, S_split, S_blk c n, S_succ]
theorem S_const (c : Nat) : ∀ n : Nat, S (Rn n) (fun _ => c) = n * c
  | 0 => by simp [Rn]
  | n + 1 => by rw [S_succ, S_const c n, Nat.succ_mul]
/-- blocks that do not meet -/
def Apart (len st : Nat → Nat) (n : Nat) : Prop := ∀ p r, p < n → r < n → p ≠ r → st p + len p ≤ st r ∨ st r + len r ≤ st p
theorem blk_pf {n : Nat} (a : Apart len st n) (hb : ∀ p, p < n → st p + len p ≤ bg len n) : Pf (G (blk len st n)) (bg len n) := by
  refine ⟨fun x hx => ?_, fun x y hx hy e => ?_⟩
  · obtain ⟨p, s, h1, h2, rfl⟩ := place_ex hx
    rw [blk_G h1 h2]
    have := hb p h1
    omega
  · obtain ⟨p, s, h1, h2, rfl⟩ := place_ex hx
    obtain ⟨r, t, h3, h4, rfl⟩ := place_ex hy
    rw [blk_G h1 h2, blk_G h3 h4] at e
    by_cases q : p = r
    · subst q; omega
    · have := a p r h1 h3 q
      omega
/-- the crossings of blocks -/
theorem blk_inv {n : Nat} (a : Apart len st n) : Inv (G (blk len st n)) (bg len n) = S (Rn n) fun p => S (Rn n) fun r => if p < r ∧ st r < st p then len p * len r else 0 := by
  unfold Inv
  rw [S_blk]
  refine S_R fun p hp => ?_
  have e : S (Rn (len p)) (fun s => S (Rn (bg len n)) fun y => if bg len p + s < y ∧ G (blk len st n) y < G (blk len st n) (bg len p + s) then 1 else 0) =
      S (Rn (len p)) fun s => S (Rn n) fun r => S (Rn (len r)) fun t => if p < r ∧ st r < st p then 1 else 0 := by
    refine S_R fun s hs => ?_
    rw [S_blk]
    refine S_R fun r hr => S_R fun t ht => ?_
    rw [blk_G hp hs, blk_G hr ht]
    by_cases q : p = r
    · subst q
      rw [if_neg (by omega), if_neg (by omega)]
    · have h1 := a p r hp hr q
      rcases Nat.lt_or_ge p r with z | z
      · have := bg_next (len := len) z
        by_cases w : st r < st p
        · rw [if_pos (by omega), if_pos ⟨z, w⟩]
        · rw [if_neg (by omega), if_neg (by omega)]
      · have := bg_next (len := len) (show r < p by omega)
        rw [if_neg (by omega), if_neg (by omega)]
  rw [e, S_comm]
  refine S_R fun r hr => ?_
  by_cases q : p < r ∧ st r < st p
  · simp only [if_pos q]
    rw [S_const, S_const, Nat.mul_one]
  · simp only [if_neg q]
    rw [S_const, S_const]; simp
end

/-! ### layings: lengths L, order O -/
abbrev ln (L : List Nat) (p : Nat) : Nat := G L p
def st (L : List Nat) : List Nat → Nat → Nat
  | [], _ => 0
  | q :: O, p => if q = p then 0 else ln L q + st L O p
structure Lay (L O : List Nat) : Prop where
  pm : O.Perm (Rn L.length)
  pos : ∀ p, p < L.length → 1 ≤ ln L p
def gl (L O : List Nat) : List Nat := blk (ln L) (st L O) L.length
theorem bg_take (L : List Nat) : ∀ p : Nat, bg (ln L) p = (L.take p).sum := by
  intro p
  induction p generalizing L with
  | zero => rfl
  | succ p ih =>
    cases L with
    | nil =>
      rw [List.take_nil]
      show S (Rn (p + 1)) _ = 0
      exact (S_R fun x _ => by simp [G]).trans (S_zero _)
    | cons a L =>
      rw [List.take_succ_cons, List.sum_cons, ← ih L]
      have : bg (ln (a :: L)) (p + 1) = S (Rn (1 + p)) (ln (a :: L)) := by rw [Nat.add_comm]; rfl
      rw [this, S_split]
      have h1 : S (Rn 1) (ln (a :: L)) = a := by
        show S (List.range 1) _ = a
        simp [S, List.range_succ, G]
      have h2 : S (Rn p) (fun s => ln (a :: L) (1 + s)) = bg (ln L) p := S_R fun x _ => by rw [Nat.add_comm]; simp [G]
      rw [h1, h2]
theorem bg_all (L : List Nat) : bg (ln L) L.length = L.sum := by rw [bg_take, List.take_length]
theorem gl_len (L O : List Nat) : (gl L O).length = L.sum := by rw [gl, blk_len, bg_all]
section
variable {L O : List Nat}
theorem st_le : ∀ {O : List Nat} {p : Nat}, p ∈ O → st L O p + ln L p ≤ S O (ln L)
  | q :: O, p, h => by
    rw [st, S_cons]
    by_cases e : q = p
    · subst e; rw [if_pos rfl]; omega
    · rw [if_neg e]
      have := st_le (O := O) (p := p) ((List.mem_cons.mp h).resolve_left fun z => e z.symm)
      omega
theorem st_apart : ∀ {O : List Nat}, O.Nodup → ∀ {p r : Nat}, p ∈ O → r ∈ O → p ≠ r → st L O p + ln L p ≤ st L O r ∨ st L O r + ln L r ≤ st L O p
  | q :: O, h, p, r, hp, hr, ne => by
    rw [List.nodup_cons] at h
    rw [st, st]
    by_cases e1 : q = p
    · rw [if_pos e1]
      subst e1
      rw [if_neg ne]
      left; omega
    · rw [if_neg e1]
      by_cases e2 : q = r
      · rw [if_pos e2]; subst e2; right; omega
      · rw [if_neg e2]
        have := st_apart h.2 ((List.mem_cons.mp hp).resolve_left fun z => e1 z.symm) ((List.mem_cons.mp hr).resolve_left fun z => e2 z.symm) ne
        omega
theorem Lay.mem (h : Lay L O) {p : Nat} : p ∈ O ↔ p < L.length := by rw [h.pm.mem_iff, Rn, List.mem_range]
theorem Lay.nd (h : Lay L O) : O.Nodup := h.pm.nodup_iff.mpr List.nodup_range
theorem Lay.len (h : Lay L O) : O.length = L.length := by have := h.pm.length_eq; simpa [Rn] using this
theorem Lay.all (h : Lay L O) : S O (ln L) = L.sum := by rw [S_perm h.pm]; exact bg_all L
theorem Lay.apart (h : Lay L O) : Apart (ln L) (st L O) L.length := fun p r hp hr ne => st_apart h.nd (h.mem.mpr hp) (h.mem.mpr hr) ne
theorem Lay.pf (h : Lay L O) : Pf (G (gl L O)) L.sum := by
  have := blk_pf h.apart fun p hp => by
    have := st_le (L := L) (h.mem.mpr hp)
    rw [h.all, ← bg_all] at this
    exact this
  rw [bg_all] at this
  exact this
/-- the products of those that stand the other way round -/
def cr (L : List Nat) : List Nat → Nat
  | [] => 0
  | p :: O => ln L p * S O (fun r => if r < p then ln L r else 0) + cr L O
theorem cr_sum {t : Nat → Nat} : ∀ {O : List Nat}, O.Pairwise (fun p r => t p < t r) → cr L O = S O fun p => S O fun r => if r < p ∧ t p < t r then ln L p * ln L r else 0
  | [], _ => rfl
  | q :: O, h => by
    rw [List.pairwise_cons] at h
    rw [cr, cr_sum h.2, S_cons, S_cons, if_neg (by omega), Nat.zero_add]
    congr 1
    · rw [← S_mul]
      refine S_congr fun r hr => ?_
      have := h.1 r hr
      by_cases z : r < q
      · rw [if_pos z, if_pos ⟨z, this⟩]
      · rw [if_neg z, if_neg fun w => z w.1, Nat.mul_zero]
    · refine S_congr fun p hp => ?_
      have := h.1 p hp
      rw [S_cons, if_neg (by omega), Nat.zero_add]
theorem st_pw : ∀ {O : List Nat}, O.Nodup → (∀ p ∈ O, 1 ≤ ln L p) → O.Pairwise fun p r => st L O p < st L O r
  | [], _, _ => .nil
  | q :: O, h, pos => by
    rw [List.nodup_cons] at h
    have hq := pos q List.mem_cons_self
    refine .cons (fun r hr => ?_) ?_
    · rw [st, st, if_pos rfl, if_neg fun (e : q = r) => h.1 (e ▸ hr)]
      omega
    · refine (st_pw h.2 fun p hp => pos p (List.mem_cons_of_mem _ hp)).imp_of_mem fun {a b} ha hb z => ?_
      rw [st, st, if_neg fun (e : q = a) => h.1 (e ▸ ha), if_neg fun (e : q = b) => h.1 (e ▸ hb)]
      omega
/-- they are the crossings of the goal -/
theorem Lay.cross (h : Lay L O) : Inv (G (gl L O)) L.sum = cr L O := by
  have e1 := blk_inv h.apart
  rw [bg_all] at e1
  have e2 := cr_sum (L := L) (t := st L O) (O := O) (st_pw h.nd fun p hp => h.pos p (h.mem.mp hp))
  have e3 : S O (fun p => S O fun r => if r < p ∧ st L O p < st L O r then ln L p * ln L r else 0) = S (Rn L.length) fun p => S (Rn L.length) fun r => if r < p ∧ st L O p < st L O r then ln L p * ln L r else 0 := by
    rw [S_perm h.pm]
    exact S_R fun p hp => S_perm h.pm
  rw [show gl L O = blk (ln L) (st L O) L.length from rfl, e1, e2, e3, S_comm]
  refine S_R fun p hp => S_R fun r hr => ?_
  rw [Nat.mul_comm]
theorem cr_app (q : Nat) : ∀ O : List Nat, cr L (O ++ [q]) = cr L O + S O fun p => if q < p then ln L q * ln L p else 0
  | [] => by simp [cr]
  | p :: O => by
    rw [List.cons_append, cr, cr, cr_app q O, S_app, S_cons, S_cons, S_nil, Nat.mul_add]
    have : ln L p * ((if q < p then ln L q else 0) + 0) = if q < p then ln L q * ln L p else 0 := by
      split
      · rw [Nat.add_zero, Nat.mul_comm]
      · simp
    rw [this]
    omega
end
end Pm

/-! Pm, part C: the laying that leads back, the one from behind. -/
namespace Pm
section
variable {L O : List Nat}
theorem G_of {l : List Nat} {i x : Nat} (h : l[i]? = some x) : G l i = x := by unfold G; rw [List.getD_eq_getElem?_getD, h]; rfl
theorem G_get {l : List Nat} {i : Nat} (h : i < l.length) : l[i]? = some (G l i) := by
  unfold G
  rw [List.getD_eq_getElem?_getD, List.getElem?_eq_getElem h]; rfl
theorem G_mem {l : List Nat} {i : Nat} (h : i < l.length) : G l i ∈ l := List.mem_of_getElem? (G_get h)
theorem G_map {l : List Nat} {f : Nat → Nat} {i : Nat} (h : i < l.length) : G (l.map f) i = f (G l i) := by
  refine G_of ?_
  rw [List.getElem?_map, G_get h]; rfl
theorem G_inj {l : List Nat} (nd : l.Nodup) {i j : Nat} (hi : i < l.length) (hj : j < l.length) (e : G l i = G l j) : i = j := by
  have h1 : l[i] = G l i := (G_of (List.getElem?_eq_getElem hi)).symm
  have h2 : l[j] = G l j := (G_of (List.getElem?_eq_getElem hj)).symm
  rw [List.nodup_iff_pairwise_ne, List.pairwise_iff_getElem] at nd
  rcases Nat.lt_trichotomy i j with z | z | z
  · exact absurd (by rw [h1, h2, e]) (nd i j hi hj z)
  · exact z
  · exact absurd (by rw [h1, h2, e]) (nd j i hj hi z)
theorem G_ext {l m : List Nat} (hl : l.length = m.length) (h : ∀ i, i < l.length → G l i = G m i) : l = m := by
  refine List.ext_getElem? fun i => ?_
  rcases Nat.lt_or_ge i l.length with z | z
  · rw [G_get z, G_get (by omega), h i z]
  · rw [List.getElem?_eq_none z, List.getElem?_eq_none (by omega)]
theorem idx_of {l : List Nat} {x : Nat} (h : x ∈ l) : ∃ i, i < l.length ∧ G l i = x := by
  obtain ⟨i, hi, e⟩ := List.getElem_of_mem h
  exact ⟨i, hi, G_of (by rw [List.getElem?_eq_getElem hi, e])⟩
@[simp] theorem G_c0 (q : Nat) (l : List Nat) : G (q :: l) 0 = q := rfl
@[simp] theorem G_cs (q : Nat) (l : List Nat) (i : Nat) : G (q :: l) (i + 1) = G l i := rfl
theorem st_at : ∀ {O : List Nat}, O.Nodup → ∀ {i : Nat}, i < O.length → st L O (G O i) = S (Rn i) fun j => ln L (G O j)
  | q :: O, nd, 0, _ => by simp [st, Rn]
  | q :: O, nd, i + 1, h => by
    rw [List.nodup_cons] at nd
    have hi : i < O.length := by simpa using h
    have e : G (q :: O) (i + 1) = G O i := by simp
    rw [e, st, if_neg fun (z : q = G O i) => nd.1 (z ▸ G_mem hi), st_at nd.2 hi]
    rw [show i + 1 = 1 + i by omega, S_split]
    have h1 : S (Rn 1) (fun j => ln L (G (q :: O) j)) = ln L q := by
      show S (List.range 1) _ = _
      simp [S, List.range_succ]
    rw [h1]
    congr 1
    exact S_R fun j _ => by rw [Nat.add_comm]; simp
/-- the order that leads back -/
structure BkO (O B : List Nat) : Prop where
  len : B.length = O.length
  at_ : ∀ i, i < O.length → G B (G O i) = i
variable {B : List Nat}
theorem BkO.at2 (h : Lay L O) (b : BkO O B) {p : Nat} (hp : p < L.length) : G B p < O.length ∧ G O (G B p) = p := by
  obtain ⟨i, hi, rfl⟩ := idx_of (h.mem.mpr hp)
  rw [b.at_ i hi]
  exact ⟨hi, rfl⟩
theorem BkO.lay (h : Lay L O) (b : BkO O B) : Lay (O.map (ln L)) B := by
  refine ⟨full (by rw [b.len, List.length_map]) ?_ fun x hx => ?_, fun p hp => ?_⟩
  · rw [List.nodup_iff_pairwise_ne, List.pairwise_iff_getElem]
    intro i j hi hj hij e
    have ei := b.at2 h (p := i) (by rw [b.len, h.len] at hi; exact hi)
    have ej := b.at2 h (p := j) (by rw [b.len, h.len] at hj; exact hj)
    have gi : G B i = B[i] := G_of (List.getElem?_eq_getElem hi)
    have gj : G B j = B[j] := G_of (List.getElem?_eq_getElem hj)
    rw [gi] at ei
    rw [gj, ← e] at ej
    have := ei.2.symm.trans ej.2
    omega
  · obtain ⟨i, hi, rfl⟩ := idx_of hx
    rw [List.length_map]
    exact (b.at2 h (by rw [b.len, h.len] at hi; exact hi)).1
  · rw [List.length_map] at hp
    show 1 ≤ G (O.map (ln L)) p
    rw [G_map hp]
    exact h.pos _ (h.mem.mp (G_mem hp))
theorem BkO.size (h : Lay L O) : (O.map (ln L)).sum = L.sum := by rw [S_sum, h.all]
/-- the other goal leads back -/
theorem BkO.bk (h : Lay L O) (b : BkO O B) : Bk (G (gl L O)) (G (gl (O.map (ln L)) B)) L.sum := by
  intro x hx
  rw [← bg_all] at hx
  obtain ⟨p, s, hp, hs, rfl⟩ := place_ex hx
  have hB := b.at2 h hp
  have e1 : G (gl L O) (bg (ln L) p + s) = st L O p + s := blk_G hp hs
  have lnm : ∀ i, i < O.length → ln (O.map (ln L)) i = ln L (G O i) := fun i hi => G_map hi
  -- where p lies when it is laid
  have e2 : st L O p = bg (ln (O.map (ln L))) (G B p) := by
    have q : st L O (G O (G B p)) = S (Rn (G B p)) fun j => ln L (G O j) := st_at (L := L) h.nd hB.1
    rw [hB.2] at q
    rw [q]
    exact S_R fun j hj => (lnm j (by omega)).symm
  have hBl : G B p < (O.map (ln L)).length := by rw [List.length_map]; exact hB.1
  have hs2 : s < ln (O.map (ln L)) (G B p) := by rw [lnm _ hB.1, hB.2]; exact hs
  rw [e1, e2]
  have e3 : G (gl (O.map (ln L)) B) (bg (ln (O.map (ln L))) (G B p) + s) = st (O.map (ln L)) B (G B p) + s := blk_G hBl hs2
  rw [e3]
  congr 1
  have hpB : p < B.length := by rw [b.len, h.len]; exact hp
  rw [st_at (b.lay h).nd hpB]
  refine S_R fun j hj => ?_
  have hj2 := b.at2 h (p := j) (by omega)
  rw [lnm _ hj2.1, hj2.2]

/-! ### from behind -/
theorem st_app {A C : List Nat} {p : Nat} : st L (A ++ C) p = if p ∈ A then st L A p else S A (ln L) + st L C p := by
  induction A with
  | nil => simp
  | cons q A ih =>
    rw [List.cons_append, st, st]
    by_cases e : q = p
    · rw [if_pos e, if_pos e, if_pos (by rw [e]; exact List.mem_cons_self)]
    · rw [if_neg e, if_neg e, ih]
      by_cases hm : p ∈ A
      · rw [if_pos hm, if_pos (List.mem_cons_of_mem _ hm)]
      · rw [if_neg hm, if_neg fun z => hm ((List.mem_cons.mp z).resolve_left fun y => e y.symm), S_cons]
        omega
theorem S_rev (f : Nat → Nat) (l : List Nat) : S l.reverse f = S l f := S_perm (List.reverse_perm l)
theorem st_rev : ∀ {O : List Nat}, O.Nodup → ∀ {p : Nat}, p ∈ O → st L O.reverse p + ln L p + st L O p = S O (ln L)
  | q :: O, nd, p, hp => by
    rw [List.nodup_cons] at nd
    rw [List.reverse_cons, st_app, S_cons]
    have e0 : st L (q :: O) p = if q = p then 0 else ln L q + st L O p := rfl
    rw [e0]
    by_cases e : q = p
    · subst e
      rw [if_neg (by simpa using nd.1), if_pos rfl, S_rev, st, if_pos rfl]
      omega
    · have hm : p ∈ O := (List.mem_cons.mp hp).resolve_left fun y => e y.symm
      rw [if_pos (by simpa using hm), if_neg e]
      have := st_rev nd.2 hm
      omega
theorem st_map {L' : List Nat} {f : Nat → Nat} {p : Nat} : ∀ {O : List Nat}, (∀ q ∈ O, ln L' (f q) = ln L q) → (∀ q ∈ O, f q = f p → q = p) → st L' (O.map f) (f p) = st L O p
  | [], _, _ => rfl
  | q :: O, h1, h2 => by
    rw [List.map_cons, st, st, h1 q List.mem_cons_self, st_map (fun r hr => h1 r (List.mem_cons_of_mem _ hr)) fun r hr => h2 r (List.mem_cons_of_mem _ hr)]
    by_cases e : q = p
    · rw [if_pos e, if_pos (by rw [e])]
    · rw [if_neg e, if_neg fun z => e (h2 q List.mem_cons_self z)]
def miO (O : List Nat) (n : Nat) : List Nat := O.reverse.map fun p => n - 1 - p
theorem ln_rev {p : Nat} (hp : p < L.length) : ln L.reverse (L.length - 1 - p) = ln L p := by
  show G L.reverse (L.length - 1 - p) = G L p
  refine G_of ?_
  rw [List.getElem?_reverse (by omega), show L.length - 1 - (L.length - 1 - p) = p by omega]
  exact G_get hp
theorem mi_lay (h : Lay L O) : Lay L.reverse (miO O L.length) := by
  refine ⟨?_, fun p hp => ?_⟩
  · unfold miO
    rw [List.length_reverse]
    exact (((List.reverse_perm O).trans h.pm).map _).trans (rev_pf L.length).perm
  · rw [List.length_reverse] at hp
    have := ln_rev (L := L) (p := L.length - 1 - p) (by omega)
    rw [show L.length - 1 - (L.length - 1 - p) = p by omega] at this
    rw [this]
    exact h.pos _ (by omega)
theorem bg_rev {p : Nat} (hp : p < L.length) : bg (ln L.reverse) (L.length - 1 - p) + ln L p + bg (ln L) p = L.sum := by
  have e1 : bg (ln L.reverse) (L.length - 1 - p) = S (Rn (L.length - 1 - p)) fun i => ln L (p + 1 + (L.length - 1 - p - 1 - i)) := by
    refine S_R fun i hi => ?_
    have := ln_rev (L := L) (p := L.length - 1 - i) (by omega)
    rw [show L.length - 1 - (L.length - 1 - i) = i by omega] at this
    rw [this]
    congr 1
    omega
  have e2 := (rev_pf (L.length - 1 - p)).sum fun i => ln L (p + 1 + i)
  have e3 : L.sum = bg (ln L) (p + 1) + S (Rn (L.length - 1 - p)) fun i => ln L (p + 1 + i) := by
    rw [← bg_all]
    have := S_split (ln L) (p + 1) (L.length - 1 - p)
    rw [show p + 1 + (L.length - 1 - p) = L.length by omega] at this
    exact this
  rw [e1, e3, bg_succ, ← e2]
  omega
theorem mi_mi (h : Lay L O) : Mi (G (gl L O)) (G (gl L.reverse (miO O L.length))) L.sum := by
  intro x hx
  rw [← bg_all] at hx
  obtain ⟨p, s, hp, hs, rfl⟩ := place_ex hx
  have e1 : G (gl L O) (bg (ln L) p + s) = st L O p + s := blk_G hp hs
  have b1 := bg_rev hp
  have hl := ln_rev (L := L) hp
  have e2 : L.sum - 1 - (bg (ln L) p + s) = bg (ln L.reverse) (L.length - 1 - p) + (ln L p - 1 - s) := by omega
  have e3 : G (gl L.reverse (miO O L.length)) (bg (ln L.reverse) (L.length - 1 - p) + (ln L p - 1 - s)) = st L.reverse (miO O L.length) (L.length - 1 - p) + (ln L p - 1 - s) :=
    blk_G (by rw [List.length_reverse]; omega) (by rw [hl]; omega)
  have e4 : st L.reverse (miO O L.length) (L.length - 1 - p) = st L O.reverse p := by
    refine st_map (L := L) (L' := L.reverse) (f := fun p => L.length - 1 - p) (fun q hq => ln_rev (h.mem.mp (by simpa using hq))) fun q hq e => ?_
    have := h.mem.mp (by simpa using hq : q ∈ O)
    omega
  have e5 := st_rev (L := L) h.nd (h.mem.mpr hp)
  rw [h.all] at e5
  rw [e2, e3, e4, e1]
  omega
end
end Pm

/-! Pm, part D: rounds. -/
namespace Pm
section
variable {f : Nat → Nat} {n : Nat}
theorem it_lt (h : Pf f n) {p : Nat} (hp : p < n) : ∀ k, it f k p < n
  | 0 => hp
  | k + 1 => h.lt _ (it_lt h hp k)
theorem it_add (f : Nat → Nat) (p i : Nat) : ∀ j, it f (i + j) p = it f j (it f i p)
  | 0 => rfl
  | j + 1 => by show f (it f (i + j) p) = f (it f j (it f i p)); rw [it_add f p i j]
theorem it_inj (h : Pf f n) {x y : Nat} (hx : x < n) (hy : y < n) : ∀ k, it f k x = it f k y → x = y
  | 0, e => e
  | k + 1, e => it_inj h hx hy k (h.inj _ _ (it_lt h hx k) (it_lt h hy k) e)
/-- two alike among so many -/
theorem twice {g : Nat → Nat} : ∀ {k n : Nat}, n < k → (∀ i, i < k → g i < n) → ∃ i j, i < j ∧ j < k ∧ g i = g j := by
  intro k n hk hg
  by_cases h : ((Rn k).map g).Nodup
  · exfalso
    have := len_le (m := Rn n) h fun x hx => by
      obtain ⟨i, hi, rfl⟩ := List.mem_map.mp hx
      exact List.mem_range.mpr (hg i (List.mem_range.mp hi))
    simp [Rn] at this
    omega
  · rw [List.nodup_iff_pairwise_ne, List.pairwise_iff_getElem] at h
    have : ∃ i j, ∃ (hi : i < ((Rn k).map g).length) (hj : j < ((Rn k).map g).length), i < j ∧ ((Rn k).map g)[i] = ((Rn k).map g)[j] := by
      apply Classical.byContradiction
      intro q
      apply h
      intro i j hi hj hij e
      exact q ⟨i, j, hi, hj, hij, e⟩
    obtain ⟨i, j, hi, hj, hij, e⟩ := this
    have hj' : j < k := by simpa [Rn] using hj
    exact ⟨i, j, hij, hj', by simpa [Rn] using e⟩
theorem least {P : Nat → Prop} [DecidablePred P] : ∀ {m : Nat}, P m → ∃ k, k ≤ m ∧ P k ∧ ∀ j, j < k → ¬ P j := by
  intro m
  induction m using Nat.strongRecOn with
  | _ m ih =>
    intro hm
    by_cases q : ∃ j, j < m ∧ P j
    · obtain ⟨j, h1, h2⟩ := q
      obtain ⟨k, k1, k2, k3⟩ := ih j h1 h2
      exact ⟨k, by omega, k2, k3⟩
    · exact ⟨m, Nat.le_refl _, hm, fun j hj hp => q ⟨j, hj, hp⟩⟩
theorem per_ex (h : Pf f n) {p : Nat} (hp : p < n) : ∃ m, 0 < m ∧ m ≤ n ∧ it f m p = p ∧ ∀ j, 0 < j → j < m → it f j p ≠ p := by
  obtain ⟨i, j, hij, hj, e⟩ := twice (g := fun k => it f k p) (k := n + 1) (n := n) (Nat.lt_succ_self n) fun k _ => it_lt h hp k
  have e2 : it f (j - i) p = p := by
    have : it f i (it f (j - i) p) = it f i p := by
      rw [← it_add, show j - i + i = j by omega]; exact e.symm
    exact it_inj h (it_lt h hp _) hp i this
  obtain ⟨k, k1, k2, k3⟩ := least (P := fun m => 0 < m ∧ it f m p = p) (m := j - i) ⟨by omega, e2⟩
  exact ⟨k, k2.1, by omega, k2.2, fun j hj hk q => k3 j hk ⟨hj, q⟩⟩
/-- the length of a round -/
def per (f : Nat → Nat) (n p : Nat) : Nat := match (Rn n).find? fun m => it f (m + 1) p == p with
  | some m => m + 1
  | none => 1
theorem per_is (h : Pf f n) {p : Nat} (hp : p < n) : 0 < per f n p ∧ per f n p ≤ n ∧ it f (per f n p) p = p ∧ ∀ j, 0 < j → j < per f n p → it f j p ≠ p := by
  obtain ⟨m, h1, h2, h3, h4⟩ := per_ex h hp
  unfold per
  cases e : (Rn n).find? fun m => it f (m + 1) p == p with
  | none =>
    exfalso
    have := List.find?_eq_none.mp e (m - 1) (List.mem_range.mpr (by omega))
    rw [show m - 1 + 1 = m by omega, h3] at this
    simp at this
  | some k =>
    obtain ⟨k1, as, bs, k2, k3⟩ := List.find?_eq_some_iff_append.mp e
    have k1 : it f (k + 1) p = p := eq_of_beq k1
    have hk : k < n := List.mem_range.mp (List.mem_of_find?_eq_some e)
    have hm : k + 1 = m := by
      rcases Nat.lt_trichotomy (k + 1) m with z | z | z
      · exact absurd k1 (h4 _ (by omega) z)
      · exact z
      · have : m - 1 ∈ as := by
          have hr : (Rn n) = as ++ k :: bs := k2
          have hl : as.length = k := by
            have h5 := congrArg (fun l : List Nat => l[as.length]?) hr
            simp only [List.getElem?_append_right (Nat.le_refl _), Nat.sub_self, List.getElem?_cons_zero] at h5
            have h6 : as.length < n := by
              have := congrArg List.length hr
              simp [Rn] at this
              omega
            rw [Rn, List.getElem?_range h6] at h5
            exact Option.some.inj h5
          have h7 : (Rn n)[m - 1]? = some (m - 1) := List.getElem?_range (by omega)
          rw [hr, List.getElem?_append_left (by omega)] at h7
          exact List.mem_of_getElem? h7
        have := k3 _ this
        rw [show m - 1 + 1 = m by omega, h3] at this
        simp at this
    show 0 < k + 1 ∧ k + 1 ≤ n ∧ it f (k + 1) p = p ∧ ∀ j, 0 < j → j < k + 1 → it f j p ≠ p
    rw [hm]
    exact ⟨h1, h2, h3, h4⟩
def orb (f : Nat → Nat) (n p : Nat) : List Nat := (Rn (per f n p)).map fun k => it f k p
theorem orb_len (f : Nat → Nat) (n p : Nat) : (orb f n p).length = per f n p := by simp [orb, Rn]
theorem it_mod (h : Pf f n) {p : Nat} (hp : p < n) : ∀ k, it f k p = it f (k % per f n p) p := by
  obtain ⟨h1, h2, h3, h4⟩ := per_is h hp
  intro k
  induction k using Nat.strongRecOn with
  | _ k ih =>
    rcases Nat.lt_or_ge k (per f n p) with z | z
    · rw [Nat.mod_eq_of_lt z]
    · have := ih (k - per f n p) (by omega)
      rw [show k = per f n p + (k - per f n p) by omega, it_add, h3, this]
      congr 1
      rw [Nat.add_mod_left]
theorem mem_orb (h : Pf f n) {p x : Nat} (hp : p < n) : x ∈ orb f n p ↔ ∃ k, it f k p = x := by
  obtain ⟨h1, _⟩ := per_is h hp
  constructor
  · intro hx
    obtain ⟨k, _, e⟩ := List.mem_map.mp hx
    exact ⟨k, e⟩
  · rintro ⟨k, rfl⟩
    exact List.mem_map.mpr ⟨k % per f n p, List.mem_range.mpr (Nat.mod_lt _ h1), (it_mod h hp k).symm⟩
theorem orb_symm (h : Pf f n) {p x : Nat} (hp : p < n) (hx : x ∈ orb f n p) : x < n ∧ p ∈ orb f n x := by
  obtain ⟨k, rfl⟩ := (mem_orb h hp).mp hx
  have hl := it_lt h hp k
  refine ⟨hl, (mem_orb h hl).mpr ?_⟩
  obtain ⟨h1, h2, h3, h4⟩ := per_is h hp
  refine ⟨per f n p * (k + 1) - k, ?_⟩
  rw [← it_add, it_mod h hp]
  have : k + (per f n p * (k + 1) - k) = per f n p * (k + 1) := by
    have : k + 1 ≤ per f n p * (k + 1) := Nat.le_mul_of_pos_left _ h1
    omega
  rw [this, Nat.mul_mod_right]; rfl
theorem orb_trans (h : Pf f n) {p x y : Nat} (hp : p < n) (hx : x ∈ orb f n p) (hy : y ∈ orb f n x) : y ∈ orb f n p := by
  obtain ⟨k, rfl⟩ := (mem_orb h hp).mp hx
  obtain ⟨j, rfl⟩ := (mem_orb h (it_lt h hp k)).mp hy
  exact (mem_orb h hp).mpr ⟨k + j, it_add f p k j⟩
theorem orb_self (h : Pf f n) {p : Nat} (hp : p < n) : p ∈ orb f n p := (mem_orb h hp).mpr ⟨0, rfl⟩
theorem orb_nd (h : Pf f n) {p : Nat} (hp : p < n) : ∀ i j, i < j → j < per f n p → it f i p ≠ it f j p := by
  obtain ⟨h1, h2, h3, h4⟩ := per_is h hp
  intro i j hij hj e
  have : it f (j - i) p = p := by
    have : it f i (it f (j - i) p) = it f i p := by
      rw [← it_add, show j - i + i = j by omega]; exact e.symm
    exact it_inj h (it_lt h hp _) hp i this
  exact h4 (j - i) (by omega) (by omega) this
theorem isMin_iff (h : Pf f n) {p : Nat} (hp : p < n) : isMin f p ↔ ∀ x ∈ orb f n p, p ≤ x := by
  constructor
  · intro m x hx
    obtain ⟨k, rfl⟩ := (mem_orb h hp).mp hx
    exact m k
  · intro m k
    exact m _ ((mem_orb h hp).mpr ⟨k, rfl⟩)
def minB (f : Nat → Nat) (n p : Nat) : Bool := (orb f n p).all fun x => decide (p ≤ x)
theorem minB_iff (h : Pf f n) {p : Nat} (hp : p < n) : minB f n p = true ↔ isMin f p := by
  rw [isMin_iff h hp]
  unfold minB
  rw [List.all_eq_true]
  exact ⟨fun m x hx => of_decide_eq_true (m x hx), fun m x hx => decide_eq_true (m x hx)⟩
/-- all rounds, from their least places, up to place b -/
def laps (f : Nat → Nat) (n b : Nat) : List (List Nat) := ((Rn b).filter (minB f n)).map (orb f n)
theorem laps_succ (b : Nat) : laps f n (b + 1) = laps f n b ++ if minB f n b then [orb f n b] else [] := by
  unfold laps
  rw [Rn, List.range_succ, List.filter_append, List.map_append]
  congr 1
  rw [List.filter_cons]
  split <;> rfl
/-- what is met behind place b -/
theorem met_iff (h : Pf f n) {b x : Nat} (hb : b ≤ n) (hx : x < n) : x ∈ (laps f n b).flatten ↔ ∃ y ∈ orb f n x, y < b := by
  rw [List.mem_flatten]
  constructor
  · rintro ⟨l, hl, hxl⟩
    obtain ⟨p, hp, rfl⟩ := List.mem_map.mp hl
    have hp' := List.mem_range.mp (List.mem_filter.mp hp).1
    exact ⟨p, (orb_symm h (by omega) hxl).2, hp'⟩
  · rintro ⟨y, hy, hyb⟩
    -- the least of the round
    obtain ⟨m, m1, m2, m3⟩ := least (P := fun z => z ∈ orb f n x) hy
    have hm : m < n := by omega
    have hxm := (orb_symm h hx m2).2
    have hmin : minB f n m = true := by
      rw [minB_iff h hm, isMin_iff h hm]
      intro z hz
      rcases Nat.lt_or_ge z m with q | q
      · exact absurd (orb_trans h hx m2 hz) (m3 z q)
      · exact q
    exact ⟨orb f n m, List.mem_map.mpr ⟨m, List.mem_filter.mpr ⟨List.mem_range.mpr (by omega), hmin⟩, rfl⟩, hxm⟩
theorem met_self (h : Pf f n) {b : Nat} (hb : b < n) : b ∈ (laps f n b).flatten ↔ minB f n b = false := by
  rw [met_iff h (by omega) hb]
  have : minB f n b = false ↔ ¬ isMin f b := by
    rw [← minB_iff h hb]; simp
  rw [this, isMin_iff h hb]
  constructor
  · rintro ⟨y, hy, hyb⟩ m
    have := m y hy
    omega
  · intro q
    apply Classical.byContradiction
    intro z
    apply q
    intro x hx
    rcases Nat.lt_or_ge x b with w | w
    · exact absurd ⟨x, hx, w⟩ z
    · exact w
theorem met_none (h : Pf f n) {b x : Nat} (hb : b < n) (hm : minB f n b = true) (hx : x ∈ orb f n b) : x ∉ (laps f n b).flatten := by
  intro z
  obtain ⟨h1, h2⟩ := orb_symm h hb hx
  obtain ⟨y, hy, hyb⟩ := (met_iff h (by omega) h1).mp z
  have := (isMin_iff h hb).mp ((minB_iff h hb).mp hm) y (orb_trans h hb hx hy)
  omega
theorem filter_len {P : Nat → Bool} : ∀ l : List Nat, (l.filter P).length = S l fun x => if P x then 1 else 0
  | [] => rfl
  | a :: r => by
    rw [List.filter_cons, S_cons]
    split
    · rw [List.length_cons, filter_len r]; omega
    · rw [filter_len r]; omega
theorem laps_len (h : Pf f n) : (laps f n n).length = Cy f n := by
  unfold laps Cy
  rw [List.length_map, filter_len]
  refine S_R fun p hp => ?_
  by_cases q : isMin f p
  · rw [if_pos q, if_pos ((minB_iff h hp).mpr q)]
  · rw [if_neg q, if_neg fun z => q ((minB_iff h hp).mp z)]
theorem Cy_le (f : Nat → Nat) (n : Nat) : Cy f n ≤ n := by
  unfold Cy
  have : S (Rn n) (fun _ => 1) = n := by rw [S_const]; omega
  calc _ ≤ S (Rn n) (fun _ => 1) := S_le fun x _ => by split <;> omega
    _ = n := this
end
end Pm

/-! Pm, part E: one round; pieces of places; how often. -/
namespace Pm
section
variable {f : Nat → Nat} {n : Nat} {L : List Nat}
/-- one round alone goes through all -/
theorem one_per (h : Pf f n) (hn : 0 < n) (e : (laps f n n).length = 1) : per f n 0 = n := by
  have m0 : minB f n 0 = true := by
    unfold minB
    rw [List.all_eq_true]
    intro x _
    simp
  have hr : Rn n = 0 :: (Rn n).tail := by
    cases n with
    | zero => omega
    | succ n => rw [Rn, List.range_succ_eq_map]; rfl
  have hf : (Rn n).filter (minB f n) = 0 :: (Rn n).tail.filter (minB f n) := by
    conv => lhs; rw [hr]
    rw [List.filter_cons, if_pos m0]
  have el : laps f n n = [orb f n 0] := by
    unfold laps at e ⊢
    rw [hf] at e ⊢
    rw [List.map_cons] at e ⊢
    rw [List.length_cons] at e
    rw [List.eq_nil_of_length_eq_zero (by omega : ((((Rn n).tail.filter (minB f n)).map (orb f n))).length = 0)]
  have hm : ∀ x ∈ Rn n, x ∈ orb f n 0 := fun x hx => by
    have hx' := List.mem_range.mp hx
    have := (met_iff h (Nat.le_refl n) hx').mpr ⟨x, orb_self h hx', hx'⟩
    rw [el] at this
    simpa using this
  have l := len_le (show (Rn n).Nodup from List.nodup_range) hm
  rw [orb_len] at l
  have l2 := (per_is h hn).2.1
  simp [Rn] at l
  omega
theorem orb_all (h : Pf f n) (hn : 0 < n) (e : per f n 0 = n) : (orb f n 0).Perm (Rn n) := by
  refine full (by rw [orb_len, e]) ?_ fun x hx => (orb_symm h hn hx).1
  unfold orb
  rw [List.nodup_iff_pairwise_ne, List.pairwise_map]
  have : (Rn (per f n 0)).Pairwise (· < ·) := List.pairwise_lt_range
  exact this.imp_of_mem fun {a b} ha hb hl => orb_nd h hn a b hl (List.mem_range.mp hb)
theorem it_round (h : Pf f n) (hn : 0 < n) (e : per f n 0 = n) (q s : Nat) : it f (q * n + s) 0 = it f s 0 := by
  have e0 : it f n 0 = 0 := by
    have := (per_is h hn).2.2.1
    rw [e] at this; exact this
  induction q with
  | zero => rw [Nat.zero_mul, Nat.zero_add]
  | succ q ih => rw [Nat.succ_mul, show q * n + n + s = n + (q * n + s) by omega, it_add, e0, ih]
/-- a sum over whole rounds -/
theorem S_rounds (h : Pf f n) (hn : 0 < n) (e : per f n 0 = n) (c : Nat → Nat) : ∀ q : Nat, S (Rn (q * n)) (fun i => c (it f i 0)) = q * S (Rn n) c
  | 0 => by simp [Rn]
  | q + 1 => by
    have e1 : S (Rn n) (fun i => c (it f i 0)) = S (Rn n) c := by
      rw [← S_map c fun i => it f i 0, ← S_perm (orb_all h hn e)]
      unfold orb
      rw [e]
    have e2 : S (Rn n) (fun s => c (it f (q * n + s) 0)) = S (Rn n) fun i => c (it f i 0) := S_congr fun s _ => by rw [it_round h hn e]
    rw [Nat.succ_mul, S_split, S_rounds h hn e c q, e2, e1, Nat.succ_mul]
/-- the piece of a place -/
def pc : List Nat → Nat → Nat
  | [], _ => 0
  | a :: L, x => if x < a then 0 else pc L (x - a) + 1
theorem pc_lt : ∀ {L : List Nat} {x : Nat}, x < L.sum → pc L x < L.length
  | a :: L, x, h => by
    rw [List.sum_cons] at h
    unfold pc
    split
    · simp
    · have := pc_lt (L := L) (x := x - a) (by omega)
      simp; omega
theorem pc_bg : ∀ {L : List Nat} {p s : Nat}, p < L.length → s < ln L p → pc L (bg (ln L) p + s) = p
  | a :: L, 0, s, _, h => by
    have h' : s < a := h
    unfold pc
    rw [if_pos (by simpa [bg, Rn] using h')]
  | a :: L, p + 1, s, hp, h => by
    have e : bg (ln (a :: L)) (p + 1) = a + bg (ln L) p := by
      rw [bg_take, bg_take, List.take_succ_cons, List.sum_cons]
    have h' : s < ln L p := h
    rw [e]
    unfold pc
    rw [if_neg (by omega), show a + bg (ln L) p + s - a = bg (ln L) p + s by omega, pc_bg (by simpa using hp) h']
theorem S_pc {p : Nat} (hp : p < L.length) : S (Rn L.sum) (fun x => if pc L x = p then 1 else 0) = ln L p := by
  rw [← bg_all, S_blk]
  have : S (Rn L.length) (fun q => S (Rn (ln L q)) fun s => if pc L (bg (ln L) q + s) = p then 1 else 0) = S (Rn L.length) fun q => if q = p then ln L q else 0 := by
    refine S_R fun q hq => ?_
    by_cases e : q = p
    · rw [if_pos e, S_R (g := fun _ => 1) fun s hs => by rw [pc_bg hq hs, if_pos e], S_const, Nat.mul_one]
    · rw [if_neg e, S_R (g := fun _ => 0) fun s hs => by rw [pc_bg hq hs, if_neg e], S_zero]
  rw [this, S_pick hp]
/-- how often a piece is in the way -/
def vis (L : List Nat) (f : Nat → Nat) (steps p : Nat) : Nat := S (Rn steps) fun i => if pc L (it f i 0) = p then 1 else 0
theorem vis_round (h : Pf f L.sum) (hn : 0 < L.sum) (e : per f L.sum 0 = L.sum) (q : Nat) {p : Nat} (hp : p < L.length) : vis L f (q * L.sum) p = q * ln L p := by
  unfold vis
  rw [S_rounds h hn e (fun x => if pc L x = p then 1 else 0) q, S_pc hp]
theorem vis_succ (s p : Nat) : vis L f (s + 1) p = vis L f s p + if pc L (it f s 0) = p then 1 else 0 := S_succ _ _
theorem cnt_S (p : Nat) : ∀ l : List Nat, l.count p = S l fun x => if x = p then 1 else 0
  | [] => rfl
  | a :: l => by
    rw [List.count_cons, cnt_S p l, S_cons, Nat.add_comm]
    simp only [beq_iff_eq]
end
end Pm

/-! Pm, part F: sums over rounds; rows as differences. -/
namespace Pm
/-- the number at a place -/
def Rr (r : List Int) (p : Nat) : Int := r.getD p 0
def sm (r : List Int) (l : List Nat) : Int := (l.map (Rr r)).sum
def dfL (r : List Int) : List Nat → List Int → Int → List Int × Int
  | [], f, t => (f, t)
  | p :: l, f, t => dfL r l (f.set p t) (t + Rr r p)
/-- the row whose steps r tells -/
def dfs (r : List Int) : List (List Nat) → List Int → Option (List Int)
  | [], f => some f
  | l :: ls, f => if (dfL r l f 0).2 = 0 then dfs r ls (dfL r l f 0).1 else none
theorem sm_cons (r : List Int) (p : Nat) (l : List Nat) : sm r (p :: l) = Rr r p + sm r l := by simp [sm]
theorem dfL_sum (r : List Int) : ∀ (l : List Nat) (f : List Int) (t : Int), (dfL r l f t).2 = t + sm r l
  | [], f, t => by simp [dfL, sm]
  | p :: l, f, t => by rw [dfL, dfL_sum r l, sm_cons]; omega
theorem dfL_len (r : List Int) : ∀ (l : List Nat) (f : List Int) (t : Int), (dfL r l f t).1.length = f.length
  | [], f, t => rfl
  | p :: l, f, t => by rw [dfL, dfL_len r l, List.length_set]
theorem dfs_none (r : List Int) : ∀ (ls : List (List Nat)) (f : List Int), dfs r ls f = none ↔ ∃ l ∈ ls, sm r l ≠ 0
  | [], f => by simp [dfs]
  | l :: ls, f => by
    rw [dfs, dfL_sum, Int.zero_add]
    by_cases h : sm r l = 0
    · rw [if_pos h, dfs_none r ls]
      constructor
      · rintro ⟨m, h1, h2⟩; exact ⟨m, List.mem_cons_of_mem _ h1, h2⟩
      · rintro ⟨m, h1, h2⟩
        rcases List.mem_cons.mp h1 with rfl | h1
        · exact absurd h h2
        · exact ⟨m, h1, h2⟩
    · rw [if_neg h]
      exact ⟨fun _ => ⟨l, List.mem_cons_self, h⟩, fun _ => rfl⟩
theorem dfs_len (r : List Int) : ∀ (ls : List (List Nat)) (f g : List Int), dfs r ls f = some g → g.length = f.length
  | [], f, g, h => by simp only [dfs] at h; cases h; rfl
  | l :: ls, f, g, h => by
    rw [dfs] at h
    split at h
    · rw [dfs_len r ls _ g h, dfL_len]
    · cases h
theorem tele (c : Nat → Int) (f : Nat → Nat) (p : Nat) : ∀ k, ((Rn k).map fun i => c (it f (i + 1) p) - c (it f i p)).sum = c (it f k p) - c p
  | 0 => by simp [it]
  | k + 1 => by
    rw [show Rn (k + 1) = Rn k ++ [k] from List.range_succ, List.map_append, List.sum_append, tele c f p k]
    simp only [List.map_cons, List.map_nil, List.sum_cons, List.sum_nil]
    omega
/-- steps along a round come to nothing -/
theorem sm_steps {f : Nat → Nat} {n : Nat} (h : Pf f n) {r : List Int} {c : Nat → Int} (hr : ∀ p, p < n → Rr r p = c (f p) - c p) {p : Nat} (hp : p < n) : sm r (orb f n p) = 0 := by
  unfold sm orb
  rw [List.map_map]
  have : (Rn (per f n p)).map (Rr r ∘ fun k => it f k p) = (Rn (per f n p)).map fun i => c (it f (i + 1) p) - c (it f i p) := by
    refine List.map_congr_left fun i _ => ?_
    show Rr r (it f i p) = _
    rw [hr _ (it_lt h hp i)]; rfl
  rw [this, tele, (per_is h hp).2.2.1]
  omega
theorem laps_mem {f : Nat → Nat} {n b : Nat} {l : List Nat} (h : l ∈ laps f n b) : ∃ p, p < b ∧ l = orb f n p := by
  unfold laps at h
  obtain ⟨p, h1, rfl⟩ := List.mem_map.mp h
  exact ⟨p, List.mem_range.mp ((List.mem_filter.mp h1).1), rfl⟩
theorem orb_lt {f : Nat → Nat} {n p x : Nat} (h : Pf f n) (hp : p < n) (hx : x ∈ orb f n p) : x < n := (orb_symm h hp hx).1
/-- a round goes to itself -/
theorem orb_step {f : Nat → Nat} {n p x : Nat} (h : Pf f n) (hp : p < n) (hx : x < n) : f x ∈ orb f n p ↔ x ∈ orb f n p := by
  rw [mem_orb h hp, mem_orb h hp]
  constructor
  · rintro ⟨k, e⟩
    obtain ⟨p1, p2, p3, _⟩ := per_is h hp
    -- go on all but one step
    obtain ⟨m, em⟩ : ∃ m, k + per f n p = m + 1 := ⟨k + per f n p - 1, by omega⟩
    refine ⟨m, ?_⟩
    have e2 : it f (k + per f n p) p = f x := by rw [Nat.add_comm, it_add, p3, e]
    rw [em] at e2
    exact h.inj _ _ (it_lt h hp m) hx e2
  · rintro ⟨k, e⟩
    exact ⟨k + 1, by show f (it f k p) = _; rw [e]⟩
theorem sm_add {r o b : List Int} {n : Nat} (h : ∀ p, p < n → Rr b p = Rr r p + Rr o p) : ∀ l : List Nat, (∀ p ∈ l, p < n) → sm b l = sm r l + sm o l
  | [], _ => by simp [sm]
  | p :: l, hl => by
    rw [sm_cons, sm_cons, sm_cons, h p (hl p List.mem_cons_self), sm_add h l fun q hq => hl q (List.mem_cons_of_mem _ hq)]
    omega
end Pm

/-! Pl, part A: running clean texts. -/
namespace Cl
section
variable {P : Pg} {nc k f : Nat} {fd : Fd} {cl : Calls}
theorem ioOk_d (ds : List D) : ioOk (ds.map W.d) [] = true := by
  unfold ioOk
  rw [List.all_eq_true]
  intro i _
  rw [List.getElem?_map]
  cases ds[i]? with
  | none => rfl
  | some d => rfl
theorem ownIx_d : ∀ (n : Nat) (ds : List D), ownIx n (ds.map W.d) = []
  | _, [] => rfl
  | n, d :: ds => by rw [List.map_cons, ownIx, if_neg (by simp [W.own]), ownIx_d (n + 1) ds]
/-- a def that gets plain values -/
theorem fn_rt {ds : List D} {w : W} {body : List Cl.St} {st σ : Sg} (hp : P[f]? = some fd) (hm : fd.mkC = none) (hio : fd.io = []) (hn : ds.length = fd.np) (hnn : fd.np ≤ fd.nn) (hb : fd.body = body) (hs : (ds.map fun d => some (W.d d)) ++ List.replicate (fd.nn - fd.np) none = st)
    (hr : runs nc (callN P nc k) body st = .rt w σ) : callN P nc (k + 1) f (ds.map W.d) = .ok w [] := by
  refine call_rtE (σ := σ) hp hm ⟨by rw [List.length_map]; exact hn, hnn, by rw [hio]; exact ioOk_d ds⟩ hb ?_ hr (by rw [ownIx_d]; rfl)
  rw [List.map_map]; exact hs
theorem fn_nx {ds : List D} {body : List Cl.St} {st σ : Sg} (hp : P[f]? = some fd) (hm : fd.mkC = none) (hio : fd.io = []) (hn : ds.length = fd.np) (hnn : fd.np ≤ fd.nn) (hb : fd.body = body) (hs : (ds.map fun d => some (W.d d)) ++ List.replicate (fd.nn - fd.np) none = st)
    (hr : runs nc (callN P nc k) body st = .nx σ) : callN P nc (k + 1) f (ds.map W.d) = .ok (.d .non) [] := by
  subst hb
  refine call_nx (σ := σ) hp hm ⟨by rw [List.length_map]; exact hn, hnn, by rw [hio]; exact ioOk_d ds⟩ ?_ (by rw [ownIx_d]; rfl)
  rw [List.map_map]
  rw [← hs] at hr
  exact hr

/-! ### sequences -/
theorem runs_nx {s : Cl.St} {ss : List Cl.St} {σ τ : Sg} (h : run nc cl s σ = .nx τ) : runs nc cl (s :: ss) σ = runs nc cl ss τ := by rw [runs_cons, h]; rfl
theorem runs_rt {s : Cl.St} {ss : List Cl.St} {σ τ : Sg} {w : W} (h : run nc cl s σ = .rt w τ) : runs nc cl (s :: ss) σ = .rt w τ := by rw [runs_cons, h]; rfl
theorem run_exprE {e : Ex} {σ σ1 : Sg} {w : W} (h : ev nc cl e σ = .ok w σ1) : run nc cl (.expr e) σ = .nx σ1 := by
  show Out.ofR (ev nc cl e σ) _ = _
  rw [h]; rfl
theorem run_iteE {c : Ex} {a b : List Cl.St} {σ σ1 : Sg} {k : Bool} (h : tst c (ev nc cl c) σ = .ok k σ1) : run nc cl (.ite c a b) σ = if k then runs nc cl a σ1 else runs nc cl b σ1 := by
  rw [run_ite, h]; rfl
theorem run_retE {e : Ex} {σ σ1 : Sg} {w : W} (hv : ∀ i, e ≠ .var i) (h : ev nc cl e σ = .ok w σ1) : run nc cl (.ret e) σ = .rt w σ1 := by
  have : run nc cl (.ret e) σ = Out.ofR (ev nc cl e σ) fun w σ' => .rt w σ' := by
    cases e <;> first | rfl | exact absurd rfl (hv _)
  rw [this, h]; rfl

theorem ev_mutE {m : Mut} {i : Nat} {as : List Ex} {σ σ1 : Sg} {ds : List D} {w0 w w' : W} {y : D} (h0 : σ[i]? = some (some w0)) (hk : w0.kind = m.kd) (hd : evDs nc cl as σ = .ok ds σ1) (h1 : σ1[i]? = some (some w)) (hm : mutop m w ds = some (y, w')) : ev nc cl (.mut m i as) σ = .ok (.d y) (σ1.set i (some w')) := by
  simp only [ev, h0, if_pos hk, hd, R.bind_ok, h1, hm]
theorem evDs_one {e : Ex} {σ σ1 : Sg} {w : W} (h : ev nc cl e σ = .ok w σ1) : evDs nc cl [e] σ = .ok [w.toD] σ1 := by
  show R.bind (ev nc cl e σ) _ = _
  rw [h]; rfl
/-! ### loops -/
theorem frL_idx {g : D → Sg → Out} {I : Nat → Sg → Prop} : ∀ {xs : List D} {n : Nat} {σ : Sg}, (∀ i x τ, xs[i]? = some x → I (n + i) τ → ∃ τ', g x τ = .nx τ' ∧ I (n + i + 1) τ') → I n σ → ∃ τ, frL g xs σ = .nx τ ∧ I (n + xs.length) τ
  | [], n, σ, _, h0 => ⟨σ, rfl, h0⟩
  | x :: xs, n, σ, h, h0 => by
    obtain ⟨τ, e, i1⟩ := h 0 x σ rfl h0
    obtain ⟨τ2, e2, i2⟩ := frL_idx (g := g) (I := I) (xs := xs) (n := n + 1) (σ := τ) (fun i y τ' hy hi => by
      have := h (i + 1) y τ' (by simpa using hy) (by rw [show n + (i + 1) = n + 1 + i by omega]; exact hi)
      rw [show n + (i + 1) + 1 = n + 1 + i + 1 by omega] at this
      exact this) i1
    refine ⟨τ2, by rw [frL, e]; exact e2, ?_⟩
    rw [List.length_cons, show n + (xs.length + 1) = n + 1 + xs.length by omega]
    exact i2
theorem fr_ok {t : Tg} {it : Ex} {b : List Cl.St} {σ σ1 : Sg} {w : W} {xs : List D} (I : Nat → Sg → Prop) (hi : ev nc cl it σ = .ok w σ1) (hx : itemsD w.toD = some xs) (hl : xs.length ≤ 1000000)
    (h : ∀ i x τ, xs[i]? = some x → I i τ → ∃ τ1 τ2, asg t x τ = some τ1 ∧ runs nc cl b τ1 = .nx τ2 ∧ I (i + 1) τ2) (h0 : I 0 σ1) : ∃ τ, run nc cl (.fr t it b) σ = .nx τ ∧ I xs.length τ := by
  obtain ⟨τ, e, i1⟩ := frL_idx (g := fun x σ => match asg t x σ with
      | some σ' => runs nc cl b σ'
      | none => .bad) (I := I) (xs := xs) (n := 0) (σ := σ1) (fun i x τ hx hi => by
    rw [Nat.zero_add] at hi ⊢
    obtain ⟨τ1, τ2, e1, e2, e3⟩ := h i x τ hx hi
    exact ⟨τ2, by simp only [e1]; exact e2, e3⟩) h0
  rw [Nat.zero_add] at i1
  refine ⟨τ, ?_, i1⟩
  rw [run_fr, hi, Out.ofR_ok, hx]
  simp only
  rw [if_pos (by rw [PySem.sizeLine_eq]; omega)]
  exact e
theorem whl_ok {n m : Nat} {c : Ex} {b : List Cl.St} {σ : Sg} (I : Nat → Sg → Prop) (J : Sg → Prop) (hm : m < n) (h : ∀ i τ, i < m → I i τ → ∃ τ1 τ2, tst c (ev nc cl c) τ = .ok true τ1 ∧ runs nc cl b τ1 = .nx τ2 ∧ I (i + 1) τ2)
    (he : ∀ τ, I m τ → ∃ τ1, tst c (ev nc cl c) τ = .ok false τ1 ∧ J τ1) (h0 : I 0 σ) : ∃ τ, run nc cl (.whl n c b) σ = .nx τ ∧ J τ := by
  rw [run_whl]
  have key : ∀ d i σ, i + d = m → I i σ → ∀ n, d < n → ∃ τ, whL (tst c (ev nc cl c)) (runs nc cl b) n σ = .nx τ ∧ J τ := by
    intro d
    induction d with
    | zero =>
      intro i σ hi hI n hn
      have : i = m := by omega
      subst this
      obtain ⟨τ1, e1, j⟩ := he σ hI
      match n, hn with
      | n + 1, _ => exact ⟨τ1, by rw [whL, e1], j⟩
    | succ d ih =>
      intro i σ hi hI n hn
      obtain ⟨τ1, τ2, e1, e2, i2⟩ := h i σ (by omega) hI
      match n, hn with
      | n + 1, hn =>
        obtain ⟨τ, e, j⟩ := ih (i + 1) τ2 (by omega) i2 n (by omega)
        exact ⟨τ, by rw [whL, e1]; simp only [e2]; exact e, j⟩
  exact key m 0 σ (by omega) h0 n hm
/-- a comprehension that leaves the slots as they are -/
theorem lcL_pure {g : D → Sg → R Sg (Option D)} {G : D → Option D} {σ : Sg} : ∀ {xs acc : List D}, (∀ x ∈ xs, g x σ = .ok (G x) σ) → lcL g xs acc σ = .ok (acc ++ xs.filterMap G) σ
  | [], acc, _ => by simp [lcL]
  | x :: xs, acc, h => by
    rw [lcL, h x List.mem_cons_self]
    cases e : G x with
    | none =>
      simp only
      rw [lcL_pure fun y hy => h y (List.mem_cons_of_mem _ hy), List.filterMap_cons_none e]
    | some y =>
      simp only
      rw [lcL_pure fun y hy => h y (List.mem_cons_of_mem _ hy), List.filterMap_cons_some e]
      simp
theorem lc_pure {own : List Nat} {t : Tg} {it : Ex} {c : Option Ex} {e : Ex} {σ σ1 : Sg} {w : W} {xs : List D} (G : D → Option D) (hi : ev nc cl it σ = .ok w σ1) (hx : itemsD w.toD = some xs) (hp : own.all (plainAt σ1) = true) (hl : xs.length ≤ 1000000)
    (hb : backS σ1 (wipeS σ1 own) own = σ1) (h : ∀ x ∈ xs, lcTurn own t (evC nc cl c) (ev nc cl e) x (wipeS σ1 own) = .ok (G x) (wipeS σ1 own)) : ev nc cl (.lc own t it c e) σ = .ok (.fl (xs.filterMap G)) σ1 := by
  rw [ev_lc, hi, R.bind_ok, hx]
  simp only
  rw [if_pos ⟨hp, by rw [PySem.sizeLine_eq]; omega⟩, lcL_pure (G := G) h, R.bind_ok, hb]
  rfl
theorem lc_map {own : List Nat} {t : Tg} {it : Ex} {c : Option Ex} {e : Ex} {σ σ1 : Sg} {w : W} {xs : List D} (G : D → D) (hi : ev nc cl it σ = .ok w σ1) (hx : itemsD w.toD = some xs) (hp : own.all (plainAt σ1) = true) (hl : xs.length ≤ 1000000)
    (hb : backS σ1 (wipeS σ1 own) own = σ1) (h : ∀ x ∈ xs, lcTurn own t (evC nc cl c) (ev nc cl e) x (wipeS σ1 own) = .ok (some (G x)) (wipeS σ1 own)) : ev nc cl (.lc own t it c e) σ = .ok (.fl (xs.map G)) σ1 := by
  rw [lc_pure (fun x => some (G x)) hi hx hp hl hb h]
  congr 2
  induction xs with
  | nil => rfl
  | cons x xs ih => simp
theorem ev_dc (own : List Nat) (t : Tg) (it : Ex) (c : Option Ex) (a b : Ex) (σ : Sg) : ev nc cl (.dc own t it c a b) σ = (ev nc cl it σ).bind fun w σ1 => match itemsD w.toD with
    | some xs => if own.all (plainAt σ1) ∧ xs.length ≤ PySem.sizeLine then
        (dcL (dcTurn own t (evC nc cl c) (ev nc cl a) (ev nc cl b)) xs [] (wipeS σ1 own)).bind fun ys σ2 => .ok (.fk ys) (backS σ1 σ2 own)
      else .bad
    | none => .bad := rfl
theorem dcL_pure {g : D → Sg → R Sg (Option (L2.Key × D))} {G : D → L2.Key × D} {σ : Sg} : ∀ {xs : List D} {acc : List (L2.Key × D)}, (∀ x ∈ xs, g x σ = .ok (some (G x)) σ) → dcL g xs acc σ = .ok (xs.foldl (fun acc x => dput acc (G x).1 (G x).2) acc) σ
  | [], acc, _ => by simp [dcL]
  | x :: xs, acc, h => by
    rw [dcL, h x List.mem_cons_self]
    simp only
    rw [dcL_pure fun y hy => h y (List.mem_cons_of_mem _ hy), List.foldl_cons]
theorem dc_pure {own : List Nat} {t : Tg} {it : Ex} {c : Option Ex} {a b : Ex} {σ σ1 : Sg} {w : W} {xs : List D} (G : D → L2.Key × D) (hi : ev nc cl it σ = .ok w σ1) (hx : itemsD w.toD = some xs) (hp : own.all (plainAt σ1) = true) (hl : xs.length ≤ 1000000)
    (hb : backS σ1 (wipeS σ1 own) own = σ1) (h : ∀ x ∈ xs, dcTurn own t (evC nc cl c) (ev nc cl a) (ev nc cl b) x (wipeS σ1 own) = .ok (some (G x)) (wipeS σ1 own)) : ev nc cl (.dc own t it c a b) σ = .ok (.fk (xs.foldl (fun acc x => dput acc (G x).1 (G x).2) [])) σ1 := by
  rw [ev_dc, hi, R.bind_ok, hx]
  simp only
  rw [if_pos ⟨hp, by rw [PySem.sizeLine_eq]; omega⟩, dcL_pure (G := G) h, R.bind_ok, hb]
end

def keyOf : D → L2.Key
  | .int i => .inl i
  | .str x => .inr x
  | _ => .inl 0
@[simp] theorem keyOf_int (i : Int) : keyOf (.int i) = .inl i := rfl
@[simp] theorem eqD_int (a b : Int) : eqD (.int a) (.int b) = some (decide (a = b)) := rfl
/-! ### how numbers stand -/
def nD (n : Nat) : D := .int n
def lD (l : List Nat) : List D := l.map nD
@[simp] theorem lD_len (l : List Nat) : (lD l).length = l.length := by simp [lD]
@[simp] theorem lD_nil : lD [] = [] := rfl
@[simp] theorem lD_cons (a : Nat) (l : List Nat) : lD (a :: l) = .int a :: lD l := rfl
theorem lD_app (l m : List Nat) : lD (l ++ m) = lD l ++ lD m := by simp [lD]
theorem lD_get (l : List Nat) (i : Nat) : (lD l)[i]? = (l[i]?).map nD := by simp [lD]
theorem lD_mem {l : List Nat} {d : D} (h : d ∈ lD l) : ∃ x, x ∈ l ∧ d = .int (x : Nat) := by
  obtain ⟨x, hx, rfl⟩ := List.mem_map.mp h
  exact ⟨x, hx, rfl⟩
theorem lD_ints : ∀ l : List Nat, intsD (lD l) = some (l.map fun (x : Nat) => (x : Int))
  | [] => rfl
  | a :: l => by rw [lD_cons, intsD, lD_ints l]; rfl
theorem sum_cast : ∀ l : List Nat, (l.map fun (x : Nat) => (x : Int)).sum = ((l.sum : Nat) : Int)
  | [] => rfl
  | a :: l => by rw [List.map_cons, List.sum_cons, List.sum_cons, sum_cast l]; omega
abbrev tN (l : List Nat) : D := .tup (lD l)
abbrev lN (l : List Nat) : D := .lst (lD l)
theorem lD_inj : ∀ {l m : List Nat}, lD l = lD m → l = m
  | [], [], _ => rfl
  | [], _ :: _, h => by simp at h
  | _ :: _, [], h => by simp at h
  | a :: l, b :: m, h => by
    simp only [lD_cons, List.cons.injEq, D.int.injEq] at h
    rw [lD_inj h.2]
    congr 1
    omega
theorem itemsD_tN (l : List Nat) : itemsD (tN l) = some (lD l) := rfl
theorem cut_lD (l : List Nat) (lo hi : Option Int) : cutD (lD l) lo hi = lD ((l.drop (HT.sIx l.length 0 lo)).take (HT.sIx l.length l.length hi - HT.sIx l.length 0 lo)) := by
  unfold cutD
  rw [lD_len]
  simp [lD, List.map_take, List.map_drop]
theorem cut_to (l : List Nat) (k : Nat) (h : k ≤ l.length) : cutD (lD l) none (some (k : Int)) = lD (l.take k) := by
  rw [cut_lD, HT.sIx_nat, HT.sIx_none]
  rw [show min k l.length - 0 = k by omega]; rfl
theorem cut_from (l : List Nat) (k : Nat) : cutD (lD l) (some (k : Int)) none = lD (l.drop k) := by
  rw [cut_lD, HT.sIx_nat, HT.sIx_none]
  rcases Nat.lt_or_ge k l.length with h | h
  · rw [show min k l.length = k by omega, List.take_of_length_le (by simp)]
  · rw [show min k l.length = l.length by omega, List.drop_of_length_le (Nat.le_refl _), List.drop_of_length_le h, List.take_nil]
theorem enm_lD (l : List Nat) (i : Nat) : (enmL (lD l))[i]? = (l[i]?).map fun x => D.tup [.int (i : Nat), .int (x : Nat)] := by
  unfold enmL
  rw [List.getElem?_map, List.getElem?_zipIdx, lD_get]
  cases l[i]? with
  | none => rfl
  | some x => simp [nD]
theorem enm_len' (xs : List D) : (enmL xs).length = xs.length := by simp [enmL]
end Cl

/-! Pl, part B: the program's functions: numbers, lengths, orders, goals, layings. -/
namespace Pl
open Cl Pm
section
variable {P : Pg} {nc : Nat}
def bInt : List Cl.St := [.ret (.and (.isi (.var 0) false [.int]) (.not (.isi (.var 0) false [.bool])))]
def fInt : Fd := { np := 1, io := [], nn := 1, body := bInt }
def bWit (i : Nat) : List Cl.St := [.ret (.and (.call i [.var 0]) (.chn .le .le (.var 1) (.var 0) (.var 2)))]
def fWit (i : Nat) : Fd := { np := 3, io := [], nn := 3, body := bWit i }
def isInt : D → Bool
  | .int _ => true
  | _ => false
theorem int_ok {f : Nat} (h : P[f]? = some fInt) (k : Nat) (x : D) (o : isiOk x = true) (b : objBelow nc x = true) : callN P nc (k + 1) f [.d x] = .ok (.d (.bl (isInt x))) [] := by
  refine fn_rt (ds := [x]) (body := bInt) (st := [some (.d x)]) (σ := [some (.d x)]) h rfl rfl rfl (Nat.le_of_ble_eq_true rfl) rfl rfl ?_
  cases x <;> simp [bInt, runs, run, ev, opd, rd, Out.ofR, isiD, isInt, o, b, tst, truth, W.own]
def isWit : D → Int → Int → Bool
  | .int x, lo, hi => decide (lo ≤ x) && decide (x ≤ hi)
  | _, _, _ => false
theorem wit_ok {f i : Nat} (hi : P[i]? = some fInt) (h : P[f]? = some (fWit i)) (k : Nat) (x : D) (lo hi2 : Int) (o : isiOk x = true) (b : objBelow nc x = true) : callN P nc (k + 2) f [.d x, .d (.int lo), .d (.int hi2)] = .ok (.d (.bl (isWit x lo hi2))) [] := by
  refine fn_rt (ds := [x, .int lo, .int hi2]) (body := bWit i) (st := [some (.d x), some (.d (.int lo)), some (.d (.int hi2))]) (σ := [some (.d x), some (.d (.int lo)), some (.d (.int hi2))]) h rfl rfl rfl (Nat.le_of_ble_eq_true rfl) rfl rfl ?_
  have e := int_ok (nc := nc) hi k x o b
  cases x <;> simp [bWit, runs, run, ev, evAs, opd, rd, Out.ofR, callS, ioS, agWs, agW, putBack, e, isInt, isWit, W.own, cmpop]
  rename_i x
  by_cases h1 : lo ≤ x <;> simp [h1]
/-- all of a comprehension's flags -/
theorem all_lc {cl : Calls} {own : List Nat} {t : Tg} {it e : Ex} {σ : Sg} {w : W} {xs : List D} (g : D → Bool) (hi : ev nc cl it σ = .ok w σ) (hx : itemsD w.toD = some xs) (hp : own.all (plainAt σ) = true) (hl : xs.length ≤ 1000000)
    (hb : backS σ (wipeS σ own) own = σ) (h : ∀ x ∈ xs, lcTurn own t none (ev nc cl e) x (wipeS σ own) = .ok (some (.bl (g x))) (wipeS σ own)) : ev nc cl (.blt .all [.lc own t it none e]) σ = .ok (.d (.bl (xs.all g))) σ := by
  refine blt1_ok (fun i z => by cases z) (lc_map (fun x => .bl (g x)) hi hx hp hl hb h) ?_
  have : blsD (xs.map fun x => .bl (g x)) = some (xs.map g) := by
    clear h hx hl
    induction xs with
    | nil => rfl
    | cons x xs ih => simp [blsD, ih]
  show (blsD (xs.map fun x => .bl (g x))).map (fun bs => W.d (.bl (bs.all id))) = _
  rw [this]
  simp
def bLen (w : Nat) : List Cl.St := [.ite (.or (.not (.isi (.var 0) false [.tuple])) (.not (.chn .le .le (.con (.int 1)) (.blt .len [.var 0]) (.con (.int 6))))) [.ret (.con (.bl false))] [], .ret (.and (.blt .all [.lc [1] (.nm 1) (.var 0) none (.call w [.var 1, .con (.int 1), .con (.int 60)])]) (.cmp .le (.blt .sum [.var 0]) (.con (.int 60))))]
def fLen (w : Nat) : Fd := { np := 1, io := [], nn := 2, body := bLen w }
/-- lengths of pieces -/
structure Len (L : List Nat) : Prop where
  lo : 1 ≤ L.length
  hi : L.length ≤ 6
  pos : ∀ x ∈ L, 1 ≤ x
  sum : L.sum ≤ 60
theorem mem_le_sum : ∀ {L : List Nat} {x : Nat}, x ∈ L → x ≤ L.sum
  | a :: L, x, h => by
    rw [List.sum_cons]
    rcases List.mem_cons.mp h with rfl | h
    · omega
    · have := mem_le_sum h; omega
theorem all_wit {L : List Nat} {lo hi : Int} (h : ∀ x ∈ L, lo ≤ (x : Int) ∧ (x : Int) ≤ hi) : (lD L).all (fun x => isWit x lo hi) = true := by
  rw [List.all_eq_true]
  intro d hd
  obtain ⟨x, hx, rfl⟩ := lD_mem hd
  have := h x hx
  simp [isWit, this]
theorem len_ok {f w i : Nat} (hi : P[i]? = some fInt) (hw : P[w]? = some (fWit i)) (h : P[f]? = some (fLen w)) (k : Nat) {L : List Nat} (v : Len L) : callN P nc (k + 3) f [.d (tN L)] = .ok (.d (.bl true)) [] := by
  refine fn_rt (ds := [tN L]) (body := bLen w) (st := [some (.d (tN L)), none]) (σ := [some (.d (tN L)), none]) h rfl rfl rfl (Nat.le_of_ble_eq_true rfl) rfl rfl ?_
  have h1 := v.lo
  have h2 := v.hi
  have ea := all_lc (nc := nc) (cl := callN P nc (k + 2)) (own := [1]) (t := .nm 1) (it := .var 0) (e := .call w [.var 1, .con (.int 1), .con (.int 60)]) (σ := [some (.d (tN L)), none]) (w := .d (tN L)) (xs := lD L) (fun x => isWit x 1 60) rfl rfl rfl (by rw [lD_len]; omega) rfl fun d hd => by
    obtain ⟨x, hx, rfl⟩ := lD_mem hd
    have e := wit_ok (nc := nc) hi hw k (.int x) 1 60 rfl rfl
    simp [lcTurn, asg, wipeS, ev, evAs, callS, ioS, agWs, agW, putBack, e, W.own]
  rw [all_wit fun x hx => ⟨by have := v.pos x hx; omega, by have := mem_le_sum hx; have := v.sum; omega⟩] at ea
  have e0 : run nc (callN P nc (k + 2)) (.ite (.or (.not (.isi (.var 0) false [.tuple])) (.not (.chn .le .le (.con (.int 1)) (.blt .len [.var 0]) (.con (.int 6))))) [.ret (.con (.bl false))] []) [some (.d (tN L)), none] = .nx [some (.d (tN L)), none] := by
    have g1 : ¬ ((L.length : Int) < 1) := by omega
    have g2 : (1 : Int) ≤ L.length := by omega
    have g3 : (L.length : Int) ≤ 6 := by omega
    simp [run, runs, ev, evOs, opd, rds, rd, tst, truth, Out.ofR, cmpop, bltop, lenD, isiOk, objBelow, isiD, g2, g3, W.own]
  have e1 : ev nc (callN P nc (k + 2)) (.cmp .le (.blt .sum [.var 0]) (.con (.int 60))) [some (.d (tN L)), none] = .ok (.d (.bl true)) [some (.d (tN L)), none] := by
    have g := v.sum
    have g' : ((L.sum : Nat) : Int) ≤ 60 := by omega
    simp [ev, evOs, opd, rds, rd, cmpop, bltop, lD_ints, sum_cast, g', W.own]
  unfold bLen
  rw [runs_nx e0]
  refine runs_rt (run_retE (fun i z => by cases z) ?_)
  show R.bind (ev nc (callN P nc (k + 2)) (.blt .all [.lc [1] (.nm 1) (.var 0) none (.call w [.var 1, .con (.int 1), .con (.int 60)])]) _) _ = _
  rw [ea, R.bind_ok]
  show R.bind (ev nc (callN P nc (k + 2)) (.cmp .le (.blt .sum [.var 0]) (.con (.int 60))) _) _ = _
  rw [e1]
  rfl
def bOrd (w : Nat) : List Cl.St := [.ite (.or (.not (.isi (.var 0) false [.tuple])) (.not (.chn .le .le (.con (.int 1)) (.blt .len [.var 0]) (.con (.int 6))))) [.ret (.con (.bl false))] [], .ite (.not (.blt .all [.lc [1] (.nm 1) (.var 0) none (.call w [.var 1, .con (.int 0), .bin .sub (.blt .len [.var 0]) (.con (.int 1))])])) [.ret (.con (.bl false))] [], .ret (.cmp .eq (.blt .len [.dc [1] (.nm 1) (.var 0) none (.var 1) (.con (.bl true))]) (.blt .len [.var 0]))]
def fOrd (w : Nat) : Fd := { np := 1, io := [], nn := 2, body := bOrd w }
/-- keys put one behind another -/
theorem dput_new {kvs : List (L2.Key × D)} {k : L2.Key} {v : D} (h : ∀ p ∈ kvs, p.1 ≠ k) : dput kvs k v = kvs ++ [(k, v)] := by
  unfold dput
  rw [if_neg]
  intro z
  obtain ⟨p, hp, e⟩ := List.any_eq_true.mp z
  exact h p hp (of_decide_eq_true e)
theorem puts_len : ∀ {l : List Nat} {acc : List (L2.Key × D)}, l.Nodup → (∀ p ∈ acc, ∀ x ∈ l, p.1 ≠ .inl (x : Int)) → ((lD l).foldl (fun acc x => dput acc (keyOf x) (.bl true)) acc).length = acc.length + l.length
  | [], acc, _, _ => by simp
  | a :: l, acc, nd, h => by
    rw [List.nodup_cons] at nd
    rw [lD_cons, List.foldl_cons, keyOf_int, dput_new fun p hp => h p hp a List.mem_cons_self, puts_len nd.2 fun p hp x hx => ?_]
    · simp; omega
    · rcases List.mem_append.mp hp with hp | hp
      · exact h p hp x (List.mem_cons_of_mem _ hx)
      · simp only [List.mem_singleton] at hp
        subst hp
        intro z
        have : (a : Int) = x := Sum.inl.inj z
        exact nd.1 (by rw [show a = x by omega]; exact hx)
theorem ord_ok {f w i : Nat} (hi : P[i]? = some fInt) (hw : P[w]? = some (fWit i)) (h : P[f]? = some (fOrd w)) (k : Nat) {O : List Nat} (v : O.Perm (Rn O.length)) (l1 : 1 ≤ O.length) (l6 : O.length ≤ 6) : callN P nc (k + 3) f [.d (tN O)] = .ok (.d (.bl true)) [] := by
  refine fn_rt (ds := [tN O]) (body := bOrd w) (st := [some (.d (tN O)), none]) (σ := [some (.d (tN O)), none]) h rfl rfl rfl (Nat.le_of_ble_eq_true rfl) rfl rfl ?_
  have nd : O.Nodup := v.nodup_iff.mpr List.nodup_range
  have ea := all_lc (nc := nc) (cl := callN P nc (k + 2)) (own := [1]) (t := .nm 1) (it := .var 0) (e := .call w [.var 1, .con (.int 0), .bin .sub (.blt .len [.var 0]) (.con (.int 1))]) (σ := [some (.d (tN O)), none]) (w := .d (tN O)) (xs := lD O) (fun x => isWit x 0 (O.length - 1)) rfl rfl rfl (by rw [lD_len]; omega) rfl fun d hd => by
    obtain ⟨x, hx, rfl⟩ := lD_mem hd
    have e := wit_ok (nc := nc) hi hw k (.int x) 0 (O.length - 1) rfl rfl
    simp [lcTurn, asg, wipeS, ev, evAs, evOs, opd, rds, rd, bltop, lenD, binop, callS, ioS, agWs, agW, putBack, e, W.own]
  rw [all_wit fun x hx => ⟨by omega, by have := List.mem_range.mp (v.mem_iff.mp hx); omega⟩] at ea
  have ed := dc_pure (nc := nc) (cl := callN P nc (k + 2)) (own := [1]) (t := .nm 1) (it := .var 0) (c := none) (a := .var 1) (b := .con (.bl true)) (σ := [some (.d (tN O)), none]) (σ1 := [some (.d (tN O)), none]) (w := .d (tN O)) (xs := lD O) (fun x => (keyOf x, D.bl true)) rfl rfl rfl (by rw [lD_len]; omega) rfl fun d hd => by
    obtain ⟨x, hx, rfl⟩ := lD_mem hd
    simp [dcTurn, asg, wipeS, ev, evC, keyD, W.own]
  have el := puts_len (acc := []) nd (fun p hp => nomatch hp)
  have e0 : run nc (callN P nc (k + 2)) (.ite (.or (.not (.isi (.var 0) false [.tuple])) (.not (.chn .le .le (.con (.int 1)) (.blt .len [.var 0]) (.con (.int 6))))) [.ret (.con (.bl false))] []) [some (.d (tN O)), none] = .nx [some (.d (tN O)), none] := by
    have g2 : (1 : Int) ≤ O.length := by omega
    have g3 : (O.length : Int) ≤ 6 := by omega
    simp [run, runs, ev, evOs, opd, rds, rd, tst, truth, Out.ofR, cmpop, bltop, lenD, isiOk, objBelow, isiD, g2, g3, W.own]
  have e1 : tst (.not (.blt .all [.lc [1] (.nm 1) (.var 0) none (.call w [.var 1, .con (.int 0), .bin .sub (.blt .len [.var 0]) (.con (.int 1))])])) (ev nc (callN P nc (k + 2)) (.not (.blt .all [.lc [1] (.nm 1) (.var 0) none (.call w [.var 1, .con (.int 0), .bin .sub (.blt .len [.var 0]) (.con (.int 1))])]))) [some (.d (tN O)), none] = .ok false [some (.d (tN O)), none] := by
    simp only [tst, opd, ev] at ea ⊢
    rw [ea]
    rfl
  have e2 : ev nc (callN P nc (k + 2)) (.blt .len [.dc [1] (.nm 1) (.var 0) none (.var 1) (.con (.bl true))]) [some (.d (tN O)), none] = .ok (.d (.int (O.length : Nat))) [some (.d (tN O)), none] := by
    refine blt1_ok (fun i z => by cases z) ed ?_
    show some (W.d (D.int (((lD O).foldl (fun acc x => dput acc (keyOf x) (.bl true)) []).length : Nat))) = _
    rw [el]
    simp
  unfold bOrd
  rw [runs_nx e0, runs_nx (by rw [run_iteE e1]; rfl)]
  refine runs_rt (run_retE (fun i z => by cases z) ?_)
  have e3 : opd (.blt .len [.dc [1] (.nm 1) (.var 0) none (.var 1) (.con (.bl true))]) (ev nc (callN P nc (k + 2)) (.blt .len [.dc [1] (.nm 1) (.var 0) none (.var 1) (.con (.bl true))])) [some (.d (tN O)), none] = .ok (.val (.int (O.length : Nat))) [some (.d (tN O)), none] := by
    show R.bind (ev nc (callN P nc (k + 2)) (.blt .len [.dc [1] (.nm 1) (.var 0) none (.var 1) (.con (.bl true))]) _) _ = _
    rw [e2]; rfl
  show R.bind (opd (.blt .len [.dc [1] (.nm 1) (.var 0) none (.var 1) (.con (.bl true))]) (ev nc (callN P nc (k + 2)) (.blt .len [.dc [1] (.nm 1) (.var 0) none (.var 1) (.con (.bl true))])) _) _ = _
  rw [e3, R.bind_ok]
  simp [ev, evOs, opd, rds, rd, bltop, lenD, cmpop]
end
end Pl

/-! Pl, part C: the program's functions: goals, layings. -/
namespace Pl
open Cl Pm
section
variable {P : Pg} {nc : Nat}
theorem atI_lD {l : List Nat} {i : Nat} (h : i < l.length) : L2.atI (lD l) (i : Int) = some (.int (G l i : Nat)) := by
  refine L2.atI_nat ?_
  rw [lD_get, G_get h]; rfl
theorem line_of {n : Nat} (h : n ≤ 1000000) : n ≤ PySem.sizeLine := by rw [PySem.sizeLine_eq]; omega
theorem line_lt {n : Nat} (h : n < 1000000) : n < PySem.sizeLine := by rw [PySem.sizeLine_eq]; omega
/-! ### starts_of -/
def bSta : List Cl.St := [.par [2, 3] [.dk [], .con (.int 0)], .fr (.nm 4) (.var 1) [.six 2 (.var 4) (.var 3), .aug 3 .add (.ix (.var 0) (.var 4))], .ret (.var 2)]
def fSta : Fd := { np := 2, io := [], nn := 5, body := bSta }
def sk (L : List Nat) : List Nat → Nat → List (L2.Key × D)
  | [], _ => []
  | q :: O, h => (.inl q, .int h) :: sk L O (h + ln L q)
theorem sk_app (L : List Nat) (q : Nat) : ∀ (O : List Nat) (h : Nat), sk L (O ++ [q]) h = sk L O h ++ [(.inl q, .int (h + S O (ln L) : Nat))]
  | [], h => by simp [sk]
  | p :: O, h => by rw [List.cons_append, sk, sk, sk_app L q O, S_cons, Nat.add_assoc]; rfl
theorem sk_key {L : List Nat} : ∀ {O : List Nat} {h : Nat} {p : L2.Key × D}, p ∈ sk L O h → ∃ q, q ∈ O ∧ p.1 = .inl (q : Nat)
  | q :: O, h, p, hp => by
    rcases List.mem_cons.mp hp with rfl | hp
    · exact ⟨q, List.mem_cons_self, rfl⟩
    · obtain ⟨r, h1, h2⟩ := sk_key hp
      exact ⟨r, List.mem_cons_of_mem _ h1, h2⟩
theorem sk_len (L : List Nat) : ∀ (O : List Nat) (h : Nat), (sk L O h).length = O.length
  | [], _ => rfl
  | q :: O, h => by rw [sk, List.length_cons, sk_len L O]; rfl
theorem sk_get {L : List Nat} : ∀ {O : List Nat} {h p : Nat}, p ∈ O → dget (sk L O h) (.inl (p : Int)) = some (.int (h + st L O p : Nat))
  | q :: O, h, p, hp => by
    unfold dget
    rw [sk, List.find?_cons]
    by_cases e : q = p
    · subst e
      simp [st]
    · have ne : ((Sum.inl (q : Int) : L2.Key) = .inl (p : Int)) ↔ False := ⟨fun z => e (by have := Sum.inl.inj z; omega), False.elim⟩
      have := sk_get (L := L) (O := O) (h := h + ln L q) ((List.mem_cons.mp hp).resolve_left fun z => e z.symm)
      unfold dget at this
      simp only [ne, decide_false]
      rw [this, st, if_neg e, Nat.add_assoc]
theorem sta_turn (cl : Calls) (L : List Nat) (o : Option W) (kvs : List (L2.Key × D)) (q h : Nat) (hq : q < L.length) (hl : kvs.length < 1000) : runs nc cl [.six 2 (.var 4) (.var 3), .aug 3 .add (.ix (.var 0) (.var 4))] [some (.d (tN L)), o, some (.fk kvs), some (.d (.int (h : Nat))), some (.d (.int (q : Nat)))] =
    .nx [some (.d (tN L)), o, some (.fk (dput kvs (.inl (q : Int)) (.int (h : Nat)))), some (.d (.int (h + ln L q : Nat))), some (.d (.int (q : Nat)))] := by
  simp [runs, run, ev, opd, rd, Out.ofR, setop, keyD, line_lt (show kvs.length < 1000000 by omega), ixD, atI_lD hq, augop, setS, W.own]
theorem sta_ok {f : Nat} (h : P[f]? = some fSta) (k : Nat) {L O : List Nat} (v : Lay L O) (l6 : L.length ≤ 6) : callN P nc (k + 1) f [.d (tN L), .d (tN O)] = .ok (.fk (sk L O 0)) [] := by
  have e0 : run nc (callN P nc k) (.par [2, 3] [.dk [], .con (.int 0)]) [some (.d (tN L)), some (.d (tN O)), none, none, none] = .nx [some (.d (tN L)), some (.d (tN O)), some (.fk []), some (.d (.int 0)), none] := by
    simp [run, evWs, ev, evDs, putAll, Out.ofR, setSs]
  obtain ⟨τ, e1, z, e2⟩ := fr_ok (nc := nc) (cl := callN P nc k) (t := .nm 4) (it := .var 1) (b := [.six 2 (.var 4) (.var 3), .aug 3 .add (.ix (.var 0) (.var 4))]) (σ := [some (.d (tN L)), some (.d (tN O)), some (.fk []), some (.d (.int 0)), none]) (xs := lD O) (w := .d (tN O))
    (σ1 := [some (.d (tN L)), some (.d (tN O)), some (.fk []), some (.d (.int 0)), none])
    (fun i τ => ∃ z, τ = [some (.d (tN L)), some (.d (tN O)), some (.fk (sk L (O.take i) 0)), some (.d (.int (S (O.take i) (ln L) : Nat))), z]) rfl rfl (by rw [lD_len, v.len]; omega) (fun i x τ hx ⟨z, e⟩ => by
      subst e
      rw [lD_get] at hx
      obtain ⟨q, hq, rfl⟩ := Option.map_eq_some_iff.mp hx
      have hi := (List.getElem?_eq_some_iff.mp hq).1
      have hqm := List.mem_of_getElem? hq
      have ht : O.take (i + 1) = O.take i ++ [q] := by
        rw [List.take_succ, hq]; rfl
      refine ⟨_, _, rfl, sta_turn _ L _ _ q _ (v.mem.mp hqm) (by rw [sk_len, List.length_take]; have := v.len; omega), some (.d (.int (q : Nat))), ?_⟩
      have nd := v.nd
      rw [← List.take_append_drop i O, List.nodup_append] at nd
      have hd : q ∈ O.drop i := by
        rw [List.drop_eq_getElem_cons hi]
        have : O[i] = q := Option.some.inj ((List.getElem?_eq_getElem hi).symm.trans hq)
        rw [this]; exact List.mem_cons_self
      rw [ht, sk_app, S_app, Nat.zero_add, dput_new fun p hp => ?_]
      · simp [S]
      · obtain ⟨r, h1, h2⟩ := sk_key hp
        rw [h2]
        intro e
        have := Sum.inl.inj e
        exact nd.2.2 r h1 q hd (by omega)) ⟨none, by simp [sk, S]⟩
  refine fn_rt (ds := [tN L, tN O]) (body := bSta) (st := [some (.d (tN L)), some (.d (tN O)), none, none, none]) (σ := τ.set 2 none) h rfl rfl rfl (Nat.le_of_ble_eq_true rfl) rfl rfl ?_
  unfold bSta
  rw [runs_nx e0, runs_nx e1, e2]
  simp [runs, run, List.take_of_length_le]
/-! ### goals_of -/
def bGoa (s : Nat) : List Cl.St := [.par [2, 3] [.call s [.var 0, .var 1], .lst []], .fr (.tp [.nm 4, .nm 5]) (.enm (.var 0)) [.expr (.mut .extend 3 [.lc [6] (.nm 6) (.rng [.var 5]) none (.bin .add (.ix (.var 2) (.var 4)) (.var 6))])], .ret (.blt .tuple [.var 3])]
def fGoa (s : Nat) : Fd := { np := 2, io := [], nn := 7, body := bGoa s }
theorem rng_lD {n : Nat} (h : n ≤ 16777216) : rngD [.int (n : Nat)] = some (lD (Rn n)) := by
  unfold rngD
  have e : ((n : Nat) : Int).toNat = n := Int.toNat_natCast n
  have l : -(2 ^ 62) ≤ ((n : Nat) : Int) := by omega
  simp only [e]
  rw [if_pos ⟨l, h⟩]; rfl
theorem goa_turn (cl : Calls) (L O acc : List Nat) (o : Option W) (kvs : List (L2.Key × D)) (p len s : Nat) (z : Option W) (hz : ∀ w, z = some w → w.own = false) (hp : dget kvs (.inl (p : Int)) = some (.int (s : Nat))) (hl : len ≤ 1000) (ha : acc.length ≤ 1000) :
    ∃ z', (∀ w, z' = some w → w.own = false) ∧ runs nc cl [.expr (.mut .extend 3 [.lc [6] (.nm 6) (.rng [.var 5]) none (.bin .add (.ix (.var 2) (.var 4)) (.var 6))])] [some (.d (tN L)), o, some (.fk kvs), some (.fl (lD acc)), some (.d (.int (p : Nat))), some (.d (.int (len : Nat))), z] =
      .nx [some (.d (tN L)), o, some (.fk kvs), some (.fl (lD (acc ++ (Rn len).map (s + ·)))), some (.d (.int (p : Nat))), some (.d (.int (len : Nat))), z'] := by
  have e := lc_map (nc := nc) (cl := cl) (own := [6]) (t := .nm 6) (it := .rng [.var 5]) (c := none) (e := .bin .add (.ix (.var 2) (.var 4)) (.var 6)) (σ := [some (.d (tN L)), o, some (.fk kvs), some (.fl (lD acc)), some (.d (.int (p : Nat))), some (.d (.int (len : Nat))), z])
    (σ1 := [some (.d (tN L)), o, some (.fk kvs), some (.fl (lD acc)), some (.d (.int (p : Nat))), some (.d (.int (len : Nat))), z]) (w := .fl (lD (Rn len))) (xs := lD (Rn len)) (fun d => match d with | .int x => .int (s + x) | d => d) (by simp [ev, evOs, opd, rds, rd, rng_lD (show len ≤ 16777216 by omega)]) rfl (by
      cases z with
      | none => rfl
      | some w => simp [plainAt, hz w rfl]) (by simp [Rn]; omega) (by simp [wipeS, backS]) fun d hd => by
      obtain ⟨x, hx, rfl⟩ := lD_mem hd
      simp [lcTurn, asg, wipeS, ev, evC, opd, rd, ixD, keyD, hp, binop, W.own]
  refine ⟨z, hz, ?_⟩
  have e2 : (lD (Rn len)).map (fun d => match d with | .int x => .int (s + x) | d => d) = lD ((Rn len).map (s + ·)) := by
    simp [lD, nD, List.map_map, Function.comp_def]
  rw [e2] at e
  have hs : acc.length + ((Rn len).map (s + ·)).length ≤ PySem.sizeLine := line_of (by simp [Rn]; omega)
  have e3 : ev nc cl (.mut .extend 3 [.lc [6] (.nm 6) (.rng [.var 5]) none (.bin .add (.ix (.var 2) (.var 4)) (.var 6))]) [some (.d (tN L)), o, some (.fk kvs), some (.fl (lD acc)), some (.d (.int (p : Nat))), some (.d (.int (len : Nat))), z] =
      .ok (.d .non) [some (.d (tN L)), o, some (.fk kvs), some (.fl (lD (acc ++ (Rn len).map (s + ·)))), some (.d (.int (p : Nat))), some (.d (.int (len : Nat))), z] := by
    have := ev_mutE (m := .extend) (i := 3) rfl rfl (evDs_one e) rfl (y := .non) (w' := .fl (lD acc ++ lD ((Rn len).map (s + ·)))) (by
      show (if (lD acc).length + (lD ((Rn len).map (s + ·))).length ≤ PySem.sizeLine then _ else _) = _
      rw [lD_len, lD_len, if_pos hs])
    rw [← lD_app] at this
    exact this
  rw [runs_nx (run_exprE e3)]
  rfl
theorem getL {L : List Nat} {i x : Nat} (h : L[i]? = some x) : ln L i = x := G_of h
theorem goa_ok {f s : Nat} (hs : P[s]? = some fSta) (h : P[f]? = some (fGoa s)) (k : Nat) {L O : List Nat} (v : Lay L O) (hl : Len L) : callN P nc (k + 2) f [.d (tN L), .d (tN O)] = .ok (.d (tN (gl L O))) [] := by
  have es := sta_ok (nc := nc) hs k v hl.hi
  have e0 : run nc (callN P nc (k + 1)) (.par [2, 3] [.call s [.var 0, .var 1], .lst []]) [some (.d (tN L)), some (.d (tN O)), none, none, none, none, none] = .nx [some (.d (tN L)), some (.d (tN O)), some (.fk (sk L O 0)), some (.fl []), none, none, none] := by
    simp [run, evWs, ev, evAs, evDs, callS, ioS, agWs, agW, putBack, es, Out.ofR, setSs, W.own]
  obtain ⟨τ, e1, z4, z5, z6, e2, _⟩ := fr_ok (nc := nc) (cl := callN P nc (k + 1)) (t := .tp [.nm 4, .nm 5]) (it := .enm (.var 0)) (b := [.expr (.mut .extend 3 [.lc [6] (.nm 6) (.rng [.var 5]) none (.bin .add (.ix (.var 2) (.var 4)) (.var 6))])])
    (σ := [some (.d (tN L)), some (.d (tN O)), some (.fk (sk L O 0)), some (.fl []), none, none, none]) (xs := enmL (lD L)) (w := .fl (enmL (lD L))) (σ1 := [some (.d (tN L)), some (.d (tN O)), some (.fk (sk L O 0)), some (.fl []), none, none, none])
    (fun i τ => ∃ z4 z5 z6, τ = [some (.d (tN L)), some (.d (tN O)), some (.fk (sk L O 0)), some (.fl (lD (blk (ln L) (st L O) i))), z4, z5, z6] ∧ ∀ w, z6 = some w → w.own = false) (by simp [ev, seqD, W.own]) rfl (by rw [enm_len', lD_len]; have := hl.hi; omega) (fun i x τ hx ⟨z4, z5, z6, e, hz⟩ => by
      subst e
      rw [enm_lD] at hx
      obtain ⟨q, hq, rfl⟩ := Option.map_eq_some_iff.mp hx
      have hi := (List.getElem?_eq_some_iff.mp hq).1
      have hq' := getL hq
      have hle := mem_le_sum (List.mem_of_getElem? hq)
      have h60 := hl.sum
      obtain ⟨z', hz', e'⟩ := goa_turn (nc := nc) (callN P nc (k + 1)) L O (blk (ln L) (st L O) i) (some (.d (tN O))) (sk L O 0) i q (st L O i) z6 hz (by rw [sk_get (v.mem.mpr hi), Nat.zero_add]) (by omega) (by
        rw [blk_len]
        have := bg_mono (len := ln L) (p := i) (q := L.length) (by omega)
        rw [bg_all] at this
        omega)
      refine ⟨_, _, rfl, e', some (.d (.int (i : Nat))), some (.d (.int (q : Nat))), z', ?_, hz'⟩
      rw [blk_succ, hq']) ⟨none, none, none, rfl, fun w hw => nomatch hw⟩
  refine fn_rt (ds := [tN L, tN O]) (body := bGoa s) (st := [some (.d (tN L)), some (.d (tN O)), none, none, none, none, none]) (σ := τ) h rfl rfl rfl (Nat.le_of_ble_eq_true rfl) rfl rfl ?_
  unfold bGoa
  rw [runs_nx e0, runs_nx e1, e2]
  simp [runs, run, ev, evOs, opd, rds, rd, bltop, Out.ofR, enm_len', gl]
/-! ### Laying -/
def bIni (ra rb : List Cl.St) (l o g : Nat) : List Cl.St := [.ite (.not (.call l [.var 1])) ra [], .ite (.or (.not (.call o [.var 2])) (.cmp .ne (.blt .len [.var 2]) (.blt .len [.var 1]))) rb [], .sfl 0 0 0 (.var 1), .sfl 0 0 1 (.var 2), .sfl 0 0 2 (.blt .len [.var 1]), .sfl 0 0 3 (.blt .sum [.var 1]), .sfl 0 0 4 (.call g [.var 1, .var 2])]
def fIni (ra rb : List Cl.St) (l o g : Nat) : Fd := { np := 3, io := [0], nn := 3, body := bIni ra rb l o g }
def fMk (np c i : Nat) : Fd := { np := np, io := [], nn := 0, body := [], mkC := some (c, i) }
/-- what a laying holds -/
def oF (L O : List Nat) : List D := [tN L, tN O, .int (L.length : Nat), .int (L.sum : Nat), tN (gl L O)]
def oL (L O : List Nat) : D := .obj 0 (oF L O)
/-- where the functions stand -/
structure Core (P : Pg) (ra rb : List Cl.St) (fi fw fl fo fs fg fn fm : Nat) : Prop where
  int : P[fi]? = some fInt
  wit : P[fw]? = some (fWit fi)
  len : P[fl]? = some (fLen fw)
  ord : P[fo]? = some (fOrd fw)
  sta : P[fs]? = some fSta
  goa : P[fg]? = some (fGoa fs)
  ini : P[fn]? = some (fIni ra rb fl fo fg)
  mkd : P[fm]? = some (fMk 2 0 fn)
/-- a right laying -/
structure LO (L O : List Nat) : Prop where
  len : Len L
  pm : O.Perm (Rn L.length)
theorem LO.lay {L O : List Nat} (v : LO L O) : Lay L O := ⟨v.pm, fun p hp => v.len.pos _ (G_mem hp)⟩
variable {ra rb : List Cl.St} {fi fw fl fo fs fg fn fm : Nat}
theorem ini_ok (C : Core P ra rb fi fw fl fo fs fg fn fm) (k : Nat) {L O : List Nat} (v : LO L O) : callN P nc (k + 4) fn [.fo 0 [], .d (tN L), .d (tN O)] = .ok (.d .non) [.fo 0 (oF L O)] := by
  have lo := v.lay.len
  have h1 := len_ok (nc := nc) C.int C.wit C.len k v.len
  have h2 := ord_ok (nc := nc) C.int C.wit C.ord k (O := O) (by rw [lo]; exact v.pm) (by rw [lo]; exact v.len.lo) (by rw [lo]; exact v.len.hi)
  have h3 := goa_ok (nc := nc) C.sta C.goa (k + 1) v.lay v.len
  refine call_nx (σ := [some (.fo 0 (oF L O)), some (.d (tN L)), some (.d (tN O))]) C.ini rfl ⟨rfl, Nat.le_of_ble_eq_true rfl, rfl⟩ ?_ rfl
  show runs nc (callN P nc (k + 3)) (bIni ra rb fl fo fg) [some (.fo 0 []), some (.d (tN L)), some (.d (tN O))] = _
  simp [bIni, runs, run, ev, evAs, evOs, opd, rds, rd, tst, truth, Out.ofR, callS, ioS, agWs, agW, putBack, h1, h2, h3, W.own, bltop, lenD, lo, cmpop, lD_ints, sum_cast, oF]
theorem mk_ok (C : Core P ra rb fi fw fl fo fs fg fn fm) (k : Nat) {L O : List Nat} (v : LO L O) : callN P nc (k + 5) fm [.d (tN L), .d (tN O)] = .ok (.d (oL L O)) [] := by
  rw [callN]
  simp only [C.mkd, fMk]
  rw [if_pos ⟨rfl, by simp [W.own]⟩, ini_ok C k v]
  simp [mkRes, oL]
end
end Pl

/-! Pl, part D: the program's functions: rounds. -/
namespace Pl
open Cl Pm
section
variable {P : Pg} {nc : Nat}
/-- where layings have their attributes -/
def KOk (K : Nat → List (Nat × Nat)) : Prop := ∀ j, (K j).lookup 0 = some j
theorem fld_oL {K : Nat → List (Nat × Nat)} (hK : KOk K) (L O : List Nat) (j : Nat) : fldD (oL L O) (K j) = (oF L O)[j]? := by
  simp only [oL, fldD, hK j]
variable {K : Nat → List (Nat × Nat)}
def bChk (rc : List Cl.St) : List Cl.St := [.ite (.not (.isi (.var 0) false [.own 0])) rc []]
def fChk (rc : List Cl.St) : Fd := { np := 1, io := [], nn := 1, body := bChk rc }
variable {rc : List Cl.St}
theorem chk_ok {f : Nat} (h : P[f]? = some (fChk rc)) (k : Nat) (fs : List D) (hn : 0 < nc) : callN P nc (k + 1) f [.d (.obj 0 fs)] = .ok (.d .non) [] := by
  refine fn_nx (ds := [.obj 0 fs]) (body := bChk rc) (st := [some (.d (.obj 0 fs))]) (σ := [some (.d (.obj 0 fs))]) h rfl rfl rfl (Nat.le_of_ble_eq_true rfl) rfl rfl ?_
  simp [bChk, runs, run, ev, opd, rd, Out.ofR, isiD, isiOk, objBelow, hn, tst, truth, W.own]
def bRaw (K : Nat → List (Nat × Nat)) : List Cl.St := [.par [2, 3] [.lst [.var 1], .ix (.fld (.var 0) (K 4)) (.var 1)], .whl 1000000 (.cmp .ne (.var 3) (.var 1)) [.expr (.mut .append 2 [.var 3]), .set 3 (.ix (.fld (.var 0) (K 4)) (.var 3))], .ret (.var 2)]
def fRaw (K : Nat → List (Nat × Nat)) : Fd := { np := 2, io := [], nn := 4, body := bRaw K }
theorem cmp_ne (a b : Int) : cmpop .ne (.int a) (.int b) = some (!decide (a = b)) := rfl
theorem raw_ok {f : Nat} (h : P[f]? = some (fRaw K)) (k : Nat) {x : D} {g : List Nat} {n p : Nat} (hx : fldD x (K 4) = some (tN g)) (hg : g.length = n) (hf : Pf (G g) n) (hp : p < n) (hn : n ≤ 1000) : callN P nc (k + 1) f [.d x, .d (.int (p : Nat))] = .ok (.fl (lD (orb (G g) n p))) [] := by
  obtain ⟨p1, p2, p3, p4⟩ := per_is hf hp
  have atg : ∀ y, y < n → L2.atI (lD g) (y : Int) = some (.int (G g y : Nat)) := fun y hy => atI_lD (by omega)
  have e0 : run nc (callN P nc k) (.par [2, 3] [.lst [.var 1], .ix (.fld (.var 0) (K 4)) (.var 1)]) [some (.d x), some (.d (.int (p : Nat))), none, none] = .nx [some (.d x), some (.d (.int (p : Nat))), some (.fl [.int (p : Nat)]), some (.d (.int (G g p : Nat)))] := by
    simp [run, evWs, ev, evDs, opd, rd, hx, ixD, atg p hp, Out.ofR, setSs, W.own]
  obtain ⟨τ, e1, e2⟩ := whl_ok (nc := nc) (cl := callN P nc k) (n := 1000000) (m := per (G g) n p - 1) (c := .cmp .ne (.var 3) (.var 1)) (b := [.expr (.mut .append 2 [.var 3]), .set 3 (.ix (.fld (.var 0) (K 4)) (.var 3))])
    (σ := [some (.d x), some (.d (.int (p : Nat))), some (.fl [.int (p : Nat)]), some (.d (.int (G g p : Nat)))])
    (fun i τ => τ = [some (.d x), some (.d (.int (p : Nat))), some (.fl (lD ((Rn (i + 1)).map fun k => it (G g) k p))), some (.d (.int (it (G g) (i + 1) p : Nat)))])
    (fun τ => τ = [some (.d x), some (.d (.int (p : Nat))), some (.fl (lD (orb (G g) n p))), some (.d (.int (p : Nat)))]) (by omega) (fun i τ hi e => by
      subst e
      have ne := p4 (i + 1) (by omega) (by omega)
      have lt := it_lt hf hp (i + 1)
      refine ⟨_, _, by
        have : ((it (G g) (i + 1) p : Nat) : Int) ≠ (p : Nat) := by omega
        simp only [tst, opd, ev, List.getElem?_cons_succ, List.getElem?_cons_zero, R.bind_ok, rd, W.toD_d, cmp_ne, Option.bind_some, Option.map_some, ofO_some, decide_eq_false this]
        rfl, ?_, rfl⟩
      have hl : ((Rn (i + 1)).map fun k => it (G g) k p).length < 1000000 := by simp [Rn]; omega
      have ea : ev nc (callN P nc k) (.mut .append 2 [.var 3]) [some (.d x), some (.d (.int (p : Nat))), some (.fl (lD ((Rn (i + 1)).map fun k => it (G g) k p))), some (.d (.int (it (G g) (i + 1) p : Nat)))] =
          .ok (.d .non) [some (.d x), some (.d (.int (p : Nat))), some (.fl (lD ((Rn (i + 2)).map fun k => it (G g) k p))), some (.d (.int (it (G g) (i + 1) p : Nat)))] := by
        have := ev_mutE (nc := nc) (cl := callN P nc k) (m := .append) (i := 2) (as := [.var 3]) (σ := [some (.d x), some (.d (.int (p : Nat))), some (.fl (lD ((Rn (i + 1)).map fun k => it (G g) k p))), some (.d (.int (it (G g) (i + 1) p : Nat)))]) (σ1 := _) (ds := [.int (it (G g) (i + 1) p : Nat)]) rfl rfl rfl rfl
          (y := .non) (w' := .fl (lD ((Rn (i + 1)).map fun k => it (G g) k p) ++ [.int (it (G g) (i + 1) p : Nat)])) (by
            show (if (lD ((Rn (i + 1)).map fun k => it (G g) k p)).length < PySem.sizeLine then _ else _) = _
            rw [if_pos (by rw [lD_len]; exact line_lt hl)])
        rw [this]
        have e3 : lD ((Rn (i + 2)).map fun k => it (G g) k p) = lD ((Rn (i + 1)).map fun k => it (G g) k p) ++ [.int (it (G g) (i + 1) p : Nat)] := by
          rw [show Rn (i + 2) = Rn (i + 1) ++ [i + 1] from List.range_succ, List.map_append, lD_app]; rfl
        rw [e3]; rfl
      rw [runs_nx (run_exprE ea)]
      have e5 : it (G g) (i + 1 + 1) p = G g (it (G g) (i + 1) p) := rfl
      have e6 := atg _ lt
      generalize it (G g) (i + 1) p = y at e5 e6 ⊢
      rw [e5]
      exact runs_one (by simp [run, ev, opd, rd, hx, ixD, e6, Out.ofR, setS, W.own])) (fun τ e => by
      subst e
      have e4 : per (G g) n p - 1 + 1 = per (G g) n p := by omega
      rw [e4, p3]
      refine ⟨_, ?_, rfl⟩
      simp only [tst, opd, ev, List.getElem?_cons_succ, List.getElem?_cons_zero, R.bind_ok, rd, W.toD_d, cmp_ne, Option.bind_some, Option.map_some, ofO_some]
      simp [truth, rd, orb]) rfl
  refine fn_rt (ds := [x, .int (p : Nat)]) (body := bRaw K) (st := [some (.d x), some (.d (.int (p : Nat))), none, none]) (σ := τ.set 2 none) h rfl rfl rfl (Nat.le_of_ble_eq_true rfl) rfl rfl ?_
  unfold bRaw
  rw [runs_nx e0, runs_nx e1, e2]
  simp [runs, run]
/-! ### all_rounds -/
def hasK (kvs : List (L2.Key × D)) (k : L2.Key) : Bool := (dget kvs k).isSome
theorem hasK_any (kvs : List (L2.Key × D)) (k : L2.Key) : hasK kvs k = kvs.any fun kv => decide (kv.1 = k) := by
  unfold hasK dget
  rw [Option.isSome_map]
  cases h : kvs.any fun kv => decide (kv.1 = k) with
  | true =>
    rw [List.find?_isSome]
    exact List.any_eq_true.mp h
  | false =>
    rw [List.find?_eq_none.mpr fun x hx => by
      have := List.any_eq_false.mp h x hx
      simpa using this]; rfl
theorem hasK_put (kvs : List (L2.Key × D)) (k k' : L2.Key) (v : D) : hasK (dput kvs k v) k' = (hasK kvs k' || decide (k = k')) := by
  rw [hasK_any, hasK_any]
  unfold dput
  split
  · rename_i h
    rw [List.any_map]
    have : (kvs.any ((fun kv => decide (kv.1 = k')) ∘ fun kv => if kv.1 = k then (kv.1, v) else kv)) = kvs.any fun kv => decide (kv.1 = k') := by
      congr 1
      funext kv
      simp only [Function.comp]
      split <;> rfl
    rw [this]
    by_cases e : k = k'
    · subst e
      rw [h]; rfl
    · rw [decide_eq_false e, Bool.or_false]
  · rw [List.any_append]
    simp
theorem hasK_puts (ys : List (L2.Key × D)) : ∀ (kvs : List (L2.Key × D)) (k : L2.Key), hasK (ys.foldl (fun acc kv => dput acc kv.1 kv.2) kvs) k = (hasK kvs k || ys.any fun kv => decide (kv.1 = k)) := by
  induction ys with
  | nil => intro kvs k; simp
  | cons y ys ih =>
    intro kvs k
    rw [List.foldl_cons, ih, hasK_put, List.any_cons, Bool.or_assoc]
theorem keys_of (l : List Nat) : ∀ (kvs : List (L2.Key × D)) (k : L2.Key), hasK ((lD l).foldl (fun acc x => dput acc (keyOf x) (.bl true)) kvs) k = (hasK kvs k || l.any fun x => decide ((Sum.inl (x : Int) : L2.Key) = k)) := by
  induction l with
  | nil => intro kvs k; simp
  | cons y ys ih =>
    intro kvs k
    rw [lD_cons, List.foldl_cons, ih, keyOf_int, hasK_put, List.any_cons, Bool.or_assoc]
theorem puts_le (ys : List (L2.Key × D)) : ∀ kvs : List (L2.Key × D), (ys.foldl (fun acc kv => dput acc kv.1 kv.2) kvs).length ≤ kvs.length + ys.length := by
  induction ys with
  | nil => intro kvs; simp
  | cons y ys ih =>
    intro kvs
    rw [List.foldl_cons, List.length_cons]
    have := ih (dput kvs y.1 y.2)
    have := dput_len kvs y.1 y.2
    omega
theorem kput_le (l : List Nat) : ∀ kvs : List (L2.Key × D), ((lD l).foldl (fun acc x => dput acc (keyOf x) (.bl true)) kvs).length ≤ kvs.length + l.length := by
  induction l with
  | nil => intro kvs; simp
  | cons y ys ih =>
    intro kvs
    rw [lD_cons, List.foldl_cons, List.length_cons]
    have := ih (dput kvs (keyOf (.int y)) (.bl true))
    have := dput_len kvs (keyOf (.int y)) (.bl true)
    omega
theorem any_key (l : List Nat) (y : Nat) : (l.any fun x => decide ((Sum.inl (x : Int) : L2.Key) = .inl (y : Int))) = decide (y ∈ l) := by
  induction l with
  | nil => simp
  | cons a l ih =>
    rw [List.any_cons, ih]
    by_cases e : a = y
    · subst e; simp
    · have : ¬ ((Sum.inl (a : Int) : L2.Key) = .inl (y : Int)) := fun z => e (by have := Sum.inl.inj z; omega)
      have e' : y ≠ a := fun z => e z.symm
      simp [this, e']
def bAll (r : Nat) (K : Nat → List (Nat × Nat)) : List Cl.St := [.par [1, 2] [.lst [], .dk []], .fr (.nm 3) (.rng [.fld (.var 0) (K 3)]) [.ite (.cmp .notin (.var 3) (.var 2)) [.set 4 (.call r [.var 0, .var 3]), .expr (.mut .update 2 [.dc [5] (.nm 5) (.var 4) none (.var 5) (.con (.bl true))]), .expr (.mut .append 1 [.blt .tuple [.var 4]])] []], .ret (.var 1)]
def fAll (r : Nat) (K : Nat → List (Nat × Nat)) : Fd := { np := 1, io := [], nn := 6, body := bAll r K }
theorem all_turn (cl : Calls) (r : Nat) (x : D) (ls : List D) (kvs : List (L2.Key × D)) (b : Nat) (lap : List Nat) (z4 z5 : Option W) (hr : cl r [.d x, .d (.int (b : Nat))] = .ok (.fl (lD lap)) []) (hl : lap.length ≤ 1000) (hs : ls.length < 1000) (hk : kvs.length ≤ 1000000) (h5 : ∀ w, z5 = some w → w.own = false) (hh : hasK kvs (.inl (b : Int)) = false) :
    ∃ kvs', runs nc cl [.ite (.cmp .notin (.var 3) (.var 2)) [.set 4 (.call r [.var 0, .var 3]), .expr (.mut .update 2 [.dc [5] (.nm 5) (.var 4) none (.var 5) (.con (.bl true))]), .expr (.mut .append 1 [.blt .tuple [.var 4]])] []] [some (.d x), some (.fl ls), some (.fk kvs), some (.d (.int (b : Nat))), z4, z5] =
      .nx [some (.d x), some (.fl (ls ++ [tN lap])), some (.fk kvs'), some (.d (.int (b : Nat))), some (.d (lN lap)), z5] ∧ (∀ y : Nat, hasK kvs' (.inl (y : Int)) = (hasK kvs (.inl (y : Int)) || decide (y ∈ lap))) ∧ kvs'.length ≤ kvs.length + lap.length := by
  refine ⟨((lD lap).foldl (fun acc x => dput acc (keyOf x) (.bl true)) []).foldl (fun acc kv => dput acc kv.1 kv.2) kvs, ?_, fun y => ?_, ?_⟩
  · have et : tst (.cmp .notin (.var 3) (.var 2)) (ev nc cl (.cmp .notin (.var 3) (.var 2))) [some (.d x), some (.fl ls), some (.fk kvs), some (.d (.int (b : Nat))), z4, z5] = .ok true [some (.d x), some (.fl ls), some (.fk kvs), some (.d (.int (b : Nat))), z4, z5] := by
      have : (dget kvs (Sum.inl (b : Int))).isSome = false := hh
      simp [tst, opd, ev, rd, cmpop, inD, keyD, this, truth, W.own]
    have e1 : run nc cl (.set 4 (.call r [.var 0, .var 3])) [some (.d x), some (.fl ls), some (.fk kvs), some (.d (.int (b : Nat))), z4, z5] = .nx [some (.d x), some (.fl ls), some (.fk kvs), some (.d (.int (b : Nat))), some (.fl (lD lap)), z5] := by
      simp [run, ev, evAs, callS, ioS, agWs, agW, putBack, hr, Out.ofR, setS, W.own]
    have e2 := dc_pure (nc := nc) (cl := cl) (own := [5]) (t := .nm 5) (it := .var 4) (c := none) (a := .var 5) (b := .con (.bl true)) (σ := [some (.d x), some (.fl ls), some (.fk kvs), some (.d (.int (b : Nat))), some (.fl (lD lap)), z5])
      (σ1 := [some (.d x), some (.fl ls), some (.fk kvs), some (.d (.int (b : Nat))), some (.d (lN lap)), z5]) (w := .d (lN lap)) (xs := lD lap) (fun x => (keyOf x, D.bl true)) (by simp [ev, W.own]) rfl (by
        cases z5 with
        | none => rfl
        | some w => simp [plainAt, h5 w rfl]) (by rw [lD_len]; omega) (by simp [wipeS, backS]) fun d hd => by
        obtain ⟨y, hy, rfl⟩ := lD_mem hd
        simp [dcTurn, asg, wipeS, ev, evC, keyD, W.own]
    have hle : kvs.length + ((lD lap).foldl (fun acc x => dput acc (keyOf x) (.bl true)) []).length ≤ PySem.sizeLine := by
      have := kput_le lap []
      rw [PySem.sizeLine_eq]
      simp at this
      omega
    have e3 := ev_mutE (nc := nc) (cl := cl) (m := .update) (i := 2) (w0 := .fk kvs) rfl rfl (evDs_one e2) rfl (y := .non) (w' := .fk (((lD lap).foldl (fun acc x => dput acc (keyOf x) (.bl true)) []).foldl (fun acc kv => dput acc kv.1 kv.2) kvs)) (by
      show (if kvs.length + ((lD lap).foldl (fun acc x => dput acc (keyOf x) (.bl true)) []).length ≤ PySem.sizeLine then _ else _) = _
      rw [if_pos hle])
    have e4 : ev nc cl (.mut .append 1 [.blt .tuple [.var 4]]) [some (.d x), some (.fl ls), some (.fk (((lD lap).foldl (fun acc x => dput acc (keyOf x) (.bl true)) []).foldl (fun acc kv => dput acc kv.1 kv.2) kvs)), some (.d (.int (b : Nat))), some (.d (lN lap)), z5] =
        .ok (.d .non) [some (.d x), some (.fl (ls ++ [tN lap])), some (.fk (((lD lap).foldl (fun acc x => dput acc (keyOf x) (.bl true)) []).foldl (fun acc kv => dput acc kv.1 kv.2) kvs)), some (.d (.int (b : Nat))), some (.d (lN lap)), z5] := by
      have et : ev nc cl (.blt .tuple [.var 4]) [some (.d x), some (.fl ls), some (.fk (((lD lap).foldl (fun acc x => dput acc (keyOf x) (.bl true)) []).foldl (fun acc kv => dput acc kv.1 kv.2) kvs)), some (.d (.int (b : Nat))), some (.d (lN lap)), z5] =
          .ok (.d (tN lap)) [some (.d x), some (.fl ls), some (.fk (((lD lap).foldl (fun acc x => dput acc (keyOf x) (.bl true)) []).foldl (fun acc kv => dput acc kv.1 kv.2) kvs)), some (.d (.int (b : Nat))), some (.d (lN lap)), z5] := by
        simp [ev, evOs, opd, rds, rd, bltop]
      exact ev_mutE (m := .append) (i := 1) (w0 := .fl ls) rfl rfl (evDs_one et) rfl (y := .non) (w' := .fl (ls ++ [tN lap])) (by
        show (if ls.length < PySem.sizeLine then _ else _) = _
        rw [if_pos (line_lt (by omega))]; rfl)
    have e5 : runs nc cl [.set 4 (.call r [.var 0, .var 3]), .expr (.mut .update 2 [.dc [5] (.nm 5) (.var 4) none (.var 5) (.con (.bl true))]), .expr (.mut .append 1 [.blt .tuple [.var 4]])] [some (.d x), some (.fl ls), some (.fk kvs), some (.d (.int (b : Nat))), z4, z5] =
        .nx [some (.d x), some (.fl (ls ++ [tN lap])), some (.fk (((lD lap).foldl (fun acc x => dput acc (keyOf x) (.bl true)) []).foldl (fun acc kv => dput acc kv.1 kv.2) kvs)), some (.d (.int (b : Nat))), some (.d (lN lap)), z5] := by
      rw [runs_nx e1, runs_nx (run_exprE e3)]
      exact runs_one (run_exprE e4)
    refine runs_one ?_
    rw [run_iteE et, if_pos rfl, e5]
  · rw [hasK_puts]
    congr 1
    rw [← any_key lap y, ← hasK_any, keys_of]
    simp [hasK, dget]
  · have h1 := puts_le ((lD lap).foldl (fun acc x => dput acc (keyOf x) (.bl true)) []) kvs
    have h2 := kput_le lap []
    simp at h2
    omega
theorem skip_turn (cl : Calls) (r : Nat) (x : D) (ls : List D) (kvs : List (L2.Key × D)) (b : Nat) (z4 z5 : Option W) (hh : hasK kvs (.inl (b : Int)) = true) :
    runs nc cl [.ite (.cmp .notin (.var 3) (.var 2)) [.set 4 (.call r [.var 0, .var 3]), .expr (.mut .update 2 [.dc [5] (.nm 5) (.var 4) none (.var 5) (.con (.bl true))]), .expr (.mut .append 1 [.blt .tuple [.var 4]])] []] [some (.d x), some (.fl ls), some (.fk kvs), some (.d (.int (b : Nat))), z4, z5] =
      .nx [some (.d x), some (.fl ls), some (.fk kvs), some (.d (.int (b : Nat))), z4, z5] := by
  have et : tst (.cmp .notin (.var 3) (.var 2)) (ev nc cl (.cmp .notin (.var 3) (.var 2))) [some (.d x), some (.fl ls), some (.fk kvs), some (.d (.int (b : Nat))), z4, z5] = .ok false [some (.d x), some (.fl ls), some (.fk kvs), some (.d (.int (b : Nat))), z4, z5] := by
    have : (dget kvs (Sum.inl (b : Int))).isSome = true := hh
    simp [tst, opd, ev, rd, cmpop, inD, keyD, this, truth, W.own]
  refine runs_one ?_
  rw [run_iteE et]; rfl
theorem laps_lt {f : Nat → Nat} {n : Nat} (b : Nat) : (laps f n b).length ≤ b := by
  unfold laps
  rw [List.length_map]
  exact Nat.le_trans (List.length_filter_le _ _) (by simp [Rn])
theorem all_ok {f r : Nat} (hr : P[r]? = some (fRaw K)) (h : P[f]? = some (fAll r K)) (k : Nat) {x : D} {g : List Nat} {n : Nat} (h3 : fldD x (K 3) = some (.int (n : Nat))) (h4 : fldD x (K 4) = some (tN g)) (hg : g.length = n) (hf : Pf (G g) n) (hn : n ≤ 900) :
    callN P nc (k + 2) f [.d x] = .ok (.fl ((laps (G g) n n).map tN)) [] := by
  have e0 : run nc (callN P nc (k + 1)) (.par [1, 2] [.lst [], .dk []]) [some (.d x), none, none, none, none, none] = .nx [some (.d x), some (.fl []), some (.fk []), none, none, none] := by
    simp [run, evWs, ev, evDs, putAll, Out.ofR, setSs]
  obtain ⟨τ, e1, kvs, z3, z4, z5, e2, _⟩ := fr_ok (nc := nc) (cl := callN P nc (k + 1)) (t := .nm 3) (it := .rng [.fld (.var 0) (K 3)]) (b := [.ite (.cmp .notin (.var 3) (.var 2)) [.set 4 (.call r [.var 0, .var 3]), .expr (.mut .update 2 [.dc [5] (.nm 5) (.var 4) none (.var 5) (.con (.bl true))]), .expr (.mut .append 1 [.blt .tuple [.var 4]])] []])
    (σ := [some (.d x), some (.fl []), some (.fk []), none, none, none]) (σ1 := [some (.d x), some (.fl []), some (.fk []), none, none, none]) (w := .fl (lD (Rn n))) (xs := lD (Rn n))
    (fun b τ => ∃ kvs z3 z4 z5, τ = [some (.d x), some (.fl ((laps (G g) n b).map tN)), some (.fk kvs), z3, z4, z5] ∧ (∀ w, z5 = some w → w.own = false) ∧ (∀ y, y < n → hasK kvs (.inl (y : Int)) = decide (y ∈ (laps (G g) n b).flatten)) ∧ kvs.length ≤ b * n)
    (by simp [ev, evOs, opd, rds, rd, h3, rng_lD (show n ≤ 16777216 by omega)]) rfl (by simp [Rn]; omega) (fun b d τ hd ⟨kvs, z3, z4, z5, e, h5, hk, hkl⟩ => by
      subst e
      have hb : b < n := by
        have := (List.getElem?_eq_some_iff.mp hd).1
        simpa [Rn] using this
      have ed : d = .int (b : Nat) := by
        rw [lD_get, Rn, List.getElem?_range hb] at hd
        exact (Option.some.inj hd).symm
      subst ed
      have hkk := hk b hb
      have hbn : b * n + n = (b + 1) * n := by rw [Nat.succ_mul]
      have hbig : (b + 1) * n ≤ 900 * 900 := Nat.mul_le_mul (by omega) hn
      cases hm : minB (G g) n b with
      | false =>
        have hmem := (met_self hf hb).mpr hm
        rw [decide_eq_true hmem] at hkk
        refine ⟨_, _, rfl, skip_turn _ r x _ kvs b z4 z5 hkk, kvs, some (.d (.int (b : Nat))), z4, z5, ?_, h5, fun y hy => ?_, by omega⟩
        · rw [laps_succ, hm]; simp
        · rw [laps_succ, hm, hk y hy]; simp
      | true =>
        have hnm : b ∉ (laps (G g) n b).flatten := fun z => by
          have := (met_self hf hb).mp z
          rw [hm] at this; cases this
        rw [decide_eq_false hnm] at hkk
        obtain ⟨p1, p2, _⟩ := per_is hf hb
        obtain ⟨kvs', e', hk', hl'⟩ := all_turn (nc := nc) (callN P nc (k + 1)) r x ((laps (G g) n b).map tN) kvs b (orb (G g) n b) z4 z5 (raw_ok hr k h4 hg hf hb (by omega)) (by rw [orb_len]; omega) (by
          rw [List.length_map]
          have := laps_lt (f := G g) (n := n) b
          omega) (by omega) h5 hkk
        refine ⟨_, _, rfl, e', kvs', some (.d (.int (b : Nat))), some (.d (lN (orb (G g) n b))), z5, ?_, h5, fun y hy => ?_, ?_⟩
        · rw [laps_succ, hm]; simp
        · rw [laps_succ, hm, hk' y, hk y hy]
          simp
        · rw [orb_len] at hl'; omega) ⟨[], none, none, none, by simp [laps, Rn], fun w hw => (nomatch hw), fun y hy => by simp [hasK, dget, laps, Rn], by simp⟩
  refine fn_rt (ds := [x]) (body := bAll r K) (st := [some (.d x), none, none, none, none, none]) (σ := τ.set 1 none) h rfl rfl rfl (Nat.le_of_ble_eq_true rfl) rfl rfl ?_
  unfold bAll
  rw [runs_nx e0, runs_nx e1, e2]
  simp [runs, run, Rn]
def bMny (c a : Nat) : List Cl.St := [.expr (.call c [.var 0]), .ret (.blt .len [.call a [.var 0]])]
def fMny (c a : Nat) : Fd := { np := 1, io := [], nn := 1, body := bMny c a }
theorem mny_ok {f c a r : Nat} (hn0 : 0 < nc) (hc : P[c]? = some (fChk rc)) (hr : P[r]? = some (fRaw K)) (ha : P[a]? = some (fAll r K)) (h : P[f]? = some (fMny c a)) (k : Nat) {fs : List D} {g : List Nat} {n : Nat} (h3 : fldD (.obj 0 fs) (K 3) = some (.int (n : Nat))) (h4 : fldD (.obj 0 fs) (K 4) = some (tN g)) (hg : g.length = n) (hf : Pf (G g) n) (hn : n ≤ 900) :
    callN P nc (k + 3) f [.d (.obj 0 fs)] = .ok (.d (.int ((laps (G g) n n).length : Nat))) [] := by
  have e1 := chk_ok hc (k + 1) fs hn0
  have e2 := all_ok (nc := nc) hr ha k h3 h4 hg hf hn
  refine fn_rt (ds := [.obj 0 fs]) (body := bMny c a) (st := [some (.d (.obj 0 fs))]) (σ := [some (.d (.obj 0 fs))]) h rfl rfl rfl (Nat.le_of_ble_eq_true rfl) rfl rfl ?_
  simp [bMny, runs, run, ev, evAs, evOs, opd, rds, rd, callS, ioS, agWs, agW, putBack, e1, e2, Out.ofR, bltop, lenD, W.own]
end
end Pl

/-! Pl, part E: the program's functions: shifts, crossings, led back, from behind. -/
namespace Pl
open Cl Pm
section
variable {P : Pg} {nc : Nat} {cl : Calls} {K : Nat → List (Nat × Nat)}
variable {rc : List Cl.St}
/-- a comprehension over numbers -/
theorem lc_nat {own : List Nat} {t : Tg} {it : Ex} {c : Option Ex} {e : Ex} {σ σ1 : Sg} {w : W} {l : List Nat} (p : Nat → Bool) (φ : Nat → Nat) (hi : ev nc cl it σ = .ok w σ1) (hx : itemsD w.toD = some (lD l)) (hp : own.all (plainAt σ1) = true) (hl : l.length ≤ 1000000)
    (hb : backS σ1 (wipeS σ1 own) own = σ1) (h : ∀ x ∈ l, lcTurn own t (evC nc cl c) (ev nc cl e) (.int (x : Nat)) (wipeS σ1 own) = .ok (if p x then some (.int (φ x : Nat)) else none) (wipeS σ1 own)) : ev nc cl (.lc own t it c e) σ = .ok (.fl (lD ((l.filter p).map φ))) σ1 := by
  rw [lc_pure (fun d => match d with | .int x => (if p x.toNat then some (.int (φ x.toNat : Nat)) else none) | _ => none) hi hx hp (by rw [lD_len]; exact hl) hb fun d hd => by
    obtain ⟨x, hx, rfl⟩ := lD_mem hd
    rw [h x hx]
    simp]
  congr 2
  clear h hx hl
  induction l with
  | nil => rfl
  | cons a l ih =>
    rw [lD_cons, List.filterMap_cons, List.filter_cons]
    simp only [Int.toNat_natCast]
    split
    · rename_i e
      split at e
      · cases e
      · rename_i q
        rw [if_neg q]; exact ih
    · rename_i y e
      split at e
      · rename_i q
        cases e
        rw [if_pos q, ih]; rfl
      · cases e
theorem filter_tt (l : List Nat) : (l.filter fun _ => true) = l := List.filter_eq_self.mpr fun _ _ => rfl
theorem lc_natA {own : List Nat} {t : Tg} {it : Ex} {e : Ex} {σ σ1 : Sg} {w : W} {l : List Nat} (φ : Nat → Nat) (hi : ev nc cl it σ = .ok w σ1) (hx : itemsD w.toD = some (lD l)) (hp : own.all (plainAt σ1) = true) (hl : l.length ≤ 1000000)
    (hb : backS σ1 (wipeS σ1 own) own = σ1) (h : ∀ x ∈ l, lcTurn own t none (ev nc cl e) (.int (x : Nat)) (wipeS σ1 own) = .ok (some (.int (φ x : Nat))) (wipeS σ1 own)) : ev nc cl (.lc own t it none e) σ = .ok (.fl (lD (l.map φ))) σ1 := by
  have := lc_nat (c := none) (fun _ => true) φ hi hx hp hl hb fun x hx => by rw [if_pos rfl]; exact h x hx
  rw [filter_tt] at this
  exact this
/-- with their places -/
theorem enm_map (g : List Nat) (F : D → D) (φ : Nat → Nat → Nat) (h : ∀ i x : Nat, F (.tup [.int i, .int x]) = .int (φ i x : Nat)) : (enmL (lD g)).map F = lD ((Rn g.length).map fun i => φ i (G g i)) := by
  refine List.ext_getElem? fun i => ?_
  rw [List.getElem?_map, enm_lD, lD_get, List.getElem?_map]
  rcases Nat.lt_or_ge i g.length with z | z
  · rw [G_get z, Rn, List.getElem?_range z]
    simp [h, nD]
  · rw [List.getElem?_eq_none z, List.getElem?_eq_none (by simpa [Rn] using z)]
    rfl
theorem abs_dist (a b : Nat) : (if (a : Int) - b < 0 then -((a : Int) - b) else (a : Int) - b) = (dist a b : Nat) := by unfold dist; split <;> omega
theorem sum_S (g : List Nat) (φ : Nat → Nat → Nat) : ((Rn g.length).map fun i => φ i (G g i)).sum = S (Rn g.length) fun i => φ i (G g i) := S_sum _ _
/-- the sum of how far -/
theorem sh_lc {it : Ex} {i j : Nat} {σ0 σ : Sg} {w : W} {g : List Nat} (hi : ev nc cl (.enm it) σ0 = .ok w σ) (hw : itemsD w.toD = some (enmL (lD g))) (hij : i ≠ j) (hli : i < σ.length) (hlj : j < σ.length) (hl : g.length ≤ 1000) (hp : [i, j].all (plainAt σ) = true) (hb : backS σ (wipeS σ [i, j]) [i, j] = σ) :
    ev nc cl (.blt .sum [.lc [i, j] (.tp [.nm i, .nm j]) (.enm it) none (.blt .abs [.bin .sub (.var j) (.var i)])]) σ0 = .ok (.d (.int (Sh (G g) g.length : Nat))) σ := by
  have wl : (wipeS σ [i, j]).length = σ.length := wipeS_len σ _
  have e := lc_map (nc := nc) (cl := cl) (own := [i, j]) (t := .tp [.nm i, .nm j]) (it := .enm it) (c := none) (e := .blt .abs [.bin .sub (.var j) (.var i)]) (σ := σ0) (σ1 := σ) (w := w) (xs := enmL (lD g)) (fun d => match d with
      | .tup [.int a, .int x] => .int (if x - a < 0 then -(x - a) else x - a)
      | d => d) hi hw hp (by rw [enm_len', lD_len]; omega) hb fun d hd => by
    obtain ⟨a, hd⟩ := List.getElem?_of_mem hd
    rw [enm_lD] at hd
    obtain ⟨x, hx, rfl⟩ := Option.map_eq_some_iff.mp hd
    have w1 : (wipeS (wipeS σ [i, j]) [i, j]) = wipeS σ [i, j] := wipeS_idem _ _
    unfold lcTurn
    rw [w1]
    have l1 : i < (wipeS σ [i, j]).length := by rw [wl]; exact hli
    have l2 : j < (wipeS σ [i, j]).length := by rw [wl]; exact hlj
    generalize hσ : wipeS σ [i, j] = ρ at *
    have a1 : asg (.tp [.nm i, .nm j]) (.tup [.int (a : Nat), .int (x : Nat)]) ρ = some ((ρ.set i (some (.d (.int (a : Nat))))).set j (some (.d (.int (x : Nat))))) := by
      simp [asg, asgs, l1, l2]
    rw [a1]
    simp only
    have g1 : ((ρ.set i (some (.d (.int (a : Nat))))).set j (some (.d (.int (x : Nat)))))[j]? = some (some (.d (.int (x : Nat)))) := by
      rw [List.getElem?_set_self (by rw [List.length_set]; exact l2)]
    have g2 : ((ρ.set i (some (.d (.int (a : Nat))))).set j (some (.d (.int (x : Nat)))))[i]? = some (some (.d (.int (a : Nat)))) := by
      rw [List.getElem?_set_ne (Ne.symm hij), List.getElem?_set_self l1]
    have ee : ev nc cl (.blt .abs [.bin .sub (.var j) (.var i)]) ((ρ.set i (some (.d (.int (a : Nat))))).set j (some (.d (.int (x : Nat))))) = .ok (.d (.int (if (x : Int) - a < 0 then -((x : Int) - a) else (x : Int) - a))) ((ρ.set i (some (.d (.int (a : Nat))))).set j (some (.d (.int (x : Nat))))) := by
      simp only [ev, evOs, opd, g1, g2, R.bind_ok, rd, W.toD_d, binop, Option.bind_some, ofO_some, rds, bltop, Option.map_some]
    show R.bind (ev nc cl (.blt .abs [.bin .sub (.var j) (.var i)]) _) _ = _
    rw [ee, R.bind_ok]
    have back : wipeS ((ρ.set i (some (.d (.int (a : Nat))))).set j (some (.d (.int (x : Nat))))) [i, j] = ρ := by
      rw [← hσ]
      refine List.ext_getElem? fun m => ?_
      simp only [wipeS]
      by_cases e1 : i = m
      · subst e1
        rw [List.getElem?_set_self (by simp; exact hli), List.getElem?_set_self (by simp; exact hli)]
      · rw [List.getElem?_set_ne e1, List.getElem?_set_ne e1]
        by_cases e2 : j = m
        · subst e2
          rw [List.getElem?_set_self (by simp; exact hlj), List.getElem?_set_self hlj]
        · rw [List.getElem?_set_ne e2, List.getElem?_set_ne e2, List.getElem?_set_ne e2, List.getElem?_set_ne e1, List.getElem?_set_ne e1, List.getElem?_set_ne e2]
    rw [back]; rfl
  refine blt1_ok (fun i z => by cases z) e ?_
  have em := enm_map g (fun d => match d with
      | .tup [.int a, .int x] => .int (if x - a < 0 then -(x - a) else x - a)
      | d => d) (fun i x => dist x i) fun a x => by
        show D.int (if (x : Int) - a < 0 then -((x : Int) - a) else (x : Int) - a) = _
        rw [abs_dist]
  show bltop .sum [.lst ((enmL (lD g)).map _)] = _
  rw [em]
  show (intsD (lD _)).map _ = _
  rw [lD_ints, Option.map_some, sum_cast, sum_S g fun i x => dist x i]
  rfl
def bShs (c : Nat) (K : Nat → List (Nat × Nat)) : List Cl.St := [.expr (.call c [.var 0]), .ret (.blt .sum [.lc [1, 2] (.tp [.nm 1, .nm 2]) (.enm (.fld (.var 0) (K 4))) none (.blt .abs [.bin .sub (.var 2) (.var 1)])])]
def fShs (c : Nat) (K : Nat → List (Nat × Nat)) : Fd := { np := 1, io := [], nn := 3, body := bShs c K }
theorem shs_ok {f c : Nat} (hn0 : 0 < nc) (hc : P[c]? = some (fChk rc)) (h : P[f]? = some (fShs c K)) (k : Nat) {fs : List D} {g : List Nat} (h4 : fldD (.obj 0 fs) (K 4) = some (tN g)) (hl : g.length ≤ 1000) :
    callN P nc (k + 2) f [.d (.obj 0 fs)] = .ok (.d (.int (Sh (G g) g.length : Nat))) [] := by
  have e1 := chk_ok hc k fs hn0
  refine fn_rt (ds := [.obj 0 fs]) (body := bShs c K) (st := [some (.d (.obj 0 fs)), none, none]) (σ := [some (.d (.obj 0 fs)), none, none]) h rfl rfl rfl (Nat.le_of_ble_eq_true rfl) rfl rfl ?_
  have e0 : run nc (callN P nc (k + 1)) (.expr (.call c [.var 0])) [some (.d (.obj 0 fs)), none, none] = .nx [some (.d (.obj 0 fs)), none, none] := by
    simp [run, ev, evAs, callS, ioS, agWs, agW, putBack, e1, Out.ofR, W.own]
  unfold bShs
  rw [runs_nx e0]
  refine runs_rt (run_retE (fun i z => by cases z) (sh_lc (w := .fl (enmL (lD g))) ?_ rfl (by decide) (by simp) (by simp) hl rfl rfl))
  simp [ev, opd, rd, h4, seqD, W.own]
/-! ### crossed_weight -/
def bCrw (c : Nat) (K : Nat → List (Nat × Nat)) : List Cl.St := [.expr (.call c [.var 0]), .set 1 (.con (.int 0)), .fr (.tp [.nm 2, .nm 3]) (.enm (.fld (.var 0) (K 1))) [.set 4 (.lc [5] (.nm 5) (.sl (.fld (.var 0) (K 1)) (some (.bin .add (.var 2) (.con (.int 1)))) none) (some (.cmp .lt (.var 5) (.var 3))) (.var 5)), .aug 1 .add (.bin .mul (.ix (.fld (.var 0) (K 0)) (.var 3)) (.blt .sum [.lc [5] (.nm 5) (.var 4) none (.ix (.fld (.var 0) (K 0)) (.var 5))]))], .ret (.var 1)]
def fCrw (c : Nat) (K : Nat → List (Nat × Nat)) : Fd := { np := 1, io := [], nn := 6, body := bCrw c K }
theorem S_filter (p : Nat → Bool) (f : Nat → Nat) : ∀ l : List Nat, S (l.filter p) f = S l fun x => if p x then f x else 0
  | [] => rfl
  | a :: l => by
    rw [List.filter_cons, S_cons]
    split
    · rw [S_cons, S_filter p f l]
    · rw [S_filter p f l, Nat.zero_add]
theorem mul_ok (a b : Nat) (h : a < 1000) : binop .mul (.int (a : Nat)) (.int (b : Nat)) = some (.d (.int (a * b : Nat))) := by
  unfold binop
  have h1 : -(2 ^ 64) < (a : Int) ∧ (a : Int) < 2 ^ 64 := ⟨by omega, by omega⟩
  simp only [if_pos (Or.inl h1 : (-(2 ^ 64) < (a : Int) ∧ (a : Int) < 2 ^ 64) ∨ (-(2 ^ 64) < (b : Int) ∧ (b : Int) < 2 ^ 64)), Int.natCast_mul]
/-- a sum, a product of two values -/
theorem bin_ok {o : Bop} {a b : Ex} {σ σ1 σ2 : Sg} {x y : D} {w : W} (h1 : opd a (ev nc cl a) σ = .ok (.val x) σ1) (h2 : opd b (ev nc cl b) σ1 = .ok (.val y) σ2) (h3 : binop o x y = some w) : ev nc cl (.bin o a b) σ = .ok w σ2 := by
  unfold ev
  rw [h1, R.bind_ok, h2, R.bind_ok]
  simp only [rd, Option.bind_some, h3]
  rfl
/-- an own name, more -/
theorem aug_ok {i : Nat} {o : Bop} {e : Ex} {σ σ1 : Sg} {x r : D} {w : W} (hx : σ[i]? = some (some (.d x))) (he : ev nc cl e σ = .ok w σ1) (hr : augop o x w.toD = some r) (hi : i < σ1.length) : run nc cl (.aug i o e) σ = .nx (σ1.set i (some (.d r))) := by
  unfold run
  simp only [hx, he, Out.ofR, hr, setS, hi, if_true]
theorem crw_turn {L O : List Nat} {x : D} (h0 : fldD x (K 0) = some (tN L)) (h1 : fldD x (K 1) = some (tN O)) (hO : O.length ≤ 1000) (hm : ∀ r ∈ O, r < L.length) (h60 : ∀ p, G L p < 1000) (t i q : Nat) (hq : q < L.length) (z4 : Option W) (z5 : Option W) (h5 : ∀ w, z5 = some w → w.own = false) :
    ∃ z4', runs nc cl [.set 4 (.lc [5] (.nm 5) (.sl (.fld (.var 0) (K 1)) (some (.bin .add (.var 2) (.con (.int 1)))) none) (some (.cmp .lt (.var 5) (.var 3))) (.var 5)), .aug 1 .add (.bin .mul (.ix (.fld (.var 0) (K 0)) (.var 3)) (.blt .sum [.lc [5] (.nm 5) (.var 4) none (.ix (.fld (.var 0) (K 0)) (.var 5))]))] [some (.d x), some (.d (.int (t : Nat))), some (.d (.int (i : Nat))), some (.d (.int (q : Nat))), z4, z5] =
      .nx [some (.d x), some (.d (.int (t + G L q * S (O.drop (i + 1)) (fun r => if r < q then G L r else 0) : Nat))), some (.d (.int (i : Nat))), some (.d (.int (q : Nat))), z4', z5] := by
  have hpl : ∀ z4 : Option W, [5].all (plainAt [some (.d x), some (.d (.int (t : Nat))), some (.d (.int (i : Nat))), some (.d (.int (q : Nat))), z4, z5]) = true := fun z4 => by
    cases z5 with
    | none => rfl
    | some w => simp [plainAt, h5 w rfl]
  have e1 := lc_nat (nc := nc) (cl := cl) (own := [5]) (t := .nm 5) (it := .sl (.fld (.var 0) (K 1)) (some (.bin .add (.var 2) (.con (.int 1)))) none) (c := some (.cmp .lt (.var 5) (.var 3))) (e := .var 5) (σ := [some (.d x), some (.d (.int (t : Nat))), some (.d (.int (i : Nat))), some (.d (.int (q : Nat))), z4, z5]) (σ1 := [some (.d x), some (.d (.int (t : Nat))), some (.d (.int (i : Nat))), some (.d (.int (q : Nat))), z4, z5])
    (w := .d (tN (O.drop (i + 1)))) (l := O.drop (i + 1)) (fun r => decide (r < q)) id (by
      have := cut_from O (i + 1)
      simp only [Int.natCast_add, Int.cast_ofNat_Int] at this
      simp [ev, evI, opd, rd, h1, binop, slD, this, W.own]) rfl (hpl z4) (by simp; omega) (by simp [wipeS, backS]) fun r hr => by
      by_cases h : r < q
      · have h' : (r : Int) < q := by omega
        simp [lcTurn, asg, wipeS, ev, evC, opd, rd, tst, cmpop, truth, h, h', W.own]
      · have h' : ¬ (r : Int) < q := by omega
        simp [lcTurn, asg, wipeS, ev, evC, opd, rd, tst, cmpop, truth, h, h', W.own]
  rw [List.map_id] at e1
  have e2 : run nc cl (.set 4 (.lc [5] (.nm 5) (.sl (.fld (.var 0) (K 1)) (some (.bin .add (.var 2) (.con (.int 1)))) none) (some (.cmp .lt (.var 5) (.var 3))) (.var 5))) [some (.d x), some (.d (.int (t : Nat))), some (.d (.int (i : Nat))), some (.d (.int (q : Nat))), z4, z5] =
      .nx [some (.d x), some (.d (.int (t : Nat))), some (.d (.int (i : Nat))), some (.d (.int (q : Nat))), some (.fl (lD ((O.drop (i + 1)).filter fun r => decide (r < q)))), z5] := by
    rw [run_setE e1 (by simp)]; rfl
  have e3 := lc_natA (nc := nc) (cl := cl) (own := [5]) (t := .nm 5) (it := .var 4) (e := .ix (.fld (.var 0) (K 0)) (.var 5)) (σ := [some (.d x), some (.d (.int (t : Nat))), some (.d (.int (i : Nat))), some (.d (.int (q : Nat))), some (.fl (lD ((O.drop (i + 1)).filter fun r => decide (r < q)))), z5])
    (σ1 := [some (.d x), some (.d (.int (t : Nat))), some (.d (.int (i : Nat))), some (.d (.int (q : Nat))), some (.d (lN ((O.drop (i + 1)).filter fun r => decide (r < q)))), z5]) (w := .d (lN ((O.drop (i + 1)).filter fun r => decide (r < q)))) (l := (O.drop (i + 1)).filter fun r => decide (r < q)) (G L) (by simp [ev, W.own]) rfl (hpl _) (by
      have := List.length_filter_le (fun r => decide (r < q)) (O.drop (i + 1))
      simp at this
      omega) (by simp [wipeS, backS]) fun r hr => by
      have hrL := hm r (List.mem_of_mem_drop (List.mem_filter.mp hr).1)
      simp [lcTurn, asg, wipeS, ev, evC, opd, rd, h0, ixD, atI_lD hrL, W.own]
  have e4 := blt1_ok (nc := nc) (cl := cl) (b := .sum) (r := .d (.int (S (O.drop (i + 1)) (fun r => if r < q then G L r else 0) : Nat))) (fun i z => by cases z) e3 (by
    show (intsD (lD _)).map _ = _
    rw [lD_ints, Option.map_some, sum_cast, S_sum, S_filter]
    simp only [decide_eq_true_eq])
  have e5 : ev nc cl (.bin .mul (.ix (.fld (.var 0) (K 0)) (.var 3)) (.blt .sum [.lc [5] (.nm 5) (.var 4) none (.ix (.fld (.var 0) (K 0)) (.var 5))])) [some (.d x), some (.d (.int (t : Nat))), some (.d (.int (i : Nat))), some (.d (.int (q : Nat))), some (.fl (lD ((O.drop (i + 1)).filter fun r => decide (r < q)))), z5] =
      .ok (.d (.int (G L q * S (O.drop (i + 1)) (fun r => if r < q then G L r else 0) : Nat))) [some (.d x), some (.d (.int (t : Nat))), some (.d (.int (i : Nat))), some (.d (.int (q : Nat))), some (.d (lN ((O.drop (i + 1)).filter fun r => decide (r < q)))), z5] := by
    have a1 : opd (.ix (.fld (.var 0) (K 0)) (.var 3)) (ev nc cl (.ix (.fld (.var 0) (K 0)) (.var 3))) [some (.d x), some (.d (.int (t : Nat))), some (.d (.int (i : Nat))), some (.d (.int (q : Nat))), some (.fl (lD ((O.drop (i + 1)).filter fun r => decide (r < q)))), z5] =
        .ok (.val (.int (G L q : Nat))) [some (.d x), some (.d (.int (t : Nat))), some (.d (.int (i : Nat))), some (.d (.int (q : Nat))), some (.fl (lD ((O.drop (i + 1)).filter fun r => decide (r < q)))), z5] := by
      simp [ev, opd, rd, h0, ixD, atI_lD hq]
    have a2 : opd (.blt .sum [.lc [5] (.nm 5) (.var 4) none (.ix (.fld (.var 0) (K 0)) (.var 5))]) (ev nc cl (.blt .sum [.lc [5] (.nm 5) (.var 4) none (.ix (.fld (.var 0) (K 0)) (.var 5))])) [some (.d x), some (.d (.int (t : Nat))), some (.d (.int (i : Nat))), some (.d (.int (q : Nat))), some (.fl (lD ((O.drop (i + 1)).filter fun r => decide (r < q)))), z5] =
        .ok (.val (.int (S (O.drop (i + 1)) (fun r => if r < q then G L r else 0) : Nat))) [some (.d x), some (.d (.int (t : Nat))), some (.d (.int (i : Nat))), some (.d (.int (q : Nat))), some (.d (lN ((O.drop (i + 1)).filter fun r => decide (r < q)))), z5] := by
      show R.bind (ev nc cl (.blt .sum [.lc [5] (.nm 5) (.var 4) none (.ix (.fld (.var 0) (K 0)) (.var 5))]) _) _ = _
      rw [e4]; rfl
    exact bin_ok a1 a2 (mul_ok _ _ (h60 q))
  refine ⟨some (.d (lN ((O.drop (i + 1)).filter fun r => decide (r < q)))), ?_⟩
  rw [runs_nx e2]
  refine runs_one ?_
  rw [aug_ok (x := .int (t : Nat)) (r := .int (t + G L q * S (O.drop (i + 1)) (fun r => if r < q then G L r else 0) : Nat)) rfl e5 (by simp [augop, W.toD]) (by simp)]
  rfl
theorem crw_ok {f c : Nat} (hn0 : 0 < nc) (hc : P[c]? = some (fChk rc)) (h : P[f]? = some (fCrw c K)) (k : Nat) {fs : List D} {L O : List Nat} (h0 : fldD (.obj 0 fs) (K 0) = some (tN L)) (h1 : fldD (.obj 0 fs) (K 1) = some (tN O)) (v : LO L O) :
    callN P nc (k + 2) f [.d (.obj 0 fs)] = .ok (.d (.int (cr L O : Nat))) [] := by
  have e1 := chk_ok hc k fs hn0
  have ly := v.lay
  have hOl : O.length ≤ 6 := by rw [ly.len]; exact v.len.hi
  have h60 : ∀ p, G L p < 1000 := fun p => by
    rcases Nat.lt_or_ge p L.length with z | z
    · have := mem_le_sum (G_mem z)
      have := v.len.sum
      omega
    · unfold G
      rw [List.getD_eq_getElem?_getD, List.getElem?_eq_none z]; decide
  have e0 : run nc (callN P nc (k + 1)) (.expr (.call c [.var 0])) [some (.d (.obj 0 fs)), none, none, none, none, none] = .nx [some (.d (.obj 0 fs)), none, none, none, none, none] := by
    simp [run, ev, evAs, callS, ioS, agWs, agW, putBack, e1, Out.ofR, W.own]
  have e2 : run nc (callN P nc (k + 1)) (.set 1 (.con (.int 0))) [some (.d (.obj 0 fs)), none, none, none, none, none] = .nx [some (.d (.obj 0 fs)), some (.d (.int (0 : Nat))), none, none, none, none] := by
    simp [run, ev, Out.ofR, setS]
  obtain ⟨τ, e3, t, z2, z3, z4, z5, rfl, ht, _⟩ := fr_ok (nc := nc) (cl := callN P nc (k + 1)) (t := .tp [.nm 2, .nm 3]) (it := .enm (.fld (.var 0) (K 1))) (b := [.set 4 (.lc [5] (.nm 5) (.sl (.fld (.var 0) (K 1)) (some (.bin .add (.var 2) (.con (.int 1)))) none) (some (.cmp .lt (.var 5) (.var 3))) (.var 5)), .aug 1 .add (.bin .mul (.ix (.fld (.var 0) (K 0)) (.var 3)) (.blt .sum [.lc [5] (.nm 5) (.var 4) none (.ix (.fld (.var 0) (K 0)) (.var 5))]))])
    (σ := [some (.d (.obj 0 fs)), some (.d (.int (0 : Nat))), none, none, none, none]) (σ1 := [some (.d (.obj 0 fs)), some (.d (.int (0 : Nat))), none, none, none, none]) (w := .fl (enmL (lD O))) (xs := enmL (lD O))
    (fun i τ => ∃ (t : Nat) (z2 z3 z4 z5 : Option W), τ = [some (.d (.obj 0 fs)), some (.d (.int (t : Nat))), z2, z3, z4, z5] ∧ t + cr L (O.drop i) = cr L O ∧ ∀ w, z5 = some w → w.own = false) (by simp [ev, opd, rd, h1, seqD, W.own]) rfl (by rw [enm_len', lD_len]; omega) (fun i d τ hd ⟨t, z2, z3, z4, z5, e, ht, h5⟩ => by
      subst e
      rw [enm_lD] at hd
      obtain ⟨q, hq, rfl⟩ := Option.map_eq_some_iff.mp hd
      have hi := (List.getElem?_eq_some_iff.mp hq).1
      have hqL := ly.mem.mp (List.mem_of_getElem? hq)
      obtain ⟨z4', e'⟩ := crw_turn (nc := nc) (cl := callN P nc (k + 1)) h0 h1 (by omega) (fun r hr => ly.mem.mp hr) h60 t i q hqL z4 z5 h5
      refine ⟨_, _, rfl, e', _, _, _, _, _, rfl, ?_, h5⟩
      have : O.drop i = q :: O.drop (i + 1) := by
        rw [List.drop_eq_getElem_cons hi]
        rw [Option.some.inj ((List.getElem?_eq_getElem hi).symm.trans hq)]
      rw [this, cr] at ht
      have e9 : ln L q * S (O.drop (i + 1)) (fun r => if r < q then ln L r else 0) = G L q * S (O.drop (i + 1)) (fun r => if r < q then G L r else 0) := rfl
      rw [e9] at ht
      omega) ⟨0, none, none, none, none, rfl, by simp, fun w hw => nomatch hw⟩
  refine fn_rt (ds := [.obj 0 fs]) (body := bCrw c K) (st := [some (.d (.obj 0 fs)), none, none, none, none, none]) (σ := [some (.d (.obj 0 fs)), none, z2, z3, z4, z5]) h rfl rfl rfl (Nat.le_of_ble_eq_true rfl) rfl rfl ?_
  rw [enm_len', lD_len, List.drop_length] at ht
  have ht' : t = cr L O := by simpa [cr] using ht
  unfold bCrw
  rw [runs_nx e0, runs_nx e2, runs_nx e3, ht']
  simp [runs, run]
end
end Pl

/-! Pl, part F: led back, from behind. -/
namespace Cl
section
variable {nc : Nat} {cl : Calls}
theorem evAs_c {a : Ex} {es : List Ex} {σ σ1 : Sg} {w : W} (na : ∀ i, a ≠ .io i) (h : ev nc cl a σ = .ok w σ1) : evAs nc cl (a :: es) σ = (evAs nc cl es σ1).bind fun xs σ2 => .ok (.d w.toD :: xs) σ2 := by
  have : evAs nc cl (a :: es) σ = (ev nc cl a σ).bind fun w σ1 => (evAs nc cl es σ1).bind fun xs σ2 => .ok (.d w.toD :: xs) σ2 := by
    cases a <;> first | rfl | exact absurd rfl (na _)
  rw [this, h]; rfl
theorem call1 {f : Nat} {a : Ex} {σ σ1 : Sg} {x w : W} (na : ∀ i, a ≠ .io i) (h1 : ev nc cl a σ = .ok x σ1) (hc : cl f [.d x.toD] = .ok w []) : ev nc cl (.call f [a]) σ = .ok w σ1 := by
  show R.bind (evAs nc cl [a] σ) _ = _
  rw [evAs_c na h1]
  simp [evAs, callS, ioS, agWs, agW, putBack, hc]
theorem call2 {f : Nat} {a b : Ex} {σ σ1 σ2 : Sg} {x y w : W} (na : ∀ i, a ≠ .io i) (nb : ∀ i, b ≠ .io i) (h1 : ev nc cl a σ = .ok x σ1) (h2 : ev nc cl b σ1 = .ok y σ2) (hc : cl f [.d x.toD, .d y.toD] = .ok w []) : ev nc cl (.call f [a, b]) σ = .ok w σ2 := by
  show R.bind (evAs nc cl [a, b] σ) _ = _
  rw [evAs_c na h1, evAs_c nb h2]
  simp [evAs, callS, ioS, agWs, agW, putBack, hc]
end
end Cl
namespace Pl
open Cl Pm
section
variable {P : Pg} {nc : Nat} {cl : Calls} {K : Nat → List (Nat × Nat)}
variable {rc : List Cl.St}
theorem set_lD : ∀ (l : List Nat) (i v : Nat), (lD l).set i (.int (v : Nat)) = lD (l.set i v)
  | [], _, _ => rfl
  | a :: l, 0, v => rfl
  | a :: l, i + 1, v => by rw [lD_cons, List.set_cons_succ, List.set_cons_succ, lD_cons, set_lD l i v]
theorem setop_lD {l : List Nat} {i v : Nat} (h : i < l.length) : setop (.fl (lD l)) (.int (i : Nat)) (.int (v : Nat)) = some (.fl (lD (l.set i v))) := by
  have e : L2.ixN (lD l).length (i : Nat) = some i := by
    rw [lD_len]
    unfold L2.ixN
    rw [if_pos (by omega), if_pos (by omega)]
    simp
  show Option.map (fun j => W.fl ((lD l).set j (.int (v : Nat)))) (L2.ixN (lD l).length (i : Nat)) = _
  rw [e, Option.map_some, set_lD]
theorem zeros {a n : Nat} (h : n ≤ 1000) : binop .mul (.lst [.int (a : Nat)]) (.int (n : Nat)) = some (.fl (lD (List.replicate n a))) := by
  unfold binop
  have e : -(2 ^ 63) ≤ ((n : Nat) : Int) ∧ ((n : Nat) : Int) < 2 ^ 63 ∧ [D.int (a : Nat)].length * ((n : Nat) : Int).toNat ≤ PySem.sizeLine := by
    refine ⟨by omega, by omega, ?_⟩
    rw [PySem.sizeLine_eq]
    simp
    omega
  have e2 : ∀ n, (List.replicate n [D.int (a : Nat)]).flatten = lD (List.replicate n a) := fun n => by
    induction n with
    | zero => rfl
    | succ n ih => rw [List.replicate_succ, List.flatten_cons, ih, List.replicate_succ, lD_cons]; rfl
  rw [Int.toNat_natCast] at e
  simp only [Int.toNat_natCast, e2, if_pos e]
theorem G_set {l : List Nat} {i j v : Nat} (h : i < l.length) : G (l.set i v) j = if j = i then v else G l j := by
  by_cases e : j = i
  · subst e
    rw [if_pos rfl]
    exact G_of (List.getElem?_set_self h)
  · rw [if_neg e]
    unfold G
    rw [List.getD_eq_getElem?_getD, List.getD_eq_getElem?_getD, List.getElem?_set_ne (fun z => e z.symm)]
/-! ### back_order -/
def bBkO : List Cl.St := [.set 1 (.bin .mul (.lst [.con (.int 0)]) (.blt .len [.var 0])), .fr (.tp [.nm 2, .nm 3]) (.enm (.var 0)) [.six 1 (.var 3) (.var 2)], .ret (.blt .tuple [.var 1])]
def fBkO : Fd := { np := 1, io := [], nn := 4, body := bBkO }
theorem bko_ok {f : Nat} (h : P[f]? = some fBkO) (k : Nat) {O : List Nat} (v : O.Perm (Rn O.length)) (l6 : O.length ≤ 1000) : ∃ B, BkO O B ∧ callN P nc (k + 1) f [.d (tN O)] = .ok (.d (tN B)) [] := by
  have nd : O.Nodup := v.nodup_iff.mpr List.nodup_range
  have lt : ∀ x ∈ O, x < O.length := fun x hx => List.mem_range.mp (v.mem_iff.mp hx)
  have e0 : run nc (callN P nc k) (.set 1 (.bin .mul (.lst [.con (.int 0)]) (.blt .len [.var 0]))) [some (.d (tN O)), none, none, none] = .nx [some (.d (tN O)), some (.fl (lD (List.replicate O.length 0))), none, none] := by
    have := zeros (a := 0) l6
    refine (run_setE (w := .fl (lD (List.replicate O.length 0))) (σ1 := [some (.d (tN O)), none, none, none]) (bin_ok (x := .lst [.int (0 : Nat)]) (y := .int (O.length : Nat)) (σ1 := [some (.d (tN O)), none, none, none]) (by simp [opd, ev, evDs]) (by simp [opd, ev, evOs, rds, rd, bltop, lenD]) this) (by simp)).trans rfl
  obtain ⟨τ, e1, B, z2, z3, e2, hB⟩ := fr_ok (nc := nc) (cl := callN P nc k) (t := .tp [.nm 2, .nm 3]) (it := .enm (.var 0)) (b := [.six 1 (.var 3) (.var 2)]) (σ := [some (.d (tN O)), some (.fl (lD (List.replicate O.length 0))), none, none]) (xs := enmL (lD O)) (w := .fl (enmL (lD O)))
    (σ1 := [some (.d (tN O)), some (.fl (lD (List.replicate O.length 0))), none, none])
    (fun i τ => ∃ B z2 z3, τ = [some (.d (tN O)), some (.fl (lD B)), z2, z3] ∧ B.length = O.length ∧ ∀ j, j < i → j < O.length → G B (G O j) = j) (by simp [ev, seqD, W.own]) rfl (by rw [enm_len', lD_len]; omega) (fun i x τ hx ⟨B, z2, z3, e, hl, hB⟩ => by
      subst e
      rw [enm_lD] at hx
      obtain ⟨q, hq, rfl⟩ := Option.map_eq_some_iff.mp hx
      have hi := (List.getElem?_eq_some_iff.mp hq).1
      have hqB : q < B.length := by rw [hl]; exact lt q (List.mem_of_getElem? hq)
      refine ⟨_, [some (.d (tN O)), some (.fl (lD (B.set q i))), some (.d (.int (i : Nat))), some (.d (.int (q : Nat)))], rfl, ?_, B.set q i, _, _, rfl, by rw [List.length_set, hl], fun j hj hjO => ?_⟩
      · have := setop_lD (v := i) hqB
        exact runs_one (by simp [run, ev, opd, rd, Out.ofR, this, W.own])
      · rw [G_set hqB]
        by_cases e : G O j = q
        · rw [if_pos e]
          have : G O i = q := G_of hq
          exact G_inj nd hi hjO (by rw [this, e])
        · rw [if_neg e]
          refine hB j ?_ hjO
          rcases Nat.lt_or_ge j i with z | z
          · exact z
          · exfalso
            have : j = i := by omega
            subst this
            exact e (G_of hq)) ⟨_, none, none, rfl, by simp, fun j hj => absurd hj (Nat.not_lt_zero _)⟩
  refine ⟨B, ⟨hB.1, fun i hi => hB.2 i (by rw [enm_len', lD_len]; exact hi) hi⟩, ?_⟩
  refine fn_rt (ds := [tN O]) (body := bBkO) (st := [some (.d (tN O)), none, none, none]) (σ := τ) h rfl rfl rfl (Nat.le_of_ble_eq_true rfl) rfl rfl ?_
  unfold bBkO
  rw [runs_nx e0, runs_nx e1, e2]
  simp [runs, run, ev, evOs, opd, rds, rd, bltop, Out.ofR]
/-! ### raw_back, back_laying, mirrored -/
theorem bk_LO {L O B : List Nat} (v : LO L O) (b : BkO O B) : LO (O.map (ln L)) B := by
  have ly := v.lay
  have l2 := b.lay ly
  refine ⟨⟨?_, ?_, ?_, ?_⟩, l2.pm⟩
  · rw [List.length_map, ly.len]; exact v.len.lo
  · rw [List.length_map, ly.len]; exact v.len.hi
  · intro x hx
    obtain ⟨p, hp, rfl⟩ := List.mem_map.mp hx
    exact ly.pos p (ly.mem.mp hp)
  · rw [BkO.size ly]; exact v.len.sum
theorem mi_LO {L O : List Nat} (v : LO L O) : LO L.reverse (miO O L.length) := by
  have l2 := mi_lay v.lay
  refine ⟨⟨?_, ?_, ?_, ?_⟩, l2.pm⟩
  · rw [List.length_reverse]; exact v.len.lo
  · rw [List.length_reverse]; exact v.len.hi
  · intro x hx
    exact v.len.pos x (List.mem_reverse.mp hx)
  · rw [List.sum_reverse]; exact v.len.sum
def bRbk (m b : Nat) (K : Nat → List (Nat × Nat)) : List Cl.St := [.ret (.call m [.blt .tuple [.lc [1] (.nm 1) (.fld (.var 0) (K 1)) none (.ix (.fld (.var 0) (K 0)) (.var 1))], .call b [.fld (.var 0) (K 1)]])]
def fRbk (m b : Nat) (K : Nat → List (Nat × Nat)) : Fd := { np := 1, io := [], nn := 2, body := bRbk m b K }
variable {ra rb : List Cl.St} {fi fw fl fo fs fg fn fm : Nat}
theorem tup_lD (l : List Nat) : bltop .tuple [lN l] = some (.d (tN l)) := rfl
theorem rbk_ok {f b : Nat} (C : Core P ra rb fi fw fl fo fs fg fn fm) (hb : P[b]? = some fBkO) (h : P[f]? = some (fRbk fm b K)) (hK : KOk K) (k : Nat) {L O : List Nat} (v : LO L O) : ∃ B, BkO O B ∧ callN P nc (k + 6) f [.d (oL L O)] = .ok (.d (oL (O.map (ln L)) B)) [] := by
  have ly := v.lay
  have hO6 : O.length ≤ 6 := by rw [ly.len]; exact v.len.hi
  obtain ⟨B, hB, e1⟩ := bko_ok (nc := nc) hb (k + 4) (O := O) (by rw [ly.len]; exact v.pm) (by omega)
  refine ⟨B, hB, ?_⟩
  have e2 := mk_ok (nc := nc) C k (bk_LO v hB)
  have f0 : fldD (oL L O) (K 0) = some (tN L) := fld_oL hK L O 0
  have f1 : fldD (oL L O) (K 1) = some (tN O) := fld_oL hK L O 1
  refine fn_rt (ds := [oL L O]) (body := bRbk fm b K) (st := [some (.d (oL L O)), none]) (σ := [some (.d (oL L O)), none]) h rfl rfl rfl (Nat.le_of_ble_eq_true rfl) rfl rfl ?_
  generalize oL L O = x at *
  have e3 := lc_natA (nc := nc) (cl := callN P nc (k + 5)) (own := [1]) (t := .nm 1) (it := .fld (.var 0) (K 1)) (e := .ix (.fld (.var 0) (K 0)) (.var 1)) (σ := [some (.d x), none]) (σ1 := [some (.d x), none]) (w := .d (tN O)) (l := O) (ln L) (by simp [ev, opd, rd, f1]) rfl rfl (by omega) rfl fun r hr => by
    have : L2.atI (lD L) (r : Nat) = some (.int (ln L r : Nat)) := atI_lD (ly.mem.mp hr)
    simp [lcTurn, asg, wipeS, ev, evC, opd, rd, f0, ixD, this, W.own]
  have e4 := blt1_ok (b := .tuple) (r := .d (tN (O.map (ln L)))) (fun i z => by cases z) e3 rfl
  have e5 : ev nc (callN P nc (k + 5)) (.call b [.fld (.var 0) (K 1)]) [some (.d x), none] = .ok (.d (tN B)) [some (.d x), none] :=
    call1 (x := .d (tN O)) (fun i z => by cases z) (by simp [ev, opd, rd, f1]) e1
  exact runs_rt (run_retE (fun i z => by cases z) (call2 (fun i z => by cases z) (fun i z => by cases z) e4 e5 e2))
def bBla (c r : Nat) : List Cl.St := [.expr (.call c [.var 0]), .ret (.call r [.var 0])]
def fBla (c r : Nat) : Fd := { np := 1, io := [], nn := 1, body := bBla c r }
theorem bla_ok {f c r b : Nat} (hn0 : 0 < nc) (C : Core P ra rb fi fw fl fo fs fg fn fm) (hc : P[c]? = some (fChk rc)) (hb : P[b]? = some fBkO) (hr : P[r]? = some (fRbk fm b K)) (h : P[f]? = some (fBla c r)) (hK : KOk K) (k : Nat) {L O : List Nat} (v : LO L O) : ∃ B, BkO O B ∧ callN P nc (k + 7) f [.d (oL L O)] = .ok (.d (oL (O.map (ln L)) B)) [] := by
  obtain ⟨B, hB, e⟩ := rbk_ok (nc := nc) C hb hr hK k v
  have e1 := chk_ok hc (k + 5) (oF L O) hn0
  refine ⟨B, hB, ?_⟩
  change callN P nc (k + 5 + 1) c [.d (oL L O)] = _ at e1
  refine fn_rt (ds := [oL L O]) (body := bBla c r) (st := [some (.d (oL L O))]) (σ := [some (.d (oL L O))]) h rfl rfl rfl (Nat.le_of_ble_eq_true rfl) rfl rfl ?_
  generalize oL L O = x at *
  have v0 : ev nc (callN P nc (k + 6)) (.var 0) [some (.d x)] = .ok (.d x) [some (.d x)] := by simp [ev, W.own]
  unfold bBla
  rw [runs_nx (run_exprE (call1 (fun i z => by cases z) v0 e1))]
  exact runs_rt (run_retE (fun i z => by cases z) (call1 (fun i z => by cases z) v0 e))
def bMir (c m : Nat) (K : Nat → List (Nat × Nat)) : List Cl.St := [.expr (.call c [.var 0]), .set 1 (.bin .sub (.fld (.var 0) (K 2)) (.con (.int 1))), .ret (.call m [.rev (.fld (.var 0) (K 0)), .blt .tuple [.lc [2] (.nm 2) (.rev (.fld (.var 0) (K 1))) none (.bin .sub (.var 1) (.var 2))]])]
def fMir (c m : Nat) (K : Nat → List (Nat × Nat)) : Fd := { np := 1, io := [], nn := 3, body := bMir c m K }
theorem rev_lD (l : List Nat) : (lD l).reverse = lD l.reverse := by simp [lD]
theorem mir_ok {f c : Nat} (hn0 : 0 < nc) (C : Core P ra rb fi fw fl fo fs fg fn fm) (hc : P[c]? = some (fChk rc)) (h : P[f]? = some (fMir c fm K)) (hK : KOk K) (k : Nat) {L O : List Nat} (v : LO L O) : callN P nc (k + 6) f [.d (oL L O)] = .ok (.d (oL L.reverse (miO O L.length))) [] := by
  have ly := v.lay
  have hO6 : O.length ≤ 6 := by rw [ly.len]; exact v.len.hi
  have e1 := chk_ok hc (k + 4) (oF L O) hn0
  change callN P nc (k + 4 + 1) c [.d (oL L O)] = _ at e1
  have e2 := mk_ok (nc := nc) C k (mi_LO v)
  have f0 : fldD (oL L O) (K 0) = some (tN L) := fld_oL hK L O 0
  have f1 : fldD (oL L O) (K 1) = some (tN O) := fld_oL hK L O 1
  have f2 : fldD (oL L O) (K 2) = some (.int (L.length : Nat)) := fld_oL hK L O 2
  refine fn_rt (ds := [oL L O]) (body := bMir c fm K) (st := [some (.d (oL L O)), none, none]) (σ := [some (.d (oL L O)), some (.d (.int ((L.length : Int) - 1))), none]) h rfl rfl rfl (Nat.le_of_ble_eq_true rfl) rfl rfl ?_
  generalize oL L O = x at *
  have v0 : ev nc (callN P nc (k + 5)) (.var 0) [some (.d x), none, none] = .ok (.d x) [some (.d x), none, none] := by simp [ev, W.own]
  have e0 : run nc (callN P nc (k + 5)) (.set 1 (.bin .sub (.fld (.var 0) (K 2)) (.con (.int 1)))) [some (.d x), none, none] = .nx [some (.d x), some (.d (.int ((L.length : Int) - 1))), none] := by
    simp [run, ev, opd, rd, f2, binop, Out.ofR, setS]
  have e3 := lc_natA (nc := nc) (cl := callN P nc (k + 5)) (own := [2]) (t := .nm 2) (it := .rev (.fld (.var 0) (K 1))) (e := .bin .sub (.var 1) (.var 2)) (σ := [some (.d x), some (.d (.int ((L.length : Int) - 1))), none]) (σ1 := [some (.d x), some (.d (.int ((L.length : Int) - 1))), none]) (w := .d (tN O.reverse)) (l := O.reverse) (fun p => L.length - 1 - p) (by simp [ev, opd, rd, f1, rev_lD]) rfl rfl (by simp; omega) rfl fun r hr => by
    have hr' := ly.mem.mp (List.mem_reverse.mp hr)
    have : ((L.length - 1 - r : Nat) : Int) = (L.length : Int) - 1 - r := by omega
    simp [lcTurn, asg, wipeS, ev, evC, opd, rd, binop, this, W.own]
  have e4 := blt1_ok (b := .tuple) (r := .d (tN (miO O L.length))) (fun i z => by cases z) e3 rfl
  have e5 : ev nc (callN P nc (k + 5)) (.rev (.fld (.var 0) (K 0))) [some (.d x), some (.d (.int ((L.length : Int) - 1))), none] = .ok (.d (tN L.reverse)) [some (.d x), some (.d (.int ((L.length : Int) - 1))), none] := by
    simp [ev, opd, rd, f0, rev_lD]
  unfold bMir
  rw [runs_nx (run_exprE (call1 (fun i z => by cases z) v0 e1)), runs_nx e0]
  exact runs_rt (run_retE (fun i z => by cases z) (call2 (fun i z => by cases z) (fun i z => by cases z) e5 e4 e2))
end
end Pl

/-! Pl, part G: what laws draw. -/
namespace Pl
open Cl Pm
section
variable {P : Pg} {nc : Nat}
/-- a draw's numbers -/
structure DK where
  mc : Option Int
  c0 : Int
  a1 : Int
  a3 : Int
  m3 : Int
def DK.ok (q : DK) : Bool := decide (0 < q.m3) && decide (q.m3 < 2147483648) && decide (0 ≤ q.a1) && decide (q.a1 < 1000000000) && match q.mc with
  | none => true
  | some c => decide (0 ≤ c) && decide (c < 1000000000)
def drE : Option Int → Ex
  | none => .var 2
  | some c => .bin .mul (.var 2) (.con (.int c))
def drV : Option Int → Int → Int
  | none, x => x
  | some c, x => x * c
def bDrw (q : DK) : List Cl.St := [.ite (.and (.cmp .eq (.ix (.var 0) (.con (.int 2))) (.con (.int 0))) (.cmp .lt (.ix (.var 0) (.con (.int 1))) (.blt .len [.ix (.var 0) (.con (.int 0))]))) [.set 2 (.ix (.ix (.var 0) (.con (.int 0))) (.ix (.var 0) (.con (.int 1)))), .six 0 (.con (.int 1)) (.bin .add (.ix (.var 0) (.con (.int 1))) (.con (.int 1))), .six 0 (.con (.int 3)) (.bin .mod (.blt .int [.bin .add (.bin .add (.bin .mul (.ix (.var 0) (.con (.int 3))) (.con (.int 69621))) (drE q.mc)) (.con (.int q.c0))]) (.con (.int 2147483629))), .ite (.cmp .ge (.var 2) (.bin .pow (.con (.int 10)) (.con (.int 18)))) [.six 0 (.con (.int 2)) (.var 2)] []] [], .ite (.cmp .gt (.ix (.var 0) (.con (.int 2))) (.con (.int 0))) [.set 3 (.bin .mod (.blt .int [.ix (.var 0) (.con (.int 2))]) (.var 1)), .six 0 (.con (.int 2)) (.bin .fdiv (.ix (.var 0) (.con (.int 2))) (.var 1)), .ret (.var 3)] [], .six 0 (.con (.int 4)) (.bin .add (.ix (.var 0) (.con (.int 4))) (.con (.int 1))), .set 4 (.bin .mod (.blt .int [.bin .mul (.blt .int [.bin .add (.ix (.var 0) (.con (.int 3))) (.bin .mul (.con (.int 7919)) (.ix (.var 0) (.con (.int 4))))]) (.con (.int q.a1))]) (.con (.int 2147483647))), .set 4 (.bin .mod (.blt .int [.bin .mul (.var 4) (.bin .add (.bin .fdiv (.var 4) (.con (.int 1009))) (.con (.int 69621)))]) (.con (.int 2147483647))), .set 4 (.bin .mod (.blt .int [.bin .mul (.var 4) (.bin .add (.bin .fdiv (.var 4) (.con (.int 2003))) (.con (.int q.a3)))]) (.con (.int q.m3))), .ret (.bin .mod (.blt .int [.bin .fdiv (.var 4) (.con (.int 16))]) (.var 1))]
def fDrw (q : DK) : Fd := { np := 2, io := [0], nn := 5, body := bDrw q }
variable {q : DK}
abbrev hnd (cs : List Int) (i v s c : Int) : W := .fl [.lst (cs.map D.int), .int i, .int v, .int s, .int c]
theorem at0 (a b c d e : D) : L2.atI [a, b, c, d, e] 0 = some a := rfl
theorem at1 (a b c d e : D) : L2.atI [a, b, c, d, e] 1 = some b := rfl
theorem at2 (a b c d e : D) : L2.atI [a, b, c, d, e] 2 = some c := rfl
theorem at3 (a b c d e : D) : L2.atI [a, b, c, d, e] 3 = some d := rfl
theorem at4 (a b c d e : D) : L2.atI [a, b, c, d, e] 4 = some e := rfl
theorem ixn1 : L2.ixN 5 1 = some 1 := rfl
theorem ixn2 : L2.ixN 5 2 = some 2 := rfl
theorem ixn3 : L2.ixN 5 3 = some 3 := rfl
theorem ixn4 : L2.ixN 5 4 = some 4 := rfl
theorem eqI_ (a b : Int) : cmpop .eq (.int a) (.int b) = some (decide (a = b)) := rfl
theorem step (cl : Calls) (h sp x y : Option W) (n k a m : Int) (h0 : 0 ≤ n) (h1 : n < 2147483648) (hk : 0 < k) (hk' : k < 1073741824) (hm : 0 < m) :
    run nc cl (.set 4 (.bin .mod (.blt .int [.bin .mul (.var 4) (.bin .add (.bin .fdiv (.var 4) (.con (.int k))) (.con (.int a)))]) (.con (.int m)))) [h, sp, x, y, some (.d (.int n))] = .nx [h, sp, x, y, some (.d (.int (n * (n / k + a) % m)))] := by
  have e1 : -18446744073709551616 < n := by omega
  have e2 : n < 18446744073709551616 := by omega
  simp [run, ev, evOs, opd, rd, rds, bltop, binop, Out.ofR, setS, hk, hk', hm, e1, e2]
theorem DK.of (hq : q.ok = true) : 0 < q.m3 ∧ q.m3 < 2147483648 ∧ 0 ≤ q.a1 ∧ q.a1 < 1000000000 := by
  unfold DK.ok at hq
  simp only [Bool.and_eq_true, decide_eq_true_eq] at hq
  exact ⟨hq.1.1.1.1, hq.1.1.1.2, hq.1.1.2, hq.1.2⟩
theorem draw_a (hq : q.ok = true) (cl : Calls) (cs : List Int) (i v s c : Int) (sp x y z : Option W) :
    runs nc cl (((bDrw q).drop 2).take 2) [some (hnd cs i v s c), sp, x, y, z] = .nx [some (hnd cs i v s (c + 1)), sp, x, y, some (.d (.int ((s + 7919 * (c + 1)) * q.a1 % 2147483647)))] := by
  have e1 : -18446744073709551616 < q.a1 := by have := DK.of hq; omega
  have e2 : q.a1 < 18446744073709551616 := by have := DK.of hq; omega
  simp [e1, e2, bDrw, runs, run, ev, evOs, opd, rd, rds, bltop, ixD, binop, at0, at1, at2, at3, at4, setop, ixn1, ixn2, ixn3, ixn4, Out.ofR, setS]
theorem draw_z (cl : Calls) (h x y : Option W) (n span : Int) (h1 : 0 < span) :
    runs nc cl ((bDrw q).drop 6) [h, some (.d (.int span)), x, y, some (.d (.int n))] = .rt (.d (.int (n / 16 % span))) [h, some (.d (.int span)), x, y, some (.d (.int n))] := by
  simp [bDrw, runs, run, ev, evOs, opd, rd, rds, bltop, binop, Out.ofR, h1]
/-- the last part of a draw -/
theorem draw_end (hq : q.ok = true) (cl : Calls) (cs : List Int) (i v s c span : Int) (x y z : Option W) (h1 : 0 < span) :
    ∃ r z', runs nc cl ((bDrw q).drop 2) [some (hnd cs i v s c), some (.d (.int span)), x, y, z] = .rt (.d (.int r)) [some (hnd cs i v s (c + 1)), some (.d (.int span)), x, y, z'] ∧ 0 ≤ r ∧ r < span := by
  have e : (bDrw q).drop 2 = ((bDrw q).drop 2).take 2 ++ (((bDrw q).drop 4).take 1 ++ (((bDrw q).drop 5).take 1 ++ (bDrw q).drop 6)) := rfl
  have hm := DK.of hq
  generalize hn1 : (s + 7919 * (c + 1)) * q.a1 % 2147483647 = n1
  have b1 : 0 ≤ n1 ∧ n1 < 2147483648 := by
    have z1 := Int.emod_nonneg ((s + 7919 * (c + 1)) * q.a1) (show (2147483647 : Int) ≠ 0 by decide)
    have z2 := Int.emod_lt_of_pos ((s + 7919 * (c + 1)) * q.a1) (show (0 : Int) < 2147483647 by decide)
    omega
  generalize hn2 : n1 * (n1 / 1009 + 69621) % 2147483647 = n2
  have b2 : 0 ≤ n2 ∧ n2 < 2147483648 := by omega
  generalize hn3 : n2 * (n2 / 2003 + q.a3) % q.m3 = n3
  refine ⟨n3 / 16 % span, some (.d (.int n3)), ?_, Int.emod_nonneg _ (by omega), Int.emod_lt_of_pos _ h1⟩
  rw [e, runs_app, draw_a hq, Out.seq_nx, runs_app, hn1]
  have s1 := step (nc := nc) cl (some (hnd cs i v s (c + 1))) (some (.d (.int span))) x y n1 1009 69621 2147483647 b1.1 b1.2 (by decide) (by decide) (by decide)
  have s2 := step (nc := nc) cl (some (hnd cs i v s (c + 1))) (some (.d (.int span))) x y n2 2003 q.a3 q.m3 b2.1 b2.2 (by decide) (by decide) hm.1
  rw [hn2] at s1
  rw [hn3] at s2
  have t1 : runs nc cl (((bDrw q).drop 4).take 1) [some (hnd cs i v s (c + 1)), some (.d (.int span)), x, y, some (.d (.int n1))] = .nx [some (hnd cs i v s (c + 1)), some (.d (.int span)), x, y, some (.d (.int n2))] := by
    show (run nc cl _ _).seq _ = _
    rw [s1]; rfl
  have t2 : runs nc cl (((bDrw q).drop 5).take 1) [some (hnd cs i v s (c + 1)), some (.d (.int span)), x, y, some (.d (.int n2))] = .nx [some (hnd cs i v s (c + 1)), some (.d (.int span)), x, y, some (.d (.int n3))] := by
    show (run nc cl _ _).seq _ = _
    rw [s2]; rfl
  rw [t1, Out.seq_nx, runs_app, t2, Out.seq_nx]
  exact draw_z cl _ x y n3 span h1
theorem draw_0 (hq : q.ok = true) (cl : Calls) (cs : List Int) (i v s c : Int) (sp x y z : Option W) (hi : 0 ≤ i) :
    ∃ i' v' s' x', runs nc cl ((bDrw q).take 1) [some (hnd cs i v s c), sp, x, y, z] = .nx [some (hnd cs i' v' s' c), sp, x', y, z] ∧ 0 ≤ i' := by
  by_cases hv : v = 0
  · by_cases hl : i < cs.length
    · obtain ⟨cell, hc⟩ : ∃ cell, L2.atI cs i = some cell := by
        have h2 : i.toNat < cs.length := by omega
        refine ⟨cs[i.toNat], ?_⟩
        unfold L2.atI L2.ixN
        rw [if_pos hi, if_pos hl]
        exact List.getElem?_eq_getElem h2
      have hc' : L2.atI (cs.map D.int) i = some (.int cell) := by rw [atI_map, hc]; rfl
      obtain ⟨mc, c0, a1, a3, m3⟩ := q
      have hmc : ∀ m, mc = some m → -18446744073709551616 < m ∧ m < 18446744073709551616 := fun m e => by
        subst e
        unfold DK.ok at hq
        simp only [Bool.and_eq_true, decide_eq_true_eq] at hq
        omega
      by_cases hb : 1000000000000000000 ≤ cell
      · refine ⟨i + 1, cell, (s * 69621 + drV mc cell + c0) % 2147483629, some (.d (.int cell)), ?_, by omega⟩
        cases mc with
        | none => simp [drE, drV, bDrw, runs, run, ev, evOs, opd, tst, rd, rds, bltop, ixD, binop, cmpop, at0, at1, at2, at3, at4, setop, ixn1, ixn2, ixn3, ixn4, Out.ofR, setS, hv, hl, hc', hb, lenD, truth]
        | some m =>
          have hm := hmc m rfl
          simp [hm.1, hm.2, drE, drV, bDrw, runs, run, ev, evOs, opd, tst, rd, rds, bltop, ixD, binop, cmpop, at0, at1, at2, at3, at4, setop, ixn1, ixn2, ixn3, ixn4, Out.ofR, setS, hv, hl, hc', hb, lenD, truth]
      · refine ⟨i + 1, v, (s * 69621 + drV mc cell + c0) % 2147483629, some (.d (.int cell)), ?_, by omega⟩
        cases mc with
        | none => simp [drE, drV, bDrw, runs, run, ev, evOs, opd, tst, rd, rds, bltop, ixD, binop, cmpop, at0, at1, at2, at3, at4, setop, ixn1, ixn2, ixn3, ixn4, Out.ofR, setS, hv, hl, hc', hb, lenD, truth]
        | some m =>
          have hm := hmc m rfl
          simp [hm.1, hm.2, drE, drV, bDrw, runs, run, ev, evOs, opd, tst, rd, rds, bltop, ixD, binop, cmpop, at0, at1, at2, at3, at4, setop, ixn1, ixn2, ixn3, ixn4, Out.ofR, setS, hv, hl, hc', hb, lenD, truth]
    · refine ⟨i, v, s, x, ?_, hi⟩
      simp [bDrw, runs, run, ev, evOs, opd, tst, rd, rds, bltop, ixD, binop, cmpop, at0, at1, at2, at3, at4, Out.ofR, hv, hl, lenD, truth]
  · refine ⟨i, v, s, x, ?_, hi⟩
    simp [bDrw, runs, run, ev, evOs, opd, tst, rd, rds, bltop, ixD, binop, cmpop, at0, at1, at2, at3, at4, Out.ofR, hv, lenD, truth]
theorem draw_1 (cl : Calls) (cs : List Int) (i v s c span : Int) (x y z : Option W) (h1 : 0 < span) (h2 : span < 1073741824) :
    (0 < v ∧ runs nc cl (((bDrw q).drop 1).take 1) [some (hnd cs i v s c), some (.d (.int span)), x, y, z] = .rt (.d (.int (v % span))) [some (hnd cs i (v / span) s c), some (.d (.int span)), x, none, z]) ∨
    runs nc cl (((bDrw q).drop 1).take 1) [some (hnd cs i v s c), some (.d (.int span)), x, y, z] = .nx [some (hnd cs i v s c), some (.d (.int span)), x, y, z] := by
  by_cases hv : 0 < v
  · refine .inl ⟨hv, ?_⟩
    simp [bDrw, runs, run, ev, evOs, opd, tst, rd, rds, bltop, ixD, binop, cmpop, at0, at1, at2, at3, at4, setop, ixn1, ixn2, ixn3, ixn4, Out.ofR, setS, hv, h1, h2, truth]
  · refine .inr ?_
    simp [bDrw, runs, run, ev, evOs, opd, tst, rd, rds, bltop, ixD, binop, cmpop, at0, at1, at2, at3, at4, Out.ofR, hv, truth]
def Hand (w : W) : Prop := ∃ (cs : List Int) (i v s c : Int), w = hnd cs i v s c ∧ 0 ≤ i
theorem draw_ok {d : Nat} (hd : P[d]? = some (fDrw q) ∧ q.ok = true) (k : Nat) (h : W) (span : Int) (hh : Hand h) (h1 : 0 < span) (h2 : span < 1073741824) :
    ∃ r h', callN P nc (k + 1) d [h, .d (.int span)] = .ok (.d (.int r)) [h'] ∧ Hand h' ∧ 0 ≤ r ∧ r < span := by
  obtain ⟨cs, i, v, s, c, rfl, hi⟩ := hh
  obtain ⟨i', v', s', x', e0, hi'⟩ := draw_0 hd.2 (callN P nc k) cs i v s c (some (.d (.int span))) none none none hi
  have eb : bDrw q = (bDrw q).take 1 ++ (((bDrw q).drop 1).take 1 ++ (bDrw q).drop 2) := rfl
  have hrun : ∃ r h' sp x y z, runs nc (callN P nc k) (bDrw q) [some (hnd cs i v s c), some (.d (.int span)), none, none, none] = .rt (.d (.int r)) [some h', sp, x, y, z] ∧ Hand h' ∧ 0 ≤ r ∧ r < span := by
    rw [eb, runs_app, e0, Out.seq_nx, runs_app]
    rcases draw_1 (callN P nc k) cs i' v' s' c span x' none none h1 h2 with ⟨hv, e1⟩ | e1
    · rw [e1]
      exact ⟨_, _, _, _, _, _, rfl, ⟨cs, i', _, s', c, rfl, hi'⟩, Int.emod_nonneg _ (by omega), Int.emod_lt_of_pos _ h1⟩
    · rw [e1, Out.seq_nx]
      obtain ⟨r, z', e2, b1, b2⟩ := draw_end hd.2 (callN P nc k) cs i' v' s' c span x' none none h1
      rw [e2]
      exact ⟨_, _, _, _, _, _, rfl, ⟨cs, i', v', s', _, rfl, hi'⟩, b1, b2⟩
  obtain ⟨r, h', sp, x, y, z, er, hh', b1, b2⟩ := hrun
  refine ⟨r, h', ?_, hh', b1, b2⟩
  obtain ⟨cs', i2, v2, s2, c2, rfl, _⟩ := hh'
  exact call_rtE (fd := fDrw q) hd.1 rfl ⟨rfl, Nat.le_of_ble_eq_true rfl, rfl⟩ rfl rfl er rfl
theorem own_hnd (cs : List Int) (i v s c : Int) : (hnd cs i v s c).own = true := rfl
/-- a call that draws -/
theorem callh {cl : Calls} {f i : Nat} {e : Ex} {σ σ1 : Sg} {x w h h0 h' : W} (ne : ∀ i, e ≠ .io i) (h0 : σ[i]? = some (some h0)) (h1 : ev nc cl e σ = .ok x σ1) (hi : σ1[i]? = some (some h)) (hh : Hand h) (hh' : Hand h') (hc : cl f [h, .d x.toD] = .ok w [h']) :
    ev nc cl (.call f [.io i, e]) σ = .ok w (σ1.set i (some h')) := by
  obtain ⟨cs, i1, v, s, c, rfl, _⟩ := hh
  obtain ⟨cs', i', v', s', c', rfl, _⟩ := hh'
  have e1 : evAs nc cl [.io i, e] σ = .ok [.io i, .d x.toD] σ1 := by
    show (match σ[i]? with
      | some (some _) => _
      | _ => _) = _
    rw [h0]
    simp only
    rw [evAs_c ne h1]; rfl
  show R.bind (evAs nc cl [.io i, e] σ) _ = _
  rw [e1, R.bind_ok]
  simp [callS, ioS, agWs, agW, putBack, hc, hi, W.own]
theorem seqIx {r : Int} {n : Nat} (h0 : 0 ≤ r) (h1 : r < n) : PySem.seqIndex? r n = some r.toNat := by
  unfold PySem.seqIndex?
  simp [h0]
  omega
theorem er_lD (ls : List Nat) (n : Nat) : (lD ls).eraseIdx n = lD (ls.eraseIdx n) := by
  induction ls generalizing n with
  | nil => rfl
  | cons a l ih => cases n with
    | zero => rfl
    | succ n => simp [List.eraseIdx, ih]
theorem er_perm : ∀ {l : List Nat} {r : Nat}, r < l.length → ([G l r] ++ l.eraseIdx r).Perm l
  | a :: l, 0, _ => List.Perm.refl _
  | a :: l, r + 1, h => by
    have := er_perm (l := l) (r := r) (by simpa using h)
    rw [G_cs, List.eraseIdx_cons_succ]
    exact (List.Perm.swap a (G l r) (l.eraseIdx r)).trans (List.Perm.cons a this)
def bMix (d : Nat) : List Cl.St := [.par [2, 3] [.blt .list [.var 1], .lst []], .whl 1000000 (.cmp .gt (.blt .len [.var 2]) (.con (.int 0))) [.expr (.mut .append 3 [.mut .popAt 2 [.call d [.io 0, .blt .len [.var 2]]]])], .ret (.var 3)]
def fMix (d : Nat) : Fd := { np := 2, io := [0], nn := 4, body := bMix d }
theorem mixed_turn {d : Nat} (hd : P[d]? = some (fDrw q) ∧ q.ok = true) (k : Nat) (h : W) (th : Option W) (ls fs : List Nat) (hh : Hand h) (hl : 0 < ls.length) (hs : ls.length < 1000) (hf : fs.length < 1000) :
    ∃ r h', r < ls.length ∧ Hand h' ∧ runs nc (callN P nc (k + 1)) [.expr (.mut .append 3 [.mut .popAt 2 [.call d [.io 0, .blt .len [.var 2]]]])] [some h, th, some (.fl (lD ls)), some (.fl (lD fs))] =
      .nx [some h', th, some (.fl (lD (ls.eraseIdx r))), some (.fl (lD (fs ++ [G ls r])))] := by
  obtain ⟨r, h', e, hh', b1, b2⟩ := draw_ok (nc := nc) hd k h ls.length hh (by omega) (by omega)
  have hr : r.toNat < ls.length := by omega
  refine ⟨r.toNat, h', hr, hh', ?_⟩
  have e1 := callh (nc := nc) (cl := callN P nc (k + 1)) (f := d) (i := 0) (e := .blt .len [.var 2]) (σ := [some h, th, some (.fl (lD ls)), some (.fl (lD fs))]) (σ1 := [some h, th, some (.fl (lD ls)), some (.fl (lD fs))]) (x := .d (.int (ls.length : Nat))) (fun i z => by cases z) rfl (by simp [ev, evOs, opd, rds, rd, bltop, lenD]) rfl hh hh' e
  have e2 : ev nc (callN P nc (k + 1)) (.mut .popAt 2 [.call d [.io 0, .blt .len [.var 2]]]) [some h, th, some (.fl (lD ls)), some (.fl (lD fs))] = .ok (.d (.int (G ls r.toNat : Nat))) [some h', th, some (.fl (lD (ls.eraseIdx r.toNat))), some (.fl (lD fs))] := by
    refine ev_mutE (m := .popAt) (i := 2) (w0 := .fl (lD ls)) (w := .fl (lD ls)) (w' := .fl (lD (ls.eraseIdx r.toNat))) rfl rfl (evDs_one e1) rfl ?_
    have z2 : -(2 ^ 63) ≤ r ∧ r < 2 ^ 63 := ⟨by omega, by omega⟩
    have z4 : PySem.seqIndex? r (lD ls).length = some r.toNat := by rw [lD_len]; exact seqIx b1 b2
    have z5 : (lD ls)[r.toNat]? = some (.int (G ls r.toNat : Nat)) := by rw [lD_get, G_get hr]; rfl
    unfold mutop
    simp only [W.toD, if_pos z2, z4, z5, er_lD]
  refine runs_one (run_exprE (w := .d .non) ?_)
  refine (ev_mutE (m := .append) (i := 3) (w0 := .fl (lD fs)) (w := .fl (lD fs)) (w' := .fl (lD (fs ++ [G ls r.toNat]))) (y := .non) rfl rfl (evDs_one e2) rfl ?_)
  rw [lD_app]
  show (if (lD fs).length < PySem.sizeLine then _ else _) = _
  rw [if_pos (by rw [lD_len]; exact line_lt (by omega))]; rfl
theorem mixed_ok {d m : Nat} (hd : P[d]? = some (fDrw q) ∧ q.ok = true) (hm : P[m]? = some (fMix d)) (k : Nat) (h : W) (ls : List Nat) (hh : Hand h) (hl : ls.length < 900) : ∃ h' o, Hand h' ∧ o.Perm ls ∧ callN P nc (k + 2) m [h, .d (lN ls)] = .ok (.fl (lD o)) [h'] := by
  have e0 : run nc (callN P nc (k + 1)) (.par [2, 3] [.blt .list [.var 1], .lst []]) [some h, some (.d (lN ls)), none, none] = .nx [some h, some (.d (lN ls)), some (.fl (lD ls)), some (.fl [])] := by
    simp [run, evWs, ev, evDs, evOs, opd, rds, rd, bltop, Out.ofR, setSs]
  obtain ⟨τ, e1, h', o, e2, hh', ho⟩ := whl_ok (nc := nc) (cl := callN P nc (k + 1)) (n := 1000000) (m := ls.length) (c := .cmp .gt (.blt .len [.var 2]) (.con (.int 0))) (b := [.expr (.mut .append 3 [.mut .popAt 2 [.call d [.io 0, .blt .len [.var 2]]]])])
    (σ := [some h, some (.d (lN ls)), some (.fl (lD ls)), some (.fl [])])
    (fun i τ => ∃ h' l f, τ = [some h', some (.d (lN ls)), some (.fl (lD l)), some (.fl (lD f))] ∧ Hand h' ∧ l.length + i = ls.length ∧ (f ++ l).Perm ls)
    (fun τ => ∃ h' o, τ = [some h', some (.d (lN ls)), some (.fl []), some (.fl (lD o))] ∧ Hand h' ∧ o.Perm ls) (by omega) (fun i τ hi ⟨h', l, f, e, hh', hl', hp⟩ => by
      subst e
      have hpl := hp.length_eq
      rw [List.length_append] at hpl
      obtain ⟨r, h2, hr, hh2, e⟩ := mixed_turn (nc := nc) hd k h' (some (.d (lN ls))) l f hh' (by omega) (by omega) (by omega)
      refine ⟨_, _, ?_, e, h2, _, _, rfl, hh2, ?_, ?_⟩
      · have : 0 < l.length := by omega
        simp [tst, opd, ev, evOs, rds, rd, bltop, lenD, cmpop, truth, this]
      · rw [List.length_eraseIdx, if_pos hr]; omega
      · refine List.Perm.trans ?_ hp
        rw [List.append_assoc]
        refine List.Perm.append_left f ?_
        exact er_perm hr) (fun τ ⟨h', l, f, e, hh', hl', hp⟩ => by
      subst e
      have : l = [] := List.eq_nil_of_length_eq_zero (by omega)
      subst this
      rw [List.append_nil] at hp
      exact ⟨[some h', some (.d (lN ls)), some (.fl []), some (.fl (lD f))], by simp [tst, opd, ev, evOs, rds, rd, bltop, lenD, cmpop, truth], h', f, rfl, hh', hp⟩) ⟨h, ls, [], rfl, hh, rfl, List.Perm.refl _⟩
  refine ⟨h', o, hh', ho, ?_⟩
  have er : runs nc (callN P nc (k + 1)) (bMix d) [some h, some (.d (lN ls)), none, none] = .rt (.fl (lD o)) [some h', some (.d (lN ls)), some (.fl []), none] := by
    unfold bMix
    rw [runs_nx e0, runs_nx e1, e2]
    simp [runs, run]
  obtain ⟨cs, i, v, s, c, rfl, _⟩ := hh
  obtain ⟨cs', i', v', s', c', rfl, _⟩ := hh'
  exact call_rtE (fd := fMix d) hm rfl ⟨rfl, Nat.le_of_ble_eq_true rfl, rfl⟩ rfl rfl er rfl
def bLor (m : Nat) : List Cl.St := [.ret (.blt .tuple [.call m [.io 0, .lrg false [.var 1]]])]
def fLor (m : Nat) : Fd := { np := 2, io := [0], nn := 2, body := bLor m }
theorem lor_ok {d m f : Nat} (hd : P[d]? = some (fDrw q) ∧ q.ok = true) (hm : P[m]? = some (fMix d)) (hf : P[f]? = some (fLor m)) (k : Nat) (h : W) (n : Nat) (hh : Hand h) (hn : n < 900) : ∃ h' O, Hand h' ∧ O.Perm (Rn n) ∧ callN P nc (k + 3) f [h, .d (.int (n : Nat))] = .ok (.d (tN O)) [h'] := by
  obtain ⟨h', O, hh', ho, e⟩ := mixed_ok (nc := nc) hd hm k h (Rn n) hh (by simpa [Rn] using hn)
  refine ⟨h', O, hh', ho, ?_⟩
  have e1 := callh (nc := nc) (cl := callN P nc (k + 2)) (f := m) (i := 0) (e := .lrg false [.var 1]) (σ := [some h, some (.d (.int (n : Nat)))]) (σ1 := [some h, some (.d (.int (n : Nat)))]) (x := .fl (lD (Rn n))) (fun i z => by cases z) rfl (by
    simp [ev, evOs, opd, rds, rd, rng_lD (show n ≤ 16777216 by omega)]) rfl hh hh' e
  have er : runs nc (callN P nc (k + 2)) (bLor m) [some h, some (.d (.int (n : Nat)))] = .rt (.d (tN O)) [some h', some (.d (.int (n : Nat)))] :=
    runs_rt (run_retE (fun i z => by cases z) (blt1_ok (b := .tuple) (r := .d (tN O)) (fun i z => by cases z) e1 rfl))
  obtain ⟨cs, i, v, s, c, rfl, _⟩ := hh
  obtain ⟨cs', i', v', s', c', rfl, _⟩ := hh'
  exact call_rtE (fd := fLor m) hf rfl ⟨rfl, Nat.le_of_ble_eq_true rfl, rfl⟩ rfl rfl er rfl
end
end Pl

/-! Pl, part H: what laws draw, on: the script, layings. -/
namespace Pl
open Cl Pm
section
variable {P : Pg} {nc : Nat}
variable {q : DK}
theorem okNs_lD : ∀ (n : Nat) (l : List Nat), D.okNs n (lD l) = true
  | _, [] => by simp [D.okNs]
  | n, a :: l => by simp [D.okNs, D.okN, okNs_lD n l]
theorem eqbs_lD : ∀ (l m : List Nat), D.eqbs (lD l) (lD m) = decide (l = m)
  | [], [] => rfl
  | [], _ :: _ => rfl
  | _ :: _, [] => rfl
  | a :: l, b :: m => by
    rw [lD_cons, lD_cons, D.eqbs, eqbs_lD l m]
    by_cases e : a = b
    · subst e
      by_cases e2 : l = m
      · subst e2; simp [D.eqb]
      · simp [D.eqb, e2]
    · have : ¬ (a : Int) = b := by omega
      simp [D.eqb, e, this]
theorem eqD_lN (l m : List Nat) : eqD (lN l) (lN m) = some (decide (l = m)) := by
  unfold eqD D.ok
  rw [D.okN, D.okN, okNs_lD, okNs_lD]
  simp [D.eqb, eqbs_lD]
theorem eqD_tN (l m : List Nat) : eqD (tN l) (tN m) = some (decide (l = m)) := by
  unfold eqD D.ok
  rw [D.okN, D.okN, okNs_lD, okNs_lD]
  simp [D.eqb, eqbs_lD]
theorem inD_lN (x : Nat) (l : List Nat) : inD (.int (x : Nat)) (lN l) = some (decide (x ∈ l)) := by
  have h1 : (flatD (.int (x : Nat)) && (lD l).all flatD) = true := by
    simp [flatD, lD, nD]
  show (if flatD (.int (x : Nat)) && (lD l).all flatD then some ((lD l).any fun z => D.eqb z (.int (x : Nat))) else _) = _
  rw [if_pos h1]
  congr 1
  clear h1
  induction l with
  | nil => rfl
  | cons a l ih =>
    rw [lD_cons, List.any_cons, ih]
    by_cases e : a = x
    · subst e; simp [D.eqb]
    · have e1 : ¬ (a : Int) = x := by omega
      have e2 : ¬ x = a := fun z => e z.symm
      simp [D.eqb, e1, e2]
/-! ### the script -/
def bHan (a b : Int) : List Cl.St := [.set 1 (.lc [2] (.nm 2) (.sl (.var 0) none (some (.con (.int 63)))) none (.blt .abs [.blt .int [.var 2]])), .ret (.lst [.var 1, .con (.int 0), .con (.int 0), .bin .add (.con (.int a)) (.bin .mul (.con (.int b)) (.blt .len [.var 1])), .con (.int 0)])]
def fHan (a b : Int) : Fd := { np := 1, io := [], nn := 3, body := bHan a b }
def absD : D → D
  | .int x => .int (if x < 0 then -x else x)
  | d => d
theorem hand_ok {f : Nat} {a b : Int} (hf : P[f]? = some (fHan a b)) (hb : 0 ≤ b ∧ b < 1000) (k : Nat) (ns : List Int) (hl : ns.length ≤ 63) : ∃ h, Hand h ∧ callN P nc (k + 1) f [.d (.scr ns)] = .ok h [] := by
  have hcut : (cutI ns none (some 63)).length ≤ ns.length := by
    unfold cutI
    rw [List.length_take, List.length_drop]
    omega
  have el := lc_map (nc := nc) (cl := callN P nc k) (own := [2]) (t := .nm 2) (it := .sl (.var 0) none (some (.con (.int 63)))) (c := none) (e := .blt .abs [.blt .int [.var 2]]) (σ := [some (.d (.scr ns)), none, none]) (σ1 := [some (.d (.scr ns)), none, none]) (w := .fl ((cutI ns none (some 63)).map D.int)) (xs := (cutI ns none (some 63)).map D.int) absD rfl rfl rfl (by rw [List.length_map]; omega) rfl fun x hx => by
    obtain ⟨r, _, rfl⟩ := List.mem_map.mp hx
    simp [lcTurn, asg, wipeS, ev, evC, evOs, opd, rds, rd, bltop, absD]
  have ee : ((cutI ns none (some 63)).map D.int).map absD = ((cutI ns none (some 63)).map fun x => if x < 0 then -x else x).map D.int := by
    rw [List.map_map, List.map_map]; rfl
  rw [ee] at el
  have hcs : ((cutI ns none (some 63)).map fun x => if x < 0 then -x else x).length ≤ 63 := by rw [List.length_map]; omega
  generalize (cutI ns none (some 63)).map (fun x => if x < 0 then -x else x) = cs at el hcs
  refine ⟨hnd cs 0 0 (a + b * cs.length) 0, ⟨cs, 0, 0, a + b * cs.length, 0, rfl, Int.le_refl 0⟩, ?_⟩
  have hm : binop .mul (.int b) (.int (cs.length : Nat)) = some (.d (.int (b * cs.length))) := by
    unfold binop
    have h1 : -(2 ^ 64) < b ∧ b < 2 ^ 64 := ⟨by omega, by omega⟩
    simp only [if_pos (Or.inl h1 : (-(2 ^ 64) < b ∧ b < 2 ^ 64) ∨ (-(2 ^ 64) < ((cs.length : Nat) : Int) ∧ ((cs.length : Nat) : Int) < 2 ^ 64))]
  refine fn_rt (ds := [.scr ns]) (body := bHan a b) (st := [some (.d (.scr ns)), none, none]) (σ := [some (.d (.scr ns)), some (.d (.lst (cs.map D.int))), none]) hf rfl rfl rfl (Nat.le_of_ble_eq_true rfl) rfl rfl ?_
  unfold bHan
  rw [runs_nx (run_setE el (by simp))]
  refine runs_rt (run_retE (fun i z => by cases z) ?_)
  have e5 : ev nc (callN P nc k) (.bin .mul (.con (.int b)) (.blt .len [.var 1])) [some (.d (.scr ns)), some (.d (.lst (cs.map D.int))), none] = .ok (.d (.int (b * cs.length))) [some (.d (.scr ns)), some (.d (.lst (cs.map D.int))), none] :=
    bin_ok (x := .int b) (y := .int (cs.length : Nat)) (σ1 := [some (.d (.scr ns)), some (.d (.lst (cs.map D.int))), none]) (by simp [opd, ev]) (by simp [opd, ev, evOs, rds, rd, bltop, lenD]) hm
  have e4 : ev nc (callN P nc k) (.bin .add (.con (.int a)) (.bin .mul (.con (.int b)) (.blt .len [.var 1]))) [some (.d (.scr ns)), some (.d (.lst (cs.map D.int))), none] = .ok (.d (.int (a + b * cs.length))) [some (.d (.scr ns)), some (.d (.lst (cs.map D.int))), none] := by
    refine bin_ok (x := .int a) (y := .int (b * cs.length)) (σ1 := [some (.d (.scr ns)), some (.d (.lst (cs.map D.int))), none]) (by simp [opd, ev]) ?_ rfl
    show R.bind (ev nc (callN P nc k) (.bin .mul (.con (.int b)) (.blt .len [.var 1])) _) _ = _
    rw [e5]; rfl
  have e6 : evDs nc (callN P nc k) [.var 1, .con (.int 0), .con (.int 0), .bin .add (.con (.int a)) (.bin .mul (.con (.int b)) (.blt .len [.var 1])), .con (.int 0)] [some (.d (.scr ns)), some (.fl (cs.map D.int)), none] =
      .ok [.lst (cs.map D.int), .int 0, .int 0, .int (a + b * cs.length), .int 0] [some (.d (.scr ns)), some (.d (.lst (cs.map D.int))), none] := by
    have d0 : ∀ es σ, evDs nc (callN P nc k) (.con (.int 0) :: es) σ = (evDs nc (callN P nc k) es σ).bind fun xs σ2 => .ok (.int 0 :: xs) σ2 := fun es σ => rfl
    have d1 : evDs nc (callN P nc k) [.bin .add (.con (.int a)) (.bin .mul (.con (.int b)) (.blt .len [.var 1])), .con (.int 0)] [some (.d (.scr ns)), some (.d (.lst (cs.map D.int))), none] = .ok [.int (a + b * cs.length), .int 0] [some (.d (.scr ns)), some (.d (.lst (cs.map D.int))), none] := by
      show R.bind (ev nc (callN P nc k) (.bin .add (.con (.int a)) (.bin .mul (.con (.int b)) (.blt .len [.var 1]))) _) _ = _
      rw [e4]; rfl
    have d2 : ev nc (callN P nc k) (.var 1) [some (.d (.scr ns)), some (.fl (cs.map D.int)), none] = .ok (.d (.lst (cs.map D.int))) [some (.d (.scr ns)), some (.d (.lst (cs.map D.int))), none] := by simp [ev, W.own]
    show R.bind (ev nc (callN P nc k) (.var 1) _) _ = _
    rw [d2, R.bind_ok, d0, d0, d1]; rfl
  show R.bind (evDs nc (callN P nc k) _ _) _ = _
  rw [show ([some (W.d (.scr ns)), none, none] : Sg).set 1 (some (.fl (cs.map D.int))) = [some (.d (.scr ns)), some (.fl (cs.map D.int)), none] from rfl, e6]; rfl
/-! ### a laying -/
/-- numbers drawn one after another -/
theorem nats_of {Q : Nat → Prop} : ∀ {ys : List D}, (∀ y ∈ ys, ∃ r : Nat, y = .int (r : Nat) ∧ Q r) → ∃ l : List Nat, ys = lD l ∧ ∀ r ∈ l, Q r
  | [], _ => ⟨[], rfl, fun _ h => nomatch h⟩
  | y :: ys, h => by
    obtain ⟨r, rfl, q⟩ := h y List.mem_cons_self
    obtain ⟨rs, e, qs⟩ := nats_of (ys := ys) fun z hz => h z (List.mem_cons_of_mem _ hz)
    refine ⟨r :: rs, by rw [e]; rfl, fun x hx => ?_⟩
    rcases List.mem_cons.mp hx with rfl | hx
    · exact q
    · exact qs x hx
/-- one more than what is drawn -/
theorem plus1 {cl : Calls} {f i : Nat} {e : Ex} {σ σ1 : Sg} {h h0 h' : W} {x : D} {r : Int} (ne : ∀ i, e ≠ .io i) (h0' : σ[i]? = some (some h0)) (h1 : ev nc cl e σ = .ok (.d x) σ1) (hi : σ1[i]? = some (some h)) (hh : Hand h) (hh' : Hand h') (hc : cl f [h, .d x] = .ok (.d (.int r)) [h']) :
    ev nc cl (.bin .add (.con (.int 1)) (.call f [.io i, e])) σ = .ok (.d (.int (1 + r))) (σ1.set i (some h')) := by
  have e1 := callh (nc := nc) ne h0' h1 hi hh hh' hc
  refine bin_ok (x := .int 1) (y := .int r) (σ1 := σ) (by simp [opd, ev]) ?_ rfl
  show R.bind (ev nc cl (.call f [.io i, e]) _) _ = _
  rw [e1]; rfl
def bStr (d o : Nat) (s : Int) : List Cl.St := [.par [2, 3] [.bin .add (.con (.int 1)) (.call d [.io 0, .var 1]), .bin .add (.con (.int 1)) (.call d [.io 0, .con (.int s)])], .ret (.tup [.blt .tuple [.lc [4] (.nm 4) (.rng [.var 2]) none (.bin .add (.con (.int 1)) (.call d [.io 0, .var 3]))], .call o [.io 0, .var 2]])]
def fStr (d o : Nat) (s : Int) : Fd := { np := 2, io := [0], nn := 5, body := bStr d o s }
theorem strip_ok {d m o f : Nat} {s : Nat} (hd : P[d]? = some (fDrw q) ∧ q.ok = true) (hm : P[m]? = some (fMix d)) (ho : P[o]? = some (fLor m)) (hf : P[f]? = some (fStr d o (s : Nat))) (k : Nat) (h : W) (most : Nat) (hh : Hand h) (hmo : 0 < most) (hm6 : most ≤ 6) (hs0 : 0 < s) (hs : most * s ≤ 60) :
    ∃ h' L O, Hand h' ∧ LO L O ∧ L.length ≤ most ∧ (∀ x ∈ L, x ≤ s) ∧ callN P nc (k + 4) f [h, .d (.int (most : Nat))] = .ok (.d (.tup [tN L, tN O])) [h'] := by
  have hs60 : s ≤ 60 := Nat.le_trans (Nat.le_mul_of_pos_left s hmo) hs
  obtain ⟨r1, h1, c1, hh1, a1, b1⟩ := draw_ok (nc := nc) hd (k + 2) h most hh (by omega) (by omega)
  obtain ⟨r2, h2, c2, hh2, a2, b2⟩ := draw_ok (nc := nc) hd (k + 2) h1 s hh1 (by omega) (by omega)
  obtain ⟨many, em⟩ : ∃ n : Nat, 1 + r1 = (n : Nat) := ⟨(1 + r1).toNat, by omega⟩
  obtain ⟨long, el⟩ : ∃ n : Nat, 1 + r2 = (n : Nat) := ⟨(1 + r2).toNat, by omega⟩
  have p1 := plus1 (nc := nc) (cl := callN P nc (k + 3)) (f := d) (i := 0) (e := .var 1) (σ := [some h, some (.d (.int (most : Nat))), none, none, none]) (σ1 := [some h, some (.d (.int (most : Nat))), none, none, none]) (fun i z => by cases z) rfl (by simp [ev, W.own]) rfl hh hh1 c1
  have p2 := plus1 (nc := nc) (cl := callN P nc (k + 3)) (f := d) (i := 0) (e := .con (.int (s : Nat))) (σ := [some h1, some (.d (.int (most : Nat))), none, none, none]) (σ1 := [some h1, some (.d (.int (most : Nat))), none, none, none]) (fun i z => by cases z) rfl (by simp [ev]) rfl hh1 hh2 c2
  have e0 : run nc (callN P nc (k + 3)) (.par [2, 3] [.bin .add (.con (.int 1)) (.call d [.io 0, .var 1]), .bin .add (.con (.int 1)) (.call d [.io 0, .con (.int (s : Nat))])]) [some h, some (.d (.int (most : Nat))), none, none, none] =
      .nx [some h2, some (.d (.int (most : Nat))), some (.d (.int (many : Nat))), some (.d (.int (long : Nat))), none] := by
    have ew : evWs nc (callN P nc (k + 3)) [.bin .add (.con (.int 1)) (.call d [.io 0, .var 1]), .bin .add (.con (.int 1)) (.call d [.io 0, .con (.int (s : Nat))])] [some h, some (.d (.int (most : Nat))), none, none, none] = .ok [.d (.int (many : Nat)), .d (.int (long : Nat))] [some h2, some (.d (.int (most : Nat))), none, none, none] := by
      show R.bind (ev nc (callN P nc (k + 3)) (.bin .add (.con (.int 1)) (.call d [.io 0, .var 1])) _) _ = _
      rw [p1, R.bind_ok, em]
      show R.bind (R.bind (ev nc (callN P nc (k + 3)) (.bin .add (.con (.int 1)) (.call d [.io 0, .con (.int (s : Nat))])) [some h1, some (.d (.int (most : Nat))), none, none, none]) _) _ = _
      rw [p2, el]; rfl
    show Out.ofR (evWs nc (callN P nc (k + 3)) _ _) _ = _
    rw [ew]; rfl
  obtain ⟨ys, σ', ec, ⟨h3, hh3, rfl⟩, hy, hlen⟩ := lcL_inv (f := lcTurn [4] (.nm 4) (evC nc (callN P nc (k + 3)) none) (ev nc (callN P nc (k + 3)) (.bin .add (.con (.int 1)) (.call d [.io 0, .var 3])))) (I := fun σ => ∃ h, Hand h ∧ σ = [some h, some (.d (.int (most : Nat))), some (.d (.int (many : Nat))), some (.d (.int (long : Nat))), none])
    (G := fun _ y => ∃ r : Nat, y = .int (r : Nat) ∧ 1 ≤ r ∧ r ≤ long) (xs := lD (Rn many)) (acc := []) (σ := [some h2, some (.d (.int (most : Nat))), some (.d (.int (many : Nat))), some (.d (.int (long : Nat))), none]) (fun x hx σ ⟨g, hg, eσ⟩ => by
      subst eσ
      obtain ⟨r, g', e, hg', r0, r1⟩ := draw_ok (nc := nc) hd (k + 2) g (long : Nat) hg (by omega) (by omega)
      have p := plus1 (nc := nc) (cl := callN P nc (k + 3)) (f := d) (i := 0) (e := .var 3) (σ := [some g, some (.d (.int (most : Nat))), some (.d (.int (many : Nat))), some (.d (.int (long : Nat))), some (.d x)]) (σ1 := [some g, some (.d (.int (most : Nat))), some (.d (.int (many : Nat))), some (.d (.int (long : Nat))), some (.d x)]) (fun i z => by cases z) rfl (by simp [ev, W.own]) rfl hg hg' e
      refine ⟨.int (1 + r), _, ?_, ⟨g', hg', rfl⟩, (1 + r).toNat, by congr 1; omega, by omega, by omega⟩
      show R.bind (ev nc (callN P nc (k + 3)) (.bin .add (.con (.int 1)) (.call d [.io 0, .var 3])) [some g, some (.d (.int (most : Nat))), some (.d (.int (many : Nat))), some (.d (.int (long : Nat))), some (.d x)]) _ = _
      rw [p]; rfl) ⟨h2, hh2, rfl⟩
  obtain ⟨L, eL, hL⟩ := nats_of (ys := ys) (Q := fun r => 1 ≤ r ∧ r ≤ long) fun y hys => by
    obtain ⟨_, _, r, e, q⟩ := hy y hys
    exact ⟨r, e, q⟩
  have hLl : L.length = many := by
    rw [eL, lD_len, lD_len] at hlen
    simpa [Rn] using hlen
  rw [List.nil_append, eL] at ec
  have e2 := lc_ok (own := [4]) (t := .nm 4) (it := .rng [.var 2]) (c := none) (e := .bin .add (.con (.int 1)) (.call d [.io 0, .var 3])) (nc := nc) (cl := callN P nc (k + 3)) (σ := [some h2, some (.d (.int (most : Nat))), some (.d (.int (many : Nat))), some (.d (.int (long : Nat))), none]) (σ1 := [some h2, some (.d (.int (most : Nat))), some (.d (.int (many : Nat))), some (.d (.int (long : Nat))), none]) (w := .fl (lD (Rn many))) (xs := lD (Rn many)) (by
    simp [ev, evOs, opd, rds, rd, rng_lD (show many ≤ 16777216 by omega)]) rfl rfl (by simp [Rn]; omega) ec
  have e3 := blt1_ok (r := .d (tN L)) (b := .tuple) (fun i z => by cases z) e2 rfl
  obtain ⟨h4, O, hh4, hO, e4⟩ := lor_ok (nc := nc) hd hm ho k h3 many hh3 (by omega)
  have e5 := callh (nc := nc) (cl := callN P nc (k + 3)) (f := o) (i := 0) (e := .var 2) (σ := [some h3, some (.d (.int (most : Nat))), some (.d (.int (many : Nat))), some (.d (.int (long : Nat))), none]) (σ1 := [some h3, some (.d (.int (most : Nat))), some (.d (.int (many : Nat))), some (.d (.int (long : Nat))), none]) (x := .d (.int (many : Nat))) (fun i z => by cases z) rfl (by simp [ev, W.own]) rfl hh3 hh4 e4
  have hsum : ∀ l : List Nat, (∀ x ∈ l, x ≤ s) → l.sum ≤ l.length * s := by
    intro l
    induction l with
    | nil => intro _; simp
    | cons a l ih =>
      intro hl
      have h1 := hl a List.mem_cons_self
      have h2 := ih fun x hx => hl x (List.mem_cons_of_mem _ hx)
      rw [List.sum_cons, List.length_cons, Nat.succ_mul]
      omega
  have hle : ∀ x ∈ L, x ≤ s := fun x hx => by have := (hL x hx).2; omega
  refine ⟨h4, L, O, hh4, ⟨⟨by omega, by omega, fun x hx => (hL x hx).1, ?_⟩, by rw [hLl]; exact hO⟩, by omega, hle, ?_⟩
  · have q1 := hsum L hle
    have q2 : L.length * s ≤ most * s := Nat.mul_le_mul_right s (by omega)
    omega
  have er : runs nc (callN P nc (k + 3)) (bStr d o (s : Nat)) [some h, some (.d (.int (most : Nat))), none, none, none] = .rt (.d (.tup [tN L, tN O])) [some h4, some (.d (.int (most : Nat))), some (.d (.int (many : Nat))), some (.d (.int (long : Nat))), none] := by
    unfold bStr
    rw [runs_nx e0]
    refine runs_rt (run_retE (fun i z => by cases z) ?_)
    have : evDs nc (callN P nc (k + 3)) [.blt .tuple [.lc [4] (.nm 4) (.rng [.var 2]) none (.bin .add (.con (.int 1)) (.call d [.io 0, .var 3]))], .call o [.io 0, .var 2]] [some h2, some (.d (.int (most : Nat))), some (.d (.int (many : Nat))), some (.d (.int (long : Nat))), none] = .ok [tN L, tN O] [some h4, some (.d (.int (most : Nat))), some (.d (.int (many : Nat))), some (.d (.int (long : Nat))), none] := by
      show R.bind (ev nc (callN P nc (k + 3)) (.blt .tuple [.lc [4] (.nm 4) (.rng [.var 2]) none (.bin .add (.con (.int 1)) (.call d [.io 0, .var 3]))]) _) _ = _
      rw [e3, R.bind_ok]
      have e6 : backS [some h2, some (.d (.int (most : Nat))), some (.d (.int (many : Nat))), some (.d (.int (long : Nat))), none] [some h3, some (.d (.int (most : Nat))), some (.d (.int (many : Nat))), some (.d (.int (long : Nat))), none] [4] = [some h3, some (.d (.int (most : Nat))), some (.d (.int (many : Nat))), some (.d (.int (long : Nat))), none] := rfl
      rw [e6]
      show R.bind (R.bind (ev nc (callN P nc (k + 3)) (.call o [.io 0, .var 2]) _) _) _ = _
      rw [e5]; rfl
    show R.bind (evDs nc (callN P nc (k + 3)) _ _) _ = _
    rw [this]; rfl
  obtain ⟨cs, i, v, t, c, rfl, _⟩ := hh
  obtain ⟨cs', i', v', s', c', rfl, _⟩ := hh4
  exact call_rtE (fd := fStr d o (s : Nat)) hf rfl ⟨rfl, Nat.le_of_ble_eq_true rfl, rfl⟩ rfl rfl er rfl
end
end Pl

/-! Pl, part I: a law's own goal. -/
namespace Pl
open Cl Pm
section
variable {P : Pg} {nc : Nat}
theorem G_rep (n i : Nat) : G (List.replicate n 0) i = 0 := by
  unfold G
  rw [List.getD_eq_getElem?_getD, List.getElem?_replicate]
  split <;> rfl
def bLgo : List Cl.St := [.set 2 (.bin .mul (.lst [.con (.int 0)]) (.blt .sum [.var 0])), .set 3 (.con (.int 0)), .fr (.nm 4) (.var 1) [.set 5 (.blt .sum [.sl (.var 0) none (some (.var 4))]), .fr (.nm 6) (.rng [.ix (.var 0) (.var 4)]) [.six 2 (.bin .add (.var 5) (.var 6)) (.var 3), .set 3 (.bin .add (.var 3) (.con (.int 1)))]], .ret (.var 2)]
def fLgo : Fd := { np := 2, io := [], nn := 7, body := bLgo }
theorem lgo_step (cl : Calls) (L O g : List Nat) (t q b s : Nat) (hs : b + s < g.length) : runs nc cl [.six 2 (.bin .add (.var 5) (.var 6)) (.var 3), .set 3 (.bin .add (.var 3) (.con (.int 1)))] [some (.d (tN L)), some (.d (tN O)), some (.fl (lD g)), some (.d (.int (t : Nat))), some (.d (.int (q : Nat))), some (.d (.int (b : Nat))), some (.d (.int (s : Nat)))] =
    .nx [some (.d (tN L)), some (.d (tN O)), some (.fl (lD (g.set (b + s) t))), some (.d (.int (t + 1 : Nat))), some (.d (.int (q : Nat))), some (.d (.int (b : Nat))), some (.d (.int (s : Nat)))] := by
  have := setop_lD (v := t) hs
  rw [Int.natCast_add] at this
  simp [runs, run, ev, opd, rd, Out.ofR, binop, setS, this, W.own]
theorem bg_at {L : List Nat} {p s : Nat} (hp : p < L.length) (hs : s < ln L p) : bg (ln L) p + s < L.sum := by
  have := bg_next (len := ln L) hp
  rw [bg_all] at this
  omega
theorem bg_ne {len : Nat → Nat} {p q s s' : Nat} (hpq : p ≠ q) (hs : s < len p) (hs' : s' < len q) : bg len p + s ≠ bg len q + s' := by
  rcases Nat.lt_or_ge p q with z | z
  · have := bg_next (len := len) z; omega
  · have := bg_next (len := len) (p := q) (q := p) (by omega); omega
/-- one piece -/
theorem lgo_piece {L O g : List Nat} (q b t : Nat) (hq : q < L.length) (hb : b = bg (ln L) q) (hg : g.length = L.sum) (h60 : L.sum ≤ 1000) (z5 z6 : Option W) : ∃ g' z6', (g'.length = L.sum ∧ (∀ s, s < ln L q → G g' (b + s) = t + s) ∧ ∀ p s, p ≠ q → s < ln L p → G g' (bg (ln L) p + s) = G g (bg (ln L) p + s)) ∧
    ∀ cl, runs nc cl [.set 5 (.blt .sum [.sl (.var 0) none (some (.var 4))]), .fr (.nm 6) (.rng [.ix (.var 0) (.var 4)]) [.six 2 (.bin .add (.var 5) (.var 6)) (.var 3), .set 3 (.bin .add (.var 3) (.con (.int 1)))]] [some (.d (tN L)), some (.d (tN O)), some (.fl (lD g)), some (.d (.int (t : Nat))), some (.d (.int (q : Nat))), z5, z6] =
    .nx [some (.d (tN L)), some (.d (tN O)), some (.fl (lD g')), some (.d (.int (t + ln L q : Nat))), some (.d (.int (q : Nat))), some (.d (.int (b : Nat))), z6'] := by
  have hln : ln L q ≤ 1000 := by have := mem_le_sum (G_mem hq); exact Nat.le_trans this h60
  let F : Nat → List Nat := fun s => Nat.rec g (fun s g' => g'.set (b + s) (t + s)) s
  have F0 : F 0 = g := rfl
  have Fs : ∀ s, F (s + 1) = (F s).set (b + s) (t + s) := fun _ => rfl
  have Fl : ∀ s, (F s).length = L.sum := fun s => by
    induction s with
    | zero => exact hg
    | succ s ih => rw [Fs, List.length_set, ih]
  clear_value F
  have lt : ∀ s, s < ln L q → b + s < L.sum := fun s hs => by rw [hb]; exact bg_at hq hs
  have F1 : ∀ s, s ≤ ln L q → ∀ s', s' < s → G (F s) (b + s') = t + s' := fun s => by
    induction s with
    | zero => intro _ s' h; omega
    | succ s ih =>
      intro hs s' h
      rw [Fs, G_set (by rw [Fl]; exact lt s (by omega))]
      by_cases e : s' = s
      · subst e; rw [if_pos rfl]
      · rw [if_neg (by omega)]
        exact ih (by omega) s' (by omega)
  have F2 : ∀ s, s ≤ ln L q → ∀ p s', p ≠ q → s' < ln L p → G (F s) (bg (ln L) p + s') = G g (bg (ln L) p + s') := fun s => by
    induction s with
    | zero => intro _ p s' _ _; rw [F0]
    | succ s ih =>
      intro hs p s' hp h
      rw [Fs, G_set (by rw [Fl]; exact lt s (by omega)), if_neg (by rw [hb]; exact bg_ne hp h (by omega))]
      exact ih (by omega) p s' hp h
  have key : ∀ cl, ∃ z6', runs nc cl [.set 5 (.blt .sum [.sl (.var 0) none (some (.var 4))]), .fr (.nm 6) (.rng [.ix (.var 0) (.var 4)]) [.six 2 (.bin .add (.var 5) (.var 6)) (.var 3), .set 3 (.bin .add (.var 3) (.con (.int 1)))]] [some (.d (tN L)), some (.d (tN O)), some (.fl (lD g)), some (.d (.int (t : Nat))), some (.d (.int (q : Nat))), z5, z6] =
    .nx [some (.d (tN L)), some (.d (tN O)), some (.fl (lD (F (ln L q)))), some (.d (.int (t + ln L q : Nat))), some (.d (.int (q : Nat))), some (.d (.int (b : Nat))), z6'] ∧ z6' = (if ln L q = 0 then z6 else some (.d (.int (ln L q - 1 : Nat)))) := by
    intro cl
    have e1 : run nc cl (.set 5 (.blt .sum [.sl (.var 0) none (some (.var 4))])) [some (.d (tN L)), some (.d (tN O)), some (.fl (lD g)), some (.d (.int (t : Nat))), some (.d (.int (q : Nat))), z5, z6] = .nx [some (.d (tN L)), some (.d (tN O)), some (.fl (lD g)), some (.d (.int (t : Nat))), some (.d (.int (q : Nat))), some (.d (.int (b : Nat))), z6] := by
      have c1 := cut_to L q (by omega)
      have c2 : (List.take q (L.map fun (x : Nat) => (x : Int))).sum = ((b : Nat) : Int) := by rw [← List.map_take, sum_cast, hb, bg_take]
      simp [run, ev, evOs, evI, opd, rds, rd, slD, c1, bltop, lD_ints, sum_cast, c2, Out.ofR, setS]
    obtain ⟨τ, e2, z, e3, ez⟩ := fr_ok (nc := nc) (cl := cl) (t := .nm 6) (it := .rng [.ix (.var 0) (.var 4)]) (b := [.six 2 (.bin .add (.var 5) (.var 6)) (.var 3), .set 3 (.bin .add (.var 3) (.con (.int 1)))]) (σ := [some (.d (tN L)), some (.d (tN O)), some (.fl (lD g)), some (.d (.int (t : Nat))), some (.d (.int (q : Nat))), some (.d (.int (b : Nat))), z6])
      (σ1 := [some (.d (tN L)), some (.d (tN O)), some (.fl (lD g)), some (.d (.int (t : Nat))), some (.d (.int (q : Nat))), some (.d (.int (b : Nat))), z6]) (w := .fl (lD (Rn (ln L q)))) (xs := lD (Rn (ln L q)))
      (fun s τ => ∃ z, τ = [some (.d (tN L)), some (.d (tN O)), some (.fl (lD (F s))), some (.d (.int (t + s : Nat))), some (.d (.int (q : Nat))), some (.d (.int (b : Nat))), z] ∧ z = if s = 0 then z6 else some (.d (.int (s - 1 : Nat)))) (by
        have a1 := atI_lD hq
        have a2 : rngD [.int (G L q : Nat)] = some (lD (Rn (ln L q))) := rng_lD (show ln L q ≤ 16777216 by omega)
        simp [ev, evOs, opd, rds, rd, ixD, a1, a2]) rfl (by simp [Rn]; omega) (fun s d τ hd ⟨z, e, ez⟩ => by
          subst e
          have hs : s < ln L q := by
            have := (List.getElem?_eq_some_iff.mp hd).1
            simpa [Rn] using this
          have ed : d = .int (s : Nat) := by
            rw [lD_get, Rn, List.getElem?_range hs] at hd
            exact (Option.some.inj hd).symm
          subst ed
          have := lgo_step (nc := nc) cl L O (F s) (t + s) q b s (by rw [Fl]; exact lt s hs)
          refine ⟨_, _, rfl, this, _, ?_, by rw [if_neg (by omega), Nat.add_sub_cancel]⟩
          rw [← Fs]; rfl) ⟨z6, by rw [F0, Nat.add_zero], by rw [if_pos rfl]⟩
    have hl : (lD (Rn (ln L q))).length = ln L q := by simp [Rn]
    rw [hl] at e3 ez
    refine ⟨z, ?_, ez⟩
    rw [runs_nx e1, runs_nx e2, e3]; rfl
  refine ⟨F (ln L q), if ln L q = 0 then z6 else some (.d (.int (ln L q - 1 : Nat))), ⟨Fl _, F1 _ (Nat.le_refl _), F2 _ (Nat.le_refl _)⟩, fun cl => ?_⟩
  obtain ⟨z, e, rfl⟩ := key cl
  exact e
theorem lgo_ok {f : Nat} (h : P[f]? = some fLgo) (k : Nat) {L O : List Nat} (v : LO L O) : callN P nc (k + 1) f [.d (tN L), .d (tN O)] = .ok (.fl (lD (gl L O))) [] := by
  have ly := v.lay
  have h60 := v.len.sum
  have hO6 : O.length ≤ 6 := by rw [ly.len]; exact v.len.hi
  have e0 : run nc (callN P nc k) (.set 2 (.bin .mul (.lst [.con (.int 0)]) (.blt .sum [.var 0]))) [some (.d (tN L)), some (.d (tN O)), none, none, none, none, none] = .nx [some (.d (tN L)), some (.d (tN O)), some (.fl (lD (List.replicate L.sum 0))), none, none, none, none] :=
    (run_setE (w := .fl (lD (List.replicate L.sum 0))) (σ1 := [some (.d (tN L)), some (.d (tN O)), none, none, none, none, none]) (bin_ok (x := .lst [.int (0 : Nat)]) (y := .int (L.sum : Nat)) (σ1 := [some (.d (tN L)), some (.d (tN O)), none, none, none, none, none]) (by simp [opd, ev, evDs]) (by simp [opd, ev, evOs, rds, rd, bltop, lD_ints, sum_cast]) (zeros (by omega))) (by simp)).trans rfl
  have e1 : run nc (callN P nc k) (.set 3 (.con (.int 0))) [some (.d (tN L)), some (.d (tN O)), some (.fl (lD (List.replicate L.sum 0))), none, none, none, none] = .nx [some (.d (tN L)), some (.d (tN O)), some (.fl (lD (List.replicate L.sum 0))), some (.d (.int (0 : Nat))), none, none, none] := by
    simp [run, ev, Out.ofR, setS]
  obtain ⟨τ, e2, g, t, z4, z5, z6, rfl, hg, ht, hG⟩ := fr_ok (nc := nc) (cl := callN P nc k) (t := .nm 4) (it := .var 1) (b := [.set 5 (.blt .sum [.sl (.var 0) none (some (.var 4))]), .fr (.nm 6) (.rng [.ix (.var 0) (.var 4)]) [.six 2 (.bin .add (.var 5) (.var 6)) (.var 3), .set 3 (.bin .add (.var 3) (.con (.int 1)))]]) (σ := [some (.d (tN L)), some (.d (tN O)), some (.fl (lD (List.replicate L.sum 0))), some (.d (.int (0 : Nat))), none, none, none])
    (σ1 := [some (.d (tN L)), some (.d (tN O)), some (.fl (lD (List.replicate L.sum 0))), some (.d (.int (0 : Nat))), none, none, none]) (w := .d (tN O)) (xs := lD O)
    (fun i τ => ∃ g t z4 z5 z6, τ = [some (.d (tN L)), some (.d (tN O)), some (.fl (lD g)), some (.d (.int (t : Nat))), z4, z5, z6] ∧ g.length = L.sum ∧ t = S (O.take i) (ln L) ∧ ∀ p s, p ∈ O.take i → s < ln L p → G g (bg (ln L) p + s) = st L O p + s)
    (by simp [ev, W.own]) rfl (by rw [lD_len]; omega) (fun i x τ hx ⟨g, t, z4, z5, z6, e, hg, ht, hG⟩ => by
      subst e
      rw [lD_get] at hx
      obtain ⟨q, hq, rfl⟩ := Option.map_eq_some_iff.mp hx
      have hi := (List.getElem?_eq_some_iff.mp hq).1
      have hqL := ly.mem.mp (List.mem_of_getElem? hq)
      obtain ⟨g', z6', ⟨h1, h2, h3⟩, e'⟩ := lgo_piece (nc := nc) (O := O) (g := g) q (bg (ln L) q) t hqL rfl hg (by omega) z5 z6
      have tk : O.take (i + 1) = O.take i ++ [q] := by rw [List.take_succ, hq]; rfl
      have hst : st L O q = t := by
        have e5 : G O i = q := G_of hq
        rw [← e5, st_at ly.nd hi, ht]
        have : O.take i = (Rn i).map (G O) := by
          refine List.ext_getElem? fun j => ?_
          rw [List.getElem?_map, Rn, List.getElem?_take]
          by_cases hj : j < i
          · rw [if_pos hj, List.getElem?_range hj, G_get (by omega)]; rfl
          · rw [if_neg hj, List.getElem?_eq_none (by simp; omega)]; rfl
        rw [this, S_map]
      refine ⟨_, _, rfl, e' _, g', _, _, _, _, rfl, h1, ?_, fun p s hp hs => ?_⟩
      · rw [tk, S_app, ht]; simp [S]
      · by_cases e : p = q
        · subst e
          rw [h2 s hs, hst]
        · rw [h3 p s e hs]
          refine hG p s ?_ hs
          rw [tk] at hp
          rcases List.mem_append.mp hp with hp | hp
          · exact hp
          · exact absurd (List.mem_singleton.mp hp) e) ⟨_, 0, none, none, none, rfl, by simp, by simp [S], fun p s hp => by simp at hp⟩
  rw [lD_len, List.take_length] at hG
  have eg : g = gl L O := by
    refine G_ext (by rw [hg, gl_len]) fun x hx => ?_
    rw [hg, ← bg_all] at hx
    obtain ⟨p, s, hp, hs, rfl⟩ := place_ex hx
    rw [hG p s (ly.mem.mpr hp) hs]
    exact (blk_G hp hs).symm
  refine fn_rt (ds := [tN L, tN O]) (body := bLgo) (st := [some (.d (tN L)), some (.d (tN O)), none, none, none, none, none]) (σ := [some (.d (tN L)), some (.d (tN O)), none, some (.d (.int (t : Nat))), z4, z5, z6]) h rfl rfl rfl (Nat.le_of_ble_eq_true rfl) rfl rfl ?_
  unfold bLgo
  rw [runs_nx e0, runs_nx e1, runs_nx e2, eg]
  simp [runs, run]
end
end Pl

/-! Pl, part J: a law's own rounds, crossings, comparing. -/
namespace Pl
open Cl Pm
section
variable {P : Pg} {nc : Nat} {cl : Calls}
theorem take_G {l : List Nat} {i : Nat} (h : i ≤ l.length) : l.take i = (Rn i).map (G l) := by
  refine List.ext_getElem? fun j => ?_
  rw [List.getElem?_map, Rn, List.getElem?_take]
  by_cases hj : j < i
  · rw [if_pos hj, List.getElem?_range hj, G_get (by omega)]; rfl
  · rw [if_neg hj, List.getElem?_eq_none (by simp; omega)]; rfl
theorem flat_le {f : Nat → Nat} {n : Nat} (h : Pf f n) : ∀ {b : Nat}, b ≤ n → (laps f n b).flatten.length ≤ b * n
  | 0, _ => by simp [laps, Rn]
  | b + 1, hb => by
    have ih := flat_le h (b := b) (by omega)
    obtain ⟨p1, p2, _⟩ := per_is h (p := b) (by omega)
    rw [laps_succ, Nat.succ_mul]
    cases minB f n b with
    | false => simp only [Bool.false_eq_true, if_false, List.append_nil]; omega
    | true =>
      simp only [if_true, List.flatten_append, List.length_append, List.flatten_cons, List.flatten_nil, List.append_nil, orb_len]
      omega
/-- one more at a list's end -/
theorem app_lD {i : Nat} {e : Ex} {σ σ1 : Sg} {l l0 : List D} {w : W} (h0 : σ[i]? = some (some (.fl l0))) (he : ev nc cl e σ = .ok w σ1) (h1 : σ1[i]? = some (some (.fl l))) (hl : l.length < 1000000) : run nc cl (.expr (.mut .append i [e])) σ = .nx (σ1.set i (some (.fl (l ++ [w.toD])))) := by
  refine run_exprE (w := .d .non) (ev_mutE (m := .append) (w0 := .fl l0) (w := .fl l) (y := .non) h0 rfl (evDs_one he) h1 ?_)
  show (if l.length < PySem.sizeLine then _ else _) = _
  rw [if_pos (line_lt hl)]
abbrev lapW : List Cl.St := [.expr (.mut .append 4 [.var 5]), .expr (.mut .append 2 [.var 5]), .set 5 (.ix (.var 0) (.var 5))]
abbrev lapT : List Cl.St := [.par [4, 5] [.lst [], .var 3], .whl 1000000 (.cmp .notin (.var 5) (.var 2)) lapW, .ite (.cmp .ne (.var 4) (.lst [])) [.expr (.mut .append 1 [.blt .tuple [.var 4]])] []]
def bLap : List Cl.St := [.par [1, 2] [.lst [], .lst []], .fr (.nm 3) (.rng [.blt .len [.var 0]]) lapT, .ret (.var 1)]
def fLap : Fd := { np := 1, io := [], nn := 6, body := bLap }
theorem lap_c (x z1 z3 z4 : Option W) (l : List Nat) (y : Nat) : tst (.cmp .notin (.var 5) (.var 2)) (ev nc cl (.cmp .notin (.var 5) (.var 2))) [x, z1, some (.fl (lD l)), z3, z4, some (.d (.int (y : Nat)))] = .ok (!decide (y ∈ l)) [x, z1, some (.fl (lD l)), z3, z4, some (.d (.int (y : Nat)))] := by
  have := inD_lN y l
  simp [tst, opd, ev, rd, cmpop, this, truth]
theorem lap_s {g : List Nat} (z1 z3 : Option W) (met row : List Nat) (y : Nat) (hy : y < g.length) (h1 : met.length < 1000000) (h2 : row.length < 1000000) : runs nc cl lapW [some (.d (lN g)), z1, some (.fl (lD met)), z3, some (.fl (lD row)), some (.d (.int (y : Nat)))] =
    .nx [some (.d (lN g)), z1, some (.fl (lD (met ++ [y]))), z3, some (.fl (lD (row ++ [y]))), some (.d (.int (G g y : Nat)))] := by
  have a1 := app_lD (nc := nc) (cl := cl) (i := 4) (e := .var 5) (σ := [some (.d (lN g)), z1, some (.fl (lD met)), z3, some (.fl (lD row)), some (.d (.int (y : Nat)))]) (σ1 := [some (.d (lN g)), z1, some (.fl (lD met)), z3, some (.fl (lD row)), some (.d (.int (y : Nat)))]) (w := .d (.int (y : Nat))) rfl (by simp [ev, W.own]) rfl (by rw [lD_len]; exact h2)
  have a2 := app_lD (nc := nc) (cl := cl) (i := 2) (e := .var 5) (σ := [some (.d (lN g)), z1, some (.fl (lD met)), z3, some (.fl (lD (row ++ [y]))), some (.d (.int (y : Nat)))]) (σ1 := [some (.d (lN g)), z1, some (.fl (lD met)), z3, some (.fl (lD (row ++ [y]))), some (.d (.int (y : Nat)))]) (w := .d (.int (y : Nat))) rfl (by simp [ev, W.own]) rfl (by rw [lD_len]; exact h1)
  have e1 : ∀ l : List Nat, lD l ++ [(W.d (.int (y : Nat))).toD] = lD (l ++ [y]) := fun l => by rw [lD_app]; rfl
  rw [e1] at a1 a2
  have a3 : run nc cl (.set 5 (.ix (.var 0) (.var 5))) [some (.d (lN g)), z1, some (.fl (lD (met ++ [y]))), z3, some (.fl (lD (row ++ [y]))), some (.d (.int (y : Nat)))] = .nx [some (.d (lN g)), z1, some (.fl (lD (met ++ [y]))), z3, some (.fl (lD (row ++ [y]))), some (.d (.int (G g y : Nat)))] := by
    have := atI_lD hy
    simp [run, ev, opd, rd, ixD, this, Out.ofR, setS]
  rw [runs_nx a1]
  show runs nc cl _ [some (.d (lN g)), z1, some (.fl (lD met)), z3, some (.fl (lD (row ++ [y]))), some (.d (.int (y : Nat)))] = _
  rw [runs_nx a2]
  exact runs_one a3
theorem lap_p (x z1 z2 z4 z5 : Option W) (b : Nat) : run nc cl (.par [4, 5] [.lst [], .var 3]) [x, z1, z2, some (.d (.int (b : Nat))), z4, z5] = .nx [x, z1, z2, some (.d (.int (b : Nat))), some (.fl []), some (.d (.int (b : Nat)))] := by
  simp [run, evWs, ev, evDs, Out.ofR, setSs, W.own]
theorem lap_turn {g : List Nat} {n b : Nat} (hg : g.length = n) (hn : n ≤ 900) (hf : Pf (G g) n) (hb : b < n) (z4 z5 : Option W) :
    ∃ z4' z5', runs nc cl lapT [some (.d (lN g)), some (.fl ((laps (G g) n b).map tN)), some (.fl (lD (laps (G g) n b).flatten)), some (.d (.int (b : Nat))), z4, z5] =
      .nx [some (.d (lN g)), some (.fl ((laps (G g) n (b + 1)).map tN)), some (.fl (lD (laps (G g) n (b + 1)).flatten)), some (.d (.int (b : Nat))), z4', z5'] := by
  have e1 := lap_p (nc := nc) (cl := cl) (some (.d (lN g))) (some (.fl ((laps (G g) n b).map tN))) (some (.fl (lD (laps (G g) n b).flatten))) z4 z5 b
  have hbig : b * n ≤ 900 * 900 := Nat.mul_le_mul (by omega) hn
  have hfl := flat_le hf (b := b) (by omega)
  obtain ⟨p1, p2, p3, p4⟩ := per_is hf hb
  cases hm : minB (G g) n b with
  | false =>
    have hmem := (met_self hf hb).mpr hm
    obtain ⟨τ, e2, e3⟩ := whl_ok (nc := nc) (cl := cl) (n := 1000000) (m := 0) (c := .cmp .notin (.var 5) (.var 2)) (b := lapW) (σ := [some (.d (lN g)), some (.fl ((laps (G g) n b).map tN)), some (.fl (lD (laps (G g) n b).flatten)), some (.d (.int (b : Nat))), some (.fl []), some (.d (.int (b : Nat)))])
      (fun i τ => τ = [some (.d (lN g)), some (.fl ((laps (G g) n b).map tN)), some (.fl (lD (laps (G g) n b).flatten)), some (.d (.int (b : Nat))), some (.fl []), some (.d (.int (b : Nat)))])
      (fun τ => τ = [some (.d (lN g)), some (.fl ((laps (G g) n b).map tN)), some (.fl (lD (laps (G g) n b).flatten)), some (.d (.int (b : Nat))), some (.fl []), some (.d (.int (b : Nat)))]) (by omega) (fun i τ hi => absurd hi (Nat.not_lt_zero _)) (fun τ e => by
        subst e
        refine ⟨_, ?_, rfl⟩
        rw [lap_c, decide_eq_true hmem]; rfl) rfl
    subst e3
    refine ⟨some (.fl []), some (.d (.int (b : Nat))), ?_⟩
    rw [runs_nx e1, runs_nx e2, laps_succ, hm]
    have c1 : tst (.cmp .ne (.var 4) (.lst [])) (ev nc cl (.cmp .ne (.var 4) (.lst []))) [some (.d (lN g)), some (.fl ((laps (G g) n b).map tN)), some (.fl (lD (laps (G g) n b).flatten)), some (.d (.int (b : Nat))), some (.fl []), some (.d (.int (b : Nat)))] = .ok false [some (.d (lN g)), some (.fl ((laps (G g) n b).map tN)), some (.fl (lD (laps (G g) n b).flatten)), some (.d (.int (b : Nat))), some (.fl []), some (.d (.int (b : Nat)))] := by
      have : eqD (.lst []) (.lst []) = some true := (eqD_lN [] []).trans rfl
      simp [tst, opd, ev, evDs, rd, cmpop, this, truth]
    refine (runs_one (σ' := [some (.d (lN g)), some (.fl ((laps (G g) n b).map tN)), some (.fl (lD (laps (G g) n b).flatten)), some (.d (.int (b : Nat))), some (.fl []), some (.d (.int (b : Nat)))]) ?_).trans (by simp)
    rw [run_iteE c1]; rfl
  | true =>
    have hno : ∀ i, i < per (G g) n b → it (G g) i b ∉ (laps (G g) n b).flatten ++ (Rn i).map (fun j => it (G g) j b) := fun i hi z => by
      rcases List.mem_append.mp z with z | z
      · exact met_none hf hb hm ((mem_orb hf hb).mpr ⟨i, rfl⟩) z
      · obtain ⟨j, hj, e⟩ := List.mem_map.mp z
        exact orb_nd hf hb j i (List.mem_range.mp hj) hi e
    obtain ⟨τ, e2, e3⟩ := whl_ok (nc := nc) (cl := cl) (n := 1000000) (m := per (G g) n b) (c := .cmp .notin (.var 5) (.var 2)) (b := lapW) (σ := [some (.d (lN g)), some (.fl ((laps (G g) n b).map tN)), some (.fl (lD (laps (G g) n b).flatten)), some (.d (.int (b : Nat))), some (.fl []), some (.d (.int (b : Nat)))])
      (fun i τ => τ = [some (.d (lN g)), some (.fl ((laps (G g) n b).map tN)), some (.fl (lD ((laps (G g) n b).flatten ++ (Rn i).map fun j => it (G g) j b))), some (.d (.int (b : Nat))), some (.fl (lD ((Rn i).map fun j => it (G g) j b))), some (.d (.int (it (G g) i b : Nat)))])
      (fun τ => τ = [some (.d (lN g)), some (.fl ((laps (G g) n b).map tN)), some (.fl (lD ((laps (G g) n b).flatten ++ orb (G g) n b))), some (.d (.int (b : Nat))), some (.fl (lD (orb (G g) n b))), some (.d (.int (b : Nat)))]) (by omega) (fun i τ hi e => by
        subst e
        have e5 : ∀ M : List Nat, M ++ (Rn (i + 1)).map (fun j => it (G g) j b) = (M ++ (Rn i).map fun j => it (G g) j b) ++ [it (G g) i b] := fun M => by
          rw [show Rn (i + 1) = Rn i ++ [i] from List.range_succ, List.map_append, List.append_assoc]; rfl
        have s := lap_s (nc := nc) (cl := cl) (g := g) (some (.fl ((laps (G g) n b).map tN))) (some (.d (.int (b : Nat)))) ((laps (G g) n b).flatten ++ (Rn i).map fun j => it (G g) j b) ((Rn i).map fun j => it (G g) j b) (it (G g) i b) (by rw [hg]; exact it_lt hf hb i) (by simp [Rn]; simp at hfl; omega) (by simp [Rn]; omega)
        refine ⟨_, _, by rw [lap_c, decide_eq_false (hno i hi)]; rfl, s, ?_⟩
        have e6 := e5 []
        rw [List.nil_append, List.nil_append] at e6
        rw [e5, e6]; rfl) (fun τ e => by
        subst e
        rw [p3]
        refine ⟨_, ?_, rfl⟩
        have hin : b ∈ (laps (G g) n b).flatten ++ (Rn (per (G g) n b)).map (fun j => it (G g) j b) := List.mem_append_right _ (orb_self hf hb)
        rw [lap_c, decide_eq_true hin]; rfl) (by simp [Rn, it])
    subst e3
    have hne : orb (G g) n b ≠ [] := fun z => by
      have := orb_len (G g) n b
      rw [z] at this
      simp at this
      omega
    have c1 : tst (.cmp .ne (.var 4) (.lst [])) (ev nc cl (.cmp .ne (.var 4) (.lst []))) [some (.d (lN g)), some (.fl ((laps (G g) n b).map tN)), some (.fl (lD ((laps (G g) n b).flatten ++ orb (G g) n b))), some (.d (.int (b : Nat))), some (.fl (lD (orb (G g) n b))), some (.d (.int (b : Nat)))] =
        .ok true [some (.d (lN g)), some (.fl ((laps (G g) n b).map tN)), some (.fl (lD ((laps (G g) n b).flatten ++ orb (G g) n b))), some (.d (.int (b : Nat))), some (.fl (lD (orb (G g) n b))), some (.d (.int (b : Nat)))] := by
      have : eqD (.lst (lD (orb (G g) n b))) (.lst []) = some false := (eqD_lN (orb (G g) n b) []).trans (by rw [decide_eq_false hne])
      simp [tst, opd, ev, evDs, rd, cmpop, this, truth]
    have c2 := app_lD (nc := nc) (cl := cl) (i := 1) (e := .blt .tuple [.var 4]) (σ := [some (.d (lN g)), some (.fl ((laps (G g) n b).map tN)), some (.fl (lD ((laps (G g) n b).flatten ++ orb (G g) n b))), some (.d (.int (b : Nat))), some (.fl (lD (orb (G g) n b))), some (.d (.int (b : Nat)))])
      (σ1 := [some (.d (lN g)), some (.fl ((laps (G g) n b).map tN)), some (.fl (lD ((laps (G g) n b).flatten ++ orb (G g) n b))), some (.d (.int (b : Nat))), some (.fl (lD (orb (G g) n b))), some (.d (.int (b : Nat)))]) (w := .d (tN (orb (G g) n b))) rfl (by simp [ev, evOs, opd, rds, rd, bltop]) rfl (by
        rw [List.length_map]
        have := laps_lt (f := G g) (n := n) b
        omega)
    refine ⟨some (.fl (lD (orb (G g) n b))), some (.d (.int (b : Nat))), ?_⟩
    rw [runs_nx e1, runs_nx e2, laps_succ, hm]
    refine (runs_one (σ' := [some (.d (lN g)), some (.fl ((laps (G g) n b).map tN ++ [tN (orb (G g) n b)])), some (.fl (lD ((laps (G g) n b).flatten ++ orb (G g) n b))), some (.d (.int (b : Nat))), some (.fl (lD (orb (G g) n b))), some (.d (.int (b : Nat)))]) ?_).trans (by simp)
    rw [run_iteE c1, if_pos rfl]
    exact runs_one c2
theorem lap_ok {f : Nat} (h : P[f]? = some fLap) (k : Nat) {g : List Nat} {n : Nat} (hg : g.length = n) (hn : n ≤ 900) (hf : Pf (G g) n) : callN P nc (k + 1) f [.d (lN g)] = .ok (.fl ((laps (G g) n n).map tN)) [] := by
  have e0 : run nc (callN P nc k) (.par [1, 2] [.lst [], .lst []]) [some (.d (lN g)), none, none, none, none, none] = .nx [some (.d (lN g)), some (.fl []), some (.fl []), none, none, none] := by
    simp [run, evWs, ev, evDs, Out.ofR, setSs]
  obtain ⟨τ, e1, z3, z4, z5, e2⟩ := fr_ok (nc := nc) (cl := callN P nc k) (t := .nm 3) (it := .rng [.blt .len [.var 0]]) (b := lapT) (σ := [some (.d (lN g)), some (.fl []), some (.fl []), none, none, none]) (σ1 := [some (.d (lN g)), some (.fl []), some (.fl []), none, none, none]) (w := .fl (lD (Rn n))) (xs := lD (Rn n))
    (fun b τ => ∃ z3 z4 z5, τ = [some (.d (lN g)), some (.fl ((laps (G g) n b).map tN)), some (.fl (lD (laps (G g) n b).flatten)), z3, z4, z5]) (by
      have := rng_lD (show n ≤ 16777216 by omega)
      simp [ev, evOs, opd, rds, rd, bltop, lenD, hg, this]) rfl (by simp [Rn]; omega) (fun b d τ hd ⟨z3, z4, z5, e⟩ => by
      subst e
      have hb : b < n := by
        have := (List.getElem?_eq_some_iff.mp hd).1
        simpa [Rn] using this
      have ed : d = .int (b : Nat) := by
        rw [lD_get, Rn, List.getElem?_range hb] at hd
        exact (Option.some.inj hd).symm
      subst ed
      obtain ⟨z4', z5', e⟩ := lap_turn (nc := nc) (cl := callN P nc k) hg hn hf hb z4 z5
      exact ⟨_, _, rfl, e, _, _, _, rfl⟩) ⟨none, none, none, by simp [laps, Rn]⟩
  refine fn_rt (ds := [lN g]) (body := bLap) (st := [some (.d (lN g)), none, none, none, none, none]) (σ := τ.set 1 none) h rfl rfl rfl (Nat.le_of_ble_eq_true rfl) rfl rfl ?_
  unfold bLap
  rw [runs_nx e0, runs_nx e1, e2]
  simp [runs, run, Rn]
/-! ### crossings -/
theorem bin_okR {o : Bop} {a b : Ex} {σ σ1 σ2 : Sg} {ox oy : Opd} {x y : D} {w : W} (h1 : opd a (ev nc cl a) σ = .ok ox σ1) (h2 : opd b (ev nc cl b) σ1 = .ok oy σ2) (hx : rd σ2 ox = some x) (hy : rd σ2 oy = some y) (h3 : binop o x y = some w) : ev nc cl (.bin o a b) σ = .ok w σ2 := by
  unfold ev
  rw [h1, R.bind_ok, h2, R.bind_ok]
  simp only [hx, hy, Option.bind_some, h3]
  rfl
theorem opd_e {e : Ex} {σ σ1 : Sg} {w : W} (hv : ∀ i, e ≠ .var i) (h : ev nc cl e σ = .ok w σ1) : opd e (ev nc cl e) σ = .ok (.val w.toD) σ1 := by
  have : opd e (ev nc cl e) σ = (ev nc cl e σ).bind fun w σ' => .ok (.val w.toD) σ' := by
    cases e <;> first | rfl | exact absurd rfl (hv _)
  rw [this, h]; rfl
def bCrs : List Cl.St := [.set 2 (.con (.int 0)), .fr (.tp [.nm 3, .nm 4]) (.enm (.var 1)) [.set 2 (.bin .add (.var 2) (.blt .sum [.lc [5] (.nm 5) (.sl (.var 1) none (some (.var 3))) (some (.cmp .gt (.var 5) (.var 4))) (.bin .mul (.ix (.var 0) (.var 4)) (.ix (.var 0) (.var 5)))]))], .ret (.var 2)]
def fCrs : Fd := { np := 2, io := [], nn := 6, body := bCrs }
theorem sum_lN (l : List Nat) : bltop .sum [lN l] = some (.d (.int (l.sum : Nat))) := by
  show (intsD (lD l)).map (fun xs => W.d (.int xs.sum)) = _
  rw [lD_ints, Option.map_some, sum_cast]
theorem lcTurn_ok {own : List Nat} {t : Tg} {c e : Ex} {x : D} {σ σ1 : Sg} {b : Bool} {w : W} (ha : asg t x (wipeS σ own) = some σ1) (hc : tst c (ev nc cl c) σ1 = .ok b σ1) (he : b = true → ev nc cl e σ1 = .ok w σ1) (hw : wipeS σ1 own = σ) : lcTurn own t (evC nc cl (some c)) (ev nc cl e) x σ = .ok (if b then some w.toD else none) σ := by
  unfold lcTurn
  rw [ha]
  simp only [evC, hc, R.bind_ok]
  cases b with
  | false => simp only [Bool.false_eq_true, if_false, hw]
  | true => simp only [if_true, he rfl, R.bind_ok, hw]
/-- a list's number, where names stand for both -/
theorem ixv_ok {a b : Nat} {σ : Sg} {l : List Nat} {i : Nat} (ha : σ[a]? = some (some (.d (tN l)))) (hb : σ[b]? = some (some (.d (.int (i : Nat))))) (hi : i < l.length) : ev nc cl (.ix (.var a) (.var b)) σ = .ok (.d (.int (G l i : Nat))) σ := by
  simp only [ev, opd, ha, hb, R.bind_ok, rd, W.toD, Option.bind_some, ixD, atI_lD hi, Option.map_some, ofO_some]
theorem crs_turn {L O : List Nat} (hO : O.length ≤ 1000) (hm : ∀ r ∈ O, r < L.length) (h60 : ∀ p, G L p < 1000) (t i q : Nat) (hi : i ≤ O.length) (hq : q < L.length) (z5 : Option W) (h5 : ∀ w, z5 = some w → w.own = false) :
    runs nc cl [.set 2 (.bin .add (.var 2) (.blt .sum [.lc [5] (.nm 5) (.sl (.var 1) none (some (.var 3))) (some (.cmp .gt (.var 5) (.var 4))) (.bin .mul (.ix (.var 0) (.var 4)) (.ix (.var 0) (.var 5)))]))] [some (.d (tN L)), some (.d (tN O)), some (.d (.int (t : Nat))), some (.d (.int (i : Nat))), some (.d (.int (q : Nat))), z5] =
      .nx [some (.d (tN L)), some (.d (tN O)), some (.d (.int (t + S (O.take i) (fun r => if q < r then G L q * G L r else 0) : Nat))), some (.d (.int (i : Nat))), some (.d (.int (q : Nat))), z5] := by
  have e1 := lc_nat (nc := nc) (cl := cl) (own := [5]) (t := .nm 5) (it := .sl (.var 1) none (some (.var 3))) (c := some (.cmp .gt (.var 5) (.var 4))) (e := .bin .mul (.ix (.var 0) (.var 4)) (.ix (.var 0) (.var 5))) (σ := [some (.d (tN L)), some (.d (tN O)), some (.d (.int (t : Nat))), some (.d (.int (i : Nat))), some (.d (.int (q : Nat))), z5])
    (σ1 := [some (.d (tN L)), some (.d (tN O)), some (.d (.int (t : Nat))), some (.d (.int (i : Nat))), some (.d (.int (q : Nat))), z5]) (w := .d (tN (O.take i))) (l := O.take i) (fun r => decide (q < r)) (fun r => G L q * G L r) (by
      have := cut_to O i hi
      simp [ev, evI, opd, rd, slD, this]) rfl (by
      cases z5 with
      | none => rfl
      | some w => simp [plainAt, h5 w rfl]) (by simp; omega) (by simp [wipeS, backS]) fun r hr => by
      have hrL := hm r (List.mem_of_mem_take hr)
      have w1 : wipeS [some (.d (tN L)), some (.d (tN O)), some (.d (.int (t : Nat))), some (.d (.int (i : Nat))), some (.d (.int (q : Nat))), z5] [5] = [some (.d (tN L)), some (.d (tN O)), some (.d (.int (t : Nat))), some (.d (.int (i : Nat))), some (.d (.int (q : Nat))), none] := rfl
      rw [w1]
      have c1 : tst (.cmp .gt (.var 5) (.var 4)) (ev nc cl (.cmp .gt (.var 5) (.var 4))) [some (.d (tN L)), some (.d (tN O)), some (.d (.int (t : Nat))), some (.d (.int (i : Nat))), some (.d (.int (q : Nat))), some (.d (.int (r : Nat)))] = .ok (decide (q < r)) [some (.d (tN L)), some (.d (tN O)), some (.d (.int (t : Nat))), some (.d (.int (i : Nat))), some (.d (.int (q : Nat))), some (.d (.int (r : Nat)))] := by
        simp [tst, opd, ev, rd, cmpop, truth]
      have m1 := bin_okR (nc := nc) (cl := cl) (o := .mul) (a := .ix (.var 0) (.var 4)) (b := .ix (.var 0) (.var 5)) (opd_e (nc := nc) (cl := cl) (e := .ix (.var 0) (.var 4)) (σ := [some (.d (tN L)), some (.d (tN O)), some (.d (.int (t : Nat))), some (.d (.int (i : Nat))), some (.d (.int (q : Nat))), some (.d (.int (r : Nat)))]) (fun i z => by cases z) (ixv_ok rfl rfl hq)) (opd_e (e := .ix (.var 0) (.var 5)) (fun i z => by cases z) (ixv_ok rfl rfl hrL)) rfl rfl (mul_ok (G L q) (G L r) (h60 q))
      have := lcTurn_ok (nc := nc) (cl := cl) (own := [5]) (t := .nm 5) (σ := [some (.d (tN L)), some (.d (tN O)), some (.d (.int (t : Nat))), some (.d (.int (i : Nat))), some (.d (.int (q : Nat))), none]) (x := .int (r : Nat)) rfl c1 (fun _ => m1) rfl
      rw [this]; rfl
  have e2 := blt1_ok (nc := nc) (cl := cl) (b := .sum) (r := .d (.int (S (O.take i) (fun r => if q < r then G L q * G L r else 0) : Nat))) (fun i z => by cases z) e1 (by
    rw [show (W.fl (lD (((O.take i).filter fun r => decide (q < r)).map fun r => G L q * G L r))).toD = lN (((O.take i).filter fun r => decide (q < r)).map fun r => G L q * G L r) from rfl, sum_lN, S_sum, S_filter]
    simp only [decide_eq_true_eq])
  refine runs_one ((run_setE (w := .d (.int (t + S (O.take i) (fun r => if q < r then G L q * G L r else 0) : Nat))) (bin_okR (ox := .ref 2) (x := .int (t : Nat)) (y := .int (S (O.take i) (fun r => if q < r then G L q * G L r else 0) : Nat)) (σ1 := [some (.d (tN L)), some (.d (tN O)), some (.d (.int (t : Nat))), some (.d (.int (i : Nat))), some (.d (.int (q : Nat))), z5])
    rfl (opd_e (fun i z => by cases z) e2) rfl rfl rfl) (by simp)).trans ?_)
  rw [Int.natCast_add]; rfl
theorem crs_ok {f : Nat} (h : P[f]? = some fCrs) (k : Nat) {L O : List Nat} (v : LO L O) : callN P nc (k + 1) f [.d (tN L), .d (tN O)] = .ok (.d (.int (cr L O : Nat))) [] := by
  have ly := v.lay
  have hOl : O.length ≤ 6 := by rw [ly.len]; exact v.len.hi
  have h60 : ∀ p, G L p < 1000 := fun p => by
    rcases Nat.lt_or_ge p L.length with z | z
    · have := mem_le_sum (G_mem z)
      have := v.len.sum
      omega
    · unfold G
      rw [List.getD_eq_getElem?_getD, List.getElem?_eq_none z]; decide
  have e2 : run nc (callN P nc k) (.set 2 (.con (.int 0))) [some (.d (tN L)), some (.d (tN O)), none, none, none, none] = .nx [some (.d (tN L)), some (.d (tN O)), some (.d (.int (0 : Nat))), none, none, none] := by
    simp [run, ev, Out.ofR, setS]
  obtain ⟨τ, e3, t, z3, z4, z5, rfl, ht, _⟩ := fr_ok (nc := nc) (cl := callN P nc k) (t := .tp [.nm 3, .nm 4]) (it := .enm (.var 1)) (b := [.set 2 (.bin .add (.var 2) (.blt .sum [.lc [5] (.nm 5) (.sl (.var 1) none (some (.var 3))) (some (.cmp .gt (.var 5) (.var 4))) (.bin .mul (.ix (.var 0) (.var 4)) (.ix (.var 0) (.var 5)))]))])
    (σ := [some (.d (tN L)), some (.d (tN O)), some (.d (.int (0 : Nat))), none, none, none]) (σ1 := [some (.d (tN L)), some (.d (tN O)), some (.d (.int (0 : Nat))), none, none, none]) (w := .fl (enmL (lD O))) (xs := enmL (lD O))
    (fun i τ => ∃ (t : Nat) (z3 z4 z5 : Option W), τ = [some (.d (tN L)), some (.d (tN O)), some (.d (.int (t : Nat))), z3, z4, z5] ∧ t = cr L (O.take i) ∧ ∀ w, z5 = some w → w.own = false) (by simp [ev, seqD, W.own]) rfl (by rw [enm_len', lD_len]; omega) (fun i d τ hd ⟨t, z3, z4, z5, e, ht, h5⟩ => by
      subst e
      rw [enm_lD] at hd
      obtain ⟨q, hq, rfl⟩ := Option.map_eq_some_iff.mp hd
      have hi := (List.getElem?_eq_some_iff.mp hq).1
      have hqL := ly.mem.mp (List.mem_of_getElem? hq)
      have e' := crs_turn (nc := nc) (cl := callN P nc k) (by omega) (fun r hr => ly.mem.mp hr) h60 t i q (by omega) hqL z5 h5
      refine ⟨_, _, rfl, e', _, _, _, _, rfl, ?_, h5⟩
      have tk : O.take (i + 1) = O.take i ++ [q] := by rw [List.take_succ, hq]; rfl
      rw [tk, cr_app, ht]) ⟨0, none, none, none, rfl, by simp [cr], fun w hw => nomatch hw⟩
  refine fn_rt (ds := [tN L, tN O]) (body := bCrs) (st := [some (.d (tN L)), some (.d (tN O)), none, none, none, none]) (σ := [some (.d (tN L)), some (.d (tN O)), none, z3, z4, z5]) h rfl rfl rfl (Nat.le_of_ble_eq_true rfl) rfl rfl ?_
  rw [enm_len', lD_len, List.take_length] at ht
  unfold bCrs
  rw [runs_nx e2, runs_nx e3, ht]
  simp [runs, run]
/-! ### comparing -/
def bIs (s : Nat) : List Cl.St := [.ite (.isi (.var 1) true [.tuple, .list]) [.ite (.or (.cmp .ne (.isi (.var 0) false [.tuple]) (.isi (.var 1) false [.tuple])) (.cmp .ne (.isi (.var 0) false [.list]) (.isi (.var 1) false [.list]))) [.ret (.con (.bl false))] [], .ret (.and (.cmp .eq (.blt .len [.var 0]) (.blt .len [.var 1])) (.blt .all [.lc [2, 3] (.tp [.nm 2, .nm 3]) (.zip (.var 0) (.var 1)) none (.call s [.var 2, .var 3])]))] [], .ite (.or (.cmp .isN (.var 1) (.con .non)) (.cmp .isN (.var 0) (.con .non))) [.ret (.and (.cmp .isN (.var 1) (.con .non)) (.cmp .isN (.var 0) (.con .non)))] [], .ite (.or (.cmp .ne (.isi (.var 0) false [.bool]) (.isi (.var 1) false [.bool])) (.cmp .ne (.isi (.var 0) false [.int]) (.isi (.var 1) false [.int]))) [.ret (.con (.bl false))] [], .ret (.and (.cmp .eq (.isi (.var 0) false [.str]) (.isi (.var 1) false [.str])) (.cmp .eq (.var 0) (.var 1)))]
def fIs (s : Nat) : Fd := { np := 2, io := [], nn := 4, body := bIs s }
theorem eqD_bl (a b : Bool) : eqD (.bl a) (.bl b) = some (a == b) := rfl
theorem is_int {f : Nat} (h : P[f]? = some (fIs f)) (k : Nat) (a : Int) : callN P nc (k + 1) f [.d (.int a), .d (.int a)] = .ok (.d (.bl true)) [] := by
  refine fn_rt (ds := [.int a, .int a]) (body := bIs f) (st := [some (.d (.int a)), some (.d (.int a)), none, none]) (σ := [some (.d (.int a)), some (.d (.int a)), none, none]) h rfl rfl rfl (Nat.le_of_ble_eq_true rfl) rfl rfl ?_
  simp [bIs, runs, run, ev, opd, rd, tst, truth, cmpop, Out.ofR, isiD, isiOk, objBelow, D.isNon, eqD_bl]
theorem is_lN {f : Nat} (h : P[f]? = some (fIs f)) (k : Nat) (l : List Nat) (hl : l.length ≤ 1000) : callN P nc (k + 2) f [.d (lN l), .d (lN l)] = .ok (.d (.bl true)) [] := by
  have e := fun a => is_int (nc := nc) h k a
  refine fn_rt (ds := [lN l, lN l]) (body := bIs f) (st := [some (.d (lN l)), some (.d (lN l)), none, none]) (σ := [some (.d (lN l)), some (.d (lN l)), none, none]) h rfl rfl rfl (Nat.le_of_ble_eq_true rfl) rfl rfl ?_
  have ea := all_lc (nc := nc) (cl := callN P nc (k + 1)) (own := [2, 3]) (t := .tp [.nm 2, .nm 3]) (it := .zip (.var 0) (.var 1)) (e := .call f [.var 2, .var 3]) (σ := [some (.d (lN l)), some (.d (lN l)), none, none]) (w := .fl (List.zipWith (fun x y => D.tup [x, y]) (lD l) (lD l))) (xs := List.zipWith (fun x y => D.tup [x, y]) (lD l) (lD l)) (fun _ => true) (by simp [ev, zipD, W.own]) rfl rfl (by simp; omega) rfl fun d hd => by
    rw [List.zipWith_self] at hd
    obtain ⟨x, hx, rfl⟩ := List.mem_map.mp hd
    obtain ⟨y, hy, rfl⟩ := lD_mem hx
    have e' := e (y : Nat)
    simp [lcTurn, asg, asgs, wipeS, ev, evAs, callS, ioS, agWs, agW, putBack, e', W.own]
  have e0 : (List.zipWith (fun x y => D.tup [x, y]) (lD l) (lD l)).all (fun _ => true) = true := by simp
  rw [e0] at ea
  have e1 : ev nc (callN P nc (k + 1)) (.cmp .eq (.blt .len [.var 0]) (.blt .len [.var 1])) [some (.d (lN l)), some (.d (lN l)), none, none] = .ok (.d (.bl true)) [some (.d (lN l)), some (.d (lN l)), none, none] := by
    simp [ev, evOs, opd, rds, rd, bltop, lenD, cmpop]
  have e2 : ev nc (callN P nc (k + 1)) (.and (.cmp .eq (.blt .len [.var 0]) (.blt .len [.var 1])) (.blt .all [.lc [2, 3] (.tp [.nm 2, .nm 3]) (.zip (.var 0) (.var 1)) none (.call f [.var 2, .var 3])])) [some (.d (lN l)), some (.d (lN l)), none, none] = .ok (.d (.bl true)) [some (.d (lN l)), some (.d (lN l)), none, none] := by
    show R.bind (ev nc (callN P nc (k + 1)) (.cmp .eq (.blt .len [.var 0]) (.blt .len [.var 1])) _) _ = _
    rw [e1, R.bind_ok]
    simp only [ea, R.bind_ok]
  have t1 : tst (.isi (.var 1) true [.tuple, .list]) (ev nc (callN P nc (k + 1)) (.isi (.var 1) true [.tuple, .list])) [some (.d (lN l)), some (.d (lN l)), none, none] = .ok true [some (.d (lN l)), some (.d (lN l)), none, none] := by
    simp [tst, opd, ev, rd, truth, isiD, isiOk, objBelow]
  have t2 : tst (.or (.cmp .ne (.isi (.var 0) false [.tuple]) (.isi (.var 1) false [.tuple])) (.cmp .ne (.isi (.var 0) false [.list]) (.isi (.var 1) false [.list]))) (ev nc (callN P nc (k + 1)) (.or (.cmp .ne (.isi (.var 0) false [.tuple]) (.isi (.var 1) false [.tuple])) (.cmp .ne (.isi (.var 0) false [.list]) (.isi (.var 1) false [.list])))) [some (.d (lN l)), some (.d (lN l)), none, none] = .ok false [some (.d (lN l)), some (.d (lN l)), none, none] := by
    simp [tst, opd, ev, rd, truth, isiD, isiOk, objBelow, cmpop, eqD_bl]
  unfold bIs
  refine runs_rt ?_
  rw [run_iteE t1, if_pos rfl, runs_nx (by rw [run_iteE t2]; rfl)]
  exact runs_rt (run_retE (fun i z => by cases z) e2)
end
end Pl

/-! Pn, part A: what the laws on goals draw. -/
namespace Pl
open Cl Pm
section
variable {P : Pg} {nc : Nat}
variable {q : DK}
theorem Hand.own {h : W} (hh : Hand h) : h.own = true := by
  obtain ⟨cs, i, v, s, c, rfl, _⟩ := hh
  rfl
theorem agW_hand {h : W} (hh : Hand h) {σ : Sg} {i : Nat} (e : σ[i]? = some (some h)) : agW σ (.io i) = some h := by
  obtain ⟨cs, j, v, s, c, rfl, _⟩ := hh
  simp [agW, e]
/-! ### one of some things -/
def bAny (d : Nat) : List Cl.St := [.ret (.ix (.var 1) (.call d [.io 0, .blt .len [.var 1]]))]
def fAny (d : Nat) : Fd := { np := 2, io := [0], nn := 2, body := bAny d }
theorem any_ok {d f : Nat} (hd : P[d]? = some (fDrw q) ∧ q.ok = true) (hf : P[f]? = some (fAny d)) (k : Nat) (h : W) (xs : List D) (hh : Hand h) (h0 : 0 < xs.length) (hl : xs.length < 1000) :
    ∃ x h', x ∈ xs ∧ Hand h' ∧ callN P nc (k + 2) f [h, .d (.lst xs)] = .ok (.d x) [h'] := by
  obtain ⟨r, h', e, hh', b1, b2⟩ := draw_ok (nc := nc) hd k h xs.length hh (by omega) (by omega)
  have hr : r.toNat < xs.length := by omega
  refine ⟨xs[r.toNat], h', List.getElem_mem hr, hh', ?_⟩
  have e1 := callh (nc := nc) (cl := callN P nc (k + 1)) (f := d) (i := 0) (e := .blt .len [.var 1]) (σ := [some h, some (.d (.lst xs))]) (σ1 := [some h, some (.d (.lst xs))]) (x := .d (.int (xs.length : Nat))) (fun i z => by cases z) rfl (by simp [ev, evOs, opd, rds, rd, bltop, lenD]) rfl hh hh' e
  have ea : L2.atI xs r = some xs[r.toNat] := by
    unfold L2.atI L2.ixN
    rw [if_pos b1, if_pos b2]
    exact List.getElem?_eq_getElem hr
  have e2 : ev nc (callN P nc (k + 1)) (.ix (.var 1) (.call d [.io 0, .blt .len [.var 1]])) [some h, some (.d (.lst xs))] = .ok (.d xs[r.toNat]) [some h', some (.d (.lst xs))] := by
    show R.bind (R.bind (ev nc (callN P nc (k + 1)) (.call d [.io 0, .blt .len [.var 1]]) [some h, some (.d (.lst xs))]) _) _ = _
    rw [e1]
    simp [rd, ixD, ea]
  have er : runs nc (callN P nc (k + 1)) (bAny d) [some h, some (.d (.lst xs))] = .rt (.d xs[r.toNat]) [some h', some (.d (.lst xs))] := runs_rt (run_retE (fun i z => by cases z) e2)
  obtain ⟨cs, i, v, s, c, rfl, _⟩ := hh
  obtain ⟨cs', i', v', s', c', rfl, _⟩ := hh'
  exact call_rtE (fd := fAny d) hf rfl ⟨rfl, Nat.le_of_ble_eq_true rfl, rfl⟩ rfl rfl er rfl
/-! ### an order -/
def bOr2 (d : Nat) : List Cl.St := [.par [2, 3] [.lrg false [.var 1], .lst []], .whl 1000000 (.cmp .ne (.var 2) (.lst [])) [.expr (.mut .append 3 [.mut .popAt 2 [.call d [.io 0, .blt .len [.var 2]]]])], .ret (.blt .tuple [.var 3])]
def fOr2 (d : Nat) : Fd := { np := 2, io := [0], nn := 4, body := bOr2 d }
theorem or2_ok {d f : Nat} (hd : P[d]? = some (fDrw q) ∧ q.ok = true) (hf : P[f]? = some (fOr2 d)) (k : Nat) (h : W) (n : Nat) (hh : Hand h) (hn : n < 900) : ∃ h' O, Hand h' ∧ O.Perm (Rn n) ∧ callN P nc (k + 2) f [h, .d (.int (n : Nat))] = .ok (.d (tN O)) [h'] := by
  have ln : (Rn n).length = n := by simp [Rn]
  have e0 : run nc (callN P nc (k + 1)) (.par [2, 3] [.lrg false [.var 1], .lst []]) [some h, some (.d (.int (n : Nat))), none, none] = .nx [some h, some (.d (.int (n : Nat))), some (.fl (lD (Rn n))), some (.fl [])] := by
    simp [run, evWs, ev, evDs, evOs, opd, rds, rd, rng_lD (show n ≤ 16777216 by omega), Out.ofR, setSs]
  obtain ⟨τ, e1, h', o, e2, hh', ho⟩ := whl_ok (nc := nc) (cl := callN P nc (k + 1)) (n := 1000000) (m := n) (c := .cmp .ne (.var 2) (.lst [])) (b := [.expr (.mut .append 3 [.mut .popAt 2 [.call d [.io 0, .blt .len [.var 2]]]])])
    (σ := [some h, some (.d (.int (n : Nat))), some (.fl (lD (Rn n))), some (.fl [])])
    (fun i τ => ∃ h' l f, τ = [some h', some (.d (.int (n : Nat))), some (.fl (lD l)), some (.fl (lD f))] ∧ Hand h' ∧ l.length + i = n ∧ (f ++ l).Perm (Rn n))
    (fun τ => ∃ h' o, τ = [some h', some (.d (.int (n : Nat))), some (.fl []), some (.fl (lD o))] ∧ Hand h' ∧ o.Perm (Rn n)) (by omega) (fun i τ hi ⟨h', l, f, e, hh', hl', hp⟩ => by
      subst e
      have hpl := hp.length_eq
      rw [List.length_append, ln] at hpl
      obtain ⟨r, h2, hr, hh2, e⟩ := mixed_turn (nc := nc) hd k h' (some (.d (.int (n : Nat)))) l f hh' (by omega) (by omega) (by omega)
      refine ⟨_, _, ?_, e, h2, _, _, rfl, hh2, ?_, ?_⟩
      · have h3 : l ≠ [] := fun z => by subst z; simp at hl'; omega
        have h4 : cmpop .ne (.lst (lD l)) (.lst []) = some true := by
          have := eqD_lN l []
          show (eqD (lN l) (lN [])).map _ = _
          rw [this]; simp [h3]
        simp [tst, opd, ev, evDs, evOs, rds, rd, h4, truth]
      · rw [List.length_eraseIdx, if_pos hr]; omega
      · refine List.Perm.trans ?_ hp
        rw [List.append_assoc]
        refine List.Perm.append_left f ?_
        exact er_perm hr) (fun τ ⟨h', l, f, e, hh', hl', hp⟩ => by
      subst e
      have : l = [] := List.eq_nil_of_length_eq_zero (by omega)
      subst this
      rw [List.append_nil] at hp
      have h4 : cmpop .ne (.lst []) (.lst []) = some false := by
        have := eqD_lN [] []
        show (eqD (lN []) (lN [])).map _ = _
        rw [this]; simp
      exact ⟨[some h', some (.d (.int (n : Nat))), some (.fl []), some (.fl (lD f))], by simp [tst, opd, ev, evDs, evOs, rds, rd, h4, truth], h', f, rfl, hh', hp⟩) ⟨h, Rn n, [], rfl, hh, by rw [ln]; rfl, List.Perm.refl _⟩
  refine ⟨h', o, hh', ho, ?_⟩
  have er : runs nc (callN P nc (k + 1)) (bOr2 d) [some h, some (.d (.int (n : Nat))), none, none] = .rt (.d (tN o)) [some h', some (.d (.int (n : Nat))), some (.fl []), some (.fl (lD o))] := by
    unfold bOr2
    rw [runs_nx e0, runs_nx e1, e2]
    simp [runs, run, ev, evOs, opd, rds, rd, bltop, Out.ofR]
  obtain ⟨cs, i, v, s, c, rfl, _⟩ := hh
  obtain ⟨cs', i', v', s', c', rfl, _⟩ := hh'
  exact call_rtE (fd := fOr2 d) hf rfl ⟨rfl, Nat.le_of_ble_eq_true rfl, rfl⟩ rfl rfl er rfl
/-! ### a laying -/
def bLyn (d o : Nat) (m : Int) : List Cl.St := [.set 2 (.bin .add (.con (.int 1)) (.call d [.io 0, .con (.int m)])), .ret (.tup [.blt .tuple [.lc [3] (.nm 3) (.rng [.var 2]) none (.bin .add (.con (.int 1)) (.call d [.io 0, .var 1]))], .call o [.io 0, .var 2]])]
def fLyn (d o : Nat) (m : Int) : Fd := { np := 2, io := [0], nn := 4, body := bLyn d o m }
theorem sum_le_mul {s : Nat} : ∀ l : List Nat, (∀ x ∈ l, x ≤ s) → l.sum ≤ l.length * s
  | [], _ => by simp
  | a :: l, hl => by
    have h1 := hl a List.mem_cons_self
    have h2 := sum_le_mul l fun x hx => hl x (List.mem_cons_of_mem _ hx)
    rw [List.sum_cons, List.length_cons, Nat.succ_mul]
    omega
theorem lyn_ok {d o f m : Nat} (hd : P[d]? = some (fDrw q) ∧ q.ok = true) (ho : P[o]? = some (fOr2 d)) (hf : P[f]? = some (fLyn d o (m : Nat))) (k : Nat) (h : W) (s : Nat) (hh : Hand h) (hm0 : 0 < m) (hm6 : m ≤ 6) (hs0 : 0 < s) (hs : m * s ≤ 60) :
    ∃ h' L O, Hand h' ∧ LO L O ∧ L.length ≤ m ∧ (∀ x ∈ L, x ≤ s) ∧ callN P nc (k + 3) f [h, .d (.int (s : Nat))] = .ok (.d (.tup [tN L, tN O])) [h'] := by
  have hs60 : s ≤ 60 := Nat.le_trans (Nat.le_mul_of_pos_left s hm0) hs
  obtain ⟨r1, h1, c1, hh1, a1, b1⟩ := draw_ok (nc := nc) hd (k + 1) h m hh (by omega) (by omega)
  obtain ⟨many, em⟩ : ∃ n : Nat, 1 + r1 = (n : Nat) := ⟨(1 + r1).toNat, by omega⟩
  have p1 := plus1 (nc := nc) (cl := callN P nc (k + 2)) (f := d) (i := 0) (e := .con (.int (m : Nat))) (σ := [some h, some (.d (.int (s : Nat))), none, none]) (σ1 := [some h, some (.d (.int (s : Nat))), none, none]) (fun i z => by cases z) rfl (by simp [ev]) rfl hh hh1 c1
  have e0 : run nc (callN P nc (k + 2)) (.set 2 (.bin .add (.con (.int 1)) (.call d [.io 0, .con (.int (m : Nat))]))) [some h, some (.d (.int (s : Nat))), none, none] = .nx [some h1, some (.d (.int (s : Nat))), some (.d (.int (many : Nat))), none] := by
    rw [run_set, p1, em]; rfl
  obtain ⟨ys, σ', ec, ⟨h3, hh3, rfl⟩, hy, hlen⟩ := lcL_inv (f := lcTurn [3] (.nm 3) (evC nc (callN P nc (k + 2)) none) (ev nc (callN P nc (k + 2)) (.bin .add (.con (.int 1)) (.call d [.io 0, .var 1])))) (I := fun σ => ∃ h, Hand h ∧ σ = [some h, some (.d (.int (s : Nat))), some (.d (.int (many : Nat))), none])
    (G := fun _ y => ∃ r : Nat, y = .int (r : Nat) ∧ 1 ≤ r ∧ r ≤ s) (xs := lD (Rn many)) (acc := []) (σ := [some h1, some (.d (.int (s : Nat))), some (.d (.int (many : Nat))), none]) (fun x hx σ ⟨g, hg, eσ⟩ => by
      subst eσ
      obtain ⟨r, g', e, hg', r0, r1⟩ := draw_ok (nc := nc) hd (k + 1) g (s : Nat) hg (by omega) (by omega)
      have p := plus1 (nc := nc) (cl := callN P nc (k + 2)) (f := d) (i := 0) (e := .var 1) (σ := [some g, some (.d (.int (s : Nat))), some (.d (.int (many : Nat))), some (.d x)]) (σ1 := [some g, some (.d (.int (s : Nat))), some (.d (.int (many : Nat))), some (.d x)]) (fun i z => by cases z) rfl (by simp [ev, W.own]) rfl hg hg' e
      refine ⟨.int (1 + r), _, ?_, ⟨g', hg', rfl⟩, (1 + r).toNat, by congr 1; omega, by omega, by omega⟩
      show R.bind (ev nc (callN P nc (k + 2)) (.bin .add (.con (.int 1)) (.call d [.io 0, .var 1])) [some g, some (.d (.int (s : Nat))), some (.d (.int (many : Nat))), some (.d x)]) _ = _
      rw [p]; rfl) ⟨h1, hh1, rfl⟩
  obtain ⟨L, eL, hL⟩ := nats_of (ys := ys) (Q := fun r => 1 ≤ r ∧ r ≤ s) fun y hys => by
    obtain ⟨_, _, r, e, q⟩ := hy y hys
    exact ⟨r, e, q⟩
  have hLl : L.length = many := by
    rw [eL, lD_len, lD_len] at hlen
    simpa [Rn] using hlen
  rw [List.nil_append, eL] at ec
  have e2 := lc_ok (own := [3]) (t := .nm 3) (it := .rng [.var 2]) (c := none) (e := .bin .add (.con (.int 1)) (.call d [.io 0, .var 1])) (nc := nc) (cl := callN P nc (k + 2)) (σ := [some h1, some (.d (.int (s : Nat))), some (.d (.int (many : Nat))), none]) (σ1 := [some h1, some (.d (.int (s : Nat))), some (.d (.int (many : Nat))), none]) (w := .fl (lD (Rn many))) (xs := lD (Rn many)) (by
    simp [ev, evOs, opd, rds, rd, rng_lD (show many ≤ 16777216 by omega)]) rfl rfl (by simp [Rn]; omega) ec
  have e3 := blt1_ok (r := .d (tN L)) (b := .tuple) (fun i z => by cases z) e2 rfl
  obtain ⟨h4, O, hh4, hO, e4⟩ := or2_ok (nc := nc) hd ho k h3 many hh3 (by omega)
  have e5 := callh (nc := nc) (cl := callN P nc (k + 2)) (f := o) (i := 0) (e := .var 2) (σ := [some h3, some (.d (.int (s : Nat))), some (.d (.int (many : Nat))), none]) (σ1 := [some h3, some (.d (.int (s : Nat))), some (.d (.int (many : Nat))), none]) (x := .d (.int (many : Nat))) (fun i z => by cases z) rfl (by simp [ev, W.own]) rfl hh3 hh4 e4
  have hle : ∀ x ∈ L, x ≤ s := fun x hx => by have := (hL x hx).2; omega
  refine ⟨h4, L, O, hh4, ⟨⟨by omega, by omega, fun x hx => (hL x hx).1, ?_⟩, by rw [hLl]; exact hO⟩, by omega, hle, ?_⟩
  · have q1 := sum_le_mul L hle
    have q2 : L.length * s ≤ m * s := Nat.mul_le_mul_right s (by omega)
    omega
  have er : runs nc (callN P nc (k + 2)) (bLyn d o (m : Nat)) [some h, some (.d (.int (s : Nat))), none, none] = .rt (.d (.tup [tN L, tN O])) [some h4, some (.d (.int (s : Nat))), some (.d (.int (many : Nat))), none] := by
    unfold bLyn
    rw [runs_nx e0]
    refine runs_rt (run_retE (fun i z => by cases z) ?_)
    have : evDs nc (callN P nc (k + 2)) [.blt .tuple [.lc [3] (.nm 3) (.rng [.var 2]) none (.bin .add (.con (.int 1)) (.call d [.io 0, .var 1]))], .call o [.io 0, .var 2]] [some h1, some (.d (.int (s : Nat))), some (.d (.int (many : Nat))), none] = .ok [tN L, tN O] [some h4, some (.d (.int (s : Nat))), some (.d (.int (many : Nat))), none] := by
      show R.bind (ev nc (callN P nc (k + 2)) (.blt .tuple [.lc [3] (.nm 3) (.rng [.var 2]) none (.bin .add (.con (.int 1)) (.call d [.io 0, .var 1]))]) _) _ = _
      rw [e3, R.bind_ok]
      have e6 : backS [some h1, some (.d (.int (s : Nat))), some (.d (.int (many : Nat))), none] [some h3, some (.d (.int (s : Nat))), some (.d (.int (many : Nat))), none] [3] = [some h3, some (.d (.int (s : Nat))), some (.d (.int (many : Nat))), none] := rfl
      rw [e6]
      show R.bind (R.bind (ev nc (callN P nc (k + 2)) (.call o [.io 0, .var 2]) _) _) _ = _
      rw [e5]; rfl
    show R.bind (evDs nc (callN P nc (k + 2)) _ _) _ = _
    rw [this]; rfl
  obtain ⟨cs, i, v, t, c, rfl, _⟩ := hh
  obtain ⟨cs', i', v', s', c', rfl, _⟩ := hh4
  exact call_rtE (fd := fLyn d o (m : Nat)) hf rfl ⟨rfl, Nat.le_of_ble_eq_true rfl, rfl⟩ rfl rfl er rfl
end
end Pl

/-! Pn, part B: what is refused. -/
namespace Cl
section
variable {P : Pg} {nc k f : Nat} {fd : Fd} {cl : Calls}
theorem fn_exc {ds : List D} {c : Nat} {es : List D} {body : List Cl.St} {st σ : Sg} (hp : P[f]? = some fd) (hm : fd.mkC = none) (hio : fd.io = []) (hn : ds.length = fd.np) (hnn : fd.np ≤ fd.nn) (hb : fd.body = body) (hs : (ds.map fun d => some (W.d d)) ++ List.replicate (fd.nn - fd.np) none = st)
    (hr : runs nc (callN P nc k) body st = .exc c es σ) : callN P nc (k + 1) f (ds.map W.d) = .exc c es [] := by
  subst hb
  have hr' : runs nc (callN P nc k) fd.body ((ds.map W.d).map some ++ List.replicate (fd.nn - fd.np) none) = .exc c es σ := by
    rw [List.map_map, ← hr, ← hs]
    rfl
  rw [callN]
  simp only [hp, hm]
  rw [if_pos ⟨by rw [List.length_map]; exact hn, hnn, by rw [hio]; exact ioOk_d ds⟩, hr']
  simp only [ownIx_d]
  rfl
theorem evDs_cs {e : Ex} {es : List Ex} {σ σ1 σ2 : Sg} {w : W} {ds : List D} (h1 : ev nc cl e σ = .ok w σ1) (h2 : evDs nc cl es σ1 = .ok ds σ2) : evDs nc cl (e :: es) σ = .ok (w.toD :: ds) σ2 := by
  show R.bind (ev nc cl e σ) _ = _
  rw [h1, R.bind_ok]
  show R.bind (evDs nc cl es σ1) _ = _
  rw [h2]; rfl
theorem ev_lstE {es : List Ex} {σ σ1 : Sg} {ds : List D} (h : evDs nc cl es σ = .ok ds σ1) : ev nc cl (.lst es) σ = .ok (.fl ds) σ1 := by
  show R.bind (evDs nc cl es σ) _ = _
  rw [h]; rfl
theorem ev_tupE {es : List Ex} {σ σ1 : Sg} {ds : List D} (h : evDs nc cl es σ = .ok ds σ1) : ev nc cl (.tup es) σ = .ok (.d (.tup ds)) σ1 := by
  show R.bind (evDs nc cl es σ) _ = _
  rw [h]; rfl
/-- o(a, b), a and b no names -/
theorem ev_binE {o : Bop} {a b : Ex} {σ σ1 σ2 : Sg} {x y w : W} (ha : ∀ i, a ≠ .var i) (hb : ∀ i, b ≠ .var i) (h1 : ev nc cl a σ = .ok x σ1) (h2 : ev nc cl b σ1 = .ok y σ2) (h3 : binop o x.toD y.toD = some w) : ev nc cl (.bin o a b) σ = .ok w σ2 := by
  have o1 : opd a (ev nc cl a) σ = .ok (.val x.toD) σ1 := by
    have : opd a (ev nc cl a) σ = (ev nc cl a σ).bind fun w σ' => .ok (.val w.toD) σ' := by
      cases a <;> first | rfl | exact absurd rfl (ha _)
    rw [this, h1]; rfl
  have o2 : opd b (ev nc cl b) σ1 = .ok (.val y.toD) σ2 := by
    have : opd b (ev nc cl b) σ1 = (ev nc cl b σ1).bind fun w σ' => .ok (.val w.toD) σ' := by
      cases b <;> first | rfl | exact absurd rfl (hb _)
    rw [this, h2]; rfl
  exact Pl.bin_ok o1 o2 h3
theorem runs_exc {s : Cl.St} {ss : List Cl.St} {σ τ : Sg} {c : Nat} {es : List D} (h : run nc cl s σ = .exc c es τ) : runs nc cl (s :: ss) σ = .exc c es τ := by rw [runs_cons, h]; rfl
end
end Cl
namespace Pl
open Cl Pm
section
variable {P : Pg} {nc : Nat} {rc : List Cl.St}
/-- two of other sizes -/
def bTwo (c e : Nat) (K : Nat → List (Nat × Nat)) : List Cl.St := [.expr (.call c [.var 0]), .expr (.call c [.var 1]), .ite (.cmp .ne (.fld (.var 0) (K 3)) (.fld (.var 1) (K 3))) [.rse e []] []]
def fTwo (c e : Nat) (K : Nat → List (Nat × Nat)) : Fd := { np := 2, io := [], nn := 2, body := bTwo c e K }
theorem two_no {c e f : Nat} {K : Nat → List (Nat × Nat)} (hn : 0 < nc) (hc : P[c]? = some (fChk rc)) (hf : P[f]? = some (fTwo c e K)) (hK : KOk K) (k : Nat) {L O L' O' : List Nat} (h : L.sum ≠ L'.sum) : callN P nc (k + 2) f [.d (oL L O), .d (oL L' O')] = .exc e [] [] := by
  refine fn_exc (ds := [oL L O, oL L' O']) (body := bTwo c e K) (st := [some (.d (oL L O)), some (.d (oL L' O'))]) (σ := [some (.d (oL L O)), some (.d (oL L' O'))]) hf rfl rfl rfl (Nat.le_of_ble_eq_true rfl) rfl rfl ?_
  have h1 : callN P nc (k + 1) c [.d (oL L O)] = .ok (.d .non) [] := chk_ok hc k _ hn
  have h2 : callN P nc (k + 1) c [.d (oL L' O')] = .ok (.d .non) [] := chk_ok hc k _ hn
  have f1 := fld_oL hK L O 3
  have f2 := fld_oL hK L' O' 3
  have h3 : cmpop .ne (.int (L.sum : Nat)) (.int (L'.sum : Nat)) = some true := by
    show some (!decide (((L.sum : Nat) : Int) = (L'.sum : Nat))) = _
    have : ¬ ((L.sum : Nat) : Int) = (L'.sum : Nat) := by omega
    simp [this]
  simp [bTwo, runs, run, ev, evAs, evDs, opd, rd, tst, truth, Out.ofR, callS, ioS, agWs, agW, putBack, h1, h2, f1, f2, oF, h3, W.own]
theorem two_ok {c e f : Nat} {K : Nat → List (Nat × Nat)} (hn : 0 < nc) (hc : P[c]? = some (fChk rc)) (hf : P[f]? = some (fTwo c e K)) (hK : KOk K) (k : Nat) {L O L' O' : List Nat} (h : L.sum = L'.sum) : callN P nc (k + 2) f [.d (oL L O), .d (oL L' O')] = .ok (.d .non) [] := by
  refine fn_nx (ds := [oL L O, oL L' O']) (body := bTwo c e K) (st := [some (.d (oL L O)), some (.d (oL L' O'))]) (σ := [some (.d (oL L O)), some (.d (oL L' O'))]) hf rfl rfl rfl (Nat.le_of_ble_eq_true rfl) rfl rfl ?_
  have h1 : callN P nc (k + 1) c [.d (oL L O)] = .ok (.d .non) [] := chk_ok hc k _ hn
  have h2 : callN P nc (k + 1) c [.d (oL L' O')] = .ok (.d .non) [] := chk_ok hc k _ hn
  have f1 := fld_oL hK L O 3
  have f2 := fld_oL hK L' O' 3
  have h3 : cmpop .ne (.int (L.sum : Nat)) (.int (L'.sum : Nat)) = some false := by
    rw [h]
    show some (!decide (((L'.sum : Nat) : Int) = (L'.sum : Nat))) = _
    simp
  simp [bTwo, runs, run, ev, evAs, evDs, opd, rd, tst, truth, Out.ofR, callS, ioS, agWs, agW, putBack, h1, h2, f1, f2, oF, h3, W.own]
/-- a row -/
def bRow (c i e : Nat) (K : Nat → List (Nat × Nat)) : List Cl.St := [.expr (.call c [.var 0]), .ite (.or (.not (.isi (.var 1) false [.tuple])) (.cmp .ne (.blt .len [.var 1]) (.fld (.var 0) (K 3)))) [.rse e []] [], .ite (.not (.blt .all [.lc [2] (.nm 2) (.var 1) none (.and (.call i [.var 2]) (.cmp .lt (.blt .abs [.var 2]) (.con (.int 1000000000))))])) [.rse e []] []]
def fRow (c i e : Nat) (K : Nat → List (Nat × Nat)) : Fd := { np := 2, io := [], nn := 3, body := bRow c i e K }
section
variable {c i e f : Nat} {K : Nat → List (Nat × Nat)}
theorem row_len (hn : 0 < nc) (hc : P[c]? = some (fChk rc)) (hf : P[f]? = some (fRow c i e K)) (hK : KOk K) (k : Nat) {L O : List Nat} {xs : List D} (h : xs.length ≠ L.sum) : callN P nc (k + 2) f [.d (oL L O), .d (.tup xs)] = .exc e [] [] := by
  refine fn_exc (ds := [oL L O, .tup xs]) (body := bRow c i e K) (st := [some (.d (oL L O)), some (.d (.tup xs)), none]) (σ := [some (.d (oL L O)), some (.d (.tup xs)), none]) hf rfl rfl rfl (Nat.le_of_ble_eq_true rfl) rfl rfl ?_
  have h1 : callN P nc (k + 1) c [.d (oL L O)] = .ok (.d .non) [] := chk_ok hc k _ hn
  have f1 := fld_oL hK L O 3
  have h3 : cmpop .ne (.int (xs.length : Nat)) (.int (L.sum : Nat)) = some true := by
    show some (!decide (((xs.length : Nat) : Int) = (L.sum : Nat))) = _
    have : ¬ ((xs.length : Nat) : Int) = (L.sum : Nat) := by omega
    simp [this]
  simp [bRow, runs, run, ev, evAs, evDs, evOs, opd, rd, rds, tst, truth, Out.ofR, callS, ioS, agWs, agW, putBack, h1, f1, oF, h3, W.own, isiD, isiOk, objBelow, bltop, lenD]
theorem row_no (hn : 0 < nc) (hc : P[c]? = some (fChk rc)) (hf : P[f]? = some (fRow c i e K)) (k : Nat) {L O : List Nat} {x : D} (h : isiD x .tuple = false) (o : isiOk x = true) (b : objBelow nc x = true) : callN P nc (k + 2) f [.d (oL L O), .d x] = .exc e [] [] := by
  refine fn_exc (ds := [oL L O, x]) (body := bRow c i e K) (st := [some (.d (oL L O)), some (.d x), none]) (σ := [some (.d (oL L O)), some (.d x), none]) hf rfl rfl rfl (Nat.le_of_ble_eq_true rfl) rfl rfl ?_
  have h1 : callN P nc (k + 1) c [.d (oL L O)] = .ok (.d .non) [] := chk_ok hc k _ hn
  simp [bRow, runs, run, ev, evAs, evDs, evOs, opd, rd, rds, tst, truth, Out.ofR, callS, ioS, agWs, agW, putBack, h1, h, o, b, W.own]
/-- whether a thing is an integer of at most nine digits -/
def isNine : D → Bool
  | .int x => decide ((if x < 0 then -x else x) < 1000000000)
  | _ => false
theorem row_all (hn : 0 < nc) (hi : P[i]? = some fInt) (k : Nat) (L O : List Nat) (xs : List D) (hl : xs.length ≤ 1000) (h : ∀ x ∈ xs, isiOk x = true ∧ objBelow nc x = true) :
    ev nc (callN P nc (k + 1)) (.blt .all [.lc [2] (.nm 2) (.var 1) none (.and (.call i [.var 2]) (.cmp .lt (.blt .abs [.var 2]) (.con (.int 1000000000))))]) [some (.d (oL L O)), some (.d (.tup xs)), none] = .ok (.d (.bl (xs.all isNine))) [some (.d (oL L O)), some (.d (.tup xs)), none] := by
  refine all_lc (w := .d (.tup xs)) (xs := xs) isNine (by simp [ev, W.own]) rfl rfl (by omega) rfl fun x hx => ?_
  obtain ⟨o, b⟩ := h x hx
  have e := int_ok (nc := nc) hi k x o b
  cases x <;> simp [lcTurn, asg, wipeS, ev, evAs, evOs, evC, opd, rds, rd, callS, ioS, agWs, agW, putBack, e, isInt, isNine, W.own, bltop, cmpop]
theorem row_bad (hn : 0 < nc) (hc : P[c]? = some (fChk rc)) (hi : P[i]? = some fInt) (hf : P[f]? = some (fRow c i e K)) (hK : KOk K) (k : Nat) {L O : List Nat} {xs : List D} (hl : xs.length = L.sum) (hs : L.sum ≤ 1000) (h : ∀ x ∈ xs, isiOk x = true ∧ objBelow nc x = true) (ha : xs.all isNine = false) : callN P nc (k + 2) f [.d (oL L O), .d (.tup xs)] = .exc e [] [] := by
  refine fn_exc (ds := [oL L O, .tup xs]) (body := bRow c i e K) (st := [some (.d (oL L O)), some (.d (.tup xs)), none]) (σ := [some (.d (oL L O)), some (.d (.tup xs)), none]) hf rfl rfl rfl (Nat.le_of_ble_eq_true rfl) rfl rfl ?_
  have h1 : callN P nc (k + 1) c [.d (oL L O)] = .ok (.d .non) [] := chk_ok hc k _ hn
  have f1 := fld_oL hK L O 3
  have h3 : cmpop .ne (.int (xs.length : Nat)) (.int (L.sum : Nat)) = some false := by
    rw [hl]
    show some (!decide (((L.sum : Nat) : Int) = (L.sum : Nat))) = _
    simp
  have h4 := row_all (nc := nc) hn hi k L O xs (by omega) h
  rw [ha] at h4
  unfold bRow
  rw [runs_nx (run_exprE (w := .d .non) (σ1 := [some (.d (oL L O)), some (.d (.tup xs)), none]) (by simp [ev, evAs, callS, ioS, agWs, agW, putBack, h1, W.own]))]
  rw [runs_nx (τ := [some (.d (oL L O)), some (.d (.tup xs)), none]) (by simp [runs, run, ev, evAs, evDs, evOs, opd, rd, rds, tst, truth, Out.ofR, f1, oF, h3, W.own, isiD, isiOk, objBelow, bltop, lenD])]
  refine runs_exc ?_
  have h5 : tst (.not (.blt .all [.lc [2] (.nm 2) (.var 1) none (.and (.call i [.var 2]) (.cmp .lt (.blt .abs [.var 2]) (.con (.int 1000000000))))])) (ev nc (callN P nc (k + 1)) (.not (.blt .all [.lc [2] (.nm 2) (.var 1) none (.and (.call i [.var 2]) (.cmp .lt (.blt .abs [.var 2]) (.con (.int 1000000000))))]))) [some (.d (oL L O)), some (.d (.tup xs)), none] = .ok true [some (.d (oL L O)), some (.d (.tup xs)), none] := by
    have h6 : ev nc (callN P nc (k + 1)) (.not (.blt .all [.lc [2] (.nm 2) (.var 1) none (.and (.call i [.var 2]) (.cmp .lt (.blt .abs [.var 2]) (.con (.int 1000000000))))])) [some (.d (oL L O)), some (.d (.tup xs)), none] = .ok (.d (.bl true)) [some (.d (oL L O)), some (.d (.tup xs)), none] := by
      show R.bind (R.bind (R.bind (ev nc (callN P nc (k + 1)) (.blt .all _) _) _) _) _ = _
      rw [h4]; rfl
    show R.bind (R.bind (ev nc (callN P nc (k + 1)) (.not _) _) _) _ = _
    rw [h6]; rfl
  rw [run_iteE h5]
  simp [runs, run, evDs, Out.ofR]
theorem row_ok (hn : 0 < nc) (hc : P[c]? = some (fChk rc)) (hi : P[i]? = some fInt) (hf : P[f]? = some (fRow c i e K)) (hK : KOk K) (k : Nat) {L O : List Nat} {xs : List D} (hl : xs.length = L.sum) (hs : L.sum ≤ 1000) (h : ∀ x ∈ xs, isiOk x = true ∧ objBelow nc x = true) (ha : xs.all isNine = true) : callN P nc (k + 2) f [.d (oL L O), .d (.tup xs)] = .ok (.d .non) [] := by
  refine fn_nx (ds := [oL L O, .tup xs]) (body := bRow c i e K) (st := [some (.d (oL L O)), some (.d (.tup xs)), none]) (σ := [some (.d (oL L O)), some (.d (.tup xs)), none]) hf rfl rfl rfl (Nat.le_of_ble_eq_true rfl) rfl rfl ?_
  have h1 : callN P nc (k + 1) c [.d (oL L O)] = .ok (.d .non) [] := chk_ok hc k _ hn
  have f1 := fld_oL hK L O 3
  have h3 : cmpop .ne (.int (xs.length : Nat)) (.int (L.sum : Nat)) = some false := by
    rw [hl]
    show some (!decide (((L.sum : Nat) : Int) = (L.sum : Nat))) = _
    simp
  have h4 := row_all (nc := nc) hn hi k L O xs (by omega) h
  rw [ha] at h4
  unfold bRow
  rw [runs_nx (run_exprE (w := .d .non) (σ1 := [some (.d (oL L O)), some (.d (.tup xs)), none]) (by simp [ev, evAs, callS, ioS, agWs, agW, putBack, h1, W.own]))]
  rw [runs_nx (τ := [some (.d (oL L O)), some (.d (.tup xs)), none]) (by simp [runs, run, ev, evAs, evDs, evOs, opd, rd, rds, tst, truth, Out.ofR, f1, oF, h3, W.own, isiD, isiOk, objBelow, bltop, lenD])]
  have h5 : tst (.not (.blt .all [.lc [2] (.nm 2) (.var 1) none (.and (.call i [.var 2]) (.cmp .lt (.blt .abs [.var 2]) (.con (.int 1000000000))))])) (ev nc (callN P nc (k + 1)) (.not (.blt .all [.lc [2] (.nm 2) (.var 1) none (.and (.call i [.var 2]) (.cmp .lt (.blt .abs [.var 2]) (.con (.int 1000000000))))]))) [some (.d (oL L O)), some (.d (.tup xs)), none] = .ok false [some (.d (oL L O)), some (.d (.tup xs)), none] := by
    have h6 : ev nc (callN P nc (k + 1)) (.not (.blt .all [.lc [2] (.nm 2) (.var 1) none (.and (.call i [.var 2]) (.cmp .lt (.blt .abs [.var 2]) (.con (.int 1000000000))))])) [some (.d (oL L O)), some (.d (.tup xs)), none] = .ok (.d (.bl false)) [some (.d (oL L O)), some (.d (.tup xs)), none] := by
      show R.bind (R.bind (R.bind (ev nc (callN P nc (k + 1)) (.blt .all _) _) _) _) _ = _
      rw [h4]; rfl
    show R.bind (R.bind (ev nc (callN P nc (k + 1)) (.not _) _) _) _ = _
    rw [h6]; rfl
  refine runs_one ?_
  rw [run_iteE h5]
  rfl
end
theorem app_ok {xs : List D} {d : D} (h : xs.length < 1000) : mutop .append (.fl xs) [d] = some (.non, .fl (xs ++ [d])) := by
  unfold mutop
  simp only [if_pos (line_lt (show xs.length < 1000000 by omega))]
/-! ### x * n -/
theorem rep1 (x : D) : ∀ n : Nat, (List.replicate n [x]).flatten = List.replicate n x
  | 0 => rfl
  | n + 1 => by rw [List.replicate_succ, List.flatten_cons, rep1 x n]; rfl
theorem tmul {x : D} {n : Nat} (h1 : 1 ≤ n) (h2 : n ≤ 1000) : binop .mul (.tup [x]) (.int (n : Nat)) = some (.d (.tup (List.replicate n x))) := by
  unfold binop
  have h : ([x] : List D) ≠ [] ∧ (1 : Int) ≤ (n : Nat) ∧ ((n : Nat) : Int) ≤ 1000 ∧ [x].length ≤ 1000 := ⟨by simp, by omega, by omega, by simp⟩
  simp only [if_pos h]
  rw [show ((n : Nat) : Int).toNat = n by omega, rep1]
theorem lmul {x : D} {n : Nat} (h2 : n ≤ 1000) : binop .mul (.lst [x]) (.int (n : Nat)) = some (.fl (List.replicate n x)) := by
  unfold binop
  have e : ((n : Nat) : Int).toNat = n := by omega
  have h : -(2 ^ 63) ≤ ((n : Nat) : Int) ∧ ((n : Nat) : Int) < 2 ^ 63 ∧ [x].length * ((n : Nat) : Int).toNat ≤ PySem.sizeLine := ⟨by omega, by omega, by rw [PySem.sizeLine_eq, e, List.length_singleton]; omega⟩
  simp only [if_pos h]
  rw [e, rep1]
/-! ### repr -/
theorem narN : ∀ l : List Nat, (∀ x ∈ l, x ≤ 1000000) → D.nars (lD l) = true
  | [], _ => rfl
  | a :: l, h => by
    have h1 := h a List.mem_cons_self
    rw [lD_cons, D.nars, narN l fun x hx => h x (List.mem_cons_of_mem _ hx)]
    show (decide (((a : Nat) : Int).natAbs < 10 ^ 60) && true) = true
    have h2 : ((a : Nat) : Int).natAbs < 10 ^ 60 := by
      have : ((a : Nat) : Int).natAbs = a := by omega
      rw [this]
      exact Nat.lt_of_le_of_lt h1 (by decide)
    rw [decide_eq_true h2]; rfl
theorem blkN : ∀ l : List Nat, D.blks (lD l) = l.length
  | [] => rfl
  | a :: l => by
    rw [lD_cons, D.blks, blkN l]
    show 0 + 1 + l.length = _
    rw [List.length_cons]; omega
theorem rpr_ok {d : D} (h1 : d.ok = true) (h2 : d.nar = true) (h3 : d.blk ≤ 100000) : rprD d = some d.py.shown := by
  unfold rprD
  rw [h1, h2, decide_eq_true h3]; rfl
theorem perm_le {O : List Nat} {n : Nat} (h : O.Perm (Rn n)) : ∀ x ∈ O, x ≤ n := fun x hx => by
  have := h.mem_iff.mp hx
  simp [Rn] at this
  omega
theorem rpr_LO {L O : List Nat} (v : LO L O) : rprD (.tup [tN L, tN O]) = some (D.py (.tup [tN L, tN O])).shown := by
  have hO : O.length = L.length := by rw [v.pm.length_eq]; simp [Rn]
  refine rpr_ok ?_ ?_ ?_
  · show D.okN 60 (.tup [tN L, tN O]) = true
    simp [D.okN, D.okNs, okNs_lD]
  · have h1 := narN L fun x hx => by have := mem_le_sum hx; have := v.len.sum; omega
    have h2 := narN O fun x hx => by have := perm_le v.pm x hx; have := v.len.hi; omega
    simp [D.nar, D.nars, h1, h2]
  · simp only [D.blk, D.blks, blkN]
    have := v.len.hi
    omega
theorem eqD_str (a : PySem.Str) : cmpop .ne (.str a) (.str a) = some false := by
  show (some (decide (a = a))).map _ = _
  simp
end
end Pl

/-! Pn, part C: rows on layings. -/
namespace Pl
open Cl Pm
section
variable {P : Pg} {nc : Nat} {rc : List Cl.St} {cl : Calls}
/-- a row of integers -/
abbrev iD (r : List Int) : List D := r.map D.int
abbrev rT (r : List Int) : D := .tup (iD r)
theorem iD_ints : ∀ r : List Int, intsD (iD r) = some r
  | [] => rfl
  | a :: r => by rw [iD, List.map_cons, intsD, iD_ints r]; rfl
theorem atI_iD {r : List Int} {p : Nat} (h : p < r.length) : L2.atI (iD r) (p : Int) = some (.int (Rr r p)) := by
  unfold L2.atI L2.ixN
  rw [if_pos (by omega), if_pos (by simp; omega)]
  simp [Rr, List.getD_eq_getElem?_getD, List.getElem?_eq_getElem h]
theorem setop_iD {f : List Int} {p : Nat} {t : Int} (h : p < f.length) : setop (.fl (iD f)) (.int (p : Nat)) (.int t) = some (.fl (iD (f.set p t))) := by
  have e : L2.ixN (iD f).length (p : Nat) = some p := by
    unfold L2.ixN
    rw [if_pos (by omega), if_pos (by simp; omega)]
    simp
  show Option.map (fun j => W.fl ((iD f).set j (.int t))) (L2.ixN (iD f).length (p : Nat)) = _
  rw [e, Option.map_some]
  simp [iD, List.map_set]
theorem isInt_all {r : List Int} (h : ∀ x ∈ r, -1000000000 < x ∧ x < 1000000000) : (iD r).all isNine = true := by
  rw [List.all_eq_true]
  intro d hd
  obtain ⟨x, hx, rfl⟩ := List.mem_map.mp hd
  have := h x hx
  show decide ((if x < 0 then -x else x) < 1000000000) = true
  refine decide_eq_true ?_
  split <;> omega
theorem sum_lc {own : List Nat} {t : Tg} {it e : Ex} {σ : Sg} {w : W} {xs : List D} (g : D → Int) (hi : ev nc cl it σ = .ok w σ) (hx : itemsD w.toD = some xs) (hp : own.all (plainAt σ) = true) (hl : xs.length ≤ 1000000)
    (hb : backS σ (wipeS σ own) own = σ) (h : ∀ x ∈ xs, lcTurn own t none (ev nc cl e) x (wipeS σ own) = .ok (some (.int (g x))) (wipeS σ own)) : ev nc cl (.blt .sum [.lc own t it none e]) σ = .ok (.d (.int (xs.map g).sum)) σ := by
  refine blt1_ok (fun i z => by cases z) (lc_map (fun x => .int (g x)) hi hx hp hl hb h) ?_
  have : xs.map (fun x => D.int (g x)) = iD (xs.map g) := by rw [iD, List.map_map]; rfl
  show (intsD (xs.map fun x => .int (g x))).map (fun ns => W.d (.int ns.sum)) = _
  rw [this, iD_ints]; rfl
/-- what numbers a tuple holds -/
def unN : D → List Nat
  | .tup ds => ds.map fun d => match d with
    | .int i => i.toNat
    | _ => 0
  | _ => []
theorem unN_tN (l : List Nat) : unN (tN l) = l := by
  show (lD l).map _ = l
  unfold lD
  rw [List.map_map]
  conv => rhs; rw [← List.map_id l]
  refine List.map_congr_left fun x _ => ?_
  show ((x : Nat) : Int).toNat = x
  omega
def unI : D → Nat
  | .int i => i.toNat
  | _ => 0
theorem enm_R (l : List Nat) : enmL (lD l) = (Rn l.length).map fun i => D.tup [.int (i : Nat), .int (G l i : Nat)] := by
  refine List.ext_getElem? fun i => ?_
  rw [enm_lD, List.getElem?_map]
  by_cases h : i < l.length
  · rw [Rn, List.getElem?_range h, G_get h]; rfl
  · rw [List.getElem?_eq_none (by omega), List.getElem?_eq_none (by simp [Rn]; omega)]; rfl
/-! ### sums over rounds -/
/-- the sum of a row over places -/
theorem sm_ev {r : List Int} {l : List Nat} {v i s : Nat} {σ : Sg} (hr : σ[s]? = some (some (.d (rT r)))) (hv : σ[v]? = some (some (.d (tN l)))) (hi : i < σ.length) (hpl : plainAt σ i = true) (hb : backS σ (wipeS σ [i]) [i] = σ) (his : i ≠ s) (hiv : i ≠ v) (hl : l.length ≤ 1000) (hlt : ∀ p ∈ l, p < r.length) :
    ev nc cl (.blt .sum [.lc [i] (.nm i) (.var v) none (.ix (.var s) (.var i))]) σ = .ok (.d (.int (sm r l))) σ := by
  have e := sum_lc (nc := nc) (cl := cl) (own := [i]) (t := .nm i) (it := .var v) (e := .ix (.var s) (.var i)) (σ := σ) (w := .d (tN l)) (xs := lD l) (fun d => Rr r (unI d)) (by simp [ev, hv, W.own]) rfl (by simp [hpl]) (by rw [lD_len]; omega) hb fun x hx => by
    obtain ⟨p, hp, rfl⟩ := lD_mem hx
    have h1 : (wipeS σ [i]) = σ.set i none := rfl
    have h2 : (σ.set i (some (W.d (.int (p : Nat)))))[s]? = some (some (.d (rT r))) := by
      rw [List.getElem?_set_ne his]; exact hr
    have h3 : (σ.set i (some (W.d (.int (p : Nat)))))[i]? = some (some (.d (.int (p : Nat)))) := List.getElem?_set_self hi
    have h4 := atI_iD (hlt p hp)
    have h5 : asg (.nm i) (.int (p : Nat)) (wipeS (σ.set i none) [i]) = some (σ.set i (some (W.d (.int (p : Nat))))) := by
      show (if i < ((σ.set i none).set i none).length then some (((σ.set i none).set i none).set i (some (W.d (.int (p : Nat))))) else none) = _
      rw [if_pos (by simp; exact hi), List.set_set, List.set_set]
    have h6 : ev nc cl (.ix (.var s) (.var i)) (σ.set i (some (W.d (.int (p : Nat))))) = .ok (.d (.int (Rr r p))) (σ.set i (some (W.d (.int (p : Nat))))) := by
      simp [ev, opd, h2, h3, rd, ixD, h4]
    have h7 : wipeS (σ.set i (some (W.d (.int (p : Nat))))) [i] = σ.set i none := by
      show (σ.set i (some (W.d (.int (p : Nat))))).set i none = _
      rw [List.set_set]
    rw [h1]
    unfold lcTurn
    rw [h5]
    show R.bind (ev nc cl (.ix (.var s) (.var i)) _) _ = _
    rw [h6, R.bind_ok, h7]
    simp [unI]
  rw [e]
  have : (lD l).map (fun d => Rr r (unI d)) = l.map (Rr r) := by
    unfold lD
    rw [List.map_map]
    exact List.map_congr_left fun p _ => by show Rr r (unI (nD p)) = _; simp [unI, nD]
  rw [this]; rfl
def bMxs (c a : Nat) : List Cl.St := [.expr (.call c [.var 0, .var 1]), .ret (.blt .tuple [.lc [2] (.nm 2) (.call a [.var 0]) none (.blt .sum [.lc [3] (.nm 3) (.var 2) none (.ix (.var 1) (.var 3))])])]
def fMxs (c a : Nat) : Fd := { np := 2, io := [], nn := 4, body := bMxs c a }
structure RowIn (L O : List Nat) (r : List Int) : Prop where
  lo : LO L O
  len : r.length = L.sum
  nine : ∀ x ∈ r, -1000000000 < x ∧ x < 1000000000
section
variable {c i e a rr f : Nat} {K : Nat → List (Nat × Nat)} {L O : List Nat} {r : List Int}
theorem RowIn.few (v : RowIn L O r) : L.sum ≤ 60 := v.lo.len.sum
theorem row_in (hn : 0 < nc) {ch : Nat} (hc : P[ch]? = some (fChk rc)) (hi : P[i]? = some fInt) (hf : P[f]? = some (fRow ch i e K)) (hK : KOk K) (k : Nat) (v : RowIn L O r) : callN P nc (k + 2) f [.d (oL L O), .d (rT r)] = .ok (.d .non) [] :=
  row_ok hn hc hi hf hK k (by rw [iD, List.length_map]; exact v.len) (by have := v.few; omega) (fun x hx => by obtain ⟨y, _, rfl⟩ := List.mem_map.mp hx; exact ⟨rfl, rfl⟩) (isInt_all v.nine)
theorem laps_in (hK : KOk K) (hr : P[rr]? = some (fRaw K)) (ha : P[a]? = some (fAll rr K)) (k : Nat) (v : LO L O) : callN P nc (k + 2) a [.d (oL L O)] = .ok (.fl ((laps (G (gl L O)) L.sum L.sum).map tN)) [] :=
  all_ok hr ha k (by rw [fld_oL hK]; rfl) (by rw [fld_oL hK]; rfl) (gl_len L O) v.lay.pf (by have := v.len.sum; omega)
theorem lap_in (v : LO L O) {l : List Nat} (h : l ∈ laps (G (gl L O)) L.sum L.sum) : l.length ≤ 60 ∧ ∀ p ∈ l, p < L.sum := by
  obtain ⟨p, hp, rfl⟩ := laps_mem h
  have := (per_is v.lay.pf hp).2.1
  have := v.len.sum
  exact ⟨by rw [orb_len]; omega, fun x hx => orb_lt v.lay.pf hp hx⟩
theorem mxs_ok (hn : 0 < nc) {ch ck : Nat} (hK : KOk K) (hc : P[ch]? = some (fChk rc)) (hi : P[i]? = some fInt) (hk : P[ck]? = some (fRow ch i e K)) (hr : P[rr]? = some (fRaw K)) (ha : P[a]? = some (fAll rr K)) (hf : P[f]? = some (fMxs ck a)) (k : Nat) (v : RowIn L O r) :
    callN P nc (k + 3) f [.d (oL L O), .d (rT r)] = .ok (.d (rT ((laps (G (gl L O)) L.sum L.sum).map (sm r)))) [] := by
  have e1 := row_in (nc := nc) hn hc hi hk hK k v
  have e2 := laps_in (nc := nc) hK hr ha k v.lo
  refine fn_rt (ds := [oL L O, rT r]) (body := bMxs ck a) (st := [some (.d (oL L O)), some (.d (rT r)), none, none]) (σ := [some (.d (oL L O)), some (.d (rT r)), none, none]) hf rfl rfl rfl (Nat.le_of_ble_eq_true rfl) rfl rfl ?_
  unfold bMxs
  rw [runs_nx (run_exprE (w := .d .non) (σ1 := [some (.d (oL L O)), some (.d (rT r)), none, none]) (by simp [ev, evAs, callS, ioS, agWs, agW, putBack, e1, W.own]))]
  refine runs_rt (run_retE (fun i z => by cases z) (blt1_ok (b := .tuple) (fun i z => by cases z) (lc_map (own := [2]) (t := .nm 2) (c := none) (σ1 := [some (.d (oL L O)), some (.d (rT r)), none, none]) (w := .fl ((laps (G (gl L O)) L.sum L.sum).map tN)) (xs := (laps (G (gl L O)) L.sum L.sum).map tN) (fun d => .int (sm r (unN d))) (by simp [ev, evAs, callS, ioS, agWs, agW, putBack, e2, W.own]) rfl rfl (by
    have := laps_lt (f := G (gl L O)) (n := L.sum) L.sum
    have := v.few
    rw [List.length_map]; omega) rfl fun x hx => ?_) ?_))
  · obtain ⟨l, hl, rfl⟩ := List.mem_map.mp hx
    obtain ⟨l1, l2⟩ := lap_in v.lo hl
    have e3 := sm_ev (nc := nc) (cl := callN P nc (k + 2)) (r := r) (l := l) (v := 2) (i := 3) (s := 1) (σ := [some (.d (oL L O)), some (.d (rT r)), some (.d (tN l)), none]) rfl rfl (by simp) rfl rfl (by decide) (by decide) (by omega) (fun p hp => by rw [v.len]; exact l2 p hp)
    show R.bind (ev nc (callN P nc (k + 2)) (.blt .sum [.lc [3] (.nm 3) (.var 2) none (.ix (.var 1) (.var 3))]) [some (.d (oL L O)), some (.d (rT r)), some (.d (tN l)), none]) _ = _
    rw [e3, R.bind_ok, unN_tN]
    rfl
  · show some (W.d (.tup _)) = _
    unfold rT iD
    rw [List.map_map, List.map_map]
    congr 3
    refine List.map_congr_left fun l _ => ?_
    show D.int (sm r (unN (tN l))) = _
    rw [unN_tN]; rfl
/-! ### kept -/
def kept (r : List Int) (g : Nat → Nat) (n : Nat) : Bool := (Rn n).all fun p => decide (Rr r p = Rr r (g p))
/-- whether each place has the number of its goal -/
theorem kept_ev {r : List Int} {g : List Nat} {it : Ex} {i j s : Nat} {σ : Sg} (hit : ev nc cl (.enm it) σ = .ok (.fl (enmL (lD g))) σ) (hr : σ[s]? = some (some (.d (rT r)))) (hi : i < σ.length) (hj : j < σ.length) (hij : i ≠ j) (hp : [i, j].all (plainAt σ) = true) (hb : backS σ (wipeS σ [i, j]) [i, j] = σ) (his : i ≠ s) (hjs : j ≠ s) (hl : g.length ≤ 1000) (hg : r.length = g.length) (hlt : ∀ p, p < g.length → G g p < g.length) :
    ev nc cl (.blt .all [.lc [i, j] (.tp [.nm i, .nm j]) (.enm it) none (.cmp .eq (.ix (.var s) (.var i)) (.ix (.var s) (.var j)))]) σ = .ok (.d (.bl (kept r (G g) g.length))) σ := by
  have e := all_lc (nc := nc) (cl := cl) (own := [i, j]) (t := .tp [.nm i, .nm j]) (it := .enm it) (e := .cmp .eq (.ix (.var s) (.var i)) (.ix (.var s) (.var j))) (σ := σ) (w := .fl (enmL (lD g))) (xs := enmL (lD g)) (fun d => match d with
      | .tup [a, b] => decide (Rr r (unI a) = Rr r (unI b))
      | _ => false) hit rfl hp (by rw [enm_len', lD_len]; omega) hb fun x hx => by
    rw [enm_R] at hx
    obtain ⟨p, hp, rfl⟩ := List.mem_map.mp hx
    have hp' := List.mem_range.mp hp
    have h1 : wipeS σ [i, j] = (σ.set j none).set i none := rfl
    rw [h1]
    generalize hσ : (σ.set j none).set i none = σ0
    have l0 : σ0.length = σ.length := by rw [← hσ]; simp
    have n1 : (σ0.set i (some (W.d (.int (p : Nat))))).set j (some (W.d (.int (G g p : Nat)))) = (σ0.set i (some (W.d (.int (p : Nat))))).set j (some (W.d (.int (G g p : Nat)))) := rfl
    generalize hτ : (σ0.set i (some (W.d (.int (p : Nat))))).set j (some (W.d (.int (G g p : Nat)))) = τ at n1
    have t1 : τ[s]? = some (some (.d (rT r))) := by
      rw [← hτ, List.getElem?_set_ne hjs, List.getElem?_set_ne his, ← hσ, List.getElem?_set_ne his, List.getElem?_set_ne hjs]; exact hr
    have t2 : τ[i]? = some (some (.d (.int (p : Nat)))) := by
      rw [← hτ, List.getElem?_set_ne (Ne.symm hij), List.getElem?_set_self (by omega)]
    have t3 : τ[j]? = some (some (.d (.int (G g p : Nat)))) := by
      rw [← hτ, List.getElem?_set_self (by rw [List.length_set]; omega)]
    have t4 : (τ.set j none).set i none = σ0 := by
      rw [← hτ, ← hσ]
      refine List.ext_getElem? fun m => ?_
      by_cases mi : i = m
      · subst mi
        rw [List.getElem?_set_self (by simp; omega), List.getElem?_set_self (by simp; omega)]
      · by_cases mj : j = m
        · subst mj
          rw [List.getElem?_set_ne mi, List.getElem?_set_self (by simp; omega), List.getElem?_set_ne mi, List.getElem?_set_self (by omega)]
        · rw [List.getElem?_set_ne mi, List.getElem?_set_ne mj, List.getElem?_set_ne mj, List.getElem?_set_ne mi]
    have a1 := atI_iD (r := r) (p := p) (by omega)
    have a2 := atI_iD (r := r) (p := G g p) (by have := hlt p hp'; omega)
    have asgE : asg (.tp [.nm i, .nm j]) (.tup [.int (p : Nat), .int (G g p : Nat)]) σ0 = some τ := by
      simp [asg, asgs, l0, hi, hj, hτ]
    unfold lcTurn
    have h2 : wipeS τ [i, j] = σ0 := t4
    have hw : wipeS σ0 [i, j] = σ0 := by
      show (σ0.set j none).set i none = σ0
      rw [← hσ]
      refine List.ext_getElem? fun m => ?_
      by_cases mi : i = m
      · subst mi
        rw [List.getElem?_set_self (by simp; omega), List.getElem?_set_self (by simp; omega)]
      · by_cases mj : j = m
        · subst mj
          rw [List.getElem?_set_ne mi, List.getElem?_set_self (by simp; omega), List.getElem?_set_ne mi, List.getElem?_set_self (by omega)]
        · rw [List.getElem?_set_ne mi, List.getElem?_set_ne mj]
    rw [hw, asgE]
    have h6 : ev nc cl (.cmp .eq (.ix (.var s) (.var i)) (.ix (.var s) (.var j))) τ = .ok (.d (.bl (decide (Rr r p = Rr r (G g p))))) τ := by
      simp [ev, opd, t1, t2, t3, rd, ixD, a1, a2, cmpop]
    show R.bind (ev nc cl (.cmp .eq _ _) τ) _ = _
    rw [h6, R.bind_ok, h2]
    rfl
  rw [e, enm_R, List.all_map]
  rfl
end
end
end Pl

/-! Pn, part D: rows on layings, on: kept, differences. -/
namespace Pl
open Cl Pm
section
variable {P : Pg} {nc : Nat} {rc : List Cl.St} {cl : Calls}
variable {c i e a rr f : Nat} {K : Nat → List (Nat × Nat)} {L O : List Nat} {r : List Int}
def bKpt (c : Nat) (K : Nat → List (Nat × Nat)) : List Cl.St := [.expr (.call c [.var 0, .var 1]), .ret (.blt .all [.lc [2, 3] (.tp [.nm 2, .nm 3]) (.enm (.fld (.var 0) (K 4))) none (.cmp .eq (.ix (.var 1) (.var 2)) (.ix (.var 1) (.var 3)))])]
def fKpt (c : Nat) (K : Nat → List (Nat × Nat)) : Fd := { np := 2, io := [], nn := 4, body := bKpt c K }
theorem gl_lt (v : LO L O) {p : Nat} (hp : p < L.sum) : G (gl L O) p < L.sum := v.lay.pf.lt p hp
theorem kpt_ok (hn : 0 < nc) {ch ck : Nat} (hK : KOk K) (hc : P[ch]? = some (fChk rc)) (hi : P[i]? = some fInt) (hk : P[ck]? = some (fRow ch i e K)) (hf : P[f]? = some (fKpt ck K)) (k : Nat) (v : RowIn L O r) :
    callN P nc (k + 3) f [.d (oL L O), .d (rT r)] = .ok (.d (.bl (kept r (G (gl L O)) L.sum))) [] := by
  have e1 := row_in (nc := nc) hn hc hi hk hK k v
  have fl : fldD (oL L O) (K 4) = some (tN (gl L O)) := by rw [fld_oL hK]; rfl
  refine fn_rt (ds := [oL L O, rT r]) (body := bKpt ck K) (st := [some (.d (oL L O)), some (.d (rT r)), none, none]) (σ := [some (.d (oL L O)), some (.d (rT r)), none, none]) hf rfl rfl rfl (Nat.le_of_ble_eq_true rfl) rfl rfl ?_
  unfold bKpt
  rw [runs_nx (run_exprE (w := .d .non) (σ1 := [some (.d (oL L O)), some (.d (rT r)), none, none]) (by simp [ev, evAs, callS, ioS, agWs, agW, putBack, e1, W.own]))]
  have := kept_ev (nc := nc) (cl := callN P nc (k + 2)) (r := r) (g := gl L O) (it := .fld (.var 0) (K 4)) (i := 2) (j := 3) (s := 1) (σ := [some (.d (oL L O)), some (.d (rT r)), none, none]) (by simp [ev, opd, rd, fl, seqD]) rfl (by simp) (by simp) (by decide) rfl rfl (by decide) (by decide) (by rw [gl_len]; have := v.few; omega) (by rw [gl_len]; exact v.len) (fun p hp => by rw [gl_len] at hp ⊢; exact gl_lt v.lo hp)
  rw [gl_len] at this
  exact runs_rt (run_retE (fun i z => by cases z) this)
/-! ### differences -/
def dfI (X : Cl.St) : List Cl.St := [.six 2 (.var 5) (.var 4), X]
def dfO (X : Cl.St) : List Cl.St := [.set 4 (.con (.int 0)), .fr (.nm 5) (.var 3) (dfI X), .ite (.cmp .ne (.var 4) (.con (.int 0))) [.ret (.con .non)] []]
/-- X adds the row's number -/
def AddsR (nc : Nat) (cl : Calls) (X : Cl.St) (r : List Int) : Prop := ∀ (a0 f z3 : Option W) (t : Int) (p : Nat), p < r.length → run nc cl X [a0, some (.d (rT r)), f, z3, some (.d (.int t)), some (.d (.int (p : Nat)))] = .nx [a0, some (.d (rT r)), f, z3, some (.d (.int (t + Rr r p))), some (.d (.int (p : Nat)))]
theorem adds_1 (r : List Int) : AddsR nc cl (.aug 4 .add (.ix (.var 1) (.var 5))) r := fun a0 f z3 t p hp => by
  have := atI_iD hp
  simp [run, ev, opd, rd, ixD, this, Out.ofR, augop, setS]
theorem adds_2 (r : List Int) : AddsR nc cl (.set 4 (.bin .add (.var 4) (.ix (.var 1) (.var 5)))) r := fun a0 f z3 t p hp => by
  have := atI_iD hp
  simp [run, ev, opd, rd, ixD, this, Out.ofR, binop, setS]
theorem dfI_run {X : Cl.St} (hX : AddsR nc cl X r) (a0 z3 : Option W) (f : List Int) (t : Int) (p : Nat) (hp : p < r.length) (hf : p < f.length) :
    runs nc cl (dfI X) [a0, some (.d (rT r)), some (.fl (iD f)), z3, some (.d (.int t)), some (.d (.int (p : Nat)))] = .nx [a0, some (.d (rT r)), some (.fl (iD (f.set p t))), z3, some (.d (.int (t + Rr r p))), some (.d (.int (p : Nat)))] := by
  unfold dfI
  have h1 : run nc cl (.six 2 (.var 5) (.var 4)) [a0, some (.d (rT r)), some (.fl (iD f)), z3, some (.d (.int t)), some (.d (.int (p : Nat)))] = .nx [a0, some (.d (rT r)), some (.fl (iD (f.set p t))), z3, some (.d (.int t)), some (.d (.int (p : Nat)))] := by
    have := setop_iD (f := f) (p := p) (t := t) hf
    simp [run, ev, opd, rd, this, Out.ofR, W.own]
  rw [runs_nx h1]
  exact runs_one (hX _ _ _ _ _ hp)
theorem dfI_fr {X : Cl.St} (hX : AddsR nc cl X r) (a0 z3 : Option W) : ∀ (l : List Nat) (f : List Int) (t : Int) (z5 : Option W), (∀ p ∈ l, p < r.length ∧ p < f.length) → ∃ y5, frL (fun x σ => match asg (.nm 5) x σ with
      | some σ' => runs nc cl (dfI X) σ'
      | none => .bad) (lD l) [a0, some (.d (rT r)), some (.fl (iD f)), z3, some (.d (.int t)), z5] = .nx [a0, some (.d (rT r)), some (.fl (iD (dfL r l f t).1)), z3, some (.d (.int (dfL r l f t).2)), y5]
  | [], f, t, z5, _ => ⟨z5, rfl⟩
  | p :: l, f, t, z5, h => by
    obtain ⟨h1, h2⟩ := h p List.mem_cons_self
    obtain ⟨y5, e⟩ := dfI_fr hX a0 z3 l (f.set p t) (t + Rr r p) (some (.d (.int (p : Nat)))) fun q hq => by
      rw [List.length_set]; exact h q (List.mem_cons_of_mem _ hq)
    refine ⟨y5, ?_⟩
    rw [lD_cons, frL]
    have ea : asg (.nm 5) (.int (p : Nat)) [a0, some (.d (rT r)), some (.fl (iD f)), z3, some (.d (.int t)), z5] = some [a0, some (.d (rT r)), some (.fl (iD f)), z3, some (.d (.int t)), some (.d (.int (p : Nat)))] := rfl
    simp only [ea, dfI_run hX a0 z3 f t p h1 h2]
    exact e
theorem dfO_run {X : Cl.St} (hX : AddsR nc cl X r) (a0 z4 z5 : Option W) (l : List Nat) (f : List Int) (hl : l.length ≤ 1000) (h : ∀ p ∈ l, p < r.length ∧ p < f.length) :
    ∃ y5, runs nc cl (dfO X) [a0, some (.d (rT r)), some (.fl (iD f)), some (.d (tN l)), z4, z5] = if (dfL r l f 0).2 = 0 then .nx [a0, some (.d (rT r)), some (.fl (iD (dfL r l f 0).1)), some (.d (tN l)), some (.d (.int (dfL r l f 0).2)), y5] else .rt (.d .non) [a0, some (.d (rT r)), some (.fl (iD (dfL r l f 0).1)), some (.d (tN l)), some (.d (.int (dfL r l f 0).2)), y5] := by
  obtain ⟨y5, e⟩ := dfI_fr hX a0 (some (.d (tN l))) l f 0 z5 h
  refine ⟨y5, ?_⟩
  unfold dfO
  have h1 : run nc cl (.set 4 (.con (.int 0))) [a0, some (.d (rT r)), some (.fl (iD f)), some (.d (tN l)), z4, z5] = .nx [a0, some (.d (rT r)), some (.fl (iD f)), some (.d (tN l)), some (.d (.int 0)), z5] := rfl
  have h2 : run nc cl (.fr (.nm 5) (.var 3) (dfI X)) [a0, some (.d (rT r)), some (.fl (iD f)), some (.d (tN l)), some (.d (.int 0)), z5] = .nx [a0, some (.d (rT r)), some (.fl (iD (dfL r l f 0).1)), some (.d (tN l)), some (.d (.int (dfL r l f 0).2)), y5] := by
    rw [run_fr]
    have : ev nc cl (.var 3) [a0, some (.d (rT r)), some (.fl (iD f)), some (.d (tN l)), some (.d (.int 0)), z5] = .ok (.d (tN l)) [a0, some (.d (rT r)), some (.fl (iD f)), some (.d (tN l)), some (.d (.int 0)), z5] := rfl
    rw [this, Out.ofR_ok]
    show (if (lD l).length ≤ _ then _ else _) = _
    rw [if_pos (by rw [lD_len]; exact line_of (by omega))]
    exact e
  rw [runs_nx h1, runs_nx h2]
  by_cases hz : (dfL r l f 0).2 = 0
  · rw [if_pos hz]
    refine runs_one ?_
    simp [run, runs, ev, opd, rd, tst, truth, cmpop, Out.ofR, hz, eqD_int]
  · rw [if_neg hz]
    refine runs_rt ?_
    simp [run, runs, ev, opd, rd, tst, truth, cmpop, Out.ofR, hz, eqD_int]
theorem dfO_fr {X : Cl.St} (hX : AddsR nc cl X r) (a0 : Option W) : ∀ (ls : List (List Nat)) (f : List Int) (z3 z4 z5 : Option W), (∀ l ∈ ls, l.length ≤ 1000 ∧ ∀ p ∈ l, p < r.length ∧ p < f.length) → match dfs r ls f with
    | some g => ∃ y3 y4 y5, frL (fun x σ => match asg (.nm 3) x σ with
      | some σ' => runs nc cl (dfO X) σ'
      | none => .bad) (ls.map tN) [a0, some (.d (rT r)), some (.fl (iD f)), z3, z4, z5] = .nx [a0, some (.d (rT r)), some (.fl (iD g)), y3, y4, y5]
    | none => ∃ τ, frL (fun x σ => match asg (.nm 3) x σ with
      | some σ' => runs nc cl (dfO X) σ'
      | none => .bad) (ls.map tN) [a0, some (.d (rT r)), some (.fl (iD f)), z3, z4, z5] = .rt (.d .non) τ
  | [], f, z3, z4, z5, _ => ⟨z3, z4, z5, rfl⟩
  | l :: ls, f, z3, z4, z5, h => by
    obtain ⟨h1, h2⟩ := h l List.mem_cons_self
    obtain ⟨y5, e⟩ := dfO_run (nc := nc) (cl := cl) hX a0 z4 z5 l f h1 h2
    have ea : asg (.nm 3) (tN l) [a0, some (.d (rT r)), some (.fl (iD f)), z3, z4, z5] = some [a0, some (.d (rT r)), some (.fl (iD f)), some (.d (tN l)), z4, z5] := rfl
    rw [dfs]
    by_cases hz : (dfL r l f 0).2 = 0
    · rw [if_pos hz] at e ⊢
      have ih := dfO_fr hX a0 ls (dfL r l f 0).1 (some (.d (tN l))) (some (.d (.int (dfL r l f 0).2))) y5 fun m hm => by
        rw [dfL_len]; exact h m (List.mem_cons_of_mem _ hm)
      have es : ∀ o, frL (fun x σ => match asg (.nm 3) x σ with
        | some σ' => runs nc cl (dfO X) σ'
        | none => .bad) (ls.map tN) [a0, some (.d (rT r)), some (.fl (iD (dfL r l f 0).1)), some (.d (tN l)), some (.d (.int (dfL r l f 0).2)), y5] = o → frL (fun x σ => match asg (.nm 3) x σ with
        | some σ' => runs nc cl (dfO X) σ'
        | none => .bad) ((l :: ls).map tN) [a0, some (.d (rT r)), some (.fl (iD f)), z3, z4, z5] = o := fun o ho => by
        rw [List.map_cons, frL]
        simp only [ea, e]
        exact ho
      cases hd : dfs r ls (dfL r l f 0).1 with
      | none =>
        rw [hd] at ih
        obtain ⟨τ, e2⟩ := ih
        exact ⟨τ, es _ e2⟩
      | some g =>
        rw [hd] at ih
        obtain ⟨y3, y4, y5', e2⟩ := ih
        exact ⟨y3, y4, y5', es _ e2⟩
    · rw [if_neg hz] at e ⊢
      refine ⟨[a0, some (.d (rT r)), some (.fl (iD (dfL r l f 0).1)), some (.d (tN l)), some (.d (.int (dfL r l f 0).2)), y5], ?_⟩
      rw [List.map_cons, frL]
      simp only [ea, e]
/-- None, or a row -/
def oT : Option (List Int) → D
  | none => .non
  | some g => rT g
theorem df_runs {X : Cl.St} (hX : AddsR nc cl X r) (a0 : Option W) (it : Ex) (ls : List (List Nat)) (n : Nat) (hls : ls.length ≤ 1000) (hn : r.length = n) (h : ∀ l ∈ ls, l.length ≤ 1000 ∧ ∀ p ∈ l, p < n)
    (hit : ev nc cl it [a0, some (.d (rT r)), some (.fl (iD (List.replicate n 0))), none, none, none] = .ok (.fl (ls.map tN)) [a0, some (.d (rT r)), some (.fl (iD (List.replicate n 0))), none, none, none]) :
    ∃ τ, runs nc cl [.fr (.nm 3) it (dfO X), .ret (.blt .tuple [.var 2])] [a0, some (.d (rT r)), some (.fl (iD (List.replicate n 0))), none, none, none] = .rt (.d (oT (dfs r ls (List.replicate n 0)))) τ := by
  have key := dfO_fr (nc := nc) (cl := cl) hX a0 ls (List.replicate n 0) none none none fun l hl => ⟨(h l hl).1, fun p hp => ⟨by rw [hn]; exact (h l hl).2 p hp, by rw [List.length_replicate]; exact (h l hl).2 p hp⟩⟩
  have e0 : run nc cl (.fr (.nm 3) it (dfO X)) [a0, some (.d (rT r)), some (.fl (iD (List.replicate n 0))), none, none, none] = frL (fun x σ => match asg (.nm 3) x σ with
      | some σ' => runs nc cl (dfO X) σ'
      | none => .bad) (ls.map tN) [a0, some (.d (rT r)), some (.fl (iD (List.replicate n 0))), none, none, none] := by
    rw [run_fr, hit, Out.ofR_ok]
    show (if (ls.map tN).length ≤ _ then _ else _) = _
    rw [if_pos (by rw [List.length_map]; exact line_of (by omega))]
    first | done | rfl
  cases hd : dfs r ls (List.replicate n 0) with
  | none =>
    rw [hd] at key
    obtain ⟨τ, e⟩ := key
    exact ⟨τ, runs_rt (e0.trans e)⟩
  | some g =>
    rw [hd] at key
    obtain ⟨y3, y4, y5, e⟩ := key
    refine ⟨[a0, some (.d (rT r)), some (.fl (iD g)), y3, y4, y5], ?_⟩
    rw [runs_nx (e0.trans e)]
    simp [runs, run, ev, evOs, opd, rds, rd, bltop, Out.ofR, oT]
theorem zerosI {n : Nat} (h : n ≤ 1000) : binop .mul (.lst [.int 0]) (.int (n : Nat)) = some (.fl (iD (List.replicate n 0))) := by
  rw [lmul h, iD, List.map_replicate]
def bDif (c a : Nat) (K : Nat → List (Nat × Nat)) : List Cl.St := [.expr (.call c [.var 0, .var 1]), .set 2 (.bin .mul (.lst [.con (.int 0)]) (.fld (.var 0) (K 3))), .fr (.nm 3) (.call a [.var 0]) (dfO (.aug 4 .add (.ix (.var 1) (.var 5)))), .ret (.blt .tuple [.var 2])]
def fDif (c a : Nat) (K : Nat → List (Nat × Nat)) : Fd := { np := 2, io := [], nn := 6, body := bDif c a K }
theorem dif_ok (hn : 0 < nc) {ch ck : Nat} (hK : KOk K) (hc : P[ch]? = some (fChk rc)) (hi : P[i]? = some fInt) (hk : P[ck]? = some (fRow ch i e K)) (hr : P[rr]? = some (fRaw K)) (ha : P[a]? = some (fAll rr K)) (hf : P[f]? = some (fDif ck a K)) (k : Nat) (v : RowIn L O r) :
    callN P nc (k + 3) f [.d (oL L O), .d (rT r)] = .ok (.d (oT (dfs r (laps (G (gl L O)) L.sum L.sum) (List.replicate L.sum 0)))) [] := by
  have e1 := row_in (nc := nc) hn hc hi hk hK k v
  have e2 := laps_in (nc := nc) hK hr ha k v.lo
  have fl : fldD (oL L O) (K 3) = some (.int (L.sum : Nat)) := by rw [fld_oL hK]; rfl
  have few := v.few
  obtain ⟨τ, er⟩ := df_runs (nc := nc) (cl := callN P nc (k + 2)) (r := r) (adds_1 r) (some (.d (oL L O))) (.call a [.var 0]) (laps (G (gl L O)) L.sum L.sum) L.sum (by have := laps_lt (f := G (gl L O)) (n := L.sum) L.sum; omega) v.len (fun l hl => by
    obtain ⟨l1, l2⟩ := lap_in v.lo hl
    exact ⟨by omega, l2⟩) (by simp [ev, evAs, callS, ioS, agWs, agW, putBack, e2, W.own])
  refine fn_rt (ds := [oL L O, rT r]) (body := bDif ck a K) (st := [some (.d (oL L O)), some (.d (rT r)), none, none, none, none]) (σ := τ) hf rfl rfl rfl (Nat.le_of_ble_eq_true rfl) rfl rfl ?_
  unfold bDif
  rw [runs_nx (run_exprE (w := .d .non) (σ1 := [some (.d (oL L O)), some (.d (rT r)), none, none, none, none]) (by simp [ev, evAs, callS, ioS, agWs, agW, putBack, e1, W.own]))]
  have ez : run nc (callN P nc (k + 2)) (.set 2 (.bin .mul (.lst [.con (.int 0)]) (.fld (.var 0) (K 3)))) [some (.d (oL L O)), some (.d (rT r)), none, none, none, none] = .nx [some (.d (oL L O)), some (.d (rT r)), some (.fl (iD (List.replicate L.sum 0))), none, none, none] := by
    rw [run_set, ev_binE (x := .fl [.int 0]) (y := .d (.int (L.sum : Nat))) (σ1 := [some (.d (oL L O)), some (.d (rT r)), none, none, none, none]) (σ2 := [some (.d (oL L O)), some (.d (rT r)), none, none, none, none]) (fun i z => by cases z) (fun i z => by cases z) rfl (by simp [ev, opd, rd, fl]) (zerosI (by omega))]
    rfl
  rw [runs_nx ez]
  exact er
/-- the own difference -/
def bDfo (a : Nat) : List Cl.St := [.set 2 (.bin .mul (.lst [.con (.int 0)]) (.blt .len [.var 0])), .fr (.nm 3) (.call a [.var 0]) (dfO (.set 4 (.bin .add (.var 4) (.ix (.var 1) (.var 5))))), .ret (.blt .tuple [.var 2])]
def fDfo (a : Nat) : Fd := { np := 2, io := [], nn := 6, body := bDfo a }
theorem dfo_ok (hf : P[f]? = some (fDfo a)) (k : Nat) {g : List Nat} {ls : List (List Nat)} (ha : callN P nc k a [.d (tN g)] = .ok (.fl (ls.map tN)) []) (hg : g.length ≤ 900) (hls : ls.length ≤ 1000) (hn : r.length = g.length) (h : ∀ l ∈ ls, l.length ≤ 1000 ∧ ∀ p ∈ l, p < g.length) :
    callN P nc (k + 1) f [.d (tN g), .d (rT r)] = .ok (.d (oT (dfs r ls (List.replicate g.length 0)))) [] := by
  obtain ⟨τ, er⟩ := df_runs (nc := nc) (cl := callN P nc k) (r := r) (adds_2 r) (some (.d (tN g))) (.call a [.var 0]) ls g.length hls hn h (by simp [ev, evAs, callS, ioS, agWs, agW, putBack, ha, W.own])
  refine fn_rt (ds := [tN g, rT r]) (body := bDfo a) (st := [some (.d (tN g)), some (.d (rT r)), none, none, none, none]) (σ := τ) hf rfl rfl rfl (Nat.le_of_ble_eq_true rfl) rfl rfl ?_
  unfold bDfo
  have ez : run nc (callN P nc k) (.set 2 (.bin .mul (.lst [.con (.int 0)]) (.blt .len [.var 0]))) [some (.d (tN g)), some (.d (rT r)), none, none, none, none] = .nx [some (.d (tN g)), some (.d (rT r)), some (.fl (iD (List.replicate g.length 0))), none, none, none] := by
    rw [run_set, ev_binE (x := .fl [.int 0]) (y := .d (.int (g.length : Nat))) (σ1 := [some (.d (tN g)), some (.d (rT r)), none, none, none, none]) (σ2 := [some (.d (tN g)), some (.d (rT r)), none, none, none, none]) (fun i z => by cases z) (fun i z => by cases z) rfl (by simp [ev, evOs, opd, rds, rd, bltop, lenD]) (zerosI (by omega))]
    rfl
  rw [runs_nx ez]
  exact er
end
end Pl

/-! Pn, part E: own goals, own rounds, by dicts. -/
namespace Pl
open Cl Pm
section
variable {P : Pg} {nc : Nat} {rc : List Cl.St} {cl : Calls}
/-! ### the own goal -/
def lg2A : List Cl.St := [.psx 2 (.var 4) 3 (.tup [.var 3, .bin .add (.var 3) (.ix (.var 0) (.var 4))])]
def lg2B : List Cl.St := [.expr (.mut .extend 5 [.lc [7] (.nm 7) (.rng [.var 6]) none (.bin .add (.ix (.var 2) (.var 4)) (.var 7))])]
def bLg2 : List Cl.St := [.par [2, 3] [.dk [], .con (.int 0)], .fr (.nm 4) (.var 1) lg2A, .set 5 (.lst []), .fr (.tp [.nm 4, .nm 6]) (.enm (.var 0)) lg2B, .ret (.blt .tuple [.var 5])]
def fLg2 : Fd := { np := 2, io := [], nn := 8, body := bLg2 }
theorem lg2_a (L : List Nat) (o z5 z6 z7 : Option W) (kvs : List (L2.Key × D)) (q h : Nat) (hq : q < L.length) (hl : kvs.length < 1000) : runs nc cl lg2A [some (.d (tN L)), o, some (.fk kvs), some (.d (.int (h : Nat))), some (.d (.int (q : Nat))), z5, z6, z7] =
    .nx [some (.d (tN L)), o, some (.fk (dput kvs (.inl (q : Int)) (.int (h : Nat)))), some (.d (.int (h + ln L q : Nat))), some (.d (.int (q : Nat))), z5, z6, z7] := by
  simp [lg2A, runs, run, ev, evDs, opd, rd, Out.ofR, setop, keyD, line_lt (show kvs.length < 1000000 by omega), ixD, atI_lD hq, binop, setS, W.own]
theorem lg2_b (L acc : List Nat) (o t : Option W) (kvs : List (L2.Key × D)) (p len s : Nat) (z : Option W) (hz : ∀ w, z = some w → w.own = false) (hp : dget kvs (.inl (p : Int)) = some (.int (s : Nat))) (hl : len ≤ 1000) (ha : acc.length ≤ 1000) :
    ∃ z', (∀ w, z' = some w → w.own = false) ∧ runs nc cl lg2B [some (.d (tN L)), o, some (.fk kvs), t, some (.d (.int (p : Nat))), some (.fl (lD acc)), some (.d (.int (len : Nat))), z] =
      .nx [some (.d (tN L)), o, some (.fk kvs), t, some (.d (.int (p : Nat))), some (.fl (lD (acc ++ (Rn len).map (s + ·)))), some (.d (.int (len : Nat))), z'] := by
  have e := lc_map (nc := nc) (cl := cl) (own := [7]) (t := .nm 7) (it := .rng [.var 6]) (c := none) (e := .bin .add (.ix (.var 2) (.var 4)) (.var 7)) (σ := [some (.d (tN L)), o, some (.fk kvs), t, some (.d (.int (p : Nat))), some (.fl (lD acc)), some (.d (.int (len : Nat))), z])
    (σ1 := [some (.d (tN L)), o, some (.fk kvs), t, some (.d (.int (p : Nat))), some (.fl (lD acc)), some (.d (.int (len : Nat))), z]) (w := .fl (lD (Rn len))) (xs := lD (Rn len)) (fun d => match d with | .int x => .int (s + x) | d => d) (by simp [ev, evOs, opd, rds, rd, rng_lD (show len ≤ 16777216 by omega)]) rfl (by
      cases z with
      | none => rfl
      | some w => simp [plainAt, hz w rfl]) (by simp [Rn]; omega) (by simp [wipeS, backS]) fun d hd => by
      obtain ⟨x, hx, rfl⟩ := lD_mem hd
      simp [lcTurn, asg, wipeS, ev, evC, opd, rd, ixD, keyD, hp, binop, W.own]
  refine ⟨z, hz, ?_⟩
  have e2 : (lD (Rn len)).map (fun d => match d with | .int x => .int (s + x) | d => d) = lD ((Rn len).map (s + ·)) := by
    simp [lD, nD, List.map_map, Function.comp_def]
  rw [e2] at e
  have hs : acc.length + ((Rn len).map (s + ·)).length ≤ PySem.sizeLine := line_of (by simp [Rn]; omega)
  have e3 : ev nc cl (.mut .extend 5 [.lc [7] (.nm 7) (.rng [.var 6]) none (.bin .add (.ix (.var 2) (.var 4)) (.var 7))]) [some (.d (tN L)), o, some (.fk kvs), t, some (.d (.int (p : Nat))), some (.fl (lD acc)), some (.d (.int (len : Nat))), z] =
      .ok (.d .non) [some (.d (tN L)), o, some (.fk kvs), t, some (.d (.int (p : Nat))), some (.fl (lD (acc ++ (Rn len).map (s + ·)))), some (.d (.int (len : Nat))), z] := by
    have := ev_mutE (m := .extend) (i := 5) rfl rfl (evDs_one e) rfl (y := .non) (w' := .fl (lD acc ++ lD ((Rn len).map (s + ·)))) (by
      show (if (lD acc).length + (lD ((Rn len).map (s + ·))).length ≤ PySem.sizeLine then _ else _) = _
      rw [lD_len, lD_len, if_pos hs])
    rw [← lD_app] at this
    exact this
  unfold lg2B
  rw [runs_nx (run_exprE e3)]
  rfl
theorem lg2_ok {f : Nat} (h : P[f]? = some fLg2) (k : Nat) {L O : List Nat} (w : LO L O) : callN P nc (k + 1) f [.d (tN L), .d (tN O)] = .ok (.d (tN (gl L O))) [] := by
  have v := w.lay
  have hl := w.len
  have e0 : run nc (callN P nc k) (.par [2, 3] [.dk [], .con (.int 0)]) [some (.d (tN L)), some (.d (tN O)), none, none, none, none, none, none] = .nx [some (.d (tN L)), some (.d (tN O)), some (.fk []), some (.d (.int 0)), none, none, none, none] := by
    simp [run, evWs, ev, evDs, putAll, Out.ofR, setSs]
  obtain ⟨τ, e1, z, e2⟩ := fr_ok (nc := nc) (cl := callN P nc k) (t := .nm 4) (it := .var 1) (b := lg2A) (σ := [some (.d (tN L)), some (.d (tN O)), some (.fk []), some (.d (.int 0)), none, none, none, none]) (xs := lD O) (w := .d (tN O))
    (σ1 := [some (.d (tN L)), some (.d (tN O)), some (.fk []), some (.d (.int 0)), none, none, none, none])
    (fun i τ => ∃ z, τ = [some (.d (tN L)), some (.d (tN O)), some (.fk (sk L (O.take i) 0)), some (.d (.int (S (O.take i) (ln L) : Nat))), z, none, none, none]) rfl rfl (by rw [lD_len, v.len]; have := hl.hi; omega) (fun i x τ hx ⟨z, e⟩ => by
      subst e
      rw [lD_get] at hx
      obtain ⟨q, hq, rfl⟩ := Option.map_eq_some_iff.mp hx
      have hi := (List.getElem?_eq_some_iff.mp hq).1
      have hqm := List.mem_of_getElem? hq
      have ht : O.take (i + 1) = O.take i ++ [q] := by
        rw [List.take_succ, hq]; rfl
      refine ⟨_, _, rfl, lg2_a L _ _ _ _ _ q _ (v.mem.mp hqm) (by rw [sk_len, List.length_take]; have := v.len; have := hl.hi; omega), some (.d (.int (q : Nat))), ?_⟩
      have nd := v.nd
      rw [← List.take_append_drop i O, List.nodup_append] at nd
      have hd : q ∈ O.drop i := by
        rw [List.drop_eq_getElem_cons hi]
        have : O[i] = q := Option.some.inj ((List.getElem?_eq_getElem hi).symm.trans hq)
        rw [this]; exact List.mem_cons_self
      rw [ht, sk_app, S_app, Nat.zero_add, dput_new fun p hp => ?_]
      · simp [S]
      · obtain ⟨r, h1, h2⟩ := sk_key hp
        rw [h2]
        intro e
        have := Sum.inl.inj e
        exact nd.2.2 r h1 q hd (by omega)) ⟨none, by simp [sk, S]⟩
  have e3 : run nc (callN P nc k) (.set 5 (.lst [])) τ = .nx [some (.d (tN L)), some (.d (tN O)), some (.fk (sk L O 0)), some (.d (.int (S O (ln L) : Nat))), z, some (.fl []), none, none] := by
    rw [e2, lD_len, List.take_of_length_le (Nat.le_refl _)]
    rfl
  obtain ⟨τ2, e4, y4, y6, y7, e5, _⟩ := fr_ok (nc := nc) (cl := callN P nc k) (t := .tp [.nm 4, .nm 6]) (it := .enm (.var 0)) (b := lg2B)
    (σ := [some (.d (tN L)), some (.d (tN O)), some (.fk (sk L O 0)), some (.d (.int (S O (ln L) : Nat))), z, some (.fl []), none, none]) (xs := enmL (lD L)) (w := .fl (enmL (lD L))) (σ1 := [some (.d (tN L)), some (.d (tN O)), some (.fk (sk L O 0)), some (.d (.int (S O (ln L) : Nat))), z, some (.fl []), none, none])
    (fun i τ => ∃ z4 z6 z7, τ = [some (.d (tN L)), some (.d (tN O)), some (.fk (sk L O 0)), some (.d (.int (S O (ln L) : Nat))), z4, some (.fl (lD (blk (ln L) (st L O) i))), z6, z7] ∧ ∀ w, z7 = some w → w.own = false) (by simp [ev, seqD, W.own]) rfl (by rw [enm_len', lD_len]; have := hl.hi; omega) (fun i x τ hx ⟨z4, z6, z7, e, hz⟩ => by
      subst e
      rw [enm_lD] at hx
      obtain ⟨q, hq, rfl⟩ := Option.map_eq_some_iff.mp hx
      have hi := (List.getElem?_eq_some_iff.mp hq).1
      have hq' := getL hq
      have hle := mem_le_sum (List.mem_of_getElem? hq)
      have h60 := hl.sum
      obtain ⟨z', hz', e'⟩ := lg2_b (nc := nc) (cl := callN P nc k) L (blk (ln L) (st L O) i) (some (.d (tN O))) (some (.d (.int (S O (ln L) : Nat)))) (sk L O 0) i q (st L O i) z7 hz (by rw [sk_get (v.mem.mpr hi), Nat.zero_add]) (by omega) (by
        rw [blk_len]
        have := bg_mono (len := ln L) (p := i) (q := L.length) (by omega)
        rw [bg_all] at this
        omega)
      refine ⟨_, _, rfl, e', some (.d (.int (i : Nat))), some (.d (.int (q : Nat))), z', ?_, hz'⟩
      rw [blk_succ, hq']) ⟨z, none, none, rfl, fun w hw => nomatch hw⟩
  refine fn_rt (ds := [tN L, tN O]) (body := bLg2) (st := [some (.d (tN L)), some (.d (tN O)), none, none, none, none, none, none]) (σ := τ2) h rfl rfl rfl (Nat.le_of_ble_eq_true rfl) rfl rfl ?_
  unfold bLg2
  rw [runs_nx e0, runs_nx e1, runs_nx e3, runs_nx e4, e5]
  simp [runs, run, ev, evOs, opd, rds, rd, bltop, Out.ofR, enm_len', gl]
/-! ### the own rounds -/
def lr2W : List Cl.St := [.six 1 (.var 5) (.con (.bl true)), .expr (.mut .append 4 [.var 5]), .set 5 (.ix (.var 0) (.var 5))]
def lr2T : List Cl.St := [.par [4, 5] [.lst [], .var 3], .whl 1000000 (.cmp .notin (.var 5) (.var 1)) lr2W, .ite (.cmp .ne (.var 4) (.lst [])) [.expr (.mut .append 2 [.blt .tuple [.var 4]])] []]
def bLr2 : List Cl.St := [.par [1, 2] [.dk [], .lst []], .fr (.nm 3) (.rng [.blt .len [.var 0]]) lr2T, .ret (.var 2)]
def fLr2 : Fd := { np := 1, io := [], nn := 6, body := bLr2 }
theorem lr2_c (x z2 z3 z4 : Option W) (kvs : List (L2.Key × D)) (y : Nat) : tst (.cmp .notin (.var 5) (.var 1)) (ev nc cl (.cmp .notin (.var 5) (.var 1))) [x, some (.fk kvs), z2, z3, z4, some (.d (.int (y : Nat)))] = .ok (!hasK kvs (.inl (y : Int))) [x, some (.fk kvs), z2, z3, z4, some (.d (.int (y : Nat)))] := by
  simp [tst, opd, ev, rd, cmpop, inD, keyD, hasK, truth]
theorem dput_le (kvs : List (L2.Key × D)) (k : L2.Key) (v : D) : (dput kvs k v).length ≤ kvs.length + 1 := by
  unfold dput
  split <;> simp
theorem lr2_s {g : List Nat} (z2 z3 : Option W) (kvs : List (L2.Key × D)) (row : List Nat) (y : Nat) (hy : y < g.length) (h1 : kvs.length < 1000000) (h2 : row.length < 1000000) : runs nc cl lr2W [some (.d (tN g)), some (.fk kvs), z2, z3, some (.fl (lD row)), some (.d (.int (y : Nat)))] =
    .nx [some (.d (tN g)), some (.fk (dput kvs (.inl (y : Int)) (.bl true))), z2, z3, some (.fl (lD (row ++ [y]))), some (.d (.int (G g y : Nat)))] := by
  have a0 : run nc cl (.six 1 (.var 5) (.con (.bl true))) [some (.d (tN g)), some (.fk kvs), z2, z3, some (.fl (lD row)), some (.d (.int (y : Nat)))] = .nx [some (.d (tN g)), some (.fk (dput kvs (.inl (y : Int)) (.bl true))), z2, z3, some (.fl (lD row)), some (.d (.int (y : Nat)))] := by
    simp [run, ev, opd, rd, Out.ofR, setop, keyD, line_lt h1, W.own]
  have a1 := app_lD (nc := nc) (cl := cl) (i := 4) (e := .var 5) (σ := [some (.d (tN g)), some (.fk (dput kvs (.inl (y : Int)) (.bl true))), z2, z3, some (.fl (lD row)), some (.d (.int (y : Nat)))]) (σ1 := [some (.d (tN g)), some (.fk (dput kvs (.inl (y : Int)) (.bl true))), z2, z3, some (.fl (lD row)), some (.d (.int (y : Nat)))]) (w := .d (.int (y : Nat))) rfl (by simp [ev, W.own]) rfl (by rw [lD_len]; exact h2)
  have e1 : ∀ l : List Nat, lD l ++ [(W.d (.int (y : Nat))).toD] = lD (l ++ [y]) := fun l => by rw [lD_app]; rfl
  rw [e1] at a1
  have a3 : run nc cl (.set 5 (.ix (.var 0) (.var 5))) [some (.d (tN g)), some (.fk (dput kvs (.inl (y : Int)) (.bl true))), z2, z3, some (.fl (lD (row ++ [y]))), some (.d (.int (y : Nat)))] = .nx [some (.d (tN g)), some (.fk (dput kvs (.inl (y : Int)) (.bl true))), z2, z3, some (.fl (lD (row ++ [y]))), some (.d (.int (G g y : Nat)))] := by
    have := atI_lD hy
    simp [run, ev, opd, rd, ixD, this, Out.ofR, setS]
  unfold lr2W
  rw [runs_nx a0, runs_nx a1]
  exact runs_one a3
theorem lr2_p (x z1 z2 z4 z5 : Option W) (b : Nat) : run nc cl (.par [4, 5] [.lst [], .var 3]) [x, z1, z2, some (.d (.int (b : Nat))), z4, z5] = .nx [x, z1, z2, some (.d (.int (b : Nat))), some (.fl []), some (.d (.int (b : Nat)))] := by
  simp [run, evWs, ev, evDs, Out.ofR, setSs, W.own]
/-- a dict that knows just some places -/
def Knows (kvs : List (L2.Key × D)) (m : List Nat) (n : Nat) : Prop := ∀ y, y < n → hasK kvs (.inl (y : Int)) = decide (y ∈ m)
theorem Knows.put {kvs : List (L2.Key × D)} {m : List Nat} {n y : Nat} (h : Knows kvs m n) : Knows (dput kvs (.inl (y : Int)) (.bl true)) (m ++ [y]) n := fun z hz => by
  rw [hasK_put, h z hz]
  by_cases e : y = z
  · subst e; simp
  · have e1 : ¬ ((Sum.inl (y : Int) : L2.Key) = .inl (z : Int)) := fun q => e (by have := Sum.inl.inj q; omega)
    have e2 : ¬ z = y := fun q => e q.symm
    simp [e1, e2]
theorem lr2_turn {g : List Nat} {n b : Nat} (hg : g.length = n) (hn : n ≤ 900) (hf : Pf (G g) n) (hb : b < n) (kvs : List (L2.Key × D)) (hk : Knows kvs (laps (G g) n b).flatten n) (hkl : kvs.length ≤ b * n) (z4 z5 : Option W) :
    ∃ kvs' z4' z5', Knows kvs' (laps (G g) n (b + 1)).flatten n ∧ kvs'.length ≤ (b + 1) * n ∧ runs nc cl lr2T [some (.d (tN g)), some (.fk kvs), some (.fl ((laps (G g) n b).map tN)), some (.d (.int (b : Nat))), z4, z5] =
      .nx [some (.d (tN g)), some (.fk kvs'), some (.fl ((laps (G g) n (b + 1)).map tN)), some (.d (.int (b : Nat))), z4', z5'] := by
  have e1 := lr2_p (nc := nc) (cl := cl) (some (.d (tN g))) (some (.fk kvs)) (some (.fl ((laps (G g) n b).map tN))) z4 z5 b
  have hbig : (b + 1) * n ≤ 900 * 900 := Nat.mul_le_mul (by omega) hn
  have hbn : b * n + n = (b + 1) * n := by rw [Nat.succ_mul]
  obtain ⟨p1, p2, p3, p4⟩ := per_is hf hb
  cases hm : minB (G g) n b with
  | false =>
    have hmem := (met_self hf hb).mpr hm
    have hkb : hasK kvs (.inl (b : Int)) = true := by rw [hk b hb]; exact decide_eq_true hmem
    obtain ⟨τ, e2, e3⟩ := whl_ok (nc := nc) (cl := cl) (n := 1000000) (m := 0) (c := .cmp .notin (.var 5) (.var 1)) (b := lr2W) (σ := [some (.d (tN g)), some (.fk kvs), some (.fl ((laps (G g) n b).map tN)), some (.d (.int (b : Nat))), some (.fl []), some (.d (.int (b : Nat)))])
      (fun i τ => τ = [some (.d (tN g)), some (.fk kvs), some (.fl ((laps (G g) n b).map tN)), some (.d (.int (b : Nat))), some (.fl []), some (.d (.int (b : Nat)))])
      (fun τ => τ = [some (.d (tN g)), some (.fk kvs), some (.fl ((laps (G g) n b).map tN)), some (.d (.int (b : Nat))), some (.fl []), some (.d (.int (b : Nat)))]) (by omega) (fun i τ hi => absurd hi (Nat.not_lt_zero _)) (fun τ e => by
        subst e
        refine ⟨_, ?_, rfl⟩
        rw [lr2_c, hkb]; rfl) rfl
    subst e3
    refine ⟨kvs, some (.fl []), some (.d (.int (b : Nat))), ?_, by omega, ?_⟩
    · rw [laps_succ, hm]; simpa using hk
    unfold lr2T
    rw [runs_nx e1, runs_nx e2, laps_succ, hm]
    have c1 : tst (.cmp .ne (.var 4) (.lst [])) (ev nc cl (.cmp .ne (.var 4) (.lst []))) [some (.d (tN g)), some (.fk kvs), some (.fl ((laps (G g) n b).map tN)), some (.d (.int (b : Nat))), some (.fl []), some (.d (.int (b : Nat)))] = .ok false [some (.d (tN g)), some (.fk kvs), some (.fl ((laps (G g) n b).map tN)), some (.d (.int (b : Nat))), some (.fl []), some (.d (.int (b : Nat)))] := by
      have : eqD (.lst []) (.lst []) = some true := (eqD_lN [] []).trans rfl
      simp [tst, opd, ev, evDs, rd, cmpop, this, truth]
    refine (runs_one (σ' := [some (.d (tN g)), some (.fk kvs), some (.fl ((laps (G g) n b).map tN)), some (.d (.int (b : Nat))), some (.fl []), some (.d (.int (b : Nat)))]) ?_).trans (by simp)
    rw [run_iteE c1]; rfl
  | true =>
    have hno : ∀ i, i < per (G g) n b → it (G g) i b ∉ (laps (G g) n b).flatten ++ (Rn i).map (fun j => it (G g) j b) := fun i hi z => by
      rcases List.mem_append.mp z with z | z
      · exact met_none hf hb hm ((mem_orb hf hb).mpr ⟨i, rfl⟩) z
      · obtain ⟨j, hj, e⟩ := List.mem_map.mp z
        exact orb_nd hf hb j i (List.mem_range.mp hj) hi e
    have e5 : ∀ (i : Nat) (M : List Nat), M ++ (Rn (i + 1)).map (fun j => it (G g) j b) = (M ++ (Rn i).map fun j => it (G g) j b) ++ [it (G g) i b] := fun i M => by
      rw [show Rn (i + 1) = Rn i ++ [i] from List.range_succ, List.map_append, List.append_assoc]; rfl
    obtain ⟨τ, e2, kvs', e3, hk', hl'⟩ := whl_ok (nc := nc) (cl := cl) (n := 1000000) (m := per (G g) n b) (c := .cmp .notin (.var 5) (.var 1)) (b := lr2W) (σ := [some (.d (tN g)), some (.fk kvs), some (.fl ((laps (G g) n b).map tN)), some (.d (.int (b : Nat))), some (.fl []), some (.d (.int (b : Nat)))])
      (fun i τ => ∃ kvs', τ = [some (.d (tN g)), some (.fk kvs'), some (.fl ((laps (G g) n b).map tN)), some (.d (.int (b : Nat))), some (.fl (lD ((Rn i).map fun j => it (G g) j b))), some (.d (.int (it (G g) i b : Nat)))] ∧ Knows kvs' ((laps (G g) n b).flatten ++ (Rn i).map fun j => it (G g) j b) n ∧ kvs'.length ≤ b * n + i)
      (fun τ => ∃ kvs', τ = [some (.d (tN g)), some (.fk kvs'), some (.fl ((laps (G g) n b).map tN)), some (.d (.int (b : Nat))), some (.fl (lD (orb (G g) n b))), some (.d (.int (b : Nat)))] ∧ Knows kvs' ((laps (G g) n b).flatten ++ orb (G g) n b) n ∧ kvs'.length ≤ b * n + per (G g) n b) (by omega) (fun i τ hi ⟨kvs', e, hk', hl'⟩ => by
        subst e
        have s := lr2_s (nc := nc) (cl := cl) (g := g) (some (.fl ((laps (G g) n b).map tN))) (some (.d (.int (b : Nat)))) kvs' ((Rn i).map fun j => it (G g) j b) (it (G g) i b) (by rw [hg]; exact it_lt hf hb i) (by omega) (by simp [Rn]; omega)
        have hh : hasK kvs' (.inl ((it (G g) i b : Nat) : Int)) = false := by rw [hk' _ (it_lt hf hb i)]; exact decide_eq_false (hno i hi)
        refine ⟨_, _, by rw [lr2_c, hh]; rfl, s, dput kvs' (.inl ((it (G g) i b : Nat) : Int)) (.bl true), ?_, ?_, ?_⟩
        · have e6 := e5 i []
          rw [List.nil_append, List.nil_append] at e6
          rw [e6]; rfl
        · rw [e5]; exact hk'.put
        · have := dput_le kvs' (.inl ((it (G g) i b : Nat) : Int)) (.bl true)
          omega) (fun τ ⟨kvs', e, hk', hl'⟩ => by
        subst e
        refine ⟨_, ?_, kvs', rfl, hk', hl'⟩
        have hh : hasK kvs' (.inl ((it (G g) (per (G g) n b) b : Nat) : Int)) = true := by
          rw [hk' _ (it_lt hf hb _)]
          refine decide_eq_true (List.mem_append.mpr (.inr (List.mem_map.mpr ⟨0, List.mem_range.mpr p1, ?_⟩)))
          rw [p3]; rfl
        rw [lr2_c, hh, p3]; rfl) ⟨kvs, by simp [Rn, it], by simpa [Rn] using hk, by omega⟩
    subst e3
    refine ⟨kvs', some (.fl (lD (orb (G g) n b))), some (.d (.int (b : Nat))), ?_, by omega, ?_⟩
    · rw [laps_succ, hm]; simpa using hk'
    unfold lr2T
    rw [runs_nx e1, runs_nx e2, laps_succ, hm]
    have ne : orb (G g) n b ≠ [] := fun z => by
      have := orb_len (G g) n b
      rw [z] at this
      simp at this
      omega
    have c1 : tst (.cmp .ne (.var 4) (.lst [])) (ev nc cl (.cmp .ne (.var 4) (.lst []))) [some (.d (tN g)), some (.fk kvs'), some (.fl ((laps (G g) n b).map tN)), some (.d (.int (b : Nat))), some (.fl (lD (orb (G g) n b))), some (.d (.int (b : Nat)))] = .ok true [some (.d (tN g)), some (.fk kvs'), some (.fl ((laps (G g) n b).map tN)), some (.d (.int (b : Nat))), some (.fl (lD (orb (G g) n b))), some (.d (.int (b : Nat)))] := by
      have : eqD (.lst (lD (orb (G g) n b))) (.lst []) = some false := (eqD_lN (orb (G g) n b) []).trans (by simp [ne])
      simp [tst, opd, ev, evDs, rd, cmpop, this, truth]
    refine runs_one ?_
    rw [run_iteE c1, if_pos rfl]
    refine runs_one ?_
    have ls := laps_lt (f := G g) (n := n) b
    have ap : mutop .append (.fl ((laps (G g) n b).map tN)) [tN (orb (G g) n b)] = some (.non, .fl ((laps (G g) n b).map tN ++ [tN (orb (G g) n b)])) := app_ok (by rw [List.length_map]; omega)
    have tb : bltop .tuple [.lst (lD (orb (G g) n b))] = some (.d (tN (orb (G g) n b))) := rfl
    have eb : ev nc cl (.blt .tuple [.var 4]) [some (.d (tN g)), some (.fk kvs'), some (.fl ((laps (G g) n b).map tN)), some (.d (.int (b : Nat))), some (.fl (lD (orb (G g) n b))), some (.d (.int (b : Nat)))] = .ok (.d (tN (orb (G g) n b))) [some (.d (tN g)), some (.fk kvs'), some (.fl ((laps (G g) n b).map tN)), some (.d (.int (b : Nat))), some (.fl (lD (orb (G g) n b))), some (.d (.int (b : Nat)))] := by
      simp [ev, evOs, opd, rds, rd, tb]
    rw [run_exprE (ev_mutE (m := .append) (i := 2) rfl rfl (evDs_one eb) rfl ap)]
    simp
theorem lr2_ok {f : Nat} (h : P[f]? = some fLr2) (k : Nat) {g : List Nat} {n : Nat} (hg : g.length = n) (hn : n ≤ 900) (hf : Pf (G g) n) : callN P nc (k + 1) f [.d (tN g)] = .ok (.fl ((laps (G g) n n).map tN)) [] := by
  have e0 : run nc (callN P nc k) (.par [1, 2] [.dk [], .lst []]) [some (.d (tN g)), none, none, none, none, none] = .nx [some (.d (tN g)), some (.fk []), some (.fl []), none, none, none] := by
    simp [run, evWs, ev, evDs, putAll, Out.ofR, setSs]
  obtain ⟨τ, e1, kvs, z3, z4, z5, e2, _⟩ := fr_ok (nc := nc) (cl := callN P nc k) (t := .nm 3) (it := .rng [.blt .len [.var 0]]) (b := lr2T) (σ := [some (.d (tN g)), some (.fk []), some (.fl []), none, none, none]) (σ1 := [some (.d (tN g)), some (.fk []), some (.fl []), none, none, none]) (w := .fl (lD (Rn n))) (xs := lD (Rn n))
    (fun b τ => ∃ kvs z3 z4 z5, τ = [some (.d (tN g)), some (.fk kvs), some (.fl ((laps (G g) n b).map tN)), z3, z4, z5] ∧ Knows kvs (laps (G g) n b).flatten n ∧ kvs.length ≤ b * n) (by
      have := rng_lD (show n ≤ 16777216 by omega)
      simp [ev, evOs, opd, rds, rd, bltop, lenD, hg, this]) rfl (by simp [Rn]; omega) (fun b d τ hd ⟨kvs, z3, z4, z5, e, hk, hkl⟩ => by
      subst e
      have hb : b < n := by
        have := (List.getElem?_eq_some_iff.mp hd).1
        simpa [Rn] using this
      have ed : d = .int (b : Nat) := by
        rw [lD_get, Rn, List.getElem?_range hb] at hd
        exact (Option.some.inj hd).symm
      subst ed
      obtain ⟨kvs', z4', z5', hk', hl', e⟩ := lr2_turn (nc := nc) (cl := callN P nc k) hg hn hf hb kvs hk hkl z4 z5
      exact ⟨_, _, rfl, e, kvs', _, _, _, rfl, hk', hl'⟩) ⟨[], none, none, none, by simp [laps, Rn], fun y hy => by simp [hasK, dget, laps, Rn], by simp⟩
  refine fn_rt (ds := [tN g]) (body := bLr2) (st := [some (.d (tN g)), none, none, none, none, none]) (σ := τ.set 2 none) h rfl rfl rfl (Nat.le_of_ble_eq_true rfl) rfl rfl ?_
  unfold bLr2
  rw [runs_nx e0, runs_nx e1, e2]
  simp [runs, run, Rn]
end
end Pl

/-! Pn, part F: states by what stands at their slots. -/
namespace Cl
section
variable {nc : Nat} {cl : Calls} {σ σ' : Sg}
theorem wipS_len : ∀ (own : List Nat) (σ : Sg), (wipeS σ own).length = σ.length
  | [], σ => rfl
  | v :: vs, σ => by rw [wipeS, List.length_set, wipS_len vs]
theorem wipS_at : ∀ (own : List Nat) (σ : Sg) (i : Nat), i ∉ own → (wipeS σ own)[i]? = σ[i]?
  | [], σ, i, _ => rfl
  | v :: vs, σ, i, h => by
    rw [wipeS, List.getElem?_set_ne (fun z => h (by rw [z]; exact List.mem_cons_self)), wipS_at vs σ i fun z => h (List.mem_cons_of_mem _ z)]
theorem back_len (σ0 : Sg) : ∀ (own : List Nat) (σ : Sg), (backS σ0 σ own).length = σ.length
  | [], σ => rfl
  | v :: vs, σ => by rw [backS, List.length_set, back_len σ0 vs]
theorem back_at (σ0 : Sg) : ∀ (own : List Nat) (σ : Sg) (i : Nat), (backS σ0 σ own)[i]? = if i ∈ own ∧ i < σ.length then some (σ0[i]?.join) else σ[i]?
  | [], σ, i => by simp [backS]
  | v :: vs, σ, i => by
    rw [backS, get_set, back_at σ0 vs σ i, back_len]
    by_cases e : v = i
    · subst e
      by_cases h : v < σ.length
      · rw [if_pos ⟨rfl, h⟩, if_pos ⟨List.mem_cons_self, h⟩]
      · rw [if_neg (fun z => h z.2), if_neg (fun z => h z.2), if_neg (fun z => h z.2)]
    · rw [if_neg (fun z => e z.1)]
      by_cases h : i ∈ vs ∧ i < σ.length
      · rw [if_pos h, if_pos ⟨List.mem_cons_of_mem _ h.1, h.2⟩]
      · rw [if_neg h, if_neg fun z => h ⟨(List.mem_cons.mp z.1).resolve_left (fun q => e q.symm), z.2⟩]
/-- what a comprehension leaves, where the others' slots are told -/
theorem back_eq {σ τ ρ : Sg} {own : List Nat} (hl : τ.length = σ.length) (hr : ρ.length = σ.length) (h1 : ∀ i, i ∉ own → τ[i]? = ρ[i]?) (h2 : ∀ i, i ∈ own → ρ[i]? = σ[i]?) : backS σ τ own = ρ := by
  refine List.ext_getElem? fun i => ?_
  rw [back_at, hl]
  by_cases h : i ∈ own
  · by_cases hi : i < σ.length
    · rw [if_pos ⟨h, hi⟩, h2 i h, List.getElem?_eq_getElem hi]; rfl
    · rw [if_neg (fun z => hi z.2), List.getElem?_eq_none (by omega), List.getElem?_eq_none (by omega)]
  · rw [if_neg (fun z => h z.1), h1 i h]
theorem back_wipe (σ : Sg) (own : List Nat) : backS σ (wipeS σ own) own = σ :=
  back_eq (wipS_len own σ) rfl (fun i h => wipS_at own σ i h) fun _ _ => rfl
theorem wipe_one (σ : Sg) (v : Nat) : wipeS σ [v] = σ.set v none := rfl
/-- one turn over a name -/
theorem turn1 {e : Ex} {v : Nat} {x : D} {τ : Sg} {w : W} (hv : v < σ.length) (he : ev nc cl e (σ.set v (some (.d x))) = .ok w τ) : lcTurn [v] (.nm v) none (ev nc cl e) x (wipeS σ [v]) = .ok (some w.toD) (wipeS τ [v]) := by
  unfold lcTurn
  have : asg (.nm v) x (wipeS (wipeS σ [v]) [v]) = some (σ.set v (some (.d x))) := by
    show (if v < ((σ.set v none).set v none).length then some (((σ.set v none).set v none).set v (some (.d x))) else none) = _
    rw [if_pos (by simp; exact hv), List.set_set, List.set_set]
  rw [this]
  show R.bind (ev nc cl e _) _ = _
  rw [he]; rfl
theorem turn1' {e : Ex} {v : Nat} {x : D} {w : W} (hv : v < σ.length) (he : ev nc cl e (σ.set v (some (.d x))) = .ok w (σ.set v (some (.d x)))) : lcTurn [v] (.nm v) none (ev nc cl e) x (wipeS σ [v]) = .ok (some w.toD) (wipeS σ [v]) := by
  rw [turn1 hv he]
  show R.ok _ ((σ.set v (some (W.d x))).set v none) = _
  rw [List.set_set]; rfl
/-- one turn over a pair -/
theorem turn2 {e : Ex} {u v : Nat} {x y : D} {w : W} (huv : u ≠ v) (hu : u < σ.length) (hv : v < σ.length) (he : ev nc cl e ((σ.set u (some (.d x))).set v (some (.d y))) = .ok w ((σ.set u (some (.d x))).set v (some (.d y)))) : lcTurn [u, v] (.tp [.nm u, .nm v]) none (ev nc cl e) (.tup [x, y]) (wipeS σ [u, v]) = .ok (some w.toD) (wipeS σ [u, v]) := by
  have key : ∀ τ : Sg, τ.length = σ.length → (∀ i, i ≠ u → i ≠ v → τ[i]? = σ[i]?) → ((τ.set u (some (W.d x))).set v (some (.d y))) = ((σ.set u (some (W.d x))).set v (some (.d y))) := fun τ hl h => by
    refine List.ext_getElem? fun i => ?_
    simp only [get_set, List.length_set, hl]
    by_cases h1 : v = i
    · simp only [if_pos (And.intro h1 hv)]
    · have n1 : ¬ (v = i ∧ v < σ.length) := fun z => h1 z.1
      simp only [if_neg n1]
      by_cases h2 : u = i
      · simp only [if_pos (And.intro h2 hu)]
      · have n2 : ¬ (u = i ∧ u < σ.length) := fun z => h2 z.1
        simp only [if_neg n2]
        exact h i (Ne.symm h2) (Ne.symm h1)
  unfold lcTurn
  have ea : asg (.tp [.nm u, .nm v]) (.tup [x, y]) (wipeS (wipeS σ [u, v]) [u, v]) = some ((σ.set u (some (.d x))).set v (some (.d y))) := by
    have hl : (wipeS (wipeS σ [u, v]) [u, v]).length = σ.length := by rw [wipS_len, wipS_len]
    have hw : ∀ i, i ≠ u → i ≠ v → (wipeS (wipeS σ [u, v]) [u, v])[i]? = σ[i]? := fun i h1 h2 => by rw [wipS_at _ _ _ (by simp [h1, h2]), wipS_at _ _ _ (by simp [h1, h2])]
    generalize wipeS (wipeS σ [u, v]) [u, v] = τ at hl hw
    have e1 : asg (.tp [.nm u, .nm v]) (.tup [x, y]) τ = some ((τ.set u (some (.d x))).set v (some (.d y))) := by
      simp [asg, asgs, hl, hu, hv]
    rw [e1, key τ hl hw]
  rw [ea]
  show R.bind (ev nc cl e _) _ = _
  rw [he, R.bind_ok]
  have : wipeS ((σ.set u (some (W.d x))).set v (some (.d y))) [u, v] = wipeS σ [u, v] := by
    show (((σ.set u (some (W.d x))).set v (some (W.d y))).set v none).set u none = (σ.set v none).set u none
    refine List.ext_getElem? fun i => ?_
    simp only [get_set, List.length_set]
    by_cases h2 : u = i
    · simp only [if_pos (And.intro h2 hu)]
    · have n2 : ¬ (u = i ∧ u < σ.length) := fun z => h2 z.1
      simp only [if_neg n2]
      by_cases h1 : v = i
      · simp only [if_pos (And.intro h1 hv)]
      · have n1 : ¬ (v = i ∧ v < σ.length) := fun z => h1 z.1
        simp only [if_neg n1]
  rw [this]
/-- a comprehension over one name, by values -/
theorem lc1 {v : Nat} {it e : Ex} {w : W} {xs : List D} (G : D → D) (hi : ev nc cl it σ = .ok w σ) (hx : itemsD w.toD = some xs) (hv : v < σ.length) (hp : plainAt σ v = true) (hl : xs.length ≤ 1000000) (h : ∀ x ∈ xs, ∃ w, w.toD = G x ∧ ev nc cl e (σ.set v (some (.d x))) = .ok w (σ.set v (some (.d x)))) : ev nc cl (.lc [v] (.nm v) it none e) σ = .ok (.fl (xs.map G)) σ :=
  lc_map G hi hx (by simp [hp]) hl (back_wipe σ [v]) fun x hx => by
    obtain ⟨w, e1, e2⟩ := h x hx
    rw [← e1]
    exact turn1' hv e2
theorem lc2 {u v : Nat} {it e : Ex} {w : W} {xs : List D} (G : D → D) (hi : ev nc cl it σ = .ok w σ) (hx : itemsD w.toD = some xs) (huv : u ≠ v) (hu : u < σ.length) (hv : v < σ.length) (hp : plainAt σ u = true) (hq : plainAt σ v = true) (hl : xs.length ≤ 1000000) (h : ∀ z ∈ xs, ∃ x y w, z = .tup [x, y] ∧ w.toD = G z ∧ ev nc cl e ((σ.set u (some (.d x))).set v (some (.d y))) = .ok w ((σ.set u (some (.d x))).set v (some (.d y)))) : ev nc cl (.lc [u, v] (.tp [.nm u, .nm v]) it none e) σ = .ok (.fl (xs.map G)) σ :=
  lc_map G hi hx (by simp [hp, hq]) hl (back_wipe σ [u, v]) fun z hz => by
    obtain ⟨x, y, w, rfl, e1, e2⟩ := h z hz
    rw [← e1]
    exact turn2 huv hu hv e2
end
end Cl

/-! Pn, part G: states told. -/
namespace Cl
/-- what is known of a state: how many slots, what stands in some, which hold no list that may change -/
structure Sta (n : Nat) (l : List (Nat × W)) (vs : List Nat) (σ : Sg) : Prop where
  len : σ.length = n
  at_ : ∀ p ∈ l, σ[p.1]? = some (some p.2)
  pl : ∀ v ∈ vs, plainAt σ v = true
section
variable {nc : Nat} {cl : Calls} {n : Nat} {l l' : List (Nat × W)} {vs : List Nat} {σ : Sg}
theorem plain_set {i v : Nat} {w : W} (h : plainAt σ v = true) (hw : i = v → w.own = false) : plainAt (σ.set i (some w)) v = true := by
  unfold plainAt
  rw [get_set]
  by_cases e : i = v ∧ i < σ.length
  · rw [if_pos e]; simp [hw e.1]
  · rw [if_neg e]; exact h
theorem Sta.get (s : Sta n l vs σ) {i : Nat} {w : W} (h : (i, w) ∈ l) : σ[i]? = some (some w) := s.at_ _ h
theorem Sta.put (s : Sta n l vs σ) {i : Nat} {w : W} (hi : i < n) (hw : i ∈ vs → w.own = false) (h : ∀ p ∈ l', p = (i, w) ∨ (p.1 ≠ i ∧ p ∈ l)) : Sta n l' vs (σ.set i (some w)) where
  len := by rw [List.length_set]; exact s.len
  at_ := fun p hp => by
    rcases h p hp with rfl | ⟨h1, h2⟩
    · exact List.getElem?_set_self (by rw [s.len]; exact hi)
    · rw [List.getElem?_set_ne (Ne.symm h1)]; exact s.at_ p h2
  pl := fun v hv => plain_set (s.pl v hv) fun e => hw (by rw [e]; exact hv)
theorem Sta.less (s : Sta n l vs σ) (h : ∀ p ∈ l', p ∈ l) : Sta n l' vs σ := ⟨s.len, fun p hp => s.at_ p (h p hp), s.pl⟩
theorem Sta.some_ (s : Sta n l vs σ) {i : Nat} {w : W} (h : (i, w) ∈ l) : i < n := by
  have := s.at_ _ h
  have h2 := (List.getElem?_eq_some_iff.mp this).1
  rw [← s.len]; exact h2
theorem set_step (s : Sta n l vs σ) {i : Nat} {e : Ex} {w : W} (hi : i < n) (he : ev nc cl e σ = .ok w σ) (hw : i ∈ vs → w.own = false) (h : ∀ p ∈ l', p = (i, w) ∨ (p.1 ≠ i ∧ p ∈ l)) : ∃ τ, run nc cl (.set i e) σ = .nx τ ∧ Sta n l' vs τ :=
  ⟨_, run_setE he (by rw [s.len]; exact hi), s.put hi hw h⟩
/-- a loop under what is told -/
theorem fr_sta {t : Tg} {it : Ex} {b : List Cl.St} {w : W} {xs : List D} (I : Nat → List (Nat × W)) (s0 : Sta n l vs σ) (hi : ev nc cl it σ = .ok w σ) (hx : itemsD w.toD = some xs) (hl : xs.length ≤ 1000000) (h0 : ∀ p ∈ I 0, p ∈ l)
    (h : ∀ i x τ, xs[i]? = some x → Sta n (I i) vs τ → ∃ τ1 τ2, asg t x τ = some τ1 ∧ runs nc cl b τ1 = .nx τ2 ∧ Sta n (I (i + 1)) vs τ2) : ∃ τ, run nc cl (.fr t it b) σ = .nx τ ∧ Sta n (I xs.length) vs τ :=
  fr_ok (fun i τ => Sta n (I i) vs τ) hi hx hl h (s0.less h0)
theorem Sta.asg1 (s : Sta n l vs σ) {i : Nat} {x : D} (hi : i < n) (h : ∀ p ∈ l', p = (i, W.d x) ∨ (p.1 ≠ i ∧ p ∈ l)) : asg (.nm i) x σ = some (σ.set i (some (.d x))) ∧ Sta n l' vs (σ.set i (some (.d x))) :=
  ⟨if_pos (by rw [s.len]; exact hi), s.put hi (fun _ => rfl) h⟩
theorem Sta.asg2 (s : Sta n l vs σ) {i j : Nat} {x y : D} (hi : i < n) (hj : j < n) (hij : i ≠ j) (h : ∀ p ∈ l', p = (j, W.d y) ∨ (p.1 ≠ j ∧ (p = (i, W.d x) ∨ (p.1 ≠ i ∧ p ∈ l)))) : asg (.tp [.nm i, .nm j]) (.tup [x, y]) σ = some ((σ.set i (some (.d x))).set j (some (.d y))) ∧ Sta n l' vs ((σ.set i (some (.d x))).set j (some (.d y))) := by
  refine ⟨by simp [asg, asgs, s.len, hi, hj], ?_⟩
  refine ⟨by simp [s.len], fun p hp => ?_, fun v hv => plain_set (plain_set (s.pl v hv) fun _ => rfl) fun _ => rfl⟩
  rcases h p hp with rfl | ⟨h1, rfl | ⟨h2, h3⟩⟩
  · exact List.getElem?_set_self (by simp [s.len, hj])
  · rw [List.getElem?_set_ne (Ne.symm h1)]
    exact List.getElem?_set_self (by rw [s.len]; exact hi)
  · rw [List.getElem?_set_ne (Ne.symm h1), List.getElem?_set_ne (Ne.symm h2)]
    exact s.at_ p h3
end
end Cl
namespace Pl
open Cl Pm
section
variable {P : Pg} {nc : Nat} {cl : Calls} {n : Nat} {l l' : List (Nat × W)} {vs : List Nat} {σ : Sg}
/-- a row that is drawn: E draws a number for each of some things -/
theorem drawn {v hi_ : Nat} {it E : Ex} {w h : W} {xs : List D} {Q : Int → Prop} (s : Sta n l vs σ) (hh : Hand h) (h1 : σ[hi_]? = some (some h)) (hi : ev nc cl it σ = .ok w σ) (hx : itemsD w.toD = some xs) (hv : v < n) (hvh : v ≠ hi_) (hp : plainAt σ v = true) (hl : xs.length ≤ 1000)
    (hE : ∀ (τ : Sg) (g : W), Hand g → τ[hi_]? = some (some g) → ∃ x g', Hand g' ∧ Q x ∧ ev nc cl E τ = .ok (.d (.int x)) (τ.set hi_ (some g'))) :
    ∃ r h', Hand h' ∧ r.length = xs.length ∧ (∀ x ∈ r, Q x) ∧ ev nc cl (.lc [v] (.nm v) it none E) σ = .ok (.fl (iD r)) (σ.set hi_ (some h')) := by
  have hhi : hi_ < n := by
    have := (List.getElem?_eq_some_iff.mp h1).1
    rw [← s.len]; exact this
  obtain ⟨ys, σ', ec, ⟨h3, hh3, e3⟩, hy, hlen⟩ := lcL_inv (f := lcTurn [v] (.nm v) (evC nc cl none) (ev nc cl E)) (I := fun τ => ∃ g, Hand g ∧ τ = wipeS (σ.set hi_ (some g)) [v]) (G := fun _ y => ∃ x, y = .int x ∧ Q x) (xs := xs) (acc := []) (σ := wipeS σ [v]) (fun x hx τ ⟨g, hg, eτ⟩ => by
      subst eτ
      obtain ⟨y, g', hg', hQ, e⟩ := hE ((σ.set hi_ (some g)).set v (some (.d x))) g hg (by
        rw [List.getElem?_set_ne hvh]; exact List.getElem?_set_self (by rw [s.len]; exact hhi))
      refine ⟨.int y, _, turn1 (by rw [List.length_set, s.len]; exact hv) e, ⟨g', hg', ?_⟩, y, rfl, hQ⟩
      show (((σ.set hi_ (some g)).set v (some (W.d x))).set hi_ (some g')).set v none = (σ.set hi_ (some g')).set v none
      refine List.ext_getElem? fun i => ?_
      simp only [get_set, List.length_set]
      by_cases e1 : v = i
      · simp only [if_pos (And.intro e1 (show v < σ.length by rw [s.len]; exact hv))]
      · have n1 : ¬ (v = i ∧ v < σ.length) := fun z => e1 z.1
        simp only [if_neg n1]
        by_cases e2 : hi_ = i
        · simp only [if_pos (And.intro e2 (show hi_ < σ.length by rw [s.len]; exact hhi))]
        · have n2 : ¬ (hi_ = i ∧ hi_ < σ.length) := fun z => e2 z.1
          simp only [if_neg n2]) ⟨h, hh, by
        have : σ.set hi_ (some h) = σ := by
          refine List.ext_getElem? fun i => ?_
          rw [get_set]
          by_cases e : hi_ = i ∧ hi_ < σ.length
          · rw [if_pos e, ← e.1, h1]
          · rw [if_neg e]
        rw [this]⟩
  have hr : ∃ r : List Int, ys = iD r ∧ ∀ x ∈ r, Q x := by
    clear ec hlen
    induction ys with
    | nil => exact ⟨[], rfl, fun _ h => nomatch h⟩
    | cons y ys ih =>
      obtain ⟨r, e1, e2⟩ := ih fun z hz => hy z (List.mem_cons_of_mem _ hz)
      obtain ⟨_, _, x, rfl, q⟩ := hy y List.mem_cons_self
      refine ⟨x :: r, by rw [e1]; rfl, fun z hz => ?_⟩
      rcases List.mem_cons.mp hz with rfl | hz
      · exact q
      · exact e2 z hz
  obtain ⟨r, er, hr⟩ := hr
  refine ⟨r, h3, hh3, by rw [← hlen, er, iD, List.length_map], hr, ?_⟩
  rw [List.nil_append, er] at ec
  have := lc_ok (own := [v]) (t := .nm v) (it := it) (c := none) (e := E) (nc := nc) (cl := cl) (σ := σ) (σ1 := σ) (w := w) (xs := xs) hi hx (by simp [hp]) hl ec
  rw [this, e3]
  congr 1
  refine back_eq (by rw [wipS_len, List.length_set]) (by rw [List.length_set]) (fun i hi => wipS_at _ _ _ hi) fun i hi => ?_
  rw [List.mem_singleton] at hi
  subst hi
  rw [List.getElem?_set_ne (Ne.symm hvh)]
end
end Pl

/-! Pn, part H: steps through told states; what a row's text needs; numbers by dicts. -/
namespace Cl
/-- what is told of a slot -/
def lk : List (Nat × W) → Nat → Option W
  | [], _ => none
  | p :: l, i => if Nat.beq p.1 i then some p.2 else lk l i
def dl : List (Nat × W) → Nat → List (Nat × W)
  | [], _ => []
  | p :: l, i => if Nat.beq p.1 i then dl l i else p :: dl l i
abbrev up (l : List (Nat × W)) (i : Nat) (w : W) : List (Nat × W) := (i, w) :: dl l i
section
variable {nc : Nat} {cl : Calls} {n : Nat} {l l' : List (Nat × W)} {vs : List Nat} {σ σ1 : Sg} {Q : Sg → Prop}
theorem lk_mem : ∀ {l : List (Nat × W)} {i : Nat} {w : W}, lk l i = some w → (i, w) ∈ l
  | p :: l, i, w, h => by
    unfold lk at h
    split at h
    · rename_i e
      have e := Nat.eq_of_beq_eq_true e
      subst e
      cases h
      exact List.mem_cons_self
    · exact List.mem_cons_of_mem _ (lk_mem h)
theorem dl_mem : ∀ {l : List (Nat × W)} {i : Nat} {p : Nat × W}, p ∈ dl l i → p.1 ≠ i ∧ p ∈ l
  | a :: l, i, p, h => by
    unfold dl at h
    split at h
    · obtain ⟨h1, h2⟩ := dl_mem h
      exact ⟨h1, List.mem_cons_of_mem _ h2⟩
    · rename_i e
      rcases List.mem_cons.mp h with rfl | h
      · exact ⟨fun z => e (by rw [z]; exact Nat.beq_refl i), List.mem_cons_self⟩
      · obtain ⟨h1, h2⟩ := dl_mem h
        exact ⟨h1, List.mem_cons_of_mem _ h2⟩
theorem Sta.lk (s : Sta n l vs σ) (i : Nat) {w : W} (h : Cl.lk l i = some w) : σ[i]? = some (some w) := s.at_ _ (lk_mem h)
theorem Sta.up (s : Sta n l vs σ) {i : Nat} {w : W} (hi : Nat.ble (i + 1) n = true) (hw : (!vs.contains i || !w.own) = true) : Sta n (up l i w) vs (σ.set i (some w)) :=
  s.put (Nat.le_of_ble_eq_true hi) (fun h => by
    have : vs.contains i = true := by simpa using h
    rw [this] at hw
    simpa using hw) fun p hp => by
    rcases List.mem_cons.mp hp with rfl | hp
    · exact Or.inl rfl
    · exact Or.inr (dl_mem hp)
/-- only some of what is told -/
def kp : List (Nat × W) → List Nat → List (Nat × W)
  | _, [] => []
  | l, i :: is => match lk l i with
    | some w => (i, w) :: kp l is
    | none => kp l is
theorem kp_mem : ∀ {is : List Nat} {l : List (Nat × W)} {p : Nat × W}, p ∈ kp l is → p ∈ l
  | i :: is, l, p, h => by
    unfold kp at h
    split at h
    · rename_i w e
      rcases List.mem_cons.mp h with rfl | h
      · exact lk_mem e
      · exact kp_mem h
    · exact kp_mem h
theorem Sta.kp (s : Sta n l vs σ) (is : List Nat) : Sta n (kp l is) vs σ := s.less fun _ h => kp_mem h
theorem Sta.plain (s : Sta n l vs σ) {v : Nat} (h : vs.contains v = true) : plainAt σ v = true := s.pl v (by simpa using h)
/-- a statement, and what is behind it -/
theorem go_st {a : Cl.St} {ss : List Cl.St} {τ : Sg} (h : run nc cl a σ = .nx τ) (k : ∃ τ', runs nc cl ss τ = .nx τ' ∧ Q τ') : ∃ τ', runs nc cl (a :: ss) σ = .nx τ' ∧ Q τ' := by
  obtain ⟨τ', e, q⟩ := k
  exact ⟨τ', by rw [runs_nx h, e], q⟩
theorem go_end (h : Q σ) : ∃ τ', runs nc cl [] σ = .nx τ' ∧ Q τ' := ⟨σ, rfl, h⟩
theorem go_set {i : Nat} {e : Ex} {w : W} {ss : List Cl.St} {l1 : List (Nat × W)} (he : ev nc cl e σ = .ok w σ1) (s1 : Sta n l1 vs σ1) (hi : Nat.ble (i + 1) n = true) (hw : (!vs.contains i || !w.own) = true) (k : ∀ τ, Sta n (up l1 i w) vs τ → ∃ τ', runs nc cl ss τ = .nx τ' ∧ Q τ') : ∃ τ', runs nc cl (.set i e :: ss) σ = .nx τ' ∧ Q τ' :=
  go_st (run_setE he (by rw [s1.len]; exact Nat.le_of_ble_eq_true hi)) (k _ (s1.up hi hw))
theorem go_no {c : Ex} {a : List Cl.St} {ss : List Cl.St} (hc : tst c (ev nc cl c) σ = .ok false σ1) (k : ∃ τ', runs nc cl ss σ1 = .nx τ' ∧ Q τ') : ∃ τ', runs nc cl (.ite c a [] :: ss) σ = .nx τ' ∧ Q τ' :=
  go_st (τ := σ1) (by rw [run_ite, hc]; rfl) k
/-- a loop, its things told -/
theorem go_fr {t : Tg} {it : Ex} {b ss : List Cl.St} {w : W} {xs : List D} (I : Nat → Sg → Prop) (hi : ev nc cl it σ = .ok w σ1) (hx : itemsD w.toD = some xs) (hl : xs.length ≤ 1000000) (h0 : I 0 σ1)
    (h : ∀ i x τ, xs[i]? = some x → I i τ → ∃ τ1, asg t x τ = some τ1 ∧ ∃ τ2, runs nc cl b τ1 = .nx τ2 ∧ I (i + 1) τ2) (k : ∀ τ, I xs.length τ → ∃ τ', runs nc cl ss τ = .nx τ' ∧ Q τ') : ∃ τ', runs nc cl (.fr t it b :: ss) σ = .nx τ' ∧ Q τ' := by
  obtain ⟨τ, e, i1⟩ := fr_ok I hi hx hl (fun i x τ hx hi => by
    obtain ⟨τ1, e1, τ2, e2, e3⟩ := h i x τ hx hi
    exact ⟨τ1, τ2, e1, e2, e3⟩) h0
  exact go_st e (k τ i1)
theorem Sta.nm (s : Sta n l vs σ) {i : Nat} {x : D} (hi : Nat.ble (i + 1) n = true) : asg (.nm i) x σ = some (σ.set i (some (.d x))) ∧ Sta n (Cl.up l i (.d x)) vs (σ.set i (some (.d x))) :=
  ⟨if_pos (by rw [s.len]; exact Nat.le_of_ble_eq_true hi), s.up hi (by simp [W.own])⟩
theorem Sta.tp (s : Sta n l vs σ) {i j : Nat} {x y : D} (hi : Nat.ble (i + 1) n = true) (hj : Nat.ble (j + 1) n = true) : asg (.tp [.nm i, .nm j]) (.tup [x, y]) σ = some ((σ.set i (some (.d x))).set j (some (.d y))) ∧ Sta n (Cl.up (Cl.up l i (.d x)) j (.d y)) vs ((σ.set i (some (.d x))).set j (some (.d y))) :=
  ⟨by
    have h1 := Nat.le_of_ble_eq_true hi
    have h2 := Nat.le_of_ble_eq_true hj
    simp [asg, asgs, s.len, show i < n from h1, show j < n from h2], (s.up hi (by simp [W.own])).up hj (by simp [W.own])⟩
/-- two texts that are the same -/
theorem same_no {a b : Ex} {x : PySem.Str} {σ2 : Sg} (h1 : ev nc cl (.rpr a) σ = .ok (.d (.str x)) σ1) (h2 : ev nc cl (.rpr b) σ1 = .ok (.d (.str x)) σ2) : ev nc cl (.cmp .ne (.rpr a) (.rpr b)) σ = .ok (.d (.bl false)) σ2 := by
  show R.bind (opd (.rpr a) (ev nc cl (.rpr a)) σ) _ = _
  have o1 : opd (.rpr a) (ev nc cl (.rpr a)) σ = .ok (.val (.str x)) σ1 := by
    show R.bind (ev nc cl (.rpr a) σ) _ = _
    rw [h1]; rfl
  have o2 : opd (.rpr b) (ev nc cl (.rpr b)) σ1 = .ok (.val (.str x)) σ2 := by
    show R.bind (ev nc cl (.rpr b) σ1) _ = _
    rw [h2]; rfl
  rw [o1, R.bind_ok, o2, R.bind_ok]
  show ofO ((cmpop .ne (.str x) (.str x)).map fun b => W.d (.bl b)) σ2 = _
  rw [Pl.eqD_str]; rfl
theorem tst_of {c : Ex} {b : Bool} (hv : ∀ i, c ≠ .var i) (h : ev nc cl c σ = .ok (.d (.bl b)) σ1) : tst c (ev nc cl c) σ = .ok b σ1 := by
  unfold tst
  have : opd c (ev nc cl c) σ = .ok (.val (.bl b)) σ1 := by
    have : opd c (ev nc cl c) σ = (ev nc cl c σ).bind fun w σ' => .ok (.val w.toD) σ' := by
      cases c <;> first | rfl | exact absurd rfl (hv _)
    rw [this, h]; rfl
  rw [this]
  rfl
end
end Cl
namespace Pl
open Cl Pm
section
/-! ### texts of rows -/
theorem narI : ∀ l : List Int, (∀ x ∈ l, -1000000000000 ≤ x ∧ x ≤ 1000000000000) → D.nars (iD l) = true
  | [], _ => rfl
  | a :: l, h => by
    have h1 := h a List.mem_cons_self
    rw [iD, List.map_cons, D.nars, ← iD, narI l fun x hx => h x (List.mem_cons_of_mem _ hx)]
    have h2 : a.natAbs < 10 ^ 60 := Nat.lt_of_le_of_lt (show a.natAbs ≤ 1000000000000 by omega) (by decide)
    show (decide (a.natAbs < 10 ^ 60) && true) = true
    rw [decide_eq_true h2]; rfl
theorem blkI : ∀ l : List Int, D.blks (iD l) = l.length
  | [] => rfl
  | a :: l => by
    rw [iD, List.map_cons, D.blks, ← iD, blkI l]
    show 0 + 1 + l.length = _
    rw [List.length_cons]; omega
theorem okNs_iD : ∀ (n : Nat) (l : List Int), D.okNs n (iD l) = true
  | _, [] => by simp [D.okNs, iD]
  | n, a :: l => by
    rw [iD, List.map_cons, D.okNs, ← iD, okNs_iD n l]
    simp [D.okN]
theorem rpr_I {l : List Int} (h : ∀ x ∈ l, -1000000000000 ≤ x ∧ x ≤ 1000000000000) (hl : l.length ≤ 1000) : rprD (rT l) = some (D.py (rT l)).shown := by
  refine rpr_ok ?_ ?_ ?_
  · show D.okN 60 (.tup (iD l)) = true
    rw [D.okN, okNs_iD]
  · show D.nars (iD l) = true
    exact narI l h
  · show D.blks (iD l) ≤ _
    rw [blkI]; omega
theorem eqbs_iD : ∀ l : List Int, D.eqbs (iD l) (iD l) = true
  | [] => rfl
  | a :: l => by
    rw [iD, List.map_cons, D.eqbs, ← iD, eqbs_iD l]
    simp [D.eqb]
theorem ne_iL (l : List Int) : cmpop .ne (.lst (iD l)) (.lst (iD l)) = some false := by
  have : eqD (.lst (iD l)) (.lst (iD l)) = some true := by
    unfold eqD D.ok
    rw [D.okN, okNs_iD]
    simp [D.eqb, eqbs_iD]
  show (eqD _ _).map _ = _
  rw [this]; rfl
/-! ### how large the numbers are -/
theorem sm_le {r : List Int} {B : Nat} (h : ∀ x ∈ r, -(B : Int) ≤ x ∧ x ≤ B) : ∀ l : List Nat, -((l.length * B : Nat) : Int) ≤ sm r l ∧ sm r l ≤ ((l.length * B : Nat) : Int)
  | [] => by simp [sm]
  | p :: l => by
    have ih := sm_le h l
    have hp : -(B : Int) ≤ Rr r p ∧ Rr r p ≤ B := by
      unfold Rr
      rw [List.getD_eq_getElem?_getD]
      cases e : r[p]? with
      | none => simp
      | some x => exact h x (List.mem_of_getElem? e)
    rw [sm_cons, List.length_cons, Nat.succ_mul]
    omega
theorem set_all {f : List Int} {p : Nat} {t : Int} {Q : Int → Prop} (h : ∀ x ∈ f, Q x) (ht : Q t) : ∀ x ∈ f.set p t, Q x := fun x hx => by
  rcases List.mem_or_eq_of_mem_set hx with h1 | rfl
  · exact h x h1
  · exact ht
theorem dfL_le {r : List Int} {B M : Nat} (h : ∀ x ∈ r, -(B : Int) ≤ x ∧ x ≤ B) : ∀ (l : List Nat) (f : List Int) (t : Int) (m : Nat), (∀ x ∈ f, -(M : Int) ≤ x ∧ x ≤ M) → -((m * B : Nat) : Int) ≤ t ∧ t ≤ ((m * B : Nat) : Int) → (m + l.length) * B ≤ M → ∀ x ∈ (dfL r l f t).1, -(M : Int) ≤ x ∧ x ≤ M
  | [], f, t, m, hf, _, _ => hf
  | p :: l, f, t, m, hf, ht, hm => by
    rw [dfL]
    have hp : -(B : Int) ≤ Rr r p ∧ Rr r p ≤ B := by
      unfold Rr
      rw [List.getD_eq_getElem?_getD]
      cases e : r[p]? with
      | none => simp
      | some x => exact h x (List.mem_of_getElem? e)
    have e1 : (m + 1 + l.length) * B = (m + (p :: l).length) * B := by rw [List.length_cons]; congr 1; omega
    have e2 : m * B ≤ (m + (p :: l).length) * B := Nat.mul_le_mul_right B (by omega)
    have e3 : (m + 1) * B = m * B + B := Nat.succ_mul m B
    refine dfL_le h l _ _ (m + 1) (set_all hf (by omega)) (by rw [e3]; omega) (by rw [e1]; exact hm)
theorem dfs_le {r : List Int} {B M : Nat} (h : ∀ x ∈ r, -(B : Int) ≤ x ∧ x ≤ B) : ∀ (ls : List (List Nat)) (f g : List Int), (∀ l ∈ ls, l.length * B ≤ M) → (∀ x ∈ f, -(M : Int) ≤ x ∧ x ≤ M) → dfs r ls f = some g → ∀ x ∈ g, -(M : Int) ≤ x ∧ x ≤ M
  | [], f, g, _, hf, e => by simp only [dfs] at e; cases e; exact hf
  | l :: ls, f, g, hl, hf, e => by
    rw [dfs] at e
    split at e
    · exact dfs_le h ls _ g (fun m hm => hl m (List.mem_cons_of_mem _ hm)) (dfL_le h l f 0 0 hf (by simp) (by rw [Nat.zero_add]; exact hl l List.mem_cons_self)) e
    · cases e
/-! ### numbers by dicts -/
theorem dget_dput (kvs : List (L2.Key × D)) (k k' : L2.Key) (v : D) : dget (dput kvs k v) k' = if k = k' then some v else dget kvs k' := by
  unfold dput dget
  split
  · rename_i h
    by_cases e : k = k'
    · subst e
      rw [if_pos rfl]
      induction kvs with
      | nil => cases h
      | cons a kvs ih =>
        rw [List.map_cons, List.find?_cons]
        by_cases ea : a.1 = k
        · simp [ea]
        · have : kvs.any (fun kv => decide (kv.1 = k)) = true := by
            rw [List.any_cons] at h
            simpa [ea] using h
          simp only [if_neg ea, decide_eq_false ea]
          exact ih this
    · rw [if_neg e]
      clear h
      induction kvs with
      | nil => rfl
      | cons a kvs ih =>
        rw [List.map_cons, List.find?_cons, List.find?_cons]
        by_cases ea : a.1 = k
        · have : ¬ a.1 = k' := fun z => e (ea.symm.trans z)
          simp only [if_pos ea, decide_eq_false this]
          exact ih
        · simp only [if_neg ea]
          by_cases ek : a.1 = k'
          · simp [ek]
          · simp only [decide_eq_false ek]
            exact ih
  · rename_i h
    by_cases e : k = k'
    · subst e
      rw [if_pos rfl]
      induction kvs with
      | nil => simp
      | cons a kvs ih =>
        rw [List.any_cons] at h
        have ea : ¬ a.1 = k := fun z => h (by simp [z])
        rw [List.cons_append, List.find?_cons]
        simp only [decide_eq_false ea]
        exact ih (fun z => h (by rw [z]; simp))
    · rw [if_neg e, List.find?_append]
      cases hf : kvs.find? (fun kv => decide (kv.1 = k')) with
      | some x => rfl
      | none => simp [e]
/-- a number at each of some places -/
def putL (k : List (L2.Key × D)) (l : List Nat) (x : Int) : List (L2.Key × D) := l.foldl (fun a (p : Nat) => dput a (.inl (p : Int)) (.int x)) k
def fil : List (List Nat) → Int → List (L2.Key × D) → List (L2.Key × D)
  | [], _, k => k
  | l :: ls, x, k => fil ls (x + 1) (putL k l x)
theorem putL_snoc (k : List (L2.Key × D)) (l : List Nat) (p : Nat) (x : Int) : putL k (l ++ [p]) x = dput (putL k l x) (.inl (p : Int)) (.int x) := by
  unfold putL
  rw [List.foldl_append]; rfl
theorem fil_snoc : ∀ (ls : List (List Nat)) (l : List Nat) (x : Int) (k : List (L2.Key × D)), fil (ls ++ [l]) x k = putL (fil ls x k) l (x + ls.length)
  | [], l, x, k => by simp [fil]
  | a :: ls, l, x, k => by
    rw [List.cons_append, fil, fil_snoc ls, fil, List.length_cons]
    congr 1
    omega
theorem putL_len : ∀ (l : List Nat) (k : List (L2.Key × D)) (x : Int), (putL k l x).length ≤ k.length + l.length
  | [], k, x => by simp [putL]
  | p :: l, k, x => by
    have := putL_len l (dput k (.inl (p : Int)) (.int x)) x
    have h2 := dput_le k (.inl (p : Int)) (.int x)
    show (putL (dput k (.inl (p : Int)) (.int x)) l x).length ≤ _
    rw [List.length_cons]; omega
theorem fil_len {m : Nat} : ∀ (ls : List (List Nat)) (x : Int) (k : List (L2.Key × D)), (∀ l ∈ ls, l.length ≤ m) → (fil ls x k).length ≤ k.length + ls.length * m
  | [], x, k, _ => by simp [fil]
  | l :: ls, x, k, h => by
    have h1 := fil_len ls (x + 1) (putL k l x) fun l' h' => h l' (List.mem_cons_of_mem _ h')
    have h2 := putL_len l k x
    have h3 := h l List.mem_cons_self
    rw [fil, List.length_cons, Nat.succ_mul]
    omega
theorem putL_get (x : Int) (p : Nat) : ∀ (l : List Nat) (k : List (L2.Key × D)), dget (putL k l x) (.inl (p : Int)) = if p ∈ l then some (.int x) else dget k (.inl (p : Int))
  | [], k => by simp [putL]
  | a :: l, k => by
    show dget (putL _ l x) _ = _
    rw [putL_get x p l, dget_dput]
    by_cases h : p ∈ l
    · rw [if_pos h, if_pos (List.mem_cons_of_mem _ h)]
    · rw [if_neg h]
      by_cases e : a = p
      · subst e
        rw [if_pos rfl, if_pos List.mem_cons_self]
      · have e1 : ¬ ((Sum.inl (a : Int) : L2.Key) = .inl (p : Int)) := fun q => e (by have := Sum.inl.inj q; omega)
        rw [if_neg e1, if_neg (fun z => (List.mem_cons.mp z).elim (fun z => e z.symm) h)]
theorem fil_out (q : Nat) : ∀ (ls : List (List Nat)) (x : Int) (k : List (L2.Key × D)), (∀ l ∈ ls, q ∉ l) → dget (fil ls x k) (.inl (q : Int)) = dget k (.inl (q : Int))
  | [], x, k, _ => rfl
  | l :: ls, x, k, h => by
    rw [fil, fil_out q ls _ _ fun l' h' => h l' (List.mem_cons_of_mem _ h'), putL_get, if_neg (h l List.mem_cons_self)]
theorem fil_val (p : Nat) : ∀ (ls : List (List Nat)) (x : Int) (k : List (L2.Key × D)), (∃ l ∈ ls, p ∈ l) → ∃ y, x ≤ y ∧ y < x + ls.length ∧ ∀ q : Nat, (∀ l ∈ ls, (q ∈ l ↔ p ∈ l)) → dget (fil ls x k) (.inl (q : Int)) = some (.int y)
  | [], x, k, ⟨l, h, _⟩ => nomatch h
  | l :: ls, x, k, h => by
    by_cases h2 : ∃ l ∈ ls, p ∈ l
    · obtain ⟨y, y1, y2, e⟩ := fil_val p ls (x + 1) (putL k l x) h2
      refine ⟨y, by omega, by rw [List.length_cons]; omega, fun q hq => e q fun l' h' => hq l' (List.mem_cons_of_mem _ h')⟩
    · have hp : p ∈ l := by
        obtain ⟨l', h1, h3⟩ := h
        rcases List.mem_cons.mp h1 with rfl | h1
        · exact h3
        · exact absurd ⟨l', h1, h3⟩ h2
      refine ⟨x, by omega, by rw [List.length_cons]; omega, fun q hq => ?_⟩
      rw [fil, fil_out q ls _ _ fun l' h' hq' => h2 ⟨l', h', (hq l' (List.mem_cons_of_mem _ h')).mp hq'⟩, putL_get, if_pos ((hq l List.mem_cons_self).mpr hp)]
end
end Pl

/-! Pn, part I: calls of names; pairs of names; parts of a text. -/
namespace Cl
section
variable {nc : Nat} {cl : Calls} {n : Nat} {l l' : List (Nat × W)} {vs : List Nat} {σ σ1 σ2 : Sg} {Q R : Sg → Prop} {f i j : Nat} {a b : D} {w w2 : W}
theorem go_app {xs ys : List Cl.St} (h : ∃ τ', runs nc cl xs σ = .nx τ' ∧ R τ') (k : ∀ τ, R τ → ∃ τ', runs nc cl ys τ = .nx τ' ∧ Q τ') : ∃ τ', runs nc cl (xs ++ ys) σ = .nx τ' ∧ Q τ' := by
  obtain ⟨τ, e, r⟩ := h
  obtain ⟨τ', e', q⟩ := k τ r
  exact ⟨τ', by rw [runs_app, e, Out.seq_nx, e'], q⟩
theorem ev_call1 (h1 : σ[i]? = some (some (.d a))) (hc : cl f [.d a] = .ok w []) : ev nc cl (.call f [.var i]) σ = .ok w σ := by
  simp [ev, evAs, callS, ioS, agWs, agW, putBack, h1, hc, W.own]
theorem ev_call2 (h1 : σ[i]? = some (some (.d a))) (h2 : σ[j]? = some (some (.d b))) (hc : cl f [.d a, .d b] = .ok w []) : ev nc cl (.call f [.var i, .var j]) σ = .ok w σ := by
  simp [ev, evAs, callS, ioS, agWs, agW, putBack, h1, h2, hc, W.own]
theorem ev_var (h1 : σ[i]? = some (some (.d a))) : ev nc cl (.var i) σ = .ok (.d a) σ := by simp [ev, h1, W.own]
theorem ev_enm {e : Ex} {xs : List D} (h : ev nc cl e σ = .ok w σ1) (hx : seqD w.toD = some xs) : ev nc cl (.enm e) σ = .ok (.fl (enmL xs)) σ1 := by
  show R.bind (ev nc cl e σ) _ = _
  rw [h, R.bind_ok, hx]; rfl
theorem go_par2 {e1 e2 : Ex} {ss : List Cl.St} (s : Sta n l vs σ) (h1 : ev nc cl e1 σ = .ok w σ) (h2 : ev nc cl e2 σ = .ok w2 σ) (hij : i ≠ j) (hi : Nat.ble (i + 1) n = true) (hj : Nat.ble (j + 1) n = true) (hw : (!vs.contains i || !w.own) = true) (hw2 : (!vs.contains j || !w2.own) = true)
    (k : ∀ τ, Sta n (up (up l i w) j w2) vs τ → ∃ τ', runs nc cl ss τ = .nx τ' ∧ Q τ') : ∃ τ', runs nc cl (.par [i, j] [e1, e2] :: ss) σ = .nx τ' ∧ Q τ' := by
  refine go_st (τ := (σ.set i (some w)).set j (some w2)) ?_ (k _ ((s.up hi hw).up hj hw2))
  have e : evWs nc cl [e1, e2] σ = .ok [w, w2] σ := by simp [evWs, h1, h2]
  have h1 : i + 1 ≤ n := Nat.le_of_ble_eq_true hi
  have h2 : j + 1 ≤ n := Nat.le_of_ble_eq_true hj
  simp [run, e, Out.ofR, hij, setSs, s.len, show i < n from h1, show j < n from h2]
theorem go_unp {t : Tg} {e : Ex} {ss : List Cl.St} (h : ev nc cl e σ = .ok w σ1) (ha : asg t w.toD σ1 = some σ2) (k : ∃ τ', runs nc cl ss σ2 = .nx τ' ∧ Q τ') : ∃ τ', runs nc cl (.unp t e :: ss) σ = .nx τ' ∧ Q τ' :=
  go_st (τ := σ2) (by
    show Out.ofR (ev nc cl e σ) _ = _
    rw [h, Out.ofR_ok, ha]) k
theorem ev_zip {e1 e2 : Ex} {xs : List D} (h1 : ev nc cl e1 σ = .ok w σ1) (h2 : ev nc cl e2 σ1 = .ok w2 σ2) (hx : zipD w.toD w2.toD = some xs) : ev nc cl (.zip e1 e2) σ = .ok (.fl xs) σ2 := by
  show R.bind (ev nc cl e1 σ) _ = _
  rw [h1, R.bind_ok, h2, R.bind_ok, hx]; rfl
theorem ev_rpr {e : Ex} {t : PySem.Str} (hv : ∀ i, e ≠ .var i) (h : ev nc cl e σ = .ok w σ1) (ht : rprD w.toD = some t) : ev nc cl (.rpr e) σ = .ok (.d (.str t)) σ1 := by
  have o : opd e (ev nc cl e) σ = .ok (.val w.toD) σ1 := by
    have : opd e (ev nc cl e) σ = (ev nc cl e σ).bind fun w σ' => .ok (.val w.toD) σ' := by
      cases e <;> first | rfl | exact absurd rfl (hv _)
    rw [this, h]; rfl
  show R.bind (opd e (ev nc cl e) σ) _ = _
  rw [o, R.bind_ok]
  show ofO ((rprD w.toD).map fun t => W.d (.str t)) σ1 = _
  rw [ht]; rfl
theorem ev_rprV {t : PySem.Str} (h : σ[i]? = some (some w)) (ht : rprD w.toD = some t) : ev nc cl (.rpr (.var i)) σ = .ok (.d (.str t)) σ := by
  simp [ev, opd, rd, h, ht]
theorem ev_or {e1 e2 : Ex} {y : Bool} (h1 : ev nc cl e1 σ = .ok (.d (.bl false)) σ1) (h2 : ev nc cl e2 σ1 = .ok (.d (.bl y)) σ2) : ev nc cl (.or e1 e2) σ = .ok (.d (.bl y)) σ2 := by
  show R.bind (ev nc cl e1 σ) _ = _
  rw [h1]
  show R.bind (ev nc cl e2 σ1) _ = _
  rw [h2]; rfl
theorem ev_cmpE {o : Cop} {e1 e2 : Ex} {y : Bool} (v1 : ∀ i, e1 ≠ .var i) (v2 : ∀ i, e2 ≠ .var i) (h1 : ev nc cl e1 σ = .ok w σ1) (h2 : ev nc cl e2 σ1 = .ok w2 σ2) (h3 : cmpop o w.toD w2.toD = some y) : ev nc cl (.cmp o e1 e2) σ = .ok (.d (.bl y)) σ2 := by
  have o1 : opd e1 (ev nc cl e1) σ = .ok (.val w.toD) σ1 := by
    have : opd e1 (ev nc cl e1) σ = (ev nc cl e1 σ).bind fun w σ' => .ok (.val w.toD) σ' := by
      cases e1 <;> first | rfl | exact absurd rfl (v1 _)
    rw [this, h1]; rfl
  have o2 : opd e2 (ev nc cl e2) σ1 = .ok (.val w2.toD) σ2 := by
    have : opd e2 (ev nc cl e2) σ1 = (ev nc cl e2 σ1).bind fun w σ' => .ok (.val w.toD) σ' := by
      cases e2 <;> first | rfl | exact absurd rfl (v2 _)
    rw [this, h2]; rfl
  show R.bind (opd e1 (ev nc cl e1) σ) _ = _
  rw [o1, R.bind_ok, o2, R.bind_ok]
  show ofO ((cmpop o w.toD w2.toD).map fun b => W.d (.bl b)) σ2 = _
  rw [h3]; rfl
/-- the value of a name -/
theorem ev_cmpV {o : Cop} {e1 : Ex} {y : Bool} (v1 : ∀ i, e1 ≠ .var i) (h1 : ev nc cl e1 σ = .ok w σ1) (h2 : σ1[j]? = some (some w2)) (h3 : cmpop o w.toD w2.toD = some y) : ev nc cl (.cmp o e1 (.var j)) σ = .ok (.d (.bl y)) σ1 := by
  have o1 : opd e1 (ev nc cl e1) σ = .ok (.val w.toD) σ1 := by
    have : opd e1 (ev nc cl e1) σ = (ev nc cl e1 σ).bind fun w σ' => .ok (.val w.toD) σ' := by
      cases e1 <;> first | rfl | exact absurd rfl (v1 _)
    rw [this, h1]; rfl
  show R.bind (opd e1 (ev nc cl e1) σ) _ = _
  rw [o1, R.bind_ok]
  simp [opd, rd, h2, h3]
/-- any of some -/
theorem any_lc {own : List Nat} {t : Tg} {it e : Ex} {σ : Sg} {xs : List D} (g : D → Bool) (h : ev nc cl (.lc own t it none e) σ = .ok (.fl (xs.map fun x => D.bl (g x))) σ1) : ev nc cl (.blt .any [.lc own t it none e]) σ = .ok (.d (.bl (xs.any g))) σ1 := by
  refine blt1_ok (fun i z => by cases z) h ?_
  have : blsD (xs.map fun x => .bl (g x)) = some (xs.map g) := by
    clear h
    induction xs with
    | nil => rfl
    | cons x xs ih =>
      rw [List.map_cons, blsD, ih]; rfl
  show (blsD _).map _ = _
  rw [this]
  show some (W.d (.bl ((xs.map g).any id))) = _
  rw [List.any_map]; rfl
end
end Cl

namespace Lw
open PySem PySem.Spec PyProof.Rows L2 Cl
def top (i : Nat) : Stmt := PySem.Challenge.pw_stripturns_k79_whole_rows_on_layings.main.body.getD i (.Pass ⟨0, 0, 0, 0⟩)
def meth (i j : Nat) : Stmt := match top i with
  | .ClassDef _ _ _ body _ _ _ _ _ _ _ => body.getD j (.Pass ⟨0, 0, 0, 0⟩)
  | _ => .Pass ⟨0, 0, 0, 0⟩
/-- is_integer -/
def b0 : List Cl.St := [.ret (.and (.isi (.var 0) false [.int]) (.not (.isi (.var 0) false [.bool])))]
def d0 : Df := { name := "is_integer", qual := "is_integer", st := top 8, ps := ["thing"], N := ["thing"], fd := { np := 1, io := [], nn := 1, body := b0 } }
/-- is_within -/
def b1 : List Cl.St := [.ret (.and (.call 0 [.var 0]) (.chn .le .le (.var 1) (.var 0) (.var 2)))]
def d1 : Df := { name := "is_within", qual := "is_within", st := top 9, ps := ["thing", "low", "high"], N := ["thing", "low", "high"], fd := { np := 3, io := [], nn := 3, body := b1 } }
/-- are_lengths -/
def b2 : List Cl.St := [.ite (.or (.not (.isi (.var 0) false [.tuple])) (.not (.chn .le .le (.con (.int 1)) (.blt .len [.var 0]) (.con (.int 6))))) [.ret (.con (.bl false))] [], .ret (.and (.blt .all [.lc [1] (.nm 1) (.var 0) none (.call 1 [.var 1, .con (.int 1), .con (.int 60)])]) (.cmp .le (.blt .sum [.var 0]) (.con (.int 60))))]
def d2 : Df := { name := "are_lengths", qual := "are_lengths", st := top 10, ps := ["thing"], N := ["thing", "one"], fd := { np := 1, io := [], nn := 2, body := b2 } }
/-- is_order -/
def b3 : List Cl.St := [.ite (.or (.not (.isi (.var 0) false [.tuple])) (.not (.chn .le .le (.con (.int 1)) (.blt .len [.var 0]) (.con (.int 6))))) [.ret (.con (.bl false))] [], .ite (.not (.blt .all [.lc [1] (.nm 1) (.var 0) none (.call 1 [.var 1, .con (.int 0), .bin .sub (.blt .len [.var 0]) (.con (.int 1))])])) [.ret (.con (.bl false))] [], .ret (.cmp .eq (.blt .len [.dc [1] (.nm 1) (.var 0) none (.var 1) (.con (.bl true))]) (.blt .len [.var 0]))]
def d3 : Df := { name := "is_order", qual := "is_order", st := top 11, ps := ["thing"], N := ["thing", "one"], fd := { np := 1, io := [], nn := 2, body := b3 } }
/-- starts_of -/
def b4 : List Cl.St := [.par [2, 3] [.dk [], .con (.int 0)], .fr (.nm 4) (.var 1) [.six 2 (.var 4) (.var 3), .aug 3 .add (.ix (.var 0) (.var 4))], .ret (.var 2)]
def d4 : Df := { name := "starts_of", qual := "starts_of", st := top 12, ps := ["lengths", "order"], N := ["lengths", "order", "found", "here", "piece"], fd := { np := 2, io := [], nn := 5, body := b4 } }
/-- goals_of -/
def b5 : List Cl.St := [.par [2, 3] [.call 4 [.var 0, .var 1], .lst []], .fr (.tp [.nm 4, .nm 5]) (.enm (.var 0)) [.expr (.mut .extend 3 [.lc [6] (.nm 6) (.rng [.var 5]) none (.bin .add (.ix (.var 2) (.var 4)) (.var 6))])], .ret (.blt .tuple [.var 3])]
def d5 : Df := { name := "goals_of", qual := "goals_of", st := top 13, ps := ["lengths", "order"], N := ["lengths", "order", "laid", "found", "piece", "length", "at"], fd := { np := 2, io := [], nn := 7, body := b5 } }
/-- Laying.__init__ -/
def b6 : List Cl.St := [.ite (.not (.call 2 [.var 1])) [.rse 0 [.con (.str "lengths")]] [], .ite (.or (.not (.call 3 [.var 2])) (.cmp .ne (.blt .len [.var 2]) (.blt .len [.var 1]))) [.rse 0 [.con (.str "order")]] [], .sfl 0 0 0 (.var 1), .sfl 0 0 1 (.var 2), .sfl 0 0 2 (.blt .len [.var 1]), .sfl 0 0 3 (.blt .sum [.var 1]), .sfl 0 0 4 (.call 5 [.var 1, .var 2])]
def d6 : Df := { name := "__init__", qual := "Laying.__init__", st := meth 14 0, ps := ["self", "lengths", "order"], N := ["self", "lengths", "order"], fd := { np := 3, io := [0], nn := 3, body := b6 }, gl := false }
/-- Laying.__eq__ -/
def b7 : List Cl.St := [.ite (.not (.isi (.var 1) false [.own 0])) [.ret (.con (.bl false))] [], .ret (.and (.cmp .eq (.fld (.var 0) [(0, 0)]) (.fld (.var 1) [(0, 0)])) (.cmp .eq (.fld (.var 0) [(0, 1)]) (.fld (.var 1) [(0, 1)])))]
def d7 : Df := { name := "__eq__", qual := "Laying.__eq__", st := meth 14 1, ps := ["self", "other"], N := ["self", "other"], fd := { np := 2, io := [], nn := 2, body := b7 }, gl := false }
/-- Laying -/
def d8 : Df := { name := "Laying", qual := "Laying", st := .Pass ⟨0, 0, 0, 0⟩, ps := [], N := [], fd := { np := 2, io := [], nn := 0, body := [], mkC := some (0, 6) } }
/-- check_laying -/
def b9 : List Cl.St := [.ite (.not (.isi (.var 0) false [.own 0])) [.rse 1 []] []]
def d9 : Df := { name := "check_laying", qual := "check_laying", st := top 15, ps := ["thing"], N := ["thing"], fd := { np := 1, io := [], nn := 1, body := b9 } }
/-- raw_round -/
def b10 : List Cl.St := [.par [2, 3] [.lst [.var 1], .ix (.fld (.var 0) [(0, 4)]) (.var 1)], .whl 1000000 (.cmp .ne (.var 3) (.var 1)) [.expr (.mut .append 2 [.var 3]), .set 3 (.ix (.fld (.var 0) [(0, 4)]) (.var 3))], .ret (.var 2)]
def d10 : Df := { name := "raw_round", qual := "raw_round", st := top 16, ps := ["laying", "place"], N := ["laying", "place", "found", "here"], fd := { np := 2, io := [], nn := 4, body := b10 } }
/-- all_rounds -/
def b11 : List Cl.St := [.par [1, 2] [.lst [], .dk []], .fr (.nm 3) (.rng [.fld (.var 0) [(0, 3)]]) [.ite (.cmp .notin (.var 3) (.var 2)) [.set 4 (.call 10 [.var 0, .var 3]), .expr (.mut .update 2 [.dc [5] (.nm 5) (.var 4) none (.var 5) (.con (.bl true))]), .expr (.mut .append 1 [.blt .tuple [.var 4]])] []], .ret (.var 1)]
def d11 : Df := { name := "all_rounds", qual := "all_rounds", st := top 18, ps := ["laying"], N := ["laying", "found", "met", "place", "lap", "one"], fd := { np := 1, io := [], nn := 6, body := b11 } }
/-- check_row -/
def b12 : List Cl.St := [.expr (.call 9 [.var 0]), .ite (.or (.not (.isi (.var 1) false [.tuple])) (.cmp .ne (.blt .len [.var 1]) (.fld (.var 0) [(0, 3)]))) [.rse 2 []] [], .ite (.not (.blt .all [.lc [2] (.nm 2) (.var 1) none (.and (.call 0 [.var 2]) (.cmp .lt (.blt .abs [.var 2]) (.con (.int 1000000000))))])) [.rse 2 []] []]
def d12 : Df := { name := "check_row", qual := "check_row", st := top 21, ps := ["laying", "row"], N := ["laying", "row", "one"], fd := { np := 2, io := [], nn := 3, body := b12 } }
/-- mixed_sum -/
def b13 : List Cl.St := [.expr (.call 12 [.var 0, .var 1]), .ret (.blt .tuple [.lc [2] (.nm 2) (.call 11 [.var 0]) none (.blt .sum [.lc [3] (.nm 3) (.var 2) none (.ix (.var 1) (.var 3))])])]
def d13 : Df := { name := "mixed_sum", qual := "mixed_sum", st := top 22, ps := ["laying", "row"], N := ["laying", "row", "lap", "place"], fd := { np := 2, io := [], nn := 4, body := b13 } }
/-- is_kept -/
def b14 : List Cl.St := [.expr (.call 12 [.var 0, .var 1]), .ret (.blt .all [.lc [2, 3] (.tp [.nm 2, .nm 3]) (.enm (.fld (.var 0) [(0, 4)])) none (.cmp .eq (.ix (.var 1) (.var 2)) (.ix (.var 1) (.var 3)))])]
def d14 : Df := { name := "is_kept", qual := "is_kept", st := top 23, ps := ["laying", "row"], N := ["laying", "row", "place", "goal"], fd := { np := 2, io := [], nn := 4, body := b14 } }
/-- as_difference -/
def b15 : List Cl.St := [.expr (.call 12 [.var 0, .var 1]), .set 2 (.bin .mul (.lst [.con (.int 0)]) (.fld (.var 0) [(0, 3)])), .fr (.nm 3) (.call 11 [.var 0]) [.set 4 (.con (.int 0)), .fr (.nm 5) (.var 3) [.six 2 (.var 5) (.var 4), .aug 4 .add (.ix (.var 1) (.var 5))], .ite (.cmp .ne (.var 4) (.con (.int 0))) [.ret (.con .non)] []], .ret (.blt .tuple [.var 2])]
def d15 : Df := { name := "as_difference", qual := "as_difference", st := top 24, ps := ["laying", "row"], N := ["laying", "row", "found", "lap", "total", "place"], fd := { np := 2, io := [], nn := 6, body := b15 } }
/-- _law_hand -/
def b16 : List Cl.St := [.set 1 (.lc [2] (.nm 2) (.sl (.var 0) none (some (.con (.int 63)))) none (.blt .abs [.blt .int [.var 2]])), .ret (.lst [.var 1, .con (.int 0), .con (.int 0), .bin .add (.con (.int 383)) (.bin .mul (.con (.int 263)) (.blt .len [.var 1])), .con (.int 0)])]
def d16 : Df := { name := "_law_hand", qual := "_law_hand", st := top 26, ps := ["script"], N := ["script", "cells", "cell"], fd := { np := 1, io := [], nn := 3, body := b16 } }
/-- _law_draw -/
def b17 : List Cl.St := [.ite (.and (.cmp .eq (.ix (.var 0) (.con (.int 2))) (.con (.int 0))) (.cmp .lt (.ix (.var 0) (.con (.int 1))) (.blt .len [.ix (.var 0) (.con (.int 0))]))) [.set 2 (.ix (.ix (.var 0) (.con (.int 0))) (.ix (.var 0) (.con (.int 1)))), .six 0 (.con (.int 1)) (.bin .add (.ix (.var 0) (.con (.int 1))) (.con (.int 1))), .six 0 (.con (.int 3)) (.bin .mod (.blt .int [.bin .add (.bin .add (.bin .mul (.ix (.var 0) (.con (.int 3))) (.con (.int 69621))) (.bin .mul (.var 2) (.con (.int 48271)))) (.con (.int 17))]) (.con (.int 2147483629))), .ite (.cmp .ge (.var 2) (.bin .pow (.con (.int 10)) (.con (.int 18)))) [.six 0 (.con (.int 2)) (.var 2)] []] [], .ite (.cmp .gt (.ix (.var 0) (.con (.int 2))) (.con (.int 0))) [.set 3 (.bin .mod (.blt .int [.ix (.var 0) (.con (.int 2))]) (.var 1)), .six 0 (.con (.int 2)) (.bin .fdiv (.ix (.var 0) (.con (.int 2))) (.var 1)), .ret (.var 3)] [], .six 0 (.con (.int 4)) (.bin .add (.ix (.var 0) (.con (.int 4))) (.con (.int 1))), .set 4 (.bin .mod (.blt .int [.bin .mul (.blt .int [.bin .add (.ix (.var 0) (.con (.int 3))) (.bin .mul (.con (.int 7919)) (.ix (.var 0) (.con (.int 4))))]) (.con (.int 40692))]) (.con (.int 2147483647))), .set 4 (.bin .mod (.blt .int [.bin .mul (.var 4) (.bin .add (.bin .fdiv (.var 4) (.con (.int 1009))) (.con (.int 69621)))]) (.con (.int 2147483647))), .set 4 (.bin .mod (.blt .int [.bin .mul (.var 4) (.bin .add (.bin .fdiv (.var 4) (.con (.int 2003))) (.con (.int 40014)))]) (.con (.int 2147483563))), .ret (.bin .mod (.blt .int [.bin .fdiv (.var 4) (.con (.int 16))]) (.var 1))]
def d17 : Df := { name := "_law_draw", qual := "_law_draw", st := top 27, ps := ["hand", "many"], N := ["hand", "many", "cell", "digit", "number"], fd := { np := 2, io := [0], nn := 5, body := b17 } }
/-- _law_any -/
def b18 : List Cl.St := [.ret (.ix (.var 1) (.call 17 [.io 0, .blt .len [.var 1]]))]
def d18 : Df := { name := "_law_any", qual := "_law_any", st := top 28, ps := ["hand", "some"], N := ["hand", "some"], fd := { np := 2, io := [0], nn := 2, body := b18 } }
/-- _law_order -/
def b19 : List Cl.St := [.par [2, 3] [.lrg false [.var 1], .lst []], .whl 1000000 (.cmp .ne (.var 2) (.lst [])) [.expr (.mut .append 3 [.mut .popAt 2 [.call 17 [.io 0, .blt .len [.var 2]]]])], .ret (.blt .tuple [.var 3])]
def d19 : Df := { name := "_law_order", qual := "_law_order", st := top 29, ps := ["hand", "many"], N := ["hand", "many", "left", "found"], fd := { np := 2, io := [0], nn := 4, body := b19 } }
/-- _law_laying -/
def b20 : List Cl.St := [.set 2 (.bin .add (.con (.int 1)) (.call 17 [.io 0, .con (.int 5)])), .ret (.tup [.blt .tuple [.lc [3] (.nm 3) (.rng [.var 2]) none (.bin .add (.con (.int 1)) (.call 17 [.io 0, .var 1]))], .call 19 [.io 0, .var 2]])]
def d20 : Df := { name := "_law_laying", qual := "_law_laying", st := top 30, ps := ["hand", "most"], N := ["hand", "most", "many", "piece"], fd := { np := 2, io := [0], nn := 4, body := b20 } }
/-- _law_goal -/
def b21 : List Cl.St := [.par [2, 3] [.dk [], .con (.int 0)], .fr (.nm 4) (.var 1) [.psx 2 (.var 4) 3 (.tup [.var 3, .bin .add (.var 3) (.ix (.var 0) (.var 4))])], .set 5 (.lst []), .fr (.tp [.nm 4, .nm 6]) (.enm (.var 0)) [.expr (.mut .extend 5 [.lc [7] (.nm 7) (.rng [.var 6]) none (.bin .add (.ix (.var 2) (.var 4)) (.var 7))])], .ret (.blt .tuple [.var 5])]
def d21 : Df := { name := "_law_goal", qual := "_law_goal", st := top 31, ps := ["lengths", "order"], N := ["lengths", "order", "begins", "at", "piece", "found", "length", "step"], fd := { np := 2, io := [], nn := 8, body := b21 } }
/-- _law_rounds -/
def b22 : List Cl.St := [.par [1, 2] [.dk [], .lst []], .fr (.nm 3) (.rng [.blt .len [.var 0]]) [.par [4, 5] [.lst [], .var 3], .whl 1000000 (.cmp .notin (.var 5) (.var 1)) [.six 1 (.var 5) (.con (.bl true)), .expr (.mut .append 4 [.var 5]), .set 5 (.ix (.var 0) (.var 5))], .ite (.cmp .ne (.var 4) (.lst [])) [.expr (.mut .append 2 [.blt .tuple [.var 4]])] []], .ret (.var 2)]
def d22 : Df := { name := "_law_rounds", qual := "_law_rounds", st := top 32, ps := ["goal"], N := ["goal", "known", "found", "first", "row", "here"], fd := { np := 1, io := [], nn := 6, body := b22 } }
/-- _law_said -/
def b23 : List Cl.St := [.tel 1 0 [.set 2 (.lst [.ise 1 false, .ise 1 false]), .ite (.or (.cmp .ne (.mth .lcount (.var 2) [.con (.bl true)]) (.con (.int 1))) (.not (.ise 1 true))) [.ret (.con (.str "odd"))] [], .ret (.ix (.lst [.con (.str "laying"), .con (.str "row")]) (.mth .lindex (.var 2) [.con (.bl true)]))] (.tel 1 1 [.set 2 (.lst [.ise 1 true, .ise 1 false]), .ite (.or (.cmp .ne (.mth .lcount (.var 2) [.con (.bl true)]) (.con (.int 1))) (.not (.ise 1 true))) [.ret (.con (.str "odd"))] [], .ret (.ix (.lst [.con (.str "laying"), .con (.str "row")]) (.mth .lindex (.var 2) [.con (.bl true)]))] (.tel 1 2 [.set 2 (.lst [.ise 1 false, .ise 1 true]), .ite (.or (.cmp .ne (.mth .lcount (.var 2) [.con (.bl true)]) (.con (.int 1))) (.not (.ise 1 true))) [.ret (.con (.str "odd"))] [], .ret (.ix (.lst [.con (.str "laying"), .con (.str "row")]) (.mth .lindex (.var 2) [.con (.bl true)]))] (.nev))), .ret (.con (.str "let"))]
def d23 : Df := { name := "_law_said", qual := "_law_said", st := top 33, ps := ["call"], N := ["call", "error", "some"], fd := { np := 1, io := [], nn := 3, body := b23, lm := true }, gl := false }
/-- _law_difference -/
def b24 : List Cl.St := [.set 2 (.bin .mul (.lst [.con (.int 0)]) (.blt .len [.var 0])), .fr (.nm 3) (.call 22 [.var 0]) [.set 4 (.con (.int 0)), .fr (.nm 5) (.var 3) [.six 2 (.var 5) (.var 4), .set 4 (.bin .add (.var 4) (.ix (.var 1) (.var 5)))], .ite (.cmp .ne (.var 4) (.con (.int 0))) [.ret (.con .non)] []], .ret (.blt .tuple [.var 2])]
def d24 : Df := { name := "_law_difference", qual := "_law_difference", st := top 34, ps := ["goal", "row"], N := ["goal", "row", "found", "lap", "total", "place"], fd := { np := 2, io := [], nn := 6, body := b24 } }
/-- law -/
def b25 : List Cl.St := [.set 1 (.call 16 [.var 0]), .fr (.nm 2) (.rng [.con (.int 5)]) [.unp (.tp [.nm 3, .nm 4]) (.call 20 [.io 1, .con (.int 6)]), .par [5, 6] [.call 8 [.var 3, .var 4], .call 21 [.var 3, .var 4]], .set 7 (.call 22 [.var 6]), .set 8 (.blt .tuple [.lc [14] (.nm 14) (.var 6) none (.bin .sub (.call 17 [.io 1, .con (.int 9)]) (.con (.int 4)))]), .set 9 (.blt .tuple [.lc [14] (.nm 14) (.var 6) none (.call 17 [.io 1, .bin .pow (.con (.int 10)) (.con (.int 8))])]), .set 10 (.blt .tuple [.lc [14, 25] (.tp [.nm 14, .nm 25]) (.enm (.var 6)) none (.bin .sub (.ix (.var 9) (.var 25)) (.ix (.var 9) (.var 14)))]), .set 11 (.dk []), .fr (.tp [.nm 12, .nm 13]) (.enm (.var 7)) [.fr (.nm 14) (.var 13) [.six 11 (.var 14) (.bin .sub (.var 12) (.con (.int 3)))]], .set 15 (.blt .tuple [.lc [14] (.nm 14) (.rng [.blt .len [.var 6]]) none (.ix (.var 11) (.var 14))]), .fr (.nm 16) (.tup [.var 8, .var 9, .var 10, .var 15, .bin .mul (.tup [.con (.int 0)]) (.blt .len [.var 6])]) [.set 17 (.blt .tuple [.lc [13] (.nm 13) (.var 7) none (.blt .sum [.lc [14] (.nm 14) (.var 13) none (.ix (.var 16) (.var 14))])]), .ite (.cmp .ne (.rpr (.call 13 [.var 5, .var 16])) (.rpr (.var 17))) [.ret (.con (.bl false))] [], .set 18 (.blt .all [.lc [14, 25] (.tp [.nm 14, .nm 25]) (.enm (.var 6)) none (.cmp .eq (.ix (.var 16) (.var 14)) (.ix (.var 16) (.var 25)))]), .ite (.cmp .ne (.rpr (.call 14 [.var 5, .var 16])) (.rpr (.var 18))) [.ret (.con (.bl false))] [], .set 19 (.call 24 [.var 6, .var 16]), .ite (.or (.cmp .ne (.rpr (.call 15 [.var 5, .var 16])) (.rpr (.var 19))) (.cmp .ne (.cmp .isN (.var 19) (.con .non)) (.blt .any [.lc [26] (.nm 26) (.var 17) none (.cmp .ne (.var 26) (.con (.int 0)))]))) [.ret (.con (.bl false))] []], .ite (.or (.cmp .notN (.call 14 [.var 5, .var 15]) (.con (.bl true))) (.cmp .isN (.call 15 [.var 5, .var 10]) (.con .non))) [.ret (.con (.bl false))] [], .set 20 (.blt .tuple [.lc [27, 28] (.tp [.nm 27, .nm 28]) (.zip (.var 8) (.var 9)) none (.bin .add (.var 27) (.var 28))]), .set 21 (.lc [27, 28] (.tp [.nm 27, .nm 28]) (.zip (.call 13 [.var 5, .var 8]) (.call 13 [.var 5, .var 9])) none (.bin .add (.var 27) (.var 28))), .ite (.cmp .ne (.blt .list [.call 13 [.var 5, .var 20]]) (.var 21)) [.ret (.con (.bl false))] [], .set 22 (.call 18 [.io 1, .lst [.con .non, .con (.int 0), .tup [.var 3, .var 4]]]), .set 23 (.call 18 [.io 1, .lst [.con .non, .bin .add (.var 8) (.tup [.con (.int 0)]), .blt .list [.var 8], .sl (.var 8) (some (.con (.int 1))) none, .bin .mul (.tup [.con .non]) (.blt .len [.var 6]), .con (.int 0)]]), .set 24 (.lst [.lamc 23 (.call 13 [.var 22, .var 23])]), .expr (.mut .append 24 [.lamc 23 (.call 15 [.var 22, .var 23])]), .expr (.mut .append 24 [.lamc 23 (.call 13 [.var 5, .var 23])]), .expr (.mut .append 24 [.lamc 23 (.call 15 [.var 5, .var 23])]), .ite (.cmp .ne (.var 24) (.lst [.con (.str "laying"), .con (.str "laying"), .con (.str "row"), .con (.str "row")])) [.ret (.con (.bl false))] []], .ret (.con (.bl true))]
def d25 : Df := { name := "law", qual := "law", st := top 35, ps := ["script"], N := ["script", "hand", "turn", "lengths", "order", "laying", "goal", "laps", "row", "other", "steps_here", "numbers_here", "number", "lap", "place", "even", "one", "due", "is_still", "told", "both", "sums_here", "none", "bad", "words", "to", "total", "a", "b"], fd := { np := 1, io := [], nn := 29, body := b25 }, tb := true, rp := true }
def Ds : List Df := [d0, d1, d2, d3, d4, d5, d6, d7, d8, d9, d10, d11, d12, d13, d14, d15, d16, d17, d18, d19, d20, d21, d22, d23, d24, d25]
def cons : List (Str × D) := [("MOST_PIECES", (.int 6)), ("MOST_SIZE", (.int 60)), ("MOST_IN_ROW", (.int 1000000000))]
def clss : List (Str × Nat) := [("Laying", 0)]
def cfs : List (List Str) := [["lengths", "order", "many", "size", "goal"]]
def gx : Gx := { lm := [("_law_said", 23)], isx := [("NoLaying", [(0, false), (1, true), (2, false)]), ("NoRow", [(0, false), (1, false), (2, true)]), ("ValueError", [(0, true), (1, true), (2, true)])], xc := [("BadLaying", 0, some "part"), ("NoLaying", 1, none), ("NoRow", 2, none)], cat := some ("StripError", [0, 1, 2]) }
def xfs : List (List Str) := [["part"], [], []]
abbrev Γ : Gt := gtOf Ds cons clss cfs gx

theorem d0_ok : chkD Γ d0 = true := by decide +kernel
theorem d1_ok : chkD Γ d1 = true := by decide +kernel
theorem d2_ok : chkD Γ d2 = true := by decide +kernel
theorem d3_ok : chkD Γ d3 = true := by decide +kernel
theorem d4_ok : chkD Γ d4 = true := by decide +kernel
theorem d5_ok : chkD Γ d5 = true := by decide +kernel
theorem d6_ok : chkD Γ d6 = true := by decide +kernel
theorem d7_ok : chkD Γ d7 = true := by decide +kernel
theorem d8_ok : chkD Γ d8 = true := by decide +kernel
theorem d9_ok : chkD Γ d9 = true := by decide +kernel
theorem d10_ok : chkD Γ d10 = true := by decide +kernel
theorem d11_ok : chkD Γ d11 = true := by decide +kernel
theorem d12_ok : chkD Γ d12 = true := by decide +kernel
theorem d13_ok : chkD Γ d13 = true := by decide +kernel
theorem d14_ok : chkD Γ d14 = true := by decide +kernel
theorem d15_ok : chkD Γ d15 = true := by decide +kernel
theorem d16_ok : chkD Γ d16 = true := by decide +kernel
theorem d17_ok : chkD Γ d17 = true := by decide +kernel
theorem d18_ok : chkD Γ d18 = true := by decide +kernel
theorem d19_ok : chkD Γ d19 = true := by decide +kernel
theorem d20_ok : chkD Γ d20 = true := by decide +kernel
theorem d21_ok : chkD Γ d21 = true := by decide +kernel
theorem d22_ok : chkD Γ d22 = true := by decide +kernel
theorem d23_ok : chkD Γ d23 = true := by decide +kernel
theorem d24_ok : chkD Γ d24 = true := by decide +kernel
theorem d25_ok : chkD Γ d25 = true := by decide +kernel
theorem Ds_ok : (Ds.all fun d => chkD Γ d) = true := by
  simp only [Ds, List.all_cons, List.all_nil, Bool.and_true, Bool.and_eq_true]
  exact ⟨d0_ok, d1_ok, d2_ok, d3_ok, d4_ok, d5_ok, d6_ok, d7_ok, d8_ok, d9_ok, d10_ok, d11_ok, d12_ok, d13_ok, d14_ok, d15_ok, d16_ok, d17_ok, d18_ok, d19_ok, d20_ok, d21_ok, d22_ok, d23_ok, d24_ok, d25_ok⟩
end Lw

namespace Lw
open Cl Pm Pl
abbrev P : Pg := pgOf Ds
def CL : Calls := callN P 1 5
abbrev Kf : Nat → List (Nat × Nat) := fun j => [(0, j)]
theorem kok : KOk Kf := fun j => by simp [Kf]
theorem p_core : Core P [.rse 0 [.con (.str "lengths")]] [.rse 0 [.con (.str "order")]] 0 1 2 3 4 5 6 8 := ⟨rfl, rfl, rfl, rfl, rfl, rfl, rfl, rfl⟩
theorem p0 : P[0]? = some fInt := rfl
theorem p9 : P[9]? = some (fChk [.rse 1 []]) := rfl
theorem p10 : P[10]? = some (fRaw Kf) := rfl
theorem p11 : P[11]? = some (fAll 10 Kf) := rfl
theorem p12 : P[12]? = some (fRow 9 0 2 Kf) := rfl
theorem p13 : P[13]? = some (fMxs 12 11) := rfl
theorem p14 : P[14]? = some (fKpt 12 Kf) := rfl
theorem p15 : P[15]? = some (fDif 12 11 Kf) := rfl
theorem p16 : P[16]? = some (fHan 383 263) := rfl
abbrev dk : DK := ⟨some 48271, 17, 40692, 40014, 2147483563⟩
theorem p17 : P[17]? = some (fDrw dk) ∧ dk.ok = true := ⟨rfl, by decide⟩
theorem p18 : P[18]? = some (fAny 17) := rfl
theorem p19 : P[19]? = some (fOr2 17) := rfl
theorem p20 : P[20]? = some (fLyn 17 19 (5 : Nat)) := rfl
theorem p21 : P[21]? = some fLg2 := rfl
theorem p22 : P[22]? = some fLr2 := rfl
theorem p24 : P[24]? = some (fDfo 22) := rfl
def notL : D → Bool
  | .obj _ _ => false
  | .fn _ => false
  | _ => true
section
variable {d e : D} {L O : List Nat} {r : List Int}
theorem no13 (h : notL d = true) : CL 13 [.d d, .d e] = .exc 1 [] [] := by cases d <;> first | rfl | cases h
theorem no15 (h : notL d = true) : CL 15 [.d d, .d e] = .exc 1 [] [] := by cases d <;> first | rfl | cases h
theorem say1 : CL 23 [.d (.int 1)] = .ok (.d (.str "laying")) [] := by kernel_rfl
theorem say2 : CL 23 [.d (.int 2)] = .ok (.d (.str "row")) [] := by kernel_rfl
/-- rows that are none -/
def badR (r : List Int) : List D := [.non, .tup (iD r ++ [.int 0]), .lst (iD r), .tup ((iD r).drop 1), .tup (List.replicate r.length .non), .int 0]
theorem row12 (v : RowIn L O r) (pos : 0 < L.sum) (h : d ∈ badR r) (k : Nat) : callN P 1 (k + 2) 12 [.d (oL L O), .d d] = .exc 2 [] [] := by
  have few := v.few
  have hl := v.len
  simp only [badR, List.mem_cons, List.not_mem_nil, or_false] at h
  rcases h with rfl | rfl | rfl | rfl | rfl | rfl
  · exact row_no (by decide) p9 p12 k rfl rfl rfl
  · exact row_len (by decide) p9 p12 kok k (by simp [iD]; omega)
  · exact row_no (by decide) p9 p12 k rfl rfl rfl
  · exact row_len (by decide) p9 p12 kok k (by simp [iD]; omega)
  · refine row_bad (by decide) p9 p0 p12 kok k (by simp; exact hl) (by omega) (fun x hx => by rw [List.eq_of_mem_replicate hx]; exact ⟨rfl, rfl⟩) ?_
    obtain ⟨m, em⟩ : ∃ m, r.length = m + 1 := ⟨r.length - 1, by omega⟩
    rw [em, List.replicate_succ]
    rfl
  · exact row_no (by decide) p9 p12 k rfl rfl rfl
theorem bad13 (v : RowIn L O r) (pos : 0 < L.sum) (h : d ∈ badR r) : CL 13 [.d (oL L O), .d d] = .exc 2 [] [] := by
  have e := row12 v pos h 2
  refine fn_exc (k := 4) (ds := [oL L O, d]) (body := b13) (st := [some (.d (oL L O)), some (.d d), none, none]) (σ := [some (.d (oL L O)), some (.d d), none, none]) (show P[13]? = some d13.fd from rfl) rfl rfl rfl (Nat.le_of_ble_eq_true rfl) rfl rfl ?_
  unfold b13
  refine runs_exc ?_
  simp [run, ev, evAs, callS, ioS, agWs, agW, putBack, e, W.own, Out.ofR]
theorem bad15 (v : RowIn L O r) (pos : 0 < L.sum) (h : d ∈ badR r) : CL 15 [.d (oL L O), .d d] = .exc 2 [] [] := by
  have e := row12 v pos h 2
  refine fn_exc (k := 4) (ds := [oL L O, d]) (body := b15) (st := [some (.d (oL L O)), some (.d d), none, none, none, none]) (σ := [some (.d (oL L O)), some (.d d), none, none, none, none]) (show P[15]? = some d15.fd from rfl) rfl rfl rfl (Nat.le_of_ble_eq_true rfl) rfl rfl ?_
  unfold b15
  refine runs_exc ?_
  simp [run, ev, evAs, callS, ioS, agWs, agW, putBack, e, W.own, Out.ofR]
/-- what the calls give -/
theorem lapsN (v : LO L O) : CL 22 [.d (tN (gl L O))] = .ok (.fl ((laps (G (gl L O)) L.sum L.sum).map tN)) [] := lr2_ok (k := 4) p22 (gl_len L O) (by have := v.len.sum; omega) v.lay.pf
theorem mxs5 (v : RowIn L O r) : CL 13 [.d (oL L O), .d (rT r)] = .ok (.d (rT ((laps (G (gl L O)) L.sum L.sum).map (sm r)))) [] := mxs_ok (k := 2) (by decide) kok p9 p0 p12 p10 p11 p13 v
theorem kpt5 (v : RowIn L O r) : CL 14 [.d (oL L O), .d (rT r)] = .ok (.d (.bl (kept r (G (gl L O)) L.sum))) [] := kpt_ok (k := 2) (by decide) kok p9 p0 p12 p14 v
theorem dif5 (v : RowIn L O r) : CL 15 [.d (oL L O), .d (rT r)] = .ok (.d (oT (dfs r (laps (G (gl L O)) L.sum L.sum) (List.replicate L.sum 0)))) [] := dif_ok (k := 2) (by decide) kok p9 p0 p12 p10 p11 p15 v
theorem dfo5 (v : RowIn L O r) : CL 24 [.d (tN (gl L O)), .d (rT r)] = .ok (.d (oT (dfs r (laps (G (gl L O)) L.sum L.sum) (List.replicate L.sum 0)))) [] := by
  have few := v.few
  have e := dfo_ok (nc := 1) (r := r) p24 4 (g := gl L O) (ls := laps (G (gl L O)) L.sum L.sum) (lr2_ok (k := 3) p22 (gl_len L O) (by omega) v.lo.lay.pf) (by rw [gl_len]; omega) (by have := laps_lt (f := G (gl L O)) (n := L.sum) L.sum; omega) (by rw [gl_len]; exact v.len) (fun l hl => by
    obtain ⟨l1, l2⟩ := lap_in v.lo hl
    exact ⟨by omega, by rw [gl_len]; exact l2⟩)
  rw [gl_len] at e
  exact e
theorem mk5 (v : LO L O) : CL 8 [.d (tN L), .d (tN O)] = .ok (.d (oL L O)) [] := mk_ok p_core 0 v
theorem gl5 (v : LO L O) : CL 21 [.d (tN L), .d (tN O)] = .ok (.d (tN (gl L O))) [] := lg2_ok (k := 4) p21 v
end
end Lw

namespace Lw
open Cl Pm Pl
def tC : List Cl.St := [.set 17 (.blt .tuple [.lc [13] (.nm 13) (.var 7) none (.blt .sum [.lc [14] (.nm 14) (.var 13) none (.ix (.var 16) (.var 14))])]), .ite (.cmp .ne (.rpr (.call 13 [.var 5, .var 16])) (.rpr (.var 17))) [.ret (.con (.bl false))] [], .set 18 (.blt .all [.lc [14, 25] (.tp [.nm 14, .nm 25]) (.enm (.var 6)) none (.cmp .eq (.ix (.var 16) (.var 14)) (.ix (.var 16) (.var 25)))]), .ite (.cmp .ne (.rpr (.call 14 [.var 5, .var 16])) (.rpr (.var 18))) [.ret (.con (.bl false))] [], .set 19 (.call 24 [.var 6, .var 16]), .ite (.or (.cmp .ne (.rpr (.call 15 [.var 5, .var 16])) (.rpr (.var 19))) (.cmp .ne (.cmp .isN (.var 19) (.con .non)) (.blt .any [.lc [26] (.nm 26) (.var 17) none (.cmp .ne (.var 26) (.con (.int 0)))]))) [.ret (.con (.bl false))] []]
def tA : List Cl.St := [.unp (.tp [.nm 3, .nm 4]) (.call 20 [.io 1, .con (.int 6)]), .par [5, 6] [.call 8 [.var 3, .var 4], .call 21 [.var 3, .var 4]], .set 7 (.call 22 [.var 6])]
def tA2 : List Cl.St := [.set 8 (.blt .tuple [.lc [14] (.nm 14) (.var 6) none (.bin .sub (.call 17 [.io 1, .con (.int 9)]) (.con (.int 4)))]), .set 9 (.blt .tuple [.lc [14] (.nm 14) (.var 6) none (.call 17 [.io 1, .bin .pow (.con (.int 10)) (.con (.int 8))])]), .set 10 (.blt .tuple [.lc [14, 25] (.tp [.nm 14, .nm 25]) (.enm (.var 6)) none (.bin .sub (.ix (.var 9) (.var 25)) (.ix (.var 9) (.var 14)))])]
def tB7 : List Cl.St := [.set 11 (.dk []), .fr (.tp [.nm 12, .nm 13]) (.enm (.var 7)) [.fr (.nm 14) (.var 13) [.six 11 (.var 14) (.bin .sub (.var 12) (.con (.int 3)))]], .set 15 (.blt .tuple [.lc [14] (.nm 14) (.rng [.blt .len [.var 6]]) none (.ix (.var 11) (.var 14))])]
def tD : List Cl.St := [.fr (.nm 16) (.tup [.var 8, .var 9, .var 10, .var 15, .bin .mul (.tup [.con (.int 0)]) (.blt .len [.var 6])]) tC, .ite (.or (.cmp .notN (.call 14 [.var 5, .var 15]) (.con (.bl true))) (.cmp .isN (.call 15 [.var 5, .var 10]) (.con .non))) [.ret (.con (.bl false))] []]
def tD2 : List Cl.St := [.set 20 (.blt .tuple [.lc [27, 28] (.tp [.nm 27, .nm 28]) (.zip (.var 8) (.var 9)) none (.bin .add (.var 27) (.var 28))]), .set 21 (.lc [27, 28] (.tp [.nm 27, .nm 28]) (.zip (.call 13 [.var 5, .var 8]) (.call 13 [.var 5, .var 9])) none (.bin .add (.var 27) (.var 28))), .ite (.cmp .ne (.blt .list [.call 13 [.var 5, .var 20]]) (.var 21)) [.ret (.con (.bl false))] []]
def tE : List Cl.St := [.set 22 (.call 18 [.io 1, .lst [.con .non, .con (.int 0), .tup [.var 3, .var 4]]]), .set 23 (.call 18 [.io 1, .lst [.con .non, .bin .add (.var 8) (.tup [.con (.int 0)]), .blt .list [.var 8], .sl (.var 8) (some (.con (.int 1))) none, .bin .mul (.tup [.con .non]) (.blt .len [.var 6]), .con (.int 0)]])]
def tF : List Cl.St := [.set 24 (.lst [.lamc 23 (.call 13 [.var 22, .var 23])]), .expr (.mut .append 24 [.lamc 23 (.call 15 [.var 22, .var 23])]), .expr (.mut .append 24 [.lamc 23 (.call 13 [.var 5, .var 23])]), .expr (.mut .append 24 [.lamc 23 (.call 15 [.var 5, .var 23])]), .ite (.cmp .ne (.var 24) (.lst [.con (.str "laying"), .con (.str "laying"), .con (.str "row"), .con (.str "row")])) [.ret (.con (.bl false))] []]
def tT : List Cl.St := tA ++ (tA2 ++ (tB7 ++ (tD ++ (tD2 ++ (tE ++ tF)))))
theorem tT_eq : b25 = [.set 1 (.call 16 [.var 0]), .fr (.nm 2) (.rng [.con (.int 5)]) tT, .ret (.con (.bl true))] := rfl
end Lw

namespace Lw
open Cl Pm Pl
abbrev vs : List Nat := [13, 14, 25, 26, 27, 28]
section
variable {L O : List Nat} {r1 r2 : List Int} {h : W} {σ : Sg}
abbrev dw (x : D) : W := .d x
abbrev lw (L O : List Nat) : List D := (laps (G (gl L O)) L.sum L.sum).map tN
abbrev I1 (h : W) (L O : List Nat) : List (Nat × W) := [(1, h), (3, .d (tN L)), (4, .d (tN O)), (5, .d (oL L O)), (6, .d (tN (gl L O))), (7, .fl (lw L O))]
theorem partA (hh : Hand h) (s : Sta 29 [(1, h)] vs σ) : ∃ τ', runs 1 CL tA σ = .nx τ' ∧ ∃ h' L O, Hand h' ∧ LO L O ∧ Sta 29 (I1 h' L O) vs τ' := by
  obtain ⟨h1, L, O, hh1, v, hl5, hx6, c⟩ := lyn_ok (P := P) (nc := 1) p17 p19 p20 2 h 6 hh (by decide) (by decide) (by decide) (by decide)
  have e0 := callh (nc := 1) (cl := CL) (f := 20) (i := 1) (e := .con (.int 6)) (x := .d (.int 6)) (fun i z => by cases z) (s.lk 1 rfl) rfl (s.lk 1 rfl) hh hh1 c
  have s1 := s.up (i := 1) (w := h1) rfl rfl
  obtain ⟨a1, s2⟩ := s1.tp (i := 3) (j := 4) (x := tN L) (y := tN O) rfl rfl
  refine go_unp e0 a1 ?_
  refine go_par2 s2 (ev_call2 (s2.lk 3 rfl) (s2.lk 4 rfl) (mk5 v)) (ev_call2 (s2.lk 3 rfl) (s2.lk 4 rfl) (gl5 v)) (by decide) rfl rfl rfl rfl fun τ s3 => ?_
  refine go_set (ev_call1 (s3.lk 6 rfl) (lapsN v)) s3 rfl rfl fun τ s4 => ?_
  exact go_end ⟨h1, L, O, hh1, v, s4.kp [1, 3, 4, 5, 6, 7]⟩
theorem drw5 {h : W} {m : Int} (hh : Hand h) (h1 : 0 < m) (h2 : m < 1073741824) : ∃ r h', CL 17 [h, .d (.int m)] = .ok (.d (.int r)) [h'] ∧ Hand h' ∧ 0 ≤ r ∧ r < m := draw_ok p17 4 h m hh h1 h2
/-- the row of steps -/
def stp (o : List Int) (g : List Nat) : List Int := (Rn g.length).map fun i => Rr o (G g i) - Rr o i
abbrev I2 (h : W) (L O : List Nat) (r1 r2 : List Int) : List (Nat × W) := [(1, h), (3, .d (tN L)), (4, .d (tN O)), (5, .d (oL L O)), (6, .d (tN (gl L O))), (7, .fl (lw L O)), (8, .d (rT r1)), (9, .d (rT r2)), (10, .d (rT (stp r2 (gl L O))))]
theorem partA2 (hh : Hand h) (v : LO L O) (s : Sta 29 (I1 h L O) vs σ) : ∃ τ', runs 1 CL tA2 σ = .nx τ' ∧ ∃ h' r1 r2, Hand h' ∧ (r1.length = L.sum ∧ ∀ x ∈ r1, -4 ≤ x ∧ x ≤ 4) ∧ (r2.length = L.sum ∧ ∀ x ∈ r2, 0 ≤ x ∧ x < 100000000) ∧ Sta 29 (I2 h' L O r1 r2) vs τ' := by
  have few := v.len.sum
  obtain ⟨r1, h1, hh1, len1, q1, e1⟩ := drawn (nc := 1) (cl := CL) (v := 14) (hi_ := 1) (it := .var 6) (E := .bin .sub (.call 17 [.io 1, .con (.int 9)]) (.con (.int 4))) (w := .d (tN (gl L O))) (xs := lD (gl L O)) (Q := fun x => -4 ≤ x ∧ x ≤ 4) s hh (s.lk 1 rfl) (ev_var (s.lk 6 rfl)) rfl (by decide) (by decide) (s.plain rfl) (by rw [lD_len, gl_len]; omega) fun τ g hg e => by
    obtain ⟨r, g', c, hg', a, b⟩ := drw5 hg (m := 9) (by decide) (by decide)
    refine ⟨r - 4, g', hg', ⟨by omega, by omega⟩, ?_⟩
    exact ev_binE (fun i z => by cases z) (fun i z => by cases z) (callh (nc := 1) (cl := CL) (x := .d (.int 9)) (fun i z => by cases z) e rfl e hg hg' c) rfl rfl
  have s1 := s.up (i := 1) (w := h1) rfl rfl
  refine go_set (w := .d (rT r1)) (blt1_ok (fun i z => by cases z) e1 rfl) s1 rfl rfl fun τ s2 => ?_
  obtain ⟨r2, h2, hh2, len2, q2, e2⟩ := drawn (nc := 1) (cl := CL) (v := 14) (hi_ := 1) (it := .var 6) (E := .call 17 [.io 1, .bin .pow (.con (.int 10)) (.con (.int 8))]) (w := .d (tN (gl L O))) (xs := lD (gl L O)) (Q := fun x => 0 ≤ x ∧ x < 100000000) s2 hh1 (s2.lk 1 rfl) (ev_var (s2.lk 6 rfl)) rfl (by decide) (by decide) (s2.plain rfl) (by rw [lD_len, gl_len]; omega) fun τ g hg e => by
    obtain ⟨r, g', c, hg', a, b⟩ := drw5 hg (m := 100000000) (by decide) (by decide)
    refine ⟨r, g', hg', ⟨by omega, by omega⟩, ?_⟩
    exact callh (nc := 1) (cl := CL) (x := .d (.int 100000000)) (fun i z => by cases z) e (ev_binE (fun i z => by cases z) (fun i z => by cases z) rfl rfl (show binop .pow (.int 10) (.int 8) = some (.d (.int 100000000)) by kernel_rfl)) e hg hg' c
  have s3 := s2.up (i := 1) (w := h2) rfl rfl
  refine go_set (w := .d (rT r2)) (blt1_ok (fun i z => by cases z) e2 rfl) s3 rfl rfl fun τ s4 => ?_
  have e3 := lc2 (nc := 1) (cl := CL) (u := 14) (v := 25) (it := .enm (.var 6)) (e := .bin .sub (.ix (.var 9) (.var 25)) (.ix (.var 9) (.var 14))) (σ := τ) (xs := enmL (lD (gl L O))) (fun z => match z with
    | .tup [a, b] => .int (Rr r2 (unI b) - Rr r2 (unI a))
    | d => d) (ev_enm (ev_var (s4.lk 6 rfl)) rfl) rfl (by decide) (by rw [s4.len]; decide) (by rw [s4.len]; decide) (s4.plain rfl) (s4.plain rfl) (by rw [enm_len', lD_len, gl_len]; omega) fun z hz => by
    rw [enm_R] at hz
    obtain ⟨p, hp, rfl⟩ := List.mem_map.mp hz
    have hp' : p < L.sum := by
      have := List.mem_range.mp hp
      rw [gl_len] at this; exact this
    refine ⟨.int (p : Nat), .int (G (gl L O) p : Nat), .d (.int (Rr r2 (G (gl L O) p) - Rr r2 p)), rfl, rfl, ?_⟩
    have s5 := (s4.up (i := 14) (w := .d (.int (p : Nat))) rfl rfl).up (i := 25) (w := .d (.int (G (gl L O) p : Nat))) rfl rfl
    have g9 := s5.lk 9 rfl
    have g14 := s5.lk 14 rfl
    have g25 := s5.lk 25 rfl
    have lr : r2.length = L.sum := by rw [len2, lD_len, gl_len]
    have a1 := atI_iD (r := r2) (p := p) (by omega)
    have a2 := atI_iD (r := r2) (p := G (gl L O) p) (by rw [lr]; exact gl_lt v hp')
    simp [ev, opd, rd, g9, g14, g25, ixD, a1, a2, binop, unI]
  refine go_set (w := .d (rT (stp r2 (gl L O)))) (blt1_ok (fun i z => by cases z) e3 ?_) s4 rfl rfl fun τ s6 => ?_
  · rw [enm_R, List.map_map]
    show some (W.d (.tup _)) = some (W.d (.tup (iD (stp r2 (gl L O)))))
    rw [stp, iD, List.map_map]
    rfl
  exact go_end ⟨h2, r1, r2, hh2, ⟨by rw [len1, lD_len, gl_len], q1⟩, ⟨by rw [len2, lD_len, gl_len], q2⟩, s6.kp [1, 3, 4, 5, 6, 7, 8, 9, 10]⟩
end
end Lw

namespace Lw
open Cl Pm Pl
section
variable {L O : List Nat} {r1 r2 : List Int} {h : W} {σ : Sg}
abbrev ls (L O : List Nat) : List (List Nat) := laps (G (gl L O)) L.sum L.sum
/-- the number of each place's round, less three -/
def num (L O : List Nat) (p : Nat) : Int := match dget (fil (ls L O) (-3) []) (.inl (p : Int)) with
  | some (.int y) => y
  | _ => 0
theorem num_is (v : LO L O) {p : Nat} (hp : p < L.sum) : dget (fil (ls L O) (-3) []) (.inl (p : Int)) = some (.int (num L O p)) ∧ -3 ≤ num L O p ∧ num L O p ≤ 1000 ∧ num L O (G (gl L O) p) = num L O p := by
  have few := v.len.sum
  have hll : (ls L O).length ≤ L.sum := laps_lt L.sum
  have hin : ∃ l ∈ ls L O, p ∈ l := by
    have := (met_iff v.lay.pf (Nat.le_refl L.sum) hp).mpr ⟨p, (mem_orb v.lay.pf hp).mpr ⟨0, rfl⟩, hp⟩
    obtain ⟨l, h1, h2⟩ := List.mem_flatten.mp this
    exact ⟨l, h1, h2⟩
  obtain ⟨y, y1, y2, e⟩ := fil_val p (ls L O) (-3) [] hin
  have e1 := e p fun l _ => Iff.rfl
  have e2 := e (G (gl L O) p) fun l hl => by
    obtain ⟨b, hb, rfl⟩ := laps_mem hl
    exact orb_step v.lay.pf hb hp
  have n1 : num L O p = y := by unfold num; rw [e1]
  have n2 : num L O (G (gl L O) p) = y := by unfold num; rw [e2]
  rw [n1, n2]
  exact ⟨e1, by omega, by omega, rfl⟩
/-- the row of these numbers -/
def evn (L O : List Nat) : List Int := (Rn L.sum).map (num L O)
abbrev I3 (h : W) (L O : List Nat) (r1 r2 : List Int) : List (Nat × W) := [(1, h), (3, .d (tN L)), (4, .d (tN O)), (5, .d (oL L O)), (6, .d (tN (gl L O))), (7, .d (.lst (lw L O))), (8, .d (rT r1)), (9, .d (rT r2)), (10, .d (rT (stp r2 (gl L O)))), (15, .d (rT (evn L O)))]
theorem partB (v : LO L O) (s : Sta 29 (I2 h L O r1 r2) vs σ) : ∃ τ', runs 1 CL tB7 σ = .nx τ' ∧ Sta 29 (I3 h L O r1 r2) vs τ' := by
  have few := v.len.sum
  have hll : (ls L O).length ≤ L.sum := laps_lt L.sum
  refine go_set (w := .fk []) (by simp [ev, evDs, putAll]) s rfl rfl fun τ s1 => ?_
  have s2 := s1.up (i := 7) (w := .d (.lst (lw L O))) rfl rfl
  have g7 := s1.lk 7 rfl
  have ev7 : ev 1 CL (.enm (.var 7)) τ = .ok (.fl (enmL (lw L O))) (τ.set 7 (some (.d (.lst (lw L O))))) := by
    refine ev_enm (w := .d (.lst (lw L O))) ?_ rfl
    simp [ev, g7, W.own]
  let J : Nat → List (Nat × W) := fun i => (11, .fk (fil ((ls L O).take i) (-3) [])) :: kp (up (up (I2 h L O r1 r2) 11 (.fk [])) 7 (.d (.lst (lw L O)))) [1, 3, 4, 5, 6, 7, 8, 9, 10]
  refine go_fr (fun i τ => Sta 29 (J i) vs τ) ev7 rfl (by rw [enm_len', List.length_map]; exact Nat.le_trans hll (by omega)) (s2.kp [11, 1, 3, 4, 5, 6, 7, 8, 9, 10]) (fun i x τ hx si => ?_) (fun τ s3 => ?_)
  · have hi : i < (ls L O).length := by
      have := (List.getElem?_eq_some_iff.mp hx).1
      rw [enm_len'] at this
      simpa [lw] using this
    have ex : x = .tup [.int (i : Nat), tN ((ls L O)[i])] := by
      have : (enmL (lw L O))[i]? = some (.tup [.int (i : Nat), tN ((ls L O)[i])]) := by
        unfold enmL
        rw [List.getElem?_map, List.getElem?_zipIdx]
        simp [lw, hi]
      rw [this] at hx
      exact (Option.some.inj hx).symm
    subst ex
    obtain ⟨a1, s4⟩ := si.tp (i := 12) (j := 13) (x := .int (i : Nat)) (y := tN ((ls L O)[i])) rfl rfl
    refine ⟨_, a1, ?_⟩
    have hl := lap_in v (List.getElem_mem hi)
    have hfl : ∀ l ∈ (ls L O).take i, l.length ≤ 60 := fun l hl => (lap_in v (List.mem_of_mem_take hl)).1
    have fl := fil_len (m := 60) ((ls L O).take i) (-3) [] hfl
    rw [List.length_take] at fl
    have hm : min i (ls L O).length * 60 ≤ 60 * 60 := Nat.mul_le_mul_right 60 (by omega)
    let J2 : Nat → List (Nat × W) := fun m => (11, .fk (putL (fil ((ls L O).take i) (-3) []) (((ls L O)[i]).take m) ((i : Int) - 3))) :: (12, .d (.int (i : Nat))) :: kp (up (up (I2 h L O r1 r2) 11 (.fk [])) 7 (.d (.lst (lw L O)))) [1, 3, 4, 5, 6, 7, 8, 9, 10]
    refine go_fr (fun m τ => Sta 29 (J2 m) vs τ) (ev_var (s4.lk 13 rfl)) rfl (by rw [lD_len]; omega) (s4.kp [11, 12, 1, 3, 4, 5, 6, 7, 8, 9, 10]) (fun m x τ hx sm => ?_) (fun τ s5 => go_end ?_)
    · have hm2 : m < ((ls L O)[i]).length := by
        have := (List.getElem?_eq_some_iff.mp hx).1
        rwa [lD_len] at this
      have ex : x = .int ((((ls L O)[i])[m] : Nat)) := by
        rw [lD_get, List.getElem?_eq_getElem hm2] at hx
        exact (Option.some.inj hx).symm
      subst ex
      obtain ⟨a2, s6⟩ := sm.nm (i := 14) (x := .int ((((ls L O)[i])[m] : Nat))) rfl
      refine ⟨_, a2, ?_⟩
      have g11 := s6.lk 11 rfl
      have g12 := s6.lk 12 rfl
      have g14 := s6.lk 14 rfl
      have pl := putL_len (((ls L O)[i]).take m) (fil ((ls L O).take i) (-3) []) ((i : Int) - 3)
      rw [List.length_take] at pl
      have line := line_lt (show (putL (fil ((ls L O).take i) (-3) []) (((ls L O)[i]).take m) ((i : Int) - 3)).length < 1000000 by
        have : ([] : List (L2.Key × D)).length = 0 := rfl
        omega)
      refine ⟨(τ.set 14 (some (.d (.int ((((ls L O)[i])[m] : Nat)))))).set 11 (some (.fk (putL (fil ((ls L O).take i) (-3) []) (((ls L O)[i]).take (m + 1)) ((i : Int) - 3)))), runs_one ?_, ?_⟩
      · have ee : (putL (fil ((ls L O).take i) (-3) []) (((ls L O)[i]).take (m + 1)) ((i : Int) - 3)) = dput (putL (fil ((ls L O).take i) (-3) []) (((ls L O)[i]).take m) ((i : Int) - 3)) (.inl ((((ls L O)[i])[m] : Nat) : Int)) (.int ((i : Int) - 3)) := by
          rw [← putL_snoc, List.take_succ_eq_append_getElem hm2]
        rw [ee]
        generalize putL (fil ((ls L O).take i) (-3) []) (((ls L O)[i]).take m) ((i : Int) - 3) = kv at g11 line
        simp [run, ev, opd, rd, Out.ofR, binop, setop, keyD, g11, g12, g14, line, W.own]
      · exact (s6.up (i := 11) (w := .fk (putL (fil ((ls L O).take i) (-3) []) (((ls L O)[i]).take (m + 1)) ((i : Int) - 3))) rfl rfl).kp [11, 12, 1, 3, 4, 5, 6, 7, 8, 9, 10]
    · have s7 := s5.kp [11, 1, 3, 4, 5, 6, 7, 8, 9, 10]
      have ee : putL (fil ((ls L O).take i) (-3) []) (((ls L O)[i]).take (lD ((ls L O)[i])).length) ((i : Int) - 3) = fil ((ls L O).take (i + 1)) (-3) [] := by
        rw [lD_len, List.take_length, List.take_succ_eq_append_getElem hi, fil_snoc, List.length_take]
        congr 1
        omega
      show Sta 29 ((11, .fk (fil ((ls L O).take (i + 1)) (-3) [])) :: _) vs τ
      rw [← ee]
      exact s7
  · have ee : fil ((ls L O).take (enmL (lw L O)).length) (-3) [] = fil (ls L O) (-3) [] := by
      rw [enm_len', List.length_map, List.take_length]
    have s4 : Sta 29 ((11, .fk (fil (ls L O) (-3) [])) :: kp (up (up (I2 h L O r1 r2) 11 (.fk [])) 7 (.d (.lst (lw L O)))) [1, 3, 4, 5, 6, 7, 8, 9, 10]) vs τ := by
      rw [← ee]; exact s3
    have g6 := s4.lk 6 rfl
    have e5 := lc1 (nc := 1) (cl := CL) (v := 14) (it := .rng [.blt .len [.var 6]]) (e := .ix (.var 11) (.var 14)) (σ := τ) (w := .fl (lD (Rn L.sum))) (xs := lD (Rn L.sum)) (fun z => .int (num L O (unI z))) (by
      simp [ev, evOs, opd, rds, rd, g6, bltop, lenD, gl_len, rng_lD (show L.sum ≤ 16777216 by omega)]) rfl (by rw [s4.len]; decide) (s4.plain rfl) (by rw [lD_len]; simp [Rn]; omega) fun x hx => by
      obtain ⟨p, hp, rfl⟩ := lD_mem hx
      have hp' := List.mem_range.mp hp
      refine ⟨.d (.int (num L O p)), by simp [unI], ?_⟩
      have s5 := s4.up (i := 14) (w := .d (.int (p : Nat))) rfl rfl
      have g11 := s5.lk 11 rfl
      have g14 := s5.lk 14 rfl
      have gd := (num_is v hp').1
      generalize fil (ls L O) (-3) [] = kv at g11 gd
      simp [ev, opd, rd, g11, g14, ixD, keyD, gd]
    refine go_set (w := .d (rT (evn L O))) (blt1_ok (fun i z => by cases z) e5 ?_) s4 rfl rfl fun τ s6 => ?_
    · show some (W.d (.tup _)) = some (W.d (.tup (iD (evn L O))))
      congr 3
      rw [evn, iD, List.map_map, lD, List.map_map]
      refine List.map_congr_left fun p _ => ?_
      simp [unI, nD]
    · exact go_end (s6.kp [1, 3, 4, 5, 6, 7, 8, 9, 10, 15])
end
end Lw

namespace Lw
open Cl Pm Pl
section
variable {L O : List Nat} {r1 r2 r : List Int} {h : W} {σ : Sg}
abbrev tot (L O : List Nat) (r : List Int) : List Int := (ls L O).map (sm r)
abbrev I4 (h : W) (L O : List Nat) (r1 r2 r : List Int) : List (Nat × W) := (16, .d (rT r)) :: I3 h L O r1 r2
theorem nineB (v : RowIn L O r) : ∀ x ∈ r, -((1000000000 : Nat) : Int) ≤ x ∧ x ≤ (1000000000 : Nat) := fun x hx => by
  have := v.nine x hx
  omega
theorem tot_le (v : RowIn L O r) : ∀ x ∈ tot L O r, -1000000000000 ≤ x ∧ x ≤ 1000000000000 := fun x hx => by
  obtain ⟨l, hl, rfl⟩ := List.mem_map.mp hx
  have h1 := (lap_in v.lo hl).1
  have h2 := sm_le (nineB v) l
  have h3 : l.length * 1000000000 ≤ 60 * 1000000000 := Nat.mul_le_mul_right _ h1
  omega
theorem rpr_oT (v : RowIn L O r) : ∃ t, rprD (oT (dfs r (ls L O) (List.replicate L.sum 0))) = some t := by
  have few := v.few
  cases e : dfs r (ls L O) (List.replicate L.sum 0) with
  | none => exact ⟨_, rpr_ok (d := .non) rfl rfl (by simp [D.blk])⟩
  | some g =>
    have hb := dfs_le (M := 60 * 1000000000) (nineB v) (ls L O) _ g (fun l hl => Nat.mul_le_mul_right _ (lap_in v.lo hl).1) (fun x hx => by rw [List.eq_of_mem_replicate hx]; omega) e
    have hl := dfs_len r (ls L O) _ g e
    rw [List.length_replicate] at hl
    exact ⟨_, rpr_I (fun x hx => by have := hb x hx; omega) (by omega)⟩
theorem isN_oT (v : RowIn L O r) : (oT (dfs r (ls L O) (List.replicate L.sum 0))).isNon = (tot L O r).any fun x => decide (x ≠ 0) := by
  have key := dfs_none r (ls L O) (List.replicate L.sum 0)
  cases e : dfs r (ls L O) (List.replicate L.sum 0) with
  | none =>
    obtain ⟨l, h1, h2⟩ := key.mp e
    refine Eq.symm ?_
    show ((tot L O r).any fun x => decide (x ≠ 0)) = true
    rw [List.any_eq_true]
    exact ⟨_, List.mem_map.mpr ⟨l, h1, rfl⟩, by simpa using h2⟩
  | some g =>
    refine Eq.symm ?_
    show ((tot L O r).any fun x => decide (x ≠ 0)) = false
    rw [List.any_eq_false]
    intro x hx
    obtain ⟨l, hl, rfl⟩ := List.mem_map.mp hx
    intro hz
    have : dfs r (ls L O) (List.replicate L.sum 0) = none := key.mpr ⟨l, hl, by simpa using hz⟩
    rw [e] at this
    cases this
theorem partC (v : RowIn L O r) (s : Sta 29 (I4 h L O r1 r2 r) vs σ) : ∃ τ', runs 1 CL tC σ = .nx τ' ∧ Sta 29 (I3 h L O r1 r2) vs τ' := by
  have few := v.few
  have hll : (ls L O).length ≤ L.sum := laps_lt L.sum
  have e1 := lc1 (nc := 1) (cl := CL) (v := 13) (it := .var 7) (e := .blt .sum [.lc [14] (.nm 14) (.var 13) none (.ix (.var 16) (.var 14))]) (σ := σ) (xs := lw L O) (fun z => .int (sm r (unN z))) (ev_var (s.lk 7 rfl)) rfl (by rw [s.len]; decide) (s.plain rfl) (by rw [List.length_map]; exact Nat.le_trans hll (by omega)) fun x hx => by
    obtain ⟨l, hl, rfl⟩ := List.mem_map.mp hx
    obtain ⟨l1, l2⟩ := lap_in v.lo hl
    have s1 := s.up (i := 13) (w := .d (tN l)) rfl rfl
    refine ⟨.d (.int (sm r l)), by rw [unN_tN]; rfl, ?_⟩
    exact sm_ev (nc := 1) (cl := CL) (r := r) (l := l) (v := 13) (i := 14) (s := 16) (s1.lk 16 rfl) (s1.lk 13 rfl) (by rw [s1.len]; decide) (s1.plain rfl) (back_wipe _ _) (by decide) (by decide) (by omega) (fun p hp => by rw [v.len]; exact l2 p hp)
  have e1m : (lw L O).map (fun z => D.int (sm r (unN z))) = iD (tot L O r) := by
    rw [iD, List.map_map, List.map_map]
    refine List.map_congr_left fun l _ => ?_
    show D.int (sm r (unN (tN l))) = _
    rw [unN_tN]; rfl
  rw [e1m] at e1
  refine go_set (w := .d (rT (tot L O r))) (blt1_ok (fun i z => by cases z) e1 rfl) s rfl rfl fun τ s2 => ?_
  have rp := rpr_I (tot_le v) (by rw [List.length_map]; exact Nat.le_trans hll (by omega))
  refine go_no (σ1 := τ) (tst_of (fun i z => by cases z) (same_no (ev_rpr (fun i z => by cases z) (ev_call2 (s2.lk 5 rfl) (s2.lk 16 rfl) (mxs5 v)) rp) (ev_rprV (s2.lk 17 rfl) rp))) ?_
  have e3 := kept_ev (nc := 1) (cl := CL) (r := r) (g := gl L O) (it := .var 6) (i := 14) (j := 25) (s := 16) (σ := τ) (ev_enm (ev_var (s2.lk 6 rfl)) rfl) (s2.lk 16 rfl) (by rw [s2.len]; decide) (by rw [s2.len]; decide) (by decide) (by
    have p1 := s2.plain (v := 14) rfl
    have p2 := s2.plain (v := 25) rfl
    simp [p1, p2]) (back_wipe _ _) (by decide) (by decide) (by rw [gl_len]; omega) (by rw [gl_len]; exact v.len) (fun p hp => by rw [gl_len] at hp ⊢; exact gl_lt v.lo hp)
  rw [gl_len] at e3
  refine go_set e3 s2 rfl rfl fun τ s3 => ?_
  have rb : ∀ b : Bool, ∃ t, rprD (.bl b) = some t := fun b => ⟨_, rpr_ok (d := .bl b) rfl rfl (by simp [D.blk])⟩
  obtain ⟨t, rb⟩ := rb (kept r (G (gl L O)) L.sum)
  refine go_no (σ1 := τ) (tst_of (fun i z => by cases z) (same_no (ev_rpr (fun i z => by cases z) (ev_call2 (s3.lk 5 rfl) (s3.lk 16 rfl) (kpt5 v)) rb) (ev_rprV (s3.lk 18 rfl) rb))) ?_
  refine go_set (ev_call2 (s3.lk 6 rfl) (s3.lk 16 rfl) (dfo5 v)) s3 rfl rfl fun τ s4 => ?_
  obtain ⟨t, ro⟩ := rpr_oT v
  refine go_no (σ1 := τ) (tst_of (fun i z => by cases z) (ev_or (same_no (ev_rpr (fun i z => by cases z) (ev_call2 (s4.lk 5 rfl) (s4.lk 16 rfl) (dif5 v)) ro) (ev_rprV (s4.lk 19 rfl) ro)) (y := false) (σ2 := τ) ?_)) (go_end (s4.kp [1, 3, 4, 5, 6, 7, 8, 9, 10, 15]))
  have ea := lc1 (nc := 1) (cl := CL) (v := 26) (it := .var 17) (e := .cmp .ne (.var 26) (.con (.int 0))) (σ := τ) (xs := iD (tot L O r)) (fun z => .bl (match z with
    | .int x => decide (x ≠ 0)
    | _ => false)) (ev_var (s4.lk 17 rfl)) rfl (by rw [s4.len]; decide) (s4.plain rfl) (by rw [iD, List.length_map, List.length_map]; exact Nat.le_trans hll (by omega)) fun x hx => by
    obtain ⟨y, hy, rfl⟩ := List.mem_map.mp hx
    refine ⟨.d (.bl (decide (y ≠ 0))), rfl, ?_⟩
    have s5 := s4.up (i := 26) (w := .d (.int y)) rfl rfl
    have g := s5.lk 26 rfl
    simp [ev, opd, rd, g, cmpop, eqD_int]
  have eb := any_lc (fun z => match z with
    | .int x => decide (x ≠ 0)
    | _ => false) ea
  have em : ((iD (tot L O r)).any fun z => match z with
    | .int x => decide (x ≠ 0)
    | _ => false) = (tot L O r).any fun x => decide (x ≠ 0) := by
    rw [iD, List.any_map]; rfl
  rw [em, ← isN_oT v] at eb
  have g19 := s4.lk 19 rfl
  have ec : ev 1 CL (.cmp .isN (.var 19) (.con .non)) τ = .ok (.d (.bl (oT (dfs r (ls L O) (List.replicate L.sum 0))).isNon)) τ := by
    generalize oT (dfs r (ls L O) (List.replicate L.sum 0)) = o at g19
    cases o <;> simp [ev, opd, rd, g19, cmpop, D.isNon]
  refine ev_cmpE (fun i z => by cases z) (fun i z => by cases z) ec eb ?_
  show (some (_ == _)).map _ = _
  simp
theorem ze_in (v : LO L O) : RowIn L O (List.replicate L.sum 0) := ⟨v, by simp, fun x hx => by rw [List.eq_of_mem_replicate hx]; omega⟩
theorem evn_in (v : LO L O) : RowIn L O (evn L O) := ⟨v, by simp [evn, Rn], fun x hx => by
  obtain ⟨p, hp, rfl⟩ := List.mem_map.mp hx
  have := num_is v (List.mem_range.mp hp)
  omega⟩
theorem stp_in (v : LO L O) (h2 : r2.length = L.sum ∧ ∀ x ∈ r2, 0 ≤ x ∧ x < 100000000) : RowIn L O (stp r2 (gl L O)) := ⟨v, by simp [stp, Rn, gl_len], fun x hx => by
  obtain ⟨p, hp, rfl⟩ := List.mem_map.mp hx
  have hp := List.mem_range.mp hp
  rw [gl_len] at hp
  have key : ∀ q, q < L.sum → 0 ≤ Rr r2 q ∧ Rr r2 q < 100000000 := fun q hq => by
    unfold Rr
    rw [List.getD_eq_getElem?_getD, List.getElem?_eq_getElem (by omega)]
    exact h2.2 _ (List.getElem_mem _)
  have k1 := key p hp
  have k2 := key _ (gl_lt v hp)
  omega⟩
theorem partD (v : LO L O) (h1 : r1.length = L.sum ∧ ∀ x ∈ r1, -4 ≤ x ∧ x ≤ 4) (h2 : r2.length = L.sum ∧ ∀ x ∈ r2, 0 ≤ x ∧ x < 100000000) (s : Sta 29 (I3 h L O r1 r2) vs σ) : ∃ τ', runs 1 CL tD σ = .nx τ' ∧ Sta 29 (I3 h L O r1 r2) vs τ' := by
  have few := v.len.sum
  have v1 : RowIn L O r1 := ⟨v, h1.1, fun x hx => by have := h1.2 x hx; omega⟩
  have v2 : RowIn L O r2 := ⟨v, h2.1, fun x hx => by have := h2.2 x hx; omega⟩
  have v3 := stp_in v h2
  have v4 := evn_in v
  have v5 := ze_in v
  have pos : 0 < L.sum := by
    match L, v.len with
    | a :: L, l =>
      have := l.pos a List.mem_cons_self
      rw [List.sum_cons]; omega
    | [], l => exact absurd l.lo (by simp)
  have g6 := s.lk 6 rfl
  have ez : ev 1 CL (.bin .mul (.tup [.con (.int 0)]) (.blt .len [.var 6])) σ = .ok (.d (rT (List.replicate L.sum 0))) σ := by
    refine ev_binE (x := .d (.tup [.int 0])) (y := .d (.int (L.sum : Nat))) (fun i z => by cases z) (fun i z => by cases z) rfl (by simp [ev, evOs, opd, rds, rd, g6, bltop, lenD, gl_len]) ?_
    show binop .mul (.tup [.int 0]) (.int (L.sum : Nat)) = _
    rw [tmul (by omega) (by omega), rT, iD, List.map_replicate]
  have et : ev 1 CL (.tup [.var 8, .var 9, .var 10, .var 15, .bin .mul (.tup [.con (.int 0)]) (.blt .len [.var 6])]) σ = .ok (.d (.tup [rT r1, rT r2, rT (stp r2 (gl L O)), rT (evn L O), rT (List.replicate L.sum 0)])) σ :=
    ev_tupE (evDs_cs (ev_var (s.lk 8 rfl)) (evDs_cs (ev_var (s.lk 9 rfl)) (evDs_cs (ev_var (s.lk 10 rfl)) (evDs_cs (ev_var (s.lk 15 rfl)) (evDs_cs ez rfl)))))
  refine go_fr (fun i τ => Sta 29 (I3 h L O r1 r2) vs τ) et rfl (by simp) s (fun i x τ hx si => ?_) (fun τ s1 => ?_)
  · have hm := List.mem_of_getElem? hx
    simp only [List.mem_cons, List.not_mem_nil, or_false] at hm
    obtain ⟨r, vr, rfl⟩ : ∃ r, RowIn L O r ∧ x = rT r := by
      rcases hm with rfl | rfl | rfl | rfl | rfl
      · exact ⟨_, v1, rfl⟩
      · exact ⟨_, v2, rfl⟩
      · exact ⟨_, v3, rfl⟩
      · exact ⟨_, v4, rfl⟩
      · exact ⟨_, v5, rfl⟩
    obtain ⟨a, s2⟩ := si.nm (i := 16) (x := rT r) rfl
    exact ⟨_, a, partC vr s2⟩
  · have k1 : kept (evn L O) (G (gl L O)) L.sum = true := by
      unfold kept
      rw [List.all_eq_true]
      intro p hp
      have hp := List.mem_range.mp hp
      have rr : ∀ q, q < L.sum → Rr (evn L O) q = num L O q := fun q hq => by
        unfold Rr evn
        rw [List.getD_eq_getElem?_getD, List.getElem?_map, Rn, List.getElem?_range hq]; rfl
      rw [rr p hp, rr _ (gl_lt v hp), (num_is v hp).2.2.2]
      simp
    have k2 : (oT (dfs (stp r2 (gl L O)) (ls L O) (List.replicate L.sum 0))).isNon = false := by
      cases e : dfs (stp r2 (gl L O)) (ls L O) (List.replicate L.sum 0) with
      | some g => rfl
      | none =>
        obtain ⟨l, hl, hz⟩ := (dfs_none _ _ _).mp e
        obtain ⟨p, hp, rfl⟩ := laps_mem hl
        refine absurd (sm_steps v.lay.pf (c := Rr r2) (fun q hq => ?_) hp) hz
        unfold Rr stp
        rw [List.getD_eq_getElem?_getD, List.getElem?_map, Rn, gl_len, List.getElem?_range hq]; rfl
    have c1 := kpt5 v4
    rw [k1] at c1
    refine go_no (σ1 := τ) (tst_of (fun i z => by cases z) (ev_or (σ1 := τ) ?_ (y := false) (σ2 := τ) ?_)) (go_end s1)
    · exact ev_cmpE (fun i z => by cases z) (fun i z => by cases z) (ev_call2 (s1.lk 5 rfl) (s1.lk 15 rfl) c1) rfl rfl
    · refine ev_cmpE (w2 := .d .non) (fun i z => by cases z) (fun i z => by cases z) (ev_call2 (s1.lk 5 rfl) (s1.lk 10 rfl) (dif5 v3)) rfl ?_
      generalize oT (dfs (stp r2 (gl L O)) (laps (G (gl L O)) L.sum L.sum) (List.replicate L.sum 0)) = o at k2
      cases o <;> first | exact congrArg some k2 | rfl | cases k2
end
end Lw

namespace Lw
open Cl Pm Pl
section
variable {L O : List Nat} {r1 r2 r : List Int} {h : W} {σ : Sg}
/-- two rows' sums -/
def adR (a b : List Int) : List Int := List.zipWith (· + ·) a b
theorem zip_ad (f : D → D) (hf : ∀ x y : Int, f (.tup [.int x, .int y]) = .int (x + y)) : ∀ a b : List Int, (List.zipWith (fun x y => D.tup [x, y]) (iD a) (iD b)).map f = iD (adR a b)
  | [], b => rfl
  | a :: as, [] => rfl
  | a :: as, b :: bs => by
    show f (.tup [.int a, .int b]) :: (List.zipWith (fun x y => D.tup [x, y]) (iD as) (iD bs)).map f = .int (a + b) :: iD (adR as bs)
    rw [hf, zip_ad f hf as bs]
theorem zip_mem {z : D} : ∀ {a b : List Int}, z ∈ List.zipWith (fun x y => D.tup [x, y]) (iD a) (iD b) → ∃ x y, z = .tup [.int x, .int y]
  | [], b, h => nomatch h
  | a :: as, [], h => nomatch h
  | a :: as, b :: bs, h => by
    rcases List.mem_cons.mp (show z ∈ D.tup [.int a, .int b] :: List.zipWith (fun x y => D.tup [x, y]) (iD as) (iD bs) from h) with rfl | h
    · exact ⟨_, _, rfl⟩
    · exact zip_mem h
theorem zip_len (a b : List Int) : (List.zipWith (fun x y => D.tup [x, y]) (iD a) (iD b)).length ≤ a.length := by
  rw [List.length_zipWith]; simp [iD]; omega
theorem adR_at {a b : List Int} {n : Nat} (ha : a.length = n) (hb : b.length = n) {p : Nat} (hp : p < n) : Rr (adR a b) p = Rr a p + Rr b p := by
  unfold Rr adR
  simp only [List.getD_eq_getElem?_getD]
  rw [List.getElem?_zipWith, List.getElem?_eq_getElem (show p < a.length by omega), List.getElem?_eq_getElem (show p < b.length by omega)]
  rfl
def addF : D → D
  | .tup [.int a, .int b] => .int (a + b)
  | d => d
/-- a comprehension that adds -/
theorem add_lc {it : Ex} {w : W} {a b : List Int} (s : ∃ l, Sta 29 l vs σ) (hi : ev 1 CL it σ = .ok w σ) (hx : itemsD w.toD = some (List.zipWith (fun x y => D.tup [x, y]) (iD a) (iD b))) (hl : a.length ≤ 1000) : ev 1 CL (.lc [27, 28] (.tp [.nm 27, .nm 28]) it none (.bin .add (.var 27) (.var 28))) σ = .ok (.fl (iD (adR a b))) σ := by
  obtain ⟨l, s⟩ := s
  have e := lc2 (nc := 1) (cl := CL) (u := 27) (v := 28) (it := it) (e := .bin .add (.var 27) (.var 28)) (σ := σ) addF hi hx (by decide) (by rw [s.len]; decide) (by rw [s.len]; decide) (s.plain rfl) (s.plain rfl) (by have := zip_len a b; omega) fun z hz => by
    obtain ⟨x, y, rfl⟩ := zip_mem hz
    refine ⟨.int x, .int y, .d (.int (x + y)), rfl, rfl, ?_⟩
    have s1 := (s.up (i := 27) (w := .d (.int x)) rfl rfl).up (i := 28) (w := .d (.int y)) rfl rfl
    have g1 := s1.lk 27 rfl
    have g2 := s1.lk 28 rfl
    simp [ev, opd, rd, g1, g2, binop]
  rw [zip_ad addF fun x y => rfl] at e
  exact e
theorem partD2 (v : LO L O) (h1 : r1.length = L.sum ∧ ∀ x ∈ r1, -4 ≤ x ∧ x ≤ 4) (h2 : r2.length = L.sum ∧ ∀ x ∈ r2, 0 ≤ x ∧ x < 100000000) (s : Sta 29 (I3 h L O r1 r2) vs σ) : ∃ τ', runs 1 CL tD2 σ = .nx τ' ∧ Sta 29 (I3 h L O r1 r2) vs τ' := by
  have few := v.len.sum
  have hll : (ls L O).length ≤ L.sum := laps_lt L.sum
  have v1 : RowIn L O r1 := ⟨v, h1.1, fun x hx => by have := h1.2 x hx; omega⟩
  have v2 : RowIn L O r2 := ⟨v, h2.1, fun x hx => by have := h2.2 x hx; omega⟩
  have v3 : RowIn L O (adR r1 r2) := ⟨v, by rw [adR, List.length_zipWith]; omega, fun x hx => by
    obtain ⟨i, hi, rfl⟩ := List.getElem_of_mem hx
    have hi' : i < L.sum := by
      rw [adR, List.length_zipWith] at hi
      omega
    have a1 := h1.2 (r1[i]'(by omega)) (List.getElem_mem _)
    have a2 := h2.2 (r2[i]'(by omega)) (List.getElem_mem _)
    have : (adR r1 r2)[i] = r1[i]'(by omega) + r2[i]'(by omega) := by simp [adR]
    rw [this]
    omega⟩
  refine go_set (w := .d (rT (adR r1 r2))) (blt1_ok (fun i z => by cases z) (add_lc (a := r1) (b := r2) ⟨_, s⟩ (ev_zip (ev_var (s.lk 8 rfl)) (ev_var (s.lk 9 rfl)) rfl) rfl (by omega)) rfl) s rfl rfl fun τ s1 => ?_
  refine go_set (add_lc (a := tot L O r1) (b := tot L O r2) ⟨_, s1⟩ (ev_zip (ev_call2 (s1.lk 5 rfl) (s1.lk 8 rfl) (mxs5 v1)) (ev_call2 (s1.lk 5 rfl) (s1.lk 9 rfl) (mxs5 v2)) rfl) rfl (by rw [List.length_map]; exact Nat.le_trans hll (by omega))) s1 rfl rfl fun τ s2 => ?_
  have key : adR (tot L O r1) (tot L O r2) = tot L O (adR r1 r2) := by
    unfold adR tot
    rw [List.zipWith_map, List.zipWith_self]
    refine List.map_congr_left fun l hl => ?_
    exact (sm_add (n := L.sum) (fun p hp => adR_at h1.1 h2.1 hp) l (lap_in v hl).2).symm
  rw [key] at s2
  refine go_no (σ1 := τ) (tst_of (fun i z => by cases z) (ev_cmpV (w2 := .fl (iD (tot L O (adR r1 r2)))) (fun i z => by cases z) (blt1_ok (w := .d (rT (tot L O (adR r1 r2)))) (r := .fl (iD (tot L O (adR r1 r2)))) (fun i z => by cases z) (ev_call2 (s2.lk 5 rfl) (s2.lk 20 rfl) (mxs5 v3)) rfl) (s2.lk 21 rfl) (ne_iL _))) ?_
  exact go_end (s2.kp [1, 3, 4, 5, 6, 7, 8, 9, 10, 15])
theorem cut1 (xs : List D) : cutD xs (some 1) none = xs.drop 1 := by
  have e1 : HT.sIx xs.length 0 (some 1) = min 1 xs.length := HT.sIx_nat xs.length 0 1
  have e2 : HT.sIx xs.length xs.length none = xs.length := rfl
  unfold cutD
  rw [e1, e2]
  cases xs with
  | nil => rfl
  | cons x xs =>
    rw [List.length_cons, Nat.min_eq_left (by omega)]
    simp
abbrev I5 (h : W) (L O : List Nat) (d e : D) : List (Nat × W) := [(1, h), (5, .d (oL L O)), (22, .d d), (23, .d e)]
theorem partE (v : LO L O) (h1 : r1.length = L.sum ∧ ∀ x ∈ r1, -4 ≤ x ∧ x ≤ 4) (hh : Hand h) (s : Sta 29 (I3 h L O r1 r2) vs σ) : ∃ τ', runs 1 CL tE σ = .nx τ' ∧ ∃ h' d e, Hand h' ∧ notL d = true ∧ e ∈ badR r1 ∧ Sta 29 (I5 h' L O d e) vs τ' := by
  have few := v.len.sum
  have pos : 0 < L.sum := by
    match L, v.len with
    | a :: L, l =>
      have := l.pos a List.mem_cons_self
      rw [List.sum_cons]; omega
    | [], l => exact absurd l.lo (by simp)
  obtain ⟨d, g1, hd, hg1, c1⟩ := any_ok (P := P) (nc := 1) p17 p18 3 h [.non, .int 0, .tup [tN L, tN O]] hh (by simp) (by simp)
  have e1 : ev 1 CL (.lst [.con .non, .con (.int 0), .tup [.var 3, .var 4]]) σ = .ok (.fl [.non, .int 0, .tup [tN L, tN O]]) σ :=
    ev_lstE (evDs_cs (w := .d .non) rfl (evDs_cs (w := .d (.int 0)) rfl (evDs_cs (ev_tupE (evDs_cs (ev_var (s.lk 3 rfl)) (evDs_cs (ev_var (s.lk 4 rfl)) rfl))) rfl)))
  refine go_set (callh (nc := 1) (cl := CL) (fun i z => by cases z) (s.lk 1 rfl) e1 (s.lk 1 rfl) hh hg1 c1) (s.up (i := 1) (w := g1) rfl rfl) rfl rfl fun τ s1 => ?_
  obtain ⟨e, g2, he, hg2, c2⟩ := any_ok (P := P) (nc := 1) p17 p18 3 g1 (badR r1) hg1 (by simp [badR]) (by simp [badR])
  have g6 := s1.lk 6 rfl
  have g8 := s1.lk 8 rfl
  have b1 : ev 1 CL (.bin .add (.var 8) (.tup [.con (.int 0)])) τ = .ok (.d (.tup (iD r1 ++ [.int 0]))) τ := by
    have : r1.length + 1 ≤ PySem.sizeLine := by rw [PySem.sizeLine_eq]; omega
    simp [ev, evDs, opd, rd, g8, binop, this, ofO]
  have b2 : ev 1 CL (.blt .list [.var 8]) τ = .ok (.fl (iD r1)) τ := by
    simp [ev, evOs, opd, rds, rd, g8, bltop]
  have b3 : ev 1 CL (.sl (.var 8) (some (.con (.int 1))) none) τ = .ok (.d (.tup ((iD r1).drop 1))) τ := by
    simp [ev, evI, opd, rd, g8, slD, cut1]
  have b4 : ev 1 CL (.bin .mul (.tup [.con .non]) (.blt .len [.var 6])) τ = .ok (.d (.tup (List.replicate r1.length .non))) τ := by
    refine ev_binE (x := .d (.tup [.non])) (y := .d (.int (L.sum : Nat))) (fun i z => by cases z) (fun i z => by cases z) rfl (by simp [ev, evOs, opd, rds, rd, g6, bltop, lenD, gl_len]) ?_
    show binop .mul (.tup [.non]) (.int (L.sum : Nat)) = _
    rw [tmul (by omega) (by omega), h1.1]
  have e2 : ev 1 CL (.lst [.con .non, .bin .add (.var 8) (.tup [.con (.int 0)]), .blt .list [.var 8], .sl (.var 8) (some (.con (.int 1))) none, .bin .mul (.tup [.con .non]) (.blt .len [.var 6]), .con (.int 0)]) τ = .ok (.fl (badR r1)) τ :=
    ev_lstE (evDs_cs (w := .d .non) rfl (evDs_cs b1 (evDs_cs b2 (evDs_cs b3 (evDs_cs b4 (evDs_cs (w := .d (.int 0)) rfl rfl))))))
  refine go_set (callh (nc := 1) (cl := CL) (fun i z => by cases z) (s1.lk 1 rfl) e2 (s1.lk 1 rfl) hg1 hg2 c2) (s1.up (i := 1) (w := g2) rfl rfl) rfl rfl fun τ s2 => ?_
  refine go_end ⟨g2, d, e, hg2, ?_, he, s2.kp [1, 5, 22, 23]⟩
  simp only [List.mem_cons, List.not_mem_nil, or_false] at hd
  rcases hd with rfl | rfl | rfl <;> rfl
theorem partF {d e : D} (v : LO L O) (h1 : r1.length = L.sum ∧ ∀ x ∈ r1, -4 ≤ x ∧ x ≤ 4) (hd : notL d = true) (he : e ∈ badR r1) (s : Sta 29 (I5 h L O d e) vs σ) : ∃ τ', runs 1 CL tF σ = .nx τ' ∧ Sta 29 [(1, h)] vs τ' := by
  have v1 : RowIn L O r1 := ⟨v, h1.1, fun x hx => by have := h1.2 x hx; omega⟩
  have pos : 0 < L.sum := by
    match L, v.len with
    | a :: L, l =>
      have := l.pos a List.mem_cons_self
      rw [List.sum_cons]; omega
    | [], l => exact absurd l.lo (by simp)
  have c1 : CL 13 [.d d, .d e] = .exc 1 [] [] := no13 hd
  have c2 : CL 15 [.d d, .d e] = .exc 1 [] [] := no15 hd
  have c3 : CL 13 [.d (oL L O), .d e] = .exc 2 [] [] := bad13 v1 pos he
  have c4 : CL 15 [.d (oL L O), .d e] = .exc 2 [] [] := bad15 v1 pos he
  have k1 : CL 23 [.d (.int 1)] = .ok (.d (.str "laying")) [] := say1
  have k2 : CL 23 [.d (.int 2)] = .ok (.d (.str "row")) [] := say2
  have g5 := s.lk 5 rfl
  have g22 := s.lk 22 rfl
  have g23 := s.lk 23 rfl
  have l1 : ev 1 CL (.lst [.lamc 23 (.call 13 [.var 22, .var 23])]) σ = .ok (.fl [.str "laying"]) σ := by
    simp [ev, evAs, evDs, callS, ioS, agWs, agW, putBack, g22, g23, c1, k1, lamR, simpleW, W.own]
  refine go_set l1 s rfl rfl fun τ s1 => ?_
  have app : ∀ (τ : Sg) (l : List (Nat × W)) (E : Ex) (t : PySem.Str) (ws : List D) (ss : List Cl.St) (Q : Sg → Prop), Sta 29 l vs τ → lk l 24 = some (.fl ws) → ws.length < 100 → ev 1 CL E τ = .ok (.d (.str t)) τ → (∀ τ', Sta 29 (up l 24 (.fl (ws ++ [.str t]))) vs τ' → ∃ τ'', runs 1 CL ss τ' = .nx τ'' ∧ Q τ'') → ∃ τ'', runs 1 CL (.expr (.mut .append 24 [E]) :: ss) τ = .nx τ'' ∧ Q τ'' := fun τ l E t ws ss Q sl hl hw hE k => by
    refine go_st (τ := τ.set 24 (some (.fl (ws ++ [.str t])))) ?_ (k _ (sl.up (i := 24) (w := .fl (ws ++ [.str t])) rfl rfl))
    have g := sl.lk 24 hl
    have := app_ok (xs := ws) (d := .str t) (by omega)
    simp [run, ev, evDs, hE, g, W.kind, Mut.kd, this, Out.ofR]
  have lam : ∀ (τ : Sg) (f i : Nat) (a : D) (c : Nat) (t : PySem.Str), τ[i]? = some (some (.d a)) → τ[23]? = some (some (.d e)) → CL f [.d a, .d e] = .exc c [] [] → CL 23 [.d (.int (c : Int))] = .ok (.d (.str t)) [] → ev 1 CL (.lamc 23 (.call f [.var i, .var 23])) τ = .ok (.d (.str t)) τ := fun τ f i a c t h1 h2 h3 h4 => by
    simp [ev, evAs, callS, ioS, agWs, agW, putBack, h1, h2, h3, h4, lamR, simpleW, W.own]
  refine app τ _ _ "laying" _ _ _ s1 rfl (by simp) (lam τ 15 22 d 1 _ (s1.lk 22 rfl) (s1.lk 23 rfl) c2 k1) fun τ s2 => ?_
  refine app τ _ _ "row" _ _ _ s2 rfl (by simp) (lam τ 13 5 (oL L O) 2 _ (s2.lk 5 rfl) (s2.lk 23 rfl) c3 k2) fun τ s3 => ?_
  refine app τ _ _ "row" _ _ _ s3 rfl (by simp) (lam τ 15 5 (oL L O) 2 _ (s3.lk 5 rfl) (s3.lk 23 rfl) c4 k2) fun τ s4 => ?_
  have g24 := s4.lk 24 rfl
  have wq : cmpop .ne (.lst [.str "laying", .str "laying", .str "row", .str "row"]) (.lst [.str "laying", .str "laying", .str "row", .str "row"]) = some false := by kernel_rfl
  have cq : ev 1 CL (.cmp .ne (.var 24) (.lst [.con (.str "laying"), .con (.str "laying"), .con (.str "row"), .con (.str "row")])) τ = .ok (.d (.bl false)) τ := by
    simp [ev, evDs, opd, rd, g24, wq]
  exact go_no (σ1 := τ) (tst_of (fun i z => by cases z) cq) (go_end (s4.kp [1]))
theorem turn {h : W} (hh : Hand h) (s : Sta 29 [(1, h)] vs σ) : ∃ τ', runs 1 CL tT σ = .nx τ' ∧ ∃ h', Hand h' ∧ Sta 29 [(1, h')] vs τ' := by
  unfold tT
  refine go_app (partA hh s) fun τ ⟨h1, L, O, hh1, v, s1⟩ => ?_
  refine go_app (partA2 hh1 v s1) fun τ ⟨h2, r1, r2, hh2, q1, q2, s2⟩ => ?_
  refine go_app (partB v s2) fun τ s3 => ?_
  refine go_app (partD v q1 q2 s3) fun τ s4 => ?_
  refine go_app (partD2 v q1 q2 s4) fun τ s5 => ?_
  refine go_app (partE v q1 hh2 s5) fun τ ⟨h3, d, e, hh3, hd, he, s6⟩ => ?_
  obtain ⟨τ', e1, s7⟩ := partF v q1 hd he s6
  exact ⟨τ', e1, h3, hh3, s7⟩
end
theorem law_holds : ∀ ns : List Int, ns.length ≤ 63 → callN (pgOf Ds) 1 6 25 [.d (.scr ns)] = .ok (.d (.bl true)) [] := fun ns hl => by
  obtain ⟨h0, hh0, c0⟩ := hand_ok (P := P) (nc := 1) p16 (by decide) 4 ns hl
  have s0 : Sta 29 [(0, .d (.scr ns))] vs (some (.d (.scr ns)) :: List.replicate 28 none) := ⟨rfl, fun p hp => by
    rw [List.mem_singleton] at hp
    subst hp; rfl, fun v hv => by
    simp only [vs, List.mem_cons, List.not_mem_nil, or_false] at hv
    rcases hv with rfl | rfl | rfl | rfl | rfl | rfl <;> rfl⟩
  have key : ∃ τ, runs 1 CL b25 (some (.d (.scr ns)) :: List.replicate 28 none) = .rt (.d (.bl true)) τ := by
    rw [tT_eq]
    obtain ⟨τ, e, q⟩ := go_set (nc := 1) (cl := CL) (Q := fun τ => True) (ss := [.fr (.nm 2) (.rng [.con (.int 5)]) tT]) (ev_call1 (s0.lk 0 rfl) c0) s0 (i := 1) rfl rfl fun τ s1 => by
      have r5 : rngD [.int 5] = some ((List.range 5).map fun (i : Nat) => D.int i) := by kernel_rfl
      refine go_fr (fun i τ => ∃ h, Hand h ∧ Sta 29 [(1, h)] vs τ) (w := .fl ((List.range 5).map fun (i : Nat) => D.int i)) (σ1 := τ) (by
        generalize (List.range 5).map (fun (i : Nat) => D.int i) = rs at r5 ⊢
        simp [ev, evOs, opd, rds, rd, r5]) rfl (by simp) ⟨h0, hh0, s1.kp [1]⟩ (fun i x τ hx ⟨h, hh, s⟩ => ?_) fun τ _ => go_end trivial
      obtain ⟨a, s2⟩ := s.nm (i := 2) (x := x) rfl
      exact ⟨_, a, turn hh (s2.kp [1])⟩
    refine ⟨τ, ?_⟩
    show runs 1 CL ([.set 1 (.call 16 [.var 0]), .fr (.nm 2) (.rng [.con (.int 5)]) tT] ++ [.ret (.con (.bl true))]) _ = _
    rw [runs_app, e, Out.seq_nx]
    rfl
  obtain ⟨τ, e⟩ := key
  exact fn_rt (k := 5) (ds := [.scr ns]) (body := b25) (st := some (.d (.scr ns)) :: List.replicate 28 none) (σ := τ) (show P[25]? = some d25.fd from rfl) rfl rfl rfl (Nat.le_of_ble_eq_true rfl) rfl rfl e
end Lw

namespace Lw
open PySem PySem.Spec PyProof.Rows L2 Cl
set_option maxHeartbeats 0 in
theorem all_mk {l : PySem.W.OpenLaw} {w : World} {K : PySem.W.Frag} {h : Heap} {mg mb : Str → Option Value} {fa : Addr} {lo : List Str} {mean : ExcName → Option Value} {pr : Program} (T : PyProof.Rows.Top pr lo mean mg mb h) (X : K.In h) (G : h.Ns mainGlobals mg) (hfa : mg "law" = some (.ref fa))
    {f0 f1 f2 f3 f4 f5 f6 f7 f9 f10 f11 f12 f13 f14 f15 f16 f17 f18 f19 f20 f21 f22 f23 f24 f25 C0 X0 X1 X2 XB xf0 tc25 tP25 : Addr} {od0 an0 od1 an1 od2 an2 od3 an3 od4 an4 od5 an5 od6 an6 od7 an7 od9 an9 od10 an10 od11 an11 od12 an12 od13 an13 od14 an14 od15 an15 od16 an16 od17 an17 od18 an18 od19 an19 od20 an20 od21 an21 od22 an22 od23 an23 od24 an24 od25 an25 xod0 xan0 to25 : Option Addr} {sl0 sl1 sl2 sl3 sl4 sl5 sl6 sl7 sl9 sl10 sl11 sl12 sl13 sl14 sl15 sl16 sl17 sl18 sl19 sl20 sl21 sl22 sl23 sl24 sl25 xsl0 ts25 : Array (Option Value)} {oc0 kV0 dc0 pm0 cd0 ct0 oc1 kV1 dc1 pm1 cd1 ct1 oc2 kV2 dc2 pm2 cd2 ct2 oc3 kV3 dc3 pm3 cd3 ct3 oc4 kV4 dc4 pm4 cd4 ct4 oc5 kV5 dc5 pm5 cd5 ct5 oc6 kV6 dc6 pm6 cd6 ct6 oc7 kV7 dc7 pm7 cd7 ct7 oc9 kV9 dc9 pm9 cd9 ct9 oc10 kV10 dc10 pm10 cd10 ct10 oc11 kV11 dc11 pm11 cd11 ct11 oc12 kV12 dc12 pm12 cd12 ct12 oc13 kV13 dc13 pm13 cd13 ct13 oc14 kV14 dc14 pm14 cd14 ct14 oc15 kV15 dc15 pm15 cd15 ct15 oc16 kV16 dc16 pm16 cd16 ct16 oc17 kV17 dc17 pm17 cd17 ct17 oc18 kV18 dc18 pm18 cd18 ct18 oc19 kV19 dc19 pm19 cd19 ct19 oc20 kV20 dc20 pm20 cd20 ct20 oc21 kV21 dc21 pm21 cd21 ct21 oc22 kV22 dc22 pm22 cd22 ct22 oc23 kV23 dc23 pm23 cd23 ct23 oc24 kV24 dc24 pm24 cd24 ct24 oc25 kV25 dc25 pm25 cd25 ct25 xoc0 xkV0 xdc0 xpm0 xcd0 xct0 tq25 : Value} {t0 t1 t2 : Tok} {tv25 : Array Value}
    (g_0 : PySem.W.nsIn K mainGlobals "Laying" = some (some (.ref C0)))
    (kp_0 : PySem.W.keepIn K (.ref C0) = true)
    (mk_0 : PySem.W.makesIn K C0 = true)
    (m_6 : PySem.W.findIn K (.ref C0) "__init__" = some (some (.ref f6)))
    (m_7 : PySem.W.findIn K (.ref C0) "__eq__" = some (some (.ref f7)))
    (pg_0 : PySem.W.plainGet K C0 Str.empty = true)
    (hd_0 : PySem.W.hasDictIn K C0 = true)
    (po_0 : PySem.W.plainOver K C0 = true)
    (sa_0 : PySem.W.findIn K (.ref C0) "__setattr__" = some (some (.builtin "object.__setattr__")))
    (ha_0 : PySem.W.findIn K (.ref C0) "__class__" = some (some (.builtin "object.__class__")))
    (hm_0 : PySem.W.mroIn K C0 (.type "object") = some true)
    (to_0_NoneType : PySem.W.kitOne K (.type "NoneType") (.ref C0) = some false)
    (to_0_bool : PySem.W.kitOne K (.type "bool") (.ref C0) = some false)
    (to_0_int : PySem.W.kitOne K (.type "int") (.ref C0) = some false)
    (to_0_str : PySem.W.kitOne K (.type "str") (.ref C0) = some false)
    (to_0_list : PySem.W.kitOne K (.type "list") (.ref C0) = some false)
    (to_0_tuple : PySem.W.kitOne K (.type "tuple") (.ref C0) = some false)
    (to_0_dict : PySem.W.kitOne K (.type "dict") (.ref C0) = some false)
    (of_0_int : PySem.W.kitOne K (.ref C0) (.type "int") = some false)
    (of_0_bool : PySem.W.kitOne K (.ref C0) (.type "bool") = some false)
    (of_0_str : PySem.W.kitOne K (.ref C0) (.type "str") = some false)
    (of_0_tuple : PySem.W.kitOne K (.ref C0) (.type "tuple") = some false)
    (of_0_list : PySem.W.kitOne K (.ref C0) (.type "list") = some false)
    (of_0_dict : PySem.W.kitOne K (.ref C0) (.type "dict") = some false)
    (na_0_lengths : PySem.W.findIn K (.ref C0) "lengths" = some none)
    (na_0_order : PySem.W.findIn K (.ref C0) "order" = some none)
    (na_0_many : PySem.W.findIn K (.ref C0) "many" = some none)
    (na_0_size : PySem.W.findIn K (.ref C0) "size" = some none)
    (na_0_goal : PySem.W.findIn K (.ref C0) "goal" = some none)
    (ow_0_0 : PySem.W.kitOne K (.ref C0) (.ref C0) = some true)
    (hn : PySem.W.specialIn K (.builtin "object.__class__") "__get__" = some (some (.builtin "getset_descriptor.__get__")))
    (ht : PySem.W.takesIn K (.builtin "object.__class__") = some true)
    (a0 : PySem.W.nsIn K mainGlobals "is_integer" = some (some (.ref f0)))
    (l0 : K.lookup f0 = some ⟨oc0, od0, .func (PySem.W.fnOf "is_integer" "is_integer" (defArgs (top 8)) (defBody (top 8)) (defScope (top 8)) .none kV0 dc0 pm0 an0 cd0 ct0), sl0⟩)
    (c0 : PySem.W.codeIn K cd0 "is_integer" = true)
    (k0 : PySem.W.keepIn K (.ref f0) = true)
    (a1 : PySem.W.nsIn K mainGlobals "is_within" = some (some (.ref f1)))
    (l1 : K.lookup f1 = some ⟨oc1, od1, .func (PySem.W.fnOf "is_within" "is_within" (defArgs (top 9)) (defBody (top 9)) (defScope (top 9)) .none kV1 dc1 pm1 an1 cd1 ct1), sl1⟩)
    (c1 : PySem.W.codeIn K cd1 "is_within" = true)
    (k1 : PySem.W.keepIn K (.ref f1) = true)
    (a2 : PySem.W.nsIn K mainGlobals "are_lengths" = some (some (.ref f2)))
    (l2 : K.lookup f2 = some ⟨oc2, od2, .func (PySem.W.fnOf "are_lengths" "are_lengths" (defArgs (top 10)) (defBody (top 10)) (defScope (top 10)) .none kV2 dc2 pm2 an2 cd2 ct2), sl2⟩)
    (c2 : PySem.W.codeIn K cd2 "are_lengths" = true)
    (k2 : PySem.W.keepIn K (.ref f2) = true)
    (a3 : PySem.W.nsIn K mainGlobals "is_order" = some (some (.ref f3)))
    (l3 : K.lookup f3 = some ⟨oc3, od3, .func (PySem.W.fnOf "is_order" "is_order" (defArgs (top 11)) (defBody (top 11)) (defScope (top 11)) .none kV3 dc3 pm3 an3 cd3 ct3), sl3⟩)
    (c3 : PySem.W.codeIn K cd3 "is_order" = true)
    (k3 : PySem.W.keepIn K (.ref f3) = true)
    (a4 : PySem.W.nsIn K mainGlobals "starts_of" = some (some (.ref f4)))
    (l4 : K.lookup f4 = some ⟨oc4, od4, .func (PySem.W.fnOf "starts_of" "starts_of" (defArgs (top 12)) (defBody (top 12)) (defScope (top 12)) .none kV4 dc4 pm4 an4 cd4 ct4), sl4⟩)
    (c4 : PySem.W.codeIn K cd4 "starts_of" = true)
    (k4 : PySem.W.keepIn K (.ref f4) = true)
    (a5 : PySem.W.nsIn K mainGlobals "goals_of" = some (some (.ref f5)))
    (l5 : K.lookup f5 = some ⟨oc5, od5, .func (PySem.W.fnOf "goals_of" "goals_of" (defArgs (top 13)) (defBody (top 13)) (defScope (top 13)) .none kV5 dc5 pm5 an5 cd5 ct5), sl5⟩)
    (c5 : PySem.W.codeIn K cd5 "goals_of" = true)
    (k5 : PySem.W.keepIn K (.ref f5) = true)
    (l6 : K.lookup f6 = some ⟨oc6, od6, .func (PySem.W.fnOf "__init__" "Laying.__init__" (defArgs (meth 14 0)) (defBody (meth 14 0)) (defScope (meth 14 0)) .none kV6 dc6 pm6 an6 cd6 ct6), sl6⟩)
    (c6 : PySem.W.codeIn K cd6 "Laying.__init__" = true)
    (k6 : PySem.W.keepIn K (.ref f6) = true)
    (fn6 : PySem.W.isFn K (.ref f6) = true)
    (l7 : K.lookup f7 = some ⟨oc7, od7, .func (PySem.W.fnOf "__eq__" "Laying.__eq__" (defArgs (meth 14 1)) (defBody (meth 14 1)) (defScope (meth 14 1)) .none kV7 dc7 pm7 an7 cd7 ct7), sl7⟩)
    (c7 : PySem.W.codeIn K cd7 "Laying.__eq__" = true)
    (k7 : PySem.W.keepIn K (.ref f7) = true)
    (fn7 : PySem.W.isFn K (.ref f7) = true)
    (a9 : PySem.W.nsIn K mainGlobals "check_laying" = some (some (.ref f9)))
    (l9 : K.lookup f9 = some ⟨oc9, od9, .func (PySem.W.fnOf "check_laying" "check_laying" (defArgs (top 15)) (defBody (top 15)) (defScope (top 15)) .none kV9 dc9 pm9 an9 cd9 ct9), sl9⟩)
    (c9 : PySem.W.codeIn K cd9 "check_laying" = true)
    (k9 : PySem.W.keepIn K (.ref f9) = true)
    (a10 : PySem.W.nsIn K mainGlobals "raw_round" = some (some (.ref f10)))
    (l10 : K.lookup f10 = some ⟨oc10, od10, .func (PySem.W.fnOf "raw_round" "raw_round" (defArgs (top 16)) (defBody (top 16)) (defScope (top 16)) .none kV10 dc10 pm10 an10 cd10 ct10), sl10⟩)
    (c10 : PySem.W.codeIn K cd10 "raw_round" = true)
    (k10 : PySem.W.keepIn K (.ref f10) = true)
    (a11 : PySem.W.nsIn K mainGlobals "all_rounds" = some (some (.ref f11)))
    (l11 : K.lookup f11 = some ⟨oc11, od11, .func (PySem.W.fnOf "all_rounds" "all_rounds" (defArgs (top 18)) (defBody (top 18)) (defScope (top 18)) .none kV11 dc11 pm11 an11 cd11 ct11), sl11⟩)
    (c11 : PySem.W.codeIn K cd11 "all_rounds" = true)
    (k11 : PySem.W.keepIn K (.ref f11) = true)
    (a12 : PySem.W.nsIn K mainGlobals "check_row" = some (some (.ref f12)))
    (l12 : K.lookup f12 = some ⟨oc12, od12, .func (PySem.W.fnOf "check_row" "check_row" (defArgs (top 21)) (defBody (top 21)) (defScope (top 21)) .none kV12 dc12 pm12 an12 cd12 ct12), sl12⟩)
    (c12 : PySem.W.codeIn K cd12 "check_row" = true)
    (k12 : PySem.W.keepIn K (.ref f12) = true)
    (a13 : PySem.W.nsIn K mainGlobals "mixed_sum" = some (some (.ref f13)))
    (l13 : K.lookup f13 = some ⟨oc13, od13, .func (PySem.W.fnOf "mixed_sum" "mixed_sum" (defArgs (top 22)) (defBody (top 22)) (defScope (top 22)) .none kV13 dc13 pm13 an13 cd13 ct13), sl13⟩)
    (c13 : PySem.W.codeIn K cd13 "mixed_sum" = true)
    (k13 : PySem.W.keepIn K (.ref f13) = true)
    (a14 : PySem.W.nsIn K mainGlobals "is_kept" = some (some (.ref f14)))
    (l14 : K.lookup f14 = some ⟨oc14, od14, .func (PySem.W.fnOf "is_kept" "is_kept" (defArgs (top 23)) (defBody (top 23)) (defScope (top 23)) .none kV14 dc14 pm14 an14 cd14 ct14), sl14⟩)
    (c14 : PySem.W.codeIn K cd14 "is_kept" = true)
    (k14 : PySem.W.keepIn K (.ref f14) = true)
    (a15 : PySem.W.nsIn K mainGlobals "as_difference" = some (some (.ref f15)))
    (l15 : K.lookup f15 = some ⟨oc15, od15, .func (PySem.W.fnOf "as_difference" "as_difference" (defArgs (top 24)) (defBody (top 24)) (defScope (top 24)) .none kV15 dc15 pm15 an15 cd15 ct15), sl15⟩)
    (c15 : PySem.W.codeIn K cd15 "as_difference" = true)
    (k15 : PySem.W.keepIn K (.ref f15) = true)
    (a16 : PySem.W.nsIn K mainGlobals "_law_hand" = some (some (.ref f16)))
    (l16 : K.lookup f16 = some ⟨oc16, od16, .func (PySem.W.fnOf "_law_hand" "_law_hand" (defArgs (top 26)) (defBody (top 26)) (defScope (top 26)) .none kV16 dc16 pm16 an16 cd16 ct16), sl16⟩)
    (c16 : PySem.W.codeIn K cd16 "_law_hand" = true)
    (k16 : PySem.W.keepIn K (.ref f16) = true)
    (a17 : PySem.W.nsIn K mainGlobals "_law_draw" = some (some (.ref f17)))
    (l17 : K.lookup f17 = some ⟨oc17, od17, .func (PySem.W.fnOf "_law_draw" "_law_draw" (defArgs (top 27)) (defBody (top 27)) (defScope (top 27)) .none kV17 dc17 pm17 an17 cd17 ct17), sl17⟩)
    (c17 : PySem.W.codeIn K cd17 "_law_draw" = true)
    (k17 : PySem.W.keepIn K (.ref f17) = true)
    (a18 : PySem.W.nsIn K mainGlobals "_law_any" = some (some (.ref f18)))
    (l18 : K.lookup f18 = some ⟨oc18, od18, .func (PySem.W.fnOf "_law_any" "_law_any" (defArgs (top 28)) (defBody (top 28)) (defScope (top 28)) .none kV18 dc18 pm18 an18 cd18 ct18), sl18⟩)
    (c18 : PySem.W.codeIn K cd18 "_law_any" = true)
    (k18 : PySem.W.keepIn K (.ref f18) = true)
    (a19 : PySem.W.nsIn K mainGlobals "_law_order" = some (some (.ref f19)))
    (l19 : K.lookup f19 = some ⟨oc19, od19, .func (PySem.W.fnOf "_law_order" "_law_order" (defArgs (top 29)) (defBody (top 29)) (defScope (top 29)) .none kV19 dc19 pm19 an19 cd19 ct19), sl19⟩)
    (c19 : PySem.W.codeIn K cd19 "_law_order" = true)
    (k19 : PySem.W.keepIn K (.ref f19) = true)
    (a20 : PySem.W.nsIn K mainGlobals "_law_laying" = some (some (.ref f20)))
    (l20 : K.lookup f20 = some ⟨oc20, od20, .func (PySem.W.fnOf "_law_laying" "_law_laying" (defArgs (top 30)) (defBody (top 30)) (defScope (top 30)) .none kV20 dc20 pm20 an20 cd20 ct20), sl20⟩)
    (c20 : PySem.W.codeIn K cd20 "_law_laying" = true)
    (k20 : PySem.W.keepIn K (.ref f20) = true)
    (a21 : PySem.W.nsIn K mainGlobals "_law_goal" = some (some (.ref f21)))
    (l21 : K.lookup f21 = some ⟨oc21, od21, .func (PySem.W.fnOf "_law_goal" "_law_goal" (defArgs (top 31)) (defBody (top 31)) (defScope (top 31)) .none kV21 dc21 pm21 an21 cd21 ct21), sl21⟩)
    (c21 : PySem.W.codeIn K cd21 "_law_goal" = true)
    (k21 : PySem.W.keepIn K (.ref f21) = true)
    (a22 : PySem.W.nsIn K mainGlobals "_law_rounds" = some (some (.ref f22)))
    (l22 : K.lookup f22 = some ⟨oc22, od22, .func (PySem.W.fnOf "_law_rounds" "_law_rounds" (defArgs (top 32)) (defBody (top 32)) (defScope (top 32)) .none kV22 dc22 pm22 an22 cd22 ct22), sl22⟩)
    (c22 : PySem.W.codeIn K cd22 "_law_rounds" = true)
    (k22 : PySem.W.keepIn K (.ref f22) = true)
    (a23 : PySem.W.nsIn K mainGlobals "_law_said" = some (some (.ref f23)))
    (l23 : K.lookup f23 = some ⟨oc23, od23, .func (PySem.W.fnOf "_law_said" "_law_said" (defArgs (top 33)) (defBody (top 33)) (defScope (top 33)) .none kV23 dc23 pm23 an23 cd23 ct23), sl23⟩)
    (c23 : PySem.W.codeIn K cd23 "_law_said" = true)
    (k23 : PySem.W.keepIn K (.ref f23) = true)
    (a24 : PySem.W.nsIn K mainGlobals "_law_difference" = some (some (.ref f24)))
    (l24 : K.lookup f24 = some ⟨oc24, od24, .func (PySem.W.fnOf "_law_difference" "_law_difference" (defArgs (top 34)) (defBody (top 34)) (defScope (top 34)) .none kV24 dc24 pm24 an24 cd24 ct24), sl24⟩)
    (c24 : PySem.W.codeIn K cd24 "_law_difference" = true)
    (k24 : PySem.W.keepIn K (.ref f24) = true)
    (a25 : PySem.W.nsIn K mainGlobals "law" = some (some (.ref f25)))
    (l25 : K.lookup f25 = some ⟨oc25, od25, .func (PySem.W.fnOf "law" "law" (defArgs (top 35)) (defBody (top 35)) (defScope (top 35)) .none kV25 dc25 pm25 an25 cd25 ct25), sl25⟩)
    (c25 : PySem.W.codeIn K cd25 "law" = true)
    (k25 : PySem.W.keepIn K (.ref f25) = true)
    (gXB : PySem.W.nsIn K mainGlobals "StripError" = some (some (.ref XB)))
    (gX_0 : PySem.W.nsIn K mainGlobals "BadLaying" = some (some (.ref X0)))
    (ox_0 : OexC K X0)
    (nf_0 : PySem.W.findIn K (.ref X0) "part" = some none)
    (ini_0 : PySem.W.findIn K (.ref X0) "__init__" = some (some (.ref xf0)))
    (tyf_0 : PySem.W.typeIn K (.ref xf0) = some (.type "function"))
    (xl0 : K.lookup xf0 = some ⟨xoc0, xod0, .func (PySem.W.fnOf "__init__" "BadLaying.__init__" (defArgs (meth 2 0)) (defBody (meth 2 0)) (defScope (meth 2 0)) .none xkV0 xdc0 xpm0 xan0 xcd0 xct0), xsl0⟩)
    (xc0 : PySem.W.codeIn K xcd0 "BadLaying.__init__" = true)
    (xk0 : PySem.W.keepIn K (.ref xf0) = true)
    (eg_0 : PySem.W.findIn K (.ref X0) "__getattribute__" = some (some (.builtin "BaseException.__getattribute__")))
    (ek_0 : PySem.W.findIn K (.ref X0) "__getattr__" = some none)
    (es_0 : PySem.W.subIn K (.ref X0) (.type "BaseException") = some true)
    (ed_0 : PySem.W.hasDictIn K X0 = true)
    (ea_0 : PySem.W.findIn K (.ref X0) "__class__" = some (some (.builtin "object.__class__")))
    (em_0 : PySem.W.mroIn K X0 (.type "object") = some true)
    (xm_0 : PySem.W.exmOne K (.ref X0) (.ref XB) = some true)
    (gX_1 : PySem.W.nsIn K mainGlobals "NoLaying" = some (some (.ref X1)))
    (ex_1 : PySem.W.excIn K X1 PySem.HandSPX.veTail "ValueError.__new__" = true)
    (kX_1 : PySem.W.keepIn K (.ref X1) = true)
    (sX_1 : PySem.W.subIn K (.ref X1) (.type "BaseException") = some true)
    (tX_1 : PySem.W.typeIn K (.ref X1) = some (.type "type"))
    (eg_1 : PySem.W.findIn K (.ref X1) "__getattribute__" = some (some (.builtin "BaseException.__getattribute__")))
    (ek_1 : PySem.W.findIn K (.ref X1) "__getattr__" = some none)
    (es_1 : PySem.W.subIn K (.ref X1) (.type "BaseException") = some true)
    (ed_1 : PySem.W.hasDictIn K X1 = true)
    (ea_1 : PySem.W.findIn K (.ref X1) "__class__" = some (some (.builtin "object.__class__")))
    (em_1 : PySem.W.mroIn K X1 (.type "object") = some true)
    (xm_1 : PySem.W.exmOne K (.ref X1) (.ref XB) = some true)
    (gX_2 : PySem.W.nsIn K mainGlobals "NoRow" = some (some (.ref X2)))
    (ex_2 : PySem.W.excIn K X2 PySem.HandSPX.veTail "ValueError.__new__" = true)
    (kX_2 : PySem.W.keepIn K (.ref X2) = true)
    (sX_2 : PySem.W.subIn K (.ref X2) (.type "BaseException") = some true)
    (tX_2 : PySem.W.typeIn K (.ref X2) = some (.type "type"))
    (eg_2 : PySem.W.findIn K (.ref X2) "__getattribute__" = some (some (.builtin "BaseException.__getattribute__")))
    (ek_2 : PySem.W.findIn K (.ref X2) "__getattr__" = some none)
    (es_2 : PySem.W.subIn K (.ref X2) (.type "BaseException") = some true)
    (ed_2 : PySem.W.hasDictIn K X2 = true)
    (ea_2 : PySem.W.findIn K (.ref X2) "__class__" = some (some (.builtin "object.__class__")))
    (em_2 : PySem.W.mroIn K X2 (.type "object") = some true)
    (xm_2 : PySem.W.exmOne K (.ref X2) (.ref XB) = some true)
    (ki_0_0 : PySem.W.kitOne K (.ref X0) (.ref X1) = some false)
    (ki_0_1 : PySem.W.kitOne K (.ref X1) (.ref X1) = some true)
    (ki_0_2 : PySem.W.kitOne K (.ref X2) (.ref X1) = some false)
    (ki_1_0 : PySem.W.kitOne K (.ref X0) (.ref X2) = some false)
    (ki_1_1 : PySem.W.kitOne K (.ref X1) (.ref X2) = some false)
    (ki_1_2 : PySem.W.kitOne K (.ref X2) (.ref X2) = some true)
    (ki_2_0 : PySem.W.kitOne K (.ref X0) (.type "ValueError") = some true)
    (ki_2_1 : PySem.W.kitOne K (.ref X1) (.type "ValueError") = some true)
    (ki_2_2 : PySem.W.kitOne K (.ref X2) (.type "ValueError") = some true)
    (zVE : PySem.W.nsIn K mainGlobals "ValueError" = some none)
    (te25 : cd25 = Value.ref tc25)
    (tl25 : K.lookup tc25 = some ⟨tq25, to25, .fields tv25, ts25⟩)
    (tt25 : (tv25[11]? : Option Value) = some (.ref tP25))
    (tk25 : K.lookup tP25 = none)
    (tr25 : ((PyProof.Rows.recsOf pr).any fun e => e.name == "law") = true)
    (z0 : PySem.W.nsIn K mainGlobals "isinstance" = some none)
    (z1 : PySem.W.nsIn K mainGlobals "range" = some none)
    (z2 : PySem.W.nsIn K mainGlobals "enumerate" = some none)
    (z3 : PySem.W.nsIn K mainGlobals "zip" = some none)
    (z4 : PySem.W.nsIn K mainGlobals "len" = some none)
    (z5 : PySem.W.nsIn K mainGlobals "abs" = some none)
    (z6 : PySem.W.nsIn K mainGlobals "int" = some none)
    (z7 : PySem.W.nsIn K mainGlobals "all" = some none)
    (z8 : PySem.W.nsIn K mainGlobals "any" = some none)
    (z9 : PySem.W.nsIn K mainGlobals "sum" = some none)
    (z10 : PySem.W.nsIn K mainGlobals "tuple" = some none)
    (z11 : PySem.W.nsIn K mainGlobals "list" = some none)
    (z12 : PySem.W.nsIn K mainGlobals "min" = some none)
    (z13 : PySem.W.nsIn K mainGlobals "max" = some none)
    (z14 : PySem.W.nsIn K mainGlobals "sorted" = some none)
    (z15 : PySem.W.nsIn K mainGlobals "bool" = some none)
    (z16 : PySem.W.nsIn K mainGlobals "str" = some none)
    (z17 : PySem.W.nsIn K mainGlobals "dict" = some none)
    (z18 : PySem.W.nsIn K mainGlobals "repr" = some none)
    (u0 : PySem.W.nsIn K mainGlobals "MOST_PIECES" = some (some (.int 6 t0)))
    (u1 : PySem.W.nsIn K mainGlobals "MOST_SIZE" = some (some (.int 60 t1)))
    (u2 : PySem.W.nsIn K mainGlobals "MOST_IN_ROW" = some (some (.int 1000000000 t2)))
    (hl : ∀ ns : List Int, ns.length ≤ 63 → callN (pgOf Ds) 1 6 25 [.d (.scr ns)] = .ok (.d (.bl true)) []) :
    ∃ (fd : FuncData) (cs : List (Addr × Addr)) (tl : List (Addr × Str)), (∀ p ∈ cs, h.get? p.2 = some { cls := .none, data := .fields #[] }) ∧ (∀ p ∈ cs, K.lookup p.2 = none) ∧ (∀ p ∈ cs, PySem.W.CodeHd h p.1 p.2) ∧ (∀ p ∈ tl, ∃ c, (c, p.1) ∈ cs) ∧ (∀ (s : Shared) (v : Value), BindsTo s fd ⟨[v], []⟩ [("script", v)]) ∧
      ∀ base : Heap, K.In base → base.Ns mainGlobals mg → (∀ p ∈ cs, LamX.TabB base mg p.1 p.2) → FnG l.prog w K mg base (CX l.prog w) 30 fa fd ["script"] (spLaw K tl) := by
  have e := hfa.symm.trans (PySem.W.mg_of X G a25)
  cases e
  have F0 := fun_mk (st := top 8) l0 c0 k0
  have B0 := F0.binds (ps := ["thing"]) fun _ _ _ _ _ _ us hl => match us, hl with | [_], _ => rfl
  have F1 := fun_mk (st := top 9) l1 c1 k1
  have B1 := F1.binds (ps := ["thing", "low", "high"]) fun _ _ _ _ _ _ us hl => match us, hl with | [_, _, _], _ => rfl
  have F2 := fun_mk (st := top 10) l2 c2 k2
  have B2 := F2.binds (ps := ["thing"]) fun _ _ _ _ _ _ us hl => match us, hl with | [_], _ => rfl
  have F3 := fun_mk (st := top 11) l3 c3 k3
  have B3 := F3.binds (ps := ["thing"]) fun _ _ _ _ _ _ us hl => match us, hl with | [_], _ => rfl
  have F4 := fun_mk (st := top 12) l4 c4 k4
  have B4 := F4.binds (ps := ["lengths", "order"]) fun _ _ _ _ _ _ us hl => match us, hl with | [_, _], _ => rfl
  have F5 := fun_mk (st := top 13) l5 c5 k5
  have B5 := F5.binds (ps := ["lengths", "order"]) fun _ _ _ _ _ _ us hl => match us, hl with | [_, _], _ => rfl
  have F6 := fun_mk (st := meth 14 0) l6 c6 k6
  have B6 := F6.binds (ps := ["self", "lengths", "order"]) fun _ _ _ _ _ _ us hl => match us, hl with | [_, _, _], _ => rfl
  have F7 := fun_mk (st := meth 14 1) l7 c7 k7
  have B7 := F7.binds (ps := ["self", "other"]) fun _ _ _ _ _ _ us hl => match us, hl with | [_, _], _ => rfl
  have F9 := fun_mk (st := top 15) l9 c9 k9
  have B9 := F9.binds (ps := ["thing"]) fun _ _ _ _ _ _ us hl => match us, hl with | [_], _ => rfl
  have F10 := fun_mk (st := top 16) l10 c10 k10
  have B10 := F10.binds (ps := ["laying", "place"]) fun _ _ _ _ _ _ us hl => match us, hl with | [_, _], _ => rfl
  have F11 := fun_mk (st := top 18) l11 c11 k11
  have B11 := F11.binds (ps := ["laying"]) fun _ _ _ _ _ _ us hl => match us, hl with | [_], _ => rfl
  have F12 := fun_mk (st := top 21) l12 c12 k12
  have B12 := F12.binds (ps := ["laying", "row"]) fun _ _ _ _ _ _ us hl => match us, hl with | [_, _], _ => rfl
  have F13 := fun_mk (st := top 22) l13 c13 k13
  have B13 := F13.binds (ps := ["laying", "row"]) fun _ _ _ _ _ _ us hl => match us, hl with | [_, _], _ => rfl
  have F14 := fun_mk (st := top 23) l14 c14 k14
  have B14 := F14.binds (ps := ["laying", "row"]) fun _ _ _ _ _ _ us hl => match us, hl with | [_, _], _ => rfl
  have F15 := fun_mk (st := top 24) l15 c15 k15
  have B15 := F15.binds (ps := ["laying", "row"]) fun _ _ _ _ _ _ us hl => match us, hl with | [_, _], _ => rfl
  have F16 := fun_mk (st := top 26) l16 c16 k16
  have B16 := F16.binds (ps := ["script"]) fun _ _ _ _ _ _ us hl => match us, hl with | [_], _ => rfl
  have F17 := fun_mk (st := top 27) l17 c17 k17
  have B17 := F17.binds (ps := ["hand", "many"]) fun _ _ _ _ _ _ us hl => match us, hl with | [_, _], _ => rfl
  have F18 := fun_mk (st := top 28) l18 c18 k18
  have B18 := F18.binds (ps := ["hand", "some"]) fun _ _ _ _ _ _ us hl => match us, hl with | [_, _], _ => rfl
  have F19 := fun_mk (st := top 29) l19 c19 k19
  have B19 := F19.binds (ps := ["hand", "many"]) fun _ _ _ _ _ _ us hl => match us, hl with | [_, _], _ => rfl
  have F20 := fun_mk (st := top 30) l20 c20 k20
  have B20 := F20.binds (ps := ["hand", "most"]) fun _ _ _ _ _ _ us hl => match us, hl with | [_, _], _ => rfl
  have F21 := fun_mk (st := top 31) l21 c21 k21
  have B21 := F21.binds (ps := ["lengths", "order"]) fun _ _ _ _ _ _ us hl => match us, hl with | [_, _], _ => rfl
  have F22 := fun_mk (st := top 32) l22 c22 k22
  have B22 := F22.binds (ps := ["goal"]) fun _ _ _ _ _ _ us hl => match us, hl with | [_], _ => rfl
  have F23 := fun_mk (st := top 33) l23 c23 k23
  have B23 := F23.binds (ps := ["call"]) fun _ _ _ _ _ _ us hl => match us, hl with | [_], _ => rfl
  have F24 := fun_mk (st := top 34) l24 c24 k24
  have B24 := F24.binds (ps := ["goal", "row"]) fun _ _ _ _ _ _ us hl => match us, hl with | [_, _], _ => rfl
  have F25 := fun_mk (st := top 35) l25 c25 k25
  have B25 := F25.binds (ps := ["script"]) fun _ _ _ _ _ _ us hl => match us, hl with | [_], _ => rfl
  have hF : FunsAt K Ds [f0, f1, f2, f3, f4, f5, f6, f7, 0, f9, f10, f11, f12, f13, f14, f15, f16, f17, f18, f19, f20, f21, f22, f23, f24, fa] [_, _, _, _, _, _, _, _, default, _, _, _, _, _, _, _, _, _, _, _, _, _, _, _, _, _] := .cons (d := d0) rfl (fun _ => a0) F0 B0 (.cons (d := d1) rfl (fun _ => a1) F1 B1 (.cons (d := d2) rfl (fun _ => a2) F2 B2 (.cons (d := d3) rfl (fun _ => a3) F3 B3 (.cons (d := d4) rfl (fun _ => a4) F4 B4 (.cons (d := d5) rfl (fun _ => a5) F5 B5 (.cons (d := d6) rfl (fun z => nomatch z) F6 B6 (.cons (d := d7) rfl (fun z => nomatch z) F7 B7 (.mk (d := d8) (f := 0) (fd := default) rfl (.cons (d := d9) rfl (fun _ => a9) F9 B9 (.cons (d := d10) rfl (fun _ => a10) F10 B10 (.cons (d := d11) rfl (fun _ => a11) F11 B11 (.cons (d := d12) rfl (fun _ => a12) F12 B12 (.cons (d := d13) rfl (fun _ => a13) F13 B13 (.cons (d := d14) rfl (fun _ => a14) F14 B14 (.cons (d := d15) rfl (fun _ => a15) F15 B15 (.cons (d := d16) rfl (fun _ => a16) F16 B16 (.cons (d := d17) rfl (fun _ => a17) F17 B17 (.cons (d := d18) rfl (fun _ => a18) F18 B18 (.cons (d := d19) rfl (fun _ => a19) F19 B19 (.cons (d := d20) rfl (fun _ => a20) F20 B20 (.cons (d := d21) rfl (fun _ => a21) F21 B21 (.cons (d := d22) rfl (fun _ => a22) F22 B22 (.cons (d := d23) rfl (fun z => nomatch z) F23 B23 (.cons (d := d24) rfl (fun _ => a24) F24 B24 (.cons (d := d25) rfl (fun _ => a25) F25 B25 (.nil))))))))))))))))))))))))))
  have hC : ConsAt K cons := .int u0 (.int u1 (.int u2 (.nil)))
  have hB : NoBlt K bnames := ⟨z0, z1, z2, z3, z4, z5, z6, z7, z8, z9, z10, z11, z12, z13, z14, z15, z16, z17, z18, True.intro⟩
  have K0 : ClsF (tbOf K [f0, f1, f2, f3, f4, f5, f6, f7, 0, f9, f10, f11, f12, f13, f14, f15, f16, f17, f18, f19, f20, f21, f22, f23, f24, fa] [C0] cfs [(tP25, qL d25)] [X0, X1, X2] xfs) 1 0 := {
    cl := ⟨pg_0, hd_0, po_0, sa_0⟩, ha := ha_0, hn := hn, ht := ht, hm := hm_0
    to := fun t ht => by simp only [List.mem_cons, List.not_mem_nil, or_false] at ht; rcases ht with rfl | rfl | rfl | rfl | rfl | rfl | rfl <;> assumption
    of := fun t ht => by simp only [List.mem_cons, List.not_mem_nil, or_false] at ht; rcases ht with rfl | rfl | rfl | rfl | rfl | rfl <;> assumption
    own := fun j hj => match j, hj with | 0, _ => ow_0_0
    na := fun f hf => by
      have hf2 : f ∈ (["lengths", "order", "many", "size", "goal"] : List Str) := hf
      simp only [List.mem_cons, List.not_mem_nil, or_false] at hf2
      rcases hf2 with rfl | rfl | rfl | rfl | rfl <;> assumption
    nd := by show (["lengths", "order", "many", "size", "goal"] : List Str).Nodup; decide +kernel
    few := by show (["lengths", "order", "many", "size", "goal"] : List Str).length < 1000; decide +kernel }
  have hK : ClsOk (tbOf K [f0, f1, f2, f3, f4, f5, f6, f7, 0, f9, f10, f11, f12, f13, f14, f15, f16, f17, f18, f19, f20, f21, f22, f23, f24, fa] [C0] cfs [(tP25, qL d25)] [X0, X1, X2] xfs) 1 := fun j hj => match j, hj with | 0, _ => K0
  have hcls : ∀ x c, clss.lookup x = some c → PySem.W.nsIn K mainGlobals x = some (some (.ref ([C0].getD c 0))) ∧ c < 1 := fun x c hx => by
    unfold clss at hx
    rw [List.lookup_cons] at hx
    split at hx
    · cases hx; rename_i e; rw [eq_of_beq e]; exact ⟨g_0, by decide⟩
    cases hx
  have hmk : ∀ (f : Nat) (d : Df) (c i : Nat), Ds[f]? = some d → d.fd.mkC = some (c, i) → ∃ di, Ds[i]? = some di ∧ ((di.fd.mkC = none ∧ di.fd.lm = false) ∧ di.rp = false) ∧ di.fd.np = d.fd.np + 1 ∧ PySem.W.nsIn K mainGlobals d.name = some (some (.ref ([C0].getD c 0))) ∧ Mk K ([C0].getD c 0) ([f0, f1, f2, f3, f4, f5, f6, f7, 0, f9, f10, f11, f12, f13, f14, f15, f16, f17, f18, f19, f20, f21, f22, f23, f24, fa].getD i 0) := fun f d c i hd hm => by
    match f, hd with
    | 0, hd => cases hd; cases hm
    | 1, hd => cases hd; cases hm
    | 2, hd => cases hd; cases hm
    | 3, hd => cases hd; cases hm
    | 4, hd => cases hd; cases hm
    | 5, hd => cases hd; cases hm
    | 6, hd => cases hd; cases hm
    | 7, hd => cases hd; cases hm
    | 8, hd => cases hd; cases hm; exact ⟨d6, rfl, ⟨⟨rfl, rfl⟩, rfl⟩, rfl, g_0, mk_0, m_6, fn6, kp_0⟩
    | 9, hd => cases hd; cases hm
    | 10, hd => cases hd; cases hm
    | 11, hd => cases hd; cases hm
    | 12, hd => cases hd; cases hm
    | 13, hd => cases hd; cases hm
    | 14, hd => cases hd; cases hm
    | 15, hd => cases hd; cases hm
    | 16, hd => cases hd; cases hm
    | 17, hd => cases hd; cases hm
    | 18, hd => cases hd; cases hm
    | 19, hd => cases hd; cases hm
    | 20, hd => cases hd; cases hm
    | 21, hd => cases hd; cases hm
    | 22, hd => cases hd; cases hm
    | 23, hd => cases hd; cases hm
    | 24, hd => cases hd; cases hm
    | 25, hd => cases hd; cases hm
    | _ + 26, hd => cases hd
  have hlm : ∀ (f : Nat) (d : Df), Ds[f]? = some d → d.gl = true → d.fd.lm = false := fun f d hd hm => by
    match f, hd with
    | 0, hd => cases hd; rfl
    | 1, hd => cases hd; rfl
    | 2, hd => cases hd; rfl
    | 3, hd => cases hd; rfl
    | 4, hd => cases hd; rfl
    | 5, hd => cases hd; rfl
    | 6, hd => cases hd; cases hm
    | 7, hd => cases hd; cases hm
    | 8, hd => cases hd; rfl
    | 9, hd => cases hd; rfl
    | 10, hd => cases hd; rfl
    | 11, hd => cases hd; rfl
    | 12, hd => cases hd; rfl
    | 13, hd => cases hd; rfl
    | 14, hd => cases hd; rfl
    | 15, hd => cases hd; rfl
    | 16, hd => cases hd; rfl
    | 17, hd => cases hd; rfl
    | 18, hd => cases hd; rfl
    | 19, hd => cases hd; rfl
    | 20, hd => cases hd; rfl
    | 21, hd => cases hd; rfl
    | 22, hd => cases hd; rfl
    | 23, hd => cases hd; cases hm
    | 24, hd => cases hd; rfl
    | 25, hd => cases hd; rfl
    | _ + 26, hd => cases hd
  have hrm : ∀ (f : Nat) (d : Df), Ds[f]? = some d → d.rp = true → d.fd.mkC = none := fun f d hd hm => by
    match f, hd with
    | 0, hd => cases hd; cases hm
    | 1, hd => cases hd; cases hm
    | 2, hd => cases hd; cases hm
    | 3, hd => cases hd; cases hm
    | 4, hd => cases hd; cases hm
    | 5, hd => cases hd; cases hm
    | 6, hd => cases hd; cases hm
    | 7, hd => cases hd; cases hm
    | 8, hd => cases hd; cases hm
    | 9, hd => cases hd; cases hm
    | 10, hd => cases hd; cases hm
    | 11, hd => cases hd; cases hm
    | 12, hd => cases hd; cases hm
    | 13, hd => cases hd; cases hm
    | 14, hd => cases hd; cases hm
    | 15, hd => cases hd; cases hm
    | 16, hd => cases hd; cases hm
    | 17, hd => cases hd; cases hm
    | 18, hd => cases hd; cases hm
    | 19, hd => cases hd; cases hm
    | 20, hd => cases hd; cases hm
    | 21, hd => cases hd; cases hm
    | 22, hd => cases hd; cases hm
    | 23, hd => cases hd; cases hm
    | 24, hd => cases hd; cases hm
    | 25, hd => cases hd; rfl
    | _ + 26, hd => cases hd
  have EC0 : ExcC K X0 := ⟨eg_0, ek_0, es_0, ed_0, ea_0, hn, ht, em_0⟩
  have EC1 : ExcC K X1 := ⟨eg_1, ek_1, es_1, ed_1, ea_1, hn, ht, em_1⟩
  have EC2 : ExcC K X2 := ⟨eg_2, ek_2, es_2, ed_2, ea_2, hn, ht, em_2⟩
  have XF0 := fun_mk (st := meth 2 0) xl0 xc0 xk0
  have XB0 := XF0.binds (ps := ["self", "part"]) fun _ _ _ _ _ _ us hl => match us, hl with | [_, _], _ => rfl
  have hx : TxX gx (tbOf K [f0, f1, f2, f3, f4, f5, f6, f7, 0, f9, f10, f11, f12, f13, f14, f15, f16, f17, f18, f19, f20, f21, f22, f23, f24, fa] [C0] cfs [(tP25, qL d25)] [X0, X1, X2] xfs) Ds mg := {
    isx := AllP.get (p := fun (x : Str) (bs : List (Nat × Bool)) => ∃ (v : V) (cv : Value), ((mg x = some cv) ∨ (mg x = none ∧ bootBuiltins x = some cv ∧ x ≠ "__name__")) ∧ RelV v cv ∧ (∀ u, RelV v u → u = cv) ∧ ∀ n b, bs.lookup n = some b → ExcC K ((tbOf K [f0, f1, f2, f3, f4, f5, f6, f7, 0, f9, f10, f11, f12, f13, f14, f15, f16, f17, f18, f19, f20, f21, f22, f23, f24, fa] [C0] cfs [(tP25, qL d25)] [X0, X1, X2] xfs).xa n) ∧ PySem.W.kitOne K (.ref ((tbOf K [f0, f1, f2, f3, f4, f5, f6, f7, 0, f9, f10, f11, f12, f13, f14, f15, f16, f17, f18, f19, f20, f21, f22, f23, f24, fa] [C0] cfs [(tP25, qL d25)] [X0, X1, X2] xfs).xa n)) cv = some b) (l := gx.isx) (.cons ⟨.ref X1, .ref X1, .inl (PySem.W.mg_of X G gX_1), rfl, (fun _ h => h), AllP.get (p := fun (n : Nat) (b : Bool) => ExcC K ((tbOf K [f0, f1, f2, f3, f4, f5, f6, f7, 0, f9, f10, f11, f12, f13, f14, f15, f16, f17, f18, f19, f20, f21, f22, f23, f24, fa] [C0] cfs [(tP25, qL d25)] [X0, X1, X2] xfs).xa n) ∧ PySem.W.kitOne K (.ref ((tbOf K [f0, f1, f2, f3, f4, f5, f6, f7, 0, f9, f10, f11, f12, f13, f14, f15, f16, f17, f18, f19, f20, f21, f22, f23, f24, fa] [C0] cfs [(tP25, qL d25)] [X0, X1, X2] xfs).xa n)) _ = some b) (.cons ⟨EC0, ki_0_0⟩ (.cons ⟨EC1, ki_0_1⟩ (.cons ⟨EC2, ki_0_2⟩ (.nil))))⟩ (.cons ⟨.ref X2, .ref X2, .inl (PySem.W.mg_of X G gX_2), rfl, (fun _ h => h), AllP.get (p := fun (n : Nat) (b : Bool) => ExcC K ((tbOf K [f0, f1, f2, f3, f4, f5, f6, f7, 0, f9, f10, f11, f12, f13, f14, f15, f16, f17, f18, f19, f20, f21, f22, f23, f24, fa] [C0] cfs [(tP25, qL d25)] [X0, X1, X2] xfs).xa n) ∧ PySem.W.kitOne K (.ref ((tbOf K [f0, f1, f2, f3, f4, f5, f6, f7, 0, f9, f10, f11, f12, f13, f14, f15, f16, f17, f18, f19, f20, f21, f22, f23, f24, fa] [C0] cfs [(tP25, qL d25)] [X0, X1, X2] xfs).xa n)) _ = some b) (.cons ⟨EC0, ki_1_0⟩ (.cons ⟨EC1, ki_1_1⟩ (.cons ⟨EC2, ki_1_2⟩ (.nil))))⟩ (.cons ⟨.ty "ValueError", .type "ValueError", .inr ⟨PySem.W.mg_none_of X G zVE, by decide +kernel, by decide +kernel⟩, rfl, (fun _ h => h), AllP.get (p := fun (n : Nat) (b : Bool) => ExcC K ((tbOf K [f0, f1, f2, f3, f4, f5, f6, f7, 0, f9, f10, f11, f12, f13, f14, f15, f16, f17, f18, f19, f20, f21, f22, f23, f24, fa] [C0] cfs [(tP25, qL d25)] [X0, X1, X2] xfs).xa n) ∧ PySem.W.kitOne K (.ref ((tbOf K [f0, f1, f2, f3, f4, f5, f6, f7, 0, f9, f10, f11, f12, f13, f14, f15, f16, f17, f18, f19, f20, f21, f22, f23, f24, fa] [C0] cfs [(tP25, qL d25)] [X0, X1, X2] xfs).xa n)) _ = some b) (.cons ⟨EC0, ki_2_0⟩ (.cons ⟨EC1, ki_2_1⟩ (.cons ⟨EC2, ki_2_2⟩ (.nil))))⟩ (.nil))))
    cat := fun x ks hc => by
      cases hc
      refine ⟨XB, PySem.W.mg_of X G gXB, fun n hn => ?_⟩
      simp only [List.mem_cons, List.not_mem_nil, or_false] at hn
      rcases hn with rfl | rfl | rfl
      · exact xm_0
      · exact xm_1
      · exact xm_2
    lam := AllP.get (p := fun (x : Str) (g : Nat) => ∃ d, Ds[g]? = some d ∧ d.fd.mkC = none ∧ d.fd.lm = true ∧ d.name = x ∧ d.qual = x ∧ mg x = some (.ref ((tbOf K [f0, f1, f2, f3, f4, f5, f6, f7, 0, f9, f10, f11, f12, f13, f14, f15, f16, f17, f18, f19, f20, f21, f22, f23, f24, fa] [C0] cfs [(tP25, qL d25)] [X0, X1, X2] xfs).fa g))) (l := gx.lm) (.cons ⟨d23, rfl, rfl, rfl, rfl, rfl, PySem.W.mg_of X G a23⟩ (.nil))
    xcs := fun P w base x c o hc => (AllP.get (p := fun (x : Str) (co : Nat × Option Str) => mg x = some (.ref ((tbOf K [f0, f1, f2, f3, f4, f5, f6, f7, 0, f9, f10, f11, f12, f13, f14, f15, f16, f17, f18, f19, f20, f21, f22, f23, f24, fa] [C0] cfs [(tP25, qL d25)] [X0, X1, X2] xfs).xa co.1)) ∧ match co.2 with
      | none => Exc0 K ((tbOf K [f0, f1, f2, f3, f4, f5, f6, f7, 0, f9, f10, f11, f12, f13, f14, f15, f16, f17, f18, f19, f20, f21, f22, f23, f24, fa] [C0] cfs [(tP25, qL d25)] [X0, X1, X2] xfs).xa co.1)
      | some f => (tbOf K [f0, f1, f2, f3, f4, f5, f6, f7, 0, f9, f10, f11, f12, f13, f14, f15, f16, f17, f18, f19, f20, f21, f22, f23, f24, fa] [C0] cfs [(tP25, qL d25)] [X0, X1, X2] xfs).xf co.1 = [f] ∧ OexC K ((tbOf K [f0, f1, f2, f3, f4, f5, f6, f7, 0, f9, f10, f11, f12, f13, f14, f15, f16, f17, f18, f19, f20, f21, f22, f23, f24, fa] [C0] cfs [(tP25, qL d25)] [X0, X1, X2] xfs).xa co.1) ∧ PySem.W.findIn K (.ref ((tbOf K [f0, f1, f2, f3, f4, f5, f6, f7, 0, f9, f10, f11, f12, f13, f14, f15, f16, f17, f18, f19, f20, f21, f22, f23, f24, fa] [C0] cfs [(tP25, qL d25)] [X0, X1, X2] xfs).xa co.1)) f = some none ∧ ∃ fi fdd ps, PySem.W.findIn K (.ref ((tbOf K [f0, f1, f2, f3, f4, f5, f6, f7, 0, f9, f10, f11, f12, f13, f14, f15, f16, f17, f18, f19, f20, f21, f22, f23, f24, fa] [C0] cfs [(tP25, qL d25)] [X0, X1, X2] xfs).xa co.1)) "__init__" = some (some (.ref fi)) ∧ PySem.W.typeIn K (.ref fi) = some (.type "function") ∧ FnOk P w K mg base (CX P w) 1 fi fdd ps (spX K f) ∧ Binds K fdd ps [])
      (l := gx.xc) (.cons ⟨PySem.W.mg_of X G gX_0, ⟨rfl, ox_0, nf_0, xf0, _, _, ini_0, tyf_0, xi_ok XF0 (f := "part") (by decide +kernel) (by decide +kernel), XB0⟩⟩ (.cons ⟨PySem.W.mg_of X G gX_1, ⟨ex_1, kX_1, sX_1, tX_1⟩⟩ (.cons ⟨PySem.W.mg_of X G gX_2, ⟨ex_2, kX_2, sX_2, tX_2⟩⟩ (.nil)))) x (c, o) hc)
  }
  have XX := tx_mk (gx := gx) (tl := [(tP25, qL d25)]) (xs := [X0, X1, X2]) (xf := xfs) (cs := [C0]) (cf := cfs) (cls := clss) default X G hF hC hB hcls hK hlm hrm hx hmk
  have tf25 := tab_at T X tr25 (tab_in a25 l25 te25 tl25 tt25)
  refine ⟨?fd0, [(tc25, tP25)], [(tP25, qL d25)], ?ca, ?cb, ?cc, ?cd, ?ce, ?cf⟩
  case cf =>
    intro base _ _ htb
    have hTd : Tabd (tbOf K [f0, f1, f2, f3, f4, f5, f6, f7, 0, f9, f10, f11, f12, f13, f14, f15, f16, f17, f18, f19, f20, f21, f22, f23, f24, fa] [C0] cfs [(tP25, qL d25)] [X0, X1, X2] xfs) Ds base mg := fun f d hd htb2 => by
      match f, hd with
      | 0, hd => cases hd; cases htb2
      | 1, hd => cases hd; cases htb2
      | 2, hd => cases hd; cases htb2
      | 3, hd => cases hd; cases htb2
      | 4, hd => cases hd; cases htb2
      | 5, hd => cases hd; cases htb2
      | 6, hd => cases hd; cases htb2
      | 7, hd => cases hd; cases htb2
      | 8, hd => cases hd; cases htb2
      | 9, hd => cases hd; cases htb2
      | 10, hd => cases hd; cases htb2
      | 11, hd => cases hd; cases htb2
      | 12, hd => cases hd; cases htb2
      | 13, hd => cases hd; cases htb2
      | 14, hd => cases hd; cases htb2
      | 15, hd => cases hd; cases htb2
      | 16, hd => cases hd; cases htb2
      | 17, hd => cases hd; cases htb2
      | 18, hd => cases hd; cases htb2
      | 19, hd => cases hd; cases htb2
      | 20, hd => cases hd; cases htb2
      | 21, hd => cases hd; cases htb2
      | 22, hd => cases hd; cases htb2
      | 23, hd => cases hd; cases htb2
      | 24, hd => cases hd; cases htb2
      | 25, hd =>
        cases hd
        refine ⟨tc25, tP25, fun oc od fd osl lk => ?_, htb (tc25, tP25) (by simp), ?_, fun p hp e => ?_⟩
        · have lk2 : K.lookup fa = some ⟨oc, od, .func fd, osl⟩ := lk
          rw [l25] at lk2
          cases lk2
          exact te25
        · show (tP25, qL d25) ∈ ([(tP25, qL d25)] : List (Addr × Str))
          simp
        · have hp2 : p ∈ ([(tP25, qL d25)] : List (Addr × Str)) := hp
          simp only [List.mem_cons, List.not_mem_nil, or_false] at hp2
          rcases hp2 with rfl
          · rfl
      | _ + 26, hd => cases hd
    exact law_fnG XX Ds_ok hTd (f := 25) (d := d25) rfl ⟨rfl, rfl⟩ rfl rfl hl
  case ce => exact fun s v => .of_eq rfl
  · intro p hp
    simp only [List.mem_cons, List.not_mem_nil, or_false] at hp
    rcases hp with rfl
    · exact tf25.2
  · intro p hp
    simp only [List.mem_cons, List.not_mem_nil, or_false] at hp
    rcases hp with rfl
    · exact tk25
  · intro p hp
    simp only [List.mem_cons, List.not_mem_nil, or_false] at hp
    rcases hp with rfl
    · exact tf25.1
  · intro p hp
    simp only [List.mem_cons, List.not_mem_nil, or_false] at hp
    rcases hp with rfl
    · exact ⟨tc25, by simp⟩
end Lw

open PySem PySem.Spec PyProof.Rows L2 Cl
open PySem PySem.W PyProof.Rows in
set_option maxHeartbeats 0 in
theorem PySem.Challenge.cw_stripturns_k79_whole_rows_on_layings_holds : PySem.Challenge.rw_stripturns_k79_whole_rows_on_layings.Holds := by
  w_on; o_law; k_head; (case hw => w_witness2)
  k_fill
  refine Cl.walk_lawG (l := PySem.Challenge.rw_stripturns_k79_whole_rows_on_layings) (k := 30) rfl rfl ⟨rfl, by decide, by decide⟩ (fun w h Y => PySem.W.km_in_of Y) ?F
  case F =>
    intro w mg mb fa h lo mean T Y KX G hmg
    refine' Lw.all_mk T KX G hmg ?g_0 ?kp_0 ?mk_0 ?m_6 ?m_7 ?pg_0 ?hd_0 ?po_0 ?sa_0 ?ha_0 ?hm_0 ?to_0_NoneType ?to_0_bool ?to_0_int ?to_0_str ?to_0_list ?to_0_tuple ?to_0_dict ?of_0_int ?of_0_bool ?of_0_str ?of_0_tuple ?of_0_list ?of_0_dict ?na_0_lengths ?na_0_order ?na_0_many ?na_0_size ?na_0_goal ?ow_0_0 ?hn ?ht ?a0 ?l0 ?c0 ?k0 ?a1 ?l1 ?c1 ?k1 ?a2 ?l2 ?c2 ?k2 ?a3 ?l3 ?c3 ?k3 ?a4 ?l4 ?c4 ?k4 ?a5 ?l5 ?c5 ?k5 ?l6 ?c6 ?k6 ?fn6 ?l7 ?c7 ?k7 ?fn7 ?a9 ?l9 ?c9 ?k9 ?a10 ?l10 ?c10 ?k10 ?a11 ?l11 ?c11 ?k11 ?a12 ?l12 ?c12 ?k12 ?a13 ?l13 ?c13 ?k13 ?a14 ?l14 ?c14 ?k14 ?a15 ?l15 ?c15 ?k15 ?a16 ?l16 ?c16 ?k16 ?a17 ?l17 ?c17 ?k17 ?a18 ?l18 ?c18 ?k18 ?a19 ?l19 ?c19 ?k19 ?a20 ?l20 ?c20 ?k20 ?a21 ?l21 ?c21 ?k21 ?a22 ?l22 ?c22 ?k22 ?a23 ?l23 ?c23 ?k23 ?a24 ?l24 ?c24 ?k24 ?a25 ?l25 ?c25 ?k25 ?gXB ?gX_0 ?ox_0 ?nf_0 ?ini_0 ?tyf_0 ?xl0 ?xc0 ?xk0 ?eg_0 ?ek_0 ?es_0 ?ed_0 ?ea_0 ?em_0 ?xm_0 ?gX_1 ?ex_1 ?kX_1 ?sX_1 ?tX_1 ?eg_1 ?ek_1 ?es_1 ?ed_1 ?ea_1 ?em_1 ?xm_1 ?gX_2 ?ex_2 ?kX_2 ?sX_2 ?tX_2 ?eg_2 ?ek_2 ?es_2 ?ed_2 ?ea_2 ?em_2 ?xm_2 ?ki_0_0 ?ki_0_1 ?ki_0_2 ?ki_1_0 ?ki_1_1 ?ki_1_2 ?ki_2_0 ?ki_2_1 ?ki_2_2 ?zVE ?te25 ?tl25 ?tt25 ?tk25 ?tr25 ?z0 ?z1 ?z2 ?z3 ?z4 ?z5 ?z6 ?z7 ?z8 ?z9 ?z10 ?z11 ?z12 ?z13 ?z14 ?z15 ?z16 ?z17 ?z18 ?u0 ?u1 ?u2 Lw.law_holds
    (case g_0 => k_is)
    (case kp_0 => k_is)
    (case mk_0 => k_is)
    (case m_6 => k_is)
    (case m_7 => k_is)
    (case pg_0 => k_is)
    (case hd_0 => k_is)
    (case po_0 => k_is)
    (case sa_0 => k_is)
    (case ha_0 => k_is)
    (case hm_0 => k_is)
    (case to_0_NoneType => kit_is)
    (case to_0_bool => kit_is)
    (case to_0_int => kit_is)
    (case to_0_str => kit_is)
    (case to_0_list => kit_is)
    (case to_0_tuple => kit_is)
    (case to_0_dict => kit_is)
    (case of_0_int => kit_is)
    (case of_0_bool => kit_is)
    (case of_0_str => kit_is)
    (case of_0_tuple => kit_is)
    (case of_0_list => kit_is)
    (case of_0_dict => kit_is)
    (case na_0_lengths => k_is)
    (case na_0_order => k_is)
    (case na_0_many => k_is)
    (case na_0_size => k_is)
    (case na_0_goal => k_is)
    (case ow_0_0 => kit_is)
    (case hn => k_is)
    (case ht => k_is)
    (case a0 => k_is)
    (case l0 => k_is)
    (case c0 => k_is)
    (case k0 => k_is)
    (case a1 => k_is)
    (case l1 => k_is)
    (case c1 => k_is)
    (case k1 => k_is)
    (case a2 => k_is)
    (case l2 => k_is)
    (case c2 => k_is)
    (case k2 => k_is)
    (case a3 => k_is)
    (case l3 => k_is)
    (case c3 => k_is)
    (case k3 => k_is)
    (case a4 => k_is)
    (case l4 => k_is)
    (case c4 => k_is)
    (case k4 => k_is)
    (case a5 => k_is)
    (case l5 => k_is)
    (case c5 => k_is)
    (case k5 => k_is)
    (case l6 => k_is)
    (case c6 => k_is)
    (case k6 => k_is)
    (case fn6 => k_is)
    (case l7 => k_is)
    (case c7 => k_is)
    (case k7 => k_is)
    (case fn7 => k_is)
    (case a9 => k_is)
    (case l9 => k_is)
    (case c9 => k_is)
    (case k9 => k_is)
    (case a10 => k_is)
    (case l10 => k_is)
    (case c10 => k_is)
    (case k10 => k_is)
    (case a11 => k_is)
    (case l11 => k_is)
    (case c11 => k_is)
    (case k11 => k_is)
    (case a12 => k_is)
    (case l12 => k_is)
    (case c12 => k_is)
    (case k12 => k_is)
    (case a13 => k_is)
    (case l13 => k_is)
    (case c13 => k_is)
    (case k13 => k_is)
    (case a14 => k_is)
    (case l14 => k_is)
    (case c14 => k_is)
    (case k14 => k_is)
    (case a15 => k_is)
    (case l15 => k_is)
    (case c15 => k_is)
    (case k15 => k_is)
    (case a16 => k_is)
    (case l16 => k_is)
    (case c16 => k_is)
    (case k16 => k_is)
    (case a17 => k_is)
    (case l17 => k_is)
    (case c17 => k_is)
    (case k17 => k_is)
    (case a18 => k_is)
    (case l18 => k_is)
    (case c18 => k_is)
    (case k18 => k_is)
    (case a19 => k_is)
    (case l19 => k_is)
    (case c19 => k_is)
    (case k19 => k_is)
    (case a20 => k_is)
    (case l20 => k_is)
    (case c20 => k_is)
    (case k20 => k_is)
    (case a21 => k_is)
    (case l21 => k_is)
    (case c21 => k_is)
    (case k21 => k_is)
    (case a22 => k_is)
    (case l22 => k_is)
    (case c22 => k_is)
    (case k22 => k_is)
    (case a23 => k_is)
    (case l23 => k_is)
    (case c23 => k_is)
    (case k23 => k_is)
    (case a24 => k_is)
    (case l24 => k_is)
    (case c24 => k_is)
    (case k24 => k_is)
    (case a25 => k_is)
    (case l25 => k_is)
    (case c25 => k_is)
    (case k25 => k_is)
    (case gXB => k_is)
    (case gX_0 => k_is)
    (case ox_0 => exact ⟨⟨_, _, _, _, _, _, _, _, _, _, _, _, _, _, _, by k_is, by decide +kernel⟩, by k_is, by k_is, by k_is, by k_is⟩)
    (case nf_0 => k_is)
    (case ini_0 => k_is)
    (case tyf_0 => k_is)
    (case xl0 => k_is)
    (case xc0 => k_is)
    (case xk0 => k_is)
    (case eg_0 => k_is)
    (case ek_0 => k_is)
    (case es_0 => k_is)
    (case ed_0 => k_is)
    (case ea_0 => k_is)
    (case em_0 => k_is)
    (case xm_0 => kts_exm)
    (case gX_1 => k_is)
    (case ex_1 => k_exc)
    (case kX_1 => k_is)
    (case sX_1 => k_is)
    (case tX_1 => k_is)
    (case eg_1 => k_is)
    (case ek_1 => k_is)
    (case es_1 => k_is)
    (case ed_1 => k_is)
    (case ea_1 => k_is)
    (case em_1 => k_is)
    (case xm_1 => kts_exm)
    (case gX_2 => k_is)
    (case ex_2 => k_exc)
    (case kX_2 => k_is)
    (case sX_2 => k_is)
    (case tX_2 => k_is)
    (case eg_2 => k_is)
    (case ek_2 => k_is)
    (case es_2 => k_is)
    (case ed_2 => k_is)
    (case ea_2 => k_is)
    (case em_2 => k_is)
    (case xm_2 => kts_exm)
    (case ki_0_0 => kit_is)
    (case ki_0_1 => kit_is)
    (case ki_0_2 => kit_is)
    (case ki_1_0 => kit_is)
    (case ki_1_1 => kit_is)
    (case ki_1_2 => kit_is)
    (case ki_2_0 => kit_is)
    (case ki_2_1 => kit_is)
    (case ki_2_2 => kit_is)
    (case zVE => k_is)
    (case te25 => rfl)
    (case tl25 => k_is)
    (case tt25 => rfl)
    (case tk25 => first | kernel_rfl | rfl)
    (case tr25 => decide +kernel)
    (case z0 => k_is)
    (case z1 => k_is)
    (case z2 => k_is)
    (case z3 => k_is)
    (case z4 => k_is)
    (case z5 => k_is)
    (case z6 => k_is)
    (case z7 => k_is)
    (case z8 => k_is)
    (case z9 => k_is)
    (case z10 => k_is)
    (case z11 => k_is)
    (case z12 => k_is)
    (case z13 => k_is)
    (case z14 => k_is)
    (case z15 => k_is)
    (case z16 => k_is)
    (case z17 => k_is)
    (case z18 => k_is)
    (case u0 => k_is)
    (case u1 => k_is)
    (case u2 => k_is)

