import PyProof.Rows.All
import Wide.All
import OpenK.AllK
import Wide.FinOn
import HandS.ForMost
import HandS.IsInst
import HandS.TupAny
import HandS.TupMul
import HandS.Zip
import HandS.Deep
import HandS.Flow
import HandS.DictComp
import HandS.Conv
import HandS.Style
import HandS.Small
import HandS.TupLen
import HandS.SortInts
import HandS.Exc
import PyProof.EnumMake
import PyProof.Draws
import KE.GoesMore
import HandS.Zip0
import KE.KRevSl
import HandS.Ends
import PySem.Challenge.RW_stripturns_k81_whole_swaps_of_neighbours
set_option linter.all false
set_option Elab.async false
set_option autoImplicit false
set_option maxRecDepth 1000000
/-! Cl, part A: a small language of clean values, its evaluator. -/
namespace Cl
open PySem L2

/-- a value that never changes again -/
inductive D where
  | non | bl (b : Bool) | int (i : Int) | str (s : Str)
  | tup (xs : List D) | lst (xs : List D)
  | dk (kvs : List (Key × D)) | dt (kvs : List (List Key × D))
  | obj (c : Nat) (fs : List D) | fn (f : Nat) | scr (ns : List Int)

/-- a value, or a new list (dict) that nobody else holds -/
inductive W where
  | d (v : D) | fl (xs : List D) | fk (kvs : List (Key × D)) | ft (kvs : List (List Key × D))
def W.toD : W → D
  | .d v => v
  | .fl xs => .lst xs
  | .fk kvs => .dk kvs
  | .ft kvs => .dt kvs
def W.own : W → Bool
  | .d _ => false
  | _ => true
def W.kind : W → Nat
  | .d _ => 0
  | .fl _ => 1
  | .fk _ => 2
  | .ft _ => 3
@[simp] theorem W.toD_d (v : D) : (W.d v).toD = v := rfl
@[simp] theorem W.toD_fl (v : List D) : (W.fl v).toD = .lst v := rfl
@[simp] theorem W.toD_fk (v : List (Key × D)) : (W.fk v).toD = .dk v := rfl
@[simp] theorem W.toD_ft (v : List (List Key × D)) : (W.ft v).toD = .dt v := rfl

abbrev Sg := List (Option W)

inductive R (S : Type) (α : Type) where
  | ok (a : α) (s : S) | exc (c : Nat) (ds : List D) (s : S) | bad
def R.bind {S α β : Type} : R S α → (α → S → R S β) → R S β
  | .ok a s, f => f a s
  | .exc c ds s, _ => .exc c ds s
  | .bad, _ => .bad
@[simp] theorem R.bind_ok {S α β : Type} (a : α) (s : S) (f : α → S → R S β) : (R.ok a s).bind f = f a s := rfl
@[simp] theorem R.bind_exc {S α β : Type} (c : Nat) (ds : List D) (s : S) (f : α → S → R S β) : (R.exc c ds s).bind f = .exc c ds s := rfl
@[simp] theorem R.bind_bad {S α β : Type} (f : α → S → R S β) : (R.bad).bind f = .bad := rfl

inductive Out where
  | nx (s : Sg) | rt (w : W) (s : Sg) | exc (c : Nat) (ds : List D) (s : Sg) | bad

inductive Bop where | add | sub | mul | fdiv | mod | pow
inductive Cop where | eq | ne | lt | le | gt | ge | isN | notN | isin | notin
inductive Blt where | len | abs | int | all | any | sum | tuple | list | min | max | sorted
/-- classes for isinstance -/
inductive Cls1 where | int | bool | str | tuple | list | dict | own (c : Nat)
inductive Mth where | count | index | join
inductive Mut where | append | pop | popAt | extend

inductive Tg where
  | nm (i : Nat) | tp (ts : List Tg)

inductive Ex where
  | var (i : Nat) | io (i : Nat)
  | con (d : D)
  | bin (o : Bop) (a b : Ex) | neg (a : Ex)
  | not (a : Ex) | and (a b : Ex) | or (a b : Ex)
  | cmp (o : Cop) (a b : Ex) | chn (o p : Cop) (a b c : Ex)
  | ite (c a b : Ex)
  | call (f : Nat) (as : List Ex)
  | blt (b : Blt) (as : List Ex)
  | isi (a : Ex) (tp : Bool) (cs : List Cls1)
  | mth (m : Mth) (o : Ex) (as : List Ex)
  | mut (m : Mut) (i : Nat) (as : List Ex)
  | ix (a b : Ex) | sl (a : Ex) (lo hi : Option Ex) | rev (a : Ex)
  | fld (a : Ex) (c k : Nat)
  | tup (as : List Ex) | lst (as : List Ex)
  | dk (kvs : List Ex) | dt (kvs : List Ex)
  | rng (as : List Ex) | enm (a : Ex) | zip (a b : Ex) | lrg (tp : Bool) (as : List Ex)
  | lc (own : List Nat) (t : Tg) (it : Ex) (c : Option Ex) (e : Ex)
  | dc (own : List Nat) (t : Tg) (it : Ex) (c : Option Ex) (k v : Ex)

inductive St where
  | pas
  | expr (e : Ex)
  | set (i : Nat) (e : Ex)
  | par (is : List Nat) (es : List Ex)
  | unp (t : Tg) (e : Ex)
  | six (i : Nat) (k e : Ex)
  | aug (i : Nat) (o : Bop) (e : Ex)
  | aix (i : Nat) (k : Ex) (o : Bop) (e : Ex)
  | ret (e : Ex) | retn
  | ite (c : Ex) (a b : List St)
  | whl (n : Nat) (c : Ex) (b : List St)
  | fr (t : Tg) (it : Ex) (b : List St)
  | rse (c : Nat) (as : List Ex)
  | nev

/-! ### == -/
mutual
def D.py : D → PyData
  | .bl b => .bool b
  | .int i => .int i
  | .str x => .str x
  | .tup xs => .tuple (D.pys xs)
  | .lst xs => .list (D.pys xs)
  | _ => .none
def D.pys : List D → List PyData
  | [] => []
  | x :: xs => D.py x :: D.pys xs
end
mutual
/-- has == by PyData, at most so deep -/
def D.okN : Nat → D → Bool
  | _, .non => true
  | _, .bl _ => true
  | _, .int _ => true
  | _, .str x => PyData.strOk x
  | n + 1, .tup xs => D.okNs n xs
  | n + 1, .lst xs => D.okNs n xs
  | _, _ => false
def D.okNs : Nat → List D → Bool
  | _, [] => true
  | n, x :: xs => D.okN n x && D.okNs n xs
end
def D.ok (d : D) : Bool := D.okN 60 d
mutual
def D.eqb : D → D → Bool
  | .non, .non => true
  | .bl a, .bl b => a == b
  | .bl a, .int j => (if a then 1 else 0) == j
  | .int i, .bl b => i == (if b then 1 else 0)
  | .int i, .int j => decide (i = j)
  | .str x, .str y => decide (x = y)
  | .tup xs, .tup ys => D.eqbs xs ys
  | .lst xs, .lst ys => D.eqbs xs ys
  | _, _ => false
def D.eqbs : List D → List D → Bool
  | [], [] => true
  | x :: xs, y :: ys => D.eqb x y && D.eqbs xs ys
  | _, _ => false
end
def eqD (x y : D) : Option Bool := if x.ok && y.ok then some (D.eqb x y) else none

def flatD : D → Bool
  | .non => true
  | .bl _ => true
  | .int _ => true
  | .str _ => true
  | _ => false

/-! ### keys -/
def keyD : D → Option Key
  | .int i => some (.inl i)
  | .str x => some (.inr x)
  | _ => none
def keysD : List D → Option (List Key)
  | [] => some []
  | x :: xs => match keyD x, keysD xs with
    | some k, some ks => some (k :: ks)
    | _, _ => none
def tkeyD : D → Option (List Key)
  | .tup xs => keysD xs
  | _ => none
def dKey : Key → D
  | .inl i => .int i
  | .inr x => .str x

section
variable {κ : Type} [DecidableEq κ]
def dget (kvs : List (κ × D)) (k : κ) : Option D := (kvs.find? fun kv => decide (kv.1 = k)).map (·.2)
def dput (kvs : List (κ × D)) (k : κ) (v : D) : List (κ × D) :=
  if kvs.any (fun kv => decide (kv.1 = k)) then kvs.map (fun kv => if kv.1 = k then (kv.1, v) else kv) else kvs ++ [(k, v)]
/-- k1, v1, k2, v2 .. put, one behind the other -/
def putAll (f : D → Option κ) : List (κ × D) → List D → Option (List (κ × D))
  | acc, [] => some acc
  | acc, [_] => none
  | acc, k :: v :: r => match f k with
    | some k => putAll f (dput acc k v) r
    | none => none
end

/-! ### operations by values -/
def cutD (xs : List D) (lo hi : Option Int) : List D := (xs.drop (HT.sIx xs.length 0 lo)).take (HT.sIx xs.length xs.length hi - HT.sIx xs.length 0 lo)
def cutI (xs : List Int) (lo hi : Option Int) : List Int := (xs.drop (HT.sIx xs.length 0 lo)).take (HT.sIx xs.length xs.length hi - HT.sIx xs.length 0 lo)

def binop : Bop → D → D → Option W
  | .add, .int a, .int b => some (.d (.int (a + b)))
  | .add, .str a, .str b => if a.length + b.length ≤ sizeLine then some (.d (.str (a ++ b))) else none
  | .add, .tup a, .tup b => if a.length + b.length ≤ sizeLine then some (.d (.tup (a ++ b))) else none
  | .add, .lst a, .lst b => if a.length + b.length ≤ sizeLine then some (.fl (a ++ b)) else none
  | .sub, .int a, .int b => some (.d (.int (a - b)))
  | .mul, .int a, .int b => if (-(2 ^ 64) < a ∧ a < 2 ^ 64) ∨ (-(2 ^ 64) < b ∧ b < 2 ^ 64) then some (.d (.int (a * b))) else none
  | .mul, .lst a, .int k => if -(2 ^ 63) ≤ k ∧ k < 2 ^ 63 ∧ a.length * k.toNat ≤ sizeLine then some (.fl (List.replicate k.toNat a).flatten) else none
  | .mul, .tup a, .int k => if a ≠ [] ∧ 2 ≤ k ∧ k ≤ 1000 ∧ a.length ≤ 1000 then some (.d (.tup (List.replicate k.toNat a).flatten)) else none
  | .fdiv, .int a, .int b => if 0 < b ∧ b < 1073741824 then some (.d (.int (a / b))) else none
  | .mod, .int a, .int b => if 0 < b then some (.d (.int (a % b))) else none
  | .pow, .int a, .int b => if 0 ≤ b ∧ b ≤ 1000000 ∧ a.natAbs < 2 ^ 64 then some (.d (.int (a ^ b.toNat))) else none
  | _, _, _ => none

def inD (x : D) (y : D) : Option Bool := match y with
  | .lst ys => if flatD x && ys.all flatD then some (ys.any fun z => D.eqb z x) else if x.ok && (D.lst ys).ok then some (ys.any fun z => D.eqb z x) else none
  | .tup ys => if flatD x && ys.all flatD then some (ys.any fun z => D.eqb z x) else none
  | .dk kvs => (keyD x).map fun k => (dget kvs k).isSome
  | .dt kvs => (tkeyD x).map fun k => (dget kvs k).isSome
  | _ => none

def D.isNon : D → Bool
  | .non => true
  | _ => false
def cmpop : Cop → D → D → Option Bool
  | .eq, x, y => eqD x y
  | .ne, x, y => (eqD x y).map (!·)
  | .lt, .int a, .int b => some (decide (a < b))
  | .le, .int a, .int b => some (decide (a ≤ b))
  | .gt, .int a, .int b => some (decide (b < a))
  | .ge, .int a, .int b => some (decide (b ≤ a))
  | .isN, x, .non => some x.isNon
  | .notN, x, .non => some (!x.isNon)
  | .isin, x, y => inD x y
  | .notin, x, y => (inD x y).map (!·)
  | _, _, _ => none

def truth : D → Option Bool
  | .non => some false
  | .bl b => some b
  | .int i => some (i != 0)
  | .tup xs => some (!xs.isEmpty)
  | .lst xs => some (!xs.isEmpty)
  | _ => none

def isiD : D → Cls1 → Bool
  | .bl _, .int => true
  | .bl _, .bool => true
  | .int _, .int => true
  | .str _, .str => true
  | .tup _, .tuple => true
  | .lst _, .list => true
  | .scr _, .list => true
  | .dk _, .dict => true
  | .dt _, .dict => true
  | .obj c _, .own c' => c == c'
  | _, _ => false
def objBelow (n : Nat) : D → Bool
  | .obj c _ => decide (c < n)
  | _ => true
/-- isinstance is asked of these alone -/
def isiOk : D → Bool
  | .fn _ => false
  | _ => true

def intsD : List D → Option (List Int)
  | [] => some []
  | .int i :: r => (intsD r).map (i :: ·)
  | _ :: _ => none
def blsD : List D → Option (List Bool)
  | [] => some []
  | .bl b :: r => (blsD r).map (b :: ·)
  | _ :: _ => none

def lenD : D → Option Nat
  | .str x => if x.length ≤ sizeLine then some x.length else none
  | .tup xs => some xs.length
  | .lst xs => some xs.length
  | .scr ns => some ns.length
  | .dk kvs => some kvs.length
  | .dt kvs => some kvs.length
  | _ => none

def bltop : Blt → List D → Option W
  | .len, [x] => (lenD x).map fun (n : Nat) => W.d (D.int (n : Int))
  | .abs, [.int i] => some (.d (.int (if i < 0 then -i else i)))
  | .int, [.int i] => some (.d (.int i))
  | .int, [.bl b] => some (.d (.int (if b then 1 else 0)))
  | .all, [.lst xs] => (blsD xs).map fun bs => .d (.bl (bs.all id))
  | .any, [.lst xs] => (blsD xs).map fun bs => .d (.bl (bs.any id))
  | .sum, [.lst xs] => (intsD xs).map fun ns => .d (.int ns.sum)
  | .tuple, [.lst xs] => some (.d (.tup xs))
  | .tuple, [.tup xs] => some (.d (.tup xs))
  | .list, [.lst xs] => some (.fl xs)
  | .list, [.tup xs] => some (.fl xs)
  | _, _ => none

def ixD (x : D) (k : D) : Option D := match x, k with
  | .lst xs, .int i => atI xs i
  | .tup xs, .int i => atI xs i
  | .scr ns, .int i => (atI ns i).map D.int
  | .dk kvs, k => (keyD k).bind fun k => dget kvs k
  | .dt kvs, k => (tkeyD k).bind fun k => dget kvs k
  | _, _ => none

def slD (x : D) (lo hi : Option Int) : Option W := match x with
  | .lst xs => some (.fl (cutD xs lo hi))
  | .tup xs => some (.d (.tup (cutD xs lo hi)))
  | .scr ns => some (.fl ((cutI ns lo hi).map D.int))
  | _ => none

def itemsD : D → Option (List D)
  | .lst xs => some xs
  | .tup xs => some xs
  | .scr ns => some (ns.map D.int)
  | _ => none

def rngD : List D → Option (List D)
  | [.int j] => if -(2 ^ 62) ≤ j ∧ j.toNat ≤ 16777216 then some ((List.range j.toNat).map fun (i : Nat) => D.int i) else none
  | [.int i, .int j] => if -(2 ^ 62) ≤ i ∧ i.toNat ≤ 16777216 ∧ -(2 ^ 62) ≤ j ∧ j.toNat ≤ 16777216 ∧ (j - i).toNat ≤ 16777216 then some ((List.range (j - i).toNat).map fun (n : Nat) => D.int (i + n)) else none
  | _ => none

def enmL (xs : List D) : List D := xs.zipIdx.map fun p => D.tup [.int p.2, p.1]
def zipD : D → D → Option (List D)
  | .lst xs, .lst ys => some (List.zipWith (fun x y => D.tup [x, y]) xs ys)
  | .tup xs, .tup ys => some (List.zipWith (fun x y => D.tup [x, y]) xs ys)
  | _, _ => none

/-- a op= b -/
def augop : Bop → D → D → Option D
  | .add, .int a, .int b => some (.int (a + b))
  | .add, .str a, .str b => if a.length + b.length ≤ sizeLine then some (.str (a ++ b)) else none
  | .sub, .int a, .int b => some (.int (a - b))
  | _, _, _ => none

/-! ### operands -/
inductive Opd where | val (d : D) | ref (i : Nat)
def rd (σ : Sg) : Opd → Option D
  | .val d => some d
  | .ref i => match σ[i]? with
    | some (some w) => some w.toD
    | _ => none
def ofO {S α : Type} (o : Option α) (s : S) : R S α := match o with
  | some a => .ok a s
  | none => .bad
@[simp] theorem ofO_some {S α : Type} (a : α) (s : S) : ofO (some a) s = .ok a s := rfl
@[simp] theorem ofO_none {S α : Type} (s : S) : (ofO none s : R S α) = .bad := rfl

def opd (e : Ex) (f : Sg → R Sg W) (σ : Sg) : R Sg Opd := match e with
  | .var i => match σ[i]? with
    | some (some _) => .ok (.ref i) σ
    | _ => .bad
  | _ => (f σ).bind fun w σ' => .ok (.val w.toD) σ'
def tst (e : Ex) (f : Sg → R Sg W) (σ : Sg) : R Sg Bool := (opd e f σ).bind fun x σ' => ofO ((rd σ' x).bind truth) σ'

def rds (σ : Sg) : List Opd → Option (List D)
  | [] => some []
  | x :: xs => match rd σ x, rds σ xs with
    | some d, some ds => some (d :: ds)
    | _, _ => none

/-! ### targets -/
mutual
def asg : Tg → D → Sg → Option Sg
  | .nm i, d, σ => if i < σ.length then some (σ.set i (some (.d d))) else none
  | .tp ts, .tup ds, σ => asgs ts ds σ
  | .tp _, _, _ => none
def asgs : List Tg → List D → Sg → Option Sg
  | [], [], σ => some σ
  | t :: ts, d :: ds, σ => (asg t d σ).bind fun σ' => asgs ts ds σ'
  | _, _, _ => none
end

def wipeS (σ : Sg) : List Nat → Sg
  | [] => σ
  | v :: vs => (wipeS σ vs).set v none

/-- no own slot holds a list that may change -/
def plainAt (σ : Sg) (i : Nat) : Bool := match σ[i]? with
  | some (some w) => !w.own
  | _ => true
/-- the own slots as they were -/
def backS (σ0 σ : Sg) : List Nat → Sg
  | [] => σ
  | v :: vs => (backS σ0 σ vs).set v (σ0[v]?.join)

/-! ### loops -/
/-- a comprehension's turns -/
def lcL (f : D → Sg → R Sg (Option D)) : List D → List D → Sg → R Sg (List D)
  | [], acc, σ => .ok acc σ
  | x :: xs, acc, σ => match f x σ with
    | .ok (some y) σ' => lcL f xs (acc ++ [y]) σ'
    | .ok none σ' => lcL f xs acc σ'
    | _ => .bad
def dcL (f : D → Sg → R Sg (Option (Key × D))) : List D → List (Key × D) → Sg → R Sg (List (Key × D))
  | [], acc, σ => .ok acc σ
  | x :: xs, acc, σ => match f x σ with
    | .ok (some y) σ' => dcL f xs (dput acc y.1 y.2) σ'
    | .ok none σ' => dcL f xs acc σ'
    | _ => .bad
def frL (f : D → Sg → Out) : List D → Sg → Out
  | [], σ => .nx σ
  | x :: xs, σ => match f x σ with
    | .nx σ' => frL f xs σ'
    | o => o
def whL (t : Sg → R Sg Bool) (f : Sg → Out) : Nat → Sg → Out
  | 0, _ => .bad
  | n + 1, σ => match t σ with
    | .ok true σ1 => match f σ1 with
      | .nx σ' => whL t f n σ'
      | o => o
    | .ok false σ1 => .nx σ1
    | .exc c ds σ1 => .exc c ds σ1
    | .bad => .bad

/-! ### changing methods on the list (dict) at a slot -/
def mutop (m : Mut) (w : W) (ds : List D) : Option (D × W) := match m, w, ds with
  | .append, .fl xs, [d] => if xs.length < sizeLine then some (.non, .fl (xs ++ [d])) else none
  | .pop, .fl xs, [] => match xs[xs.length - 1]? with
    | some y => some (y, .fl xs.dropLast)
    | none => none
  | .popAt, .fl xs, [.int i] => if -(2 ^ 63) ≤ i ∧ i < 2 ^ 63 then match seqIndex? i xs.length with
      | some k => match xs[k]? with
        | some y => some (y, .fl (xs.eraseIdx k))
        | none => none
      | none => none
    else none
  | .extend, .fl xs, [.lst zs] => if xs.length + zs.length ≤ sizeLine then some (.non, .fl (xs ++ zs)) else none
  | _, _, _ => none
/-- x[k] = v -/
def setop (w : W) (k v : D) : Option W := match w with
  | .fl xs => match k with
    | .int i => (ixN xs.length i).map fun j => .fl (xs.set j v)
    | _ => none
  | .fk kvs => match keyD k with
    | some k => if kvs.length < sizeLine then some (.fk (dput kvs k v)) else none
    | none => none
  | .ft kvs => match tkeyD k with
    | some k => if kvs.length < sizeLine then some (.ft (dput kvs k v)) else none
    | none => none
  | _ => none

def mthop : Mth → D → List D → Option W := fun _ _ _ => none

/-! ### calls: which arguments are handed over to be changed -/
inductive Ag where | io (i : Nat) | d (v : D)
def agW (σ : Sg) : Ag → Option W
  | .d v => some (.d v)
  | .io i => match σ[i]? with
    | some (some (.fl xs)) => some (.fl xs)
    | some (some (.fk xs)) => some (.fk xs)
    | some (some (.ft xs)) => some (.ft xs)
    | _ => none
def agWs (σ : Sg) : List Ag → Option (List W)
  | [] => some []
  | a :: as => match agW σ a, agWs σ as with
    | some w, some ws => some (w :: ws)
    | _, _ => none
/-- the slots handed over -/
def ioS : List Ag → List Nat
  | [] => []
  | .io i :: r => i :: ioS r
  | .d _ :: r => ioS r
def putBack (σ : Sg) : List Nat → List W → Option Sg
  | [], [] => some σ
  | i :: is, w :: ws => if w.own then putBack (σ.set i (some w)) is ws else none
  | _, _ => none

def unw (fs : List W) : List D := fs.map W.toD
abbrev Calls := Nat → List W → R (List W) W
def callS (cl : Calls) (f : Nat) (ags : List Ag) (σ : Sg) : R Sg W :=
  if (ioS ags).Nodup then match agWs σ ags with
    | some ws => match cl f ws with
      | .ok w outs => match putBack σ (ioS ags) outs with
        | some σ' => .ok w σ'
        | none => .bad
      | .exc c ds outs => match putBack σ (ioS ags) outs with
        | some σ' => .exc c ds σ'
        | none => .bad
      | .bad => .bad
    | none => .bad
  else .bad

section
variable (nc : Nat) (cl : Calls)
/-- one turn of a comprehension -/
def lcTurn (own : List Nat) (t : Tg) (c : Option (Sg → R Sg Bool)) (e : Sg → R Sg W) (x : D) (σ : Sg) : R Sg (Option D) :=
  match asg t x (wipeS σ own) with
  | none => .bad
  | some σ1 => match c with
    | none => (e σ1).bind fun w σ2 => .ok (some w.toD) (wipeS σ2 own)
    | some c => (c σ1).bind fun b σ2 => if b then (e σ2).bind fun w σ3 => .ok (some w.toD) (wipeS σ3 own) else .ok none (wipeS σ2 own)
def dcTurn (own : List Nat) (t : Tg) (c : Option (Sg → R Sg Bool)) (k v : Sg → R Sg W) (x : D) (σ : Sg) : R Sg (Option (Key × D)) :=
  let fin := fun σ1 => (k σ1).bind fun wk σ2 => (v σ2).bind fun wv σ3 => match keyD wk.toD with
    | some kk => R.ok (some (kk, wv.toD)) (wipeS σ3 own)
    | none => .bad
  match asg t x (wipeS σ own) with
  | none => .bad
  | some σ1 => match c with
    | none => fin σ1
    | some c => (c σ1).bind fun b σ2 => if b then fin σ2 else .ok none (wipeS σ2 own)

mutual
def ev : Ex → Sg → R Sg W
  | .var i, σ => match σ[i]? with
    | some (some w) => if w.own then .ok (.d w.toD) (σ.set i (some (.d w.toD))) else .ok w σ
    | _ => .bad
  | .io _, _ => .bad
  | .con d, σ => .ok (.d d) σ
  | .bin o a b, σ => (opd a (ev a) σ).bind fun x σ1 => (opd b (ev b) σ1).bind fun y σ2 =>
      ofO ((rd σ2 x).bind fun x => (rd σ2 y).bind fun y => binop o x y) σ2
  | .neg a, σ => (opd a (ev a) σ).bind fun x σ1 => ofO ((rd σ1 x).bind fun x => match x with | .int i => some (.d (.int (-i))) | _ => none) σ1
  | .not a, σ => (tst a (ev a) σ).bind fun b σ1 => .ok (.d (.bl (!b))) σ1
  | .and a b, σ => (ev a σ).bind fun x σ1 => match x with
    | .d (.bl true) => (ev b σ1).bind fun y σ2 => match y with
      | .d (.bl c) => .ok (.d (.bl c)) σ2
      | _ => .bad
    | .d (.bl false) => .ok (.d (.bl false)) σ1
    | _ => .bad
  | .or a b, σ => (ev a σ).bind fun x σ1 => match x with
    | .d (.bl false) => (ev b σ1).bind fun y σ2 => match y with
      | .d (.bl c) => .ok (.d (.bl c)) σ2
      | _ => .bad
    | .d (.bl true) => .ok (.d (.bl true)) σ1
    | _ => .bad
  | .cmp o a b, σ => (opd a (ev a) σ).bind fun x σ1 => (opd b (ev b) σ1).bind fun y σ2 =>
      ofO ((rd σ2 x).bind fun x => (rd σ2 y).bind fun y => (cmpop o x y).map fun b => .d (.bl b)) σ2
  | .chn o p a b c, σ => (opd a (ev a) σ).bind fun x σ1 => (opd b (ev b) σ1).bind fun y σ2 =>
      (ofO ((rd σ2 x).bind fun x => (rd σ2 y).bind fun y => cmpop o x y) σ2).bind fun k σ3 =>
        if k then (opd c (ev c) σ3).bind fun z σ4 => ofO ((rd σ4 y).bind fun y => (rd σ4 z).bind fun z => (cmpop p y z).map fun b => .d (.bl b)) σ4
        else .ok (.d (.bl false)) σ3
  | .ite c a b, σ => (tst c (ev c) σ).bind fun k σ1 => if k then ev a σ1 else ev b σ1
  | .call f as, σ => (evAs as σ).bind fun ags σ1 => callS cl f ags σ1
  | .blt b as, σ => (evOs as σ).bind fun xs σ1 => ofO ((rds σ1 xs).bind fun ds => bltop b ds) σ1
  | .isi a tp cs, σ => (opd a (ev a) σ).bind fun x σ1 => ofO ((rd σ1 x).bind fun x => if isiOk x && objBelow nc x then some (.d (.bl (cs.any fun c => isiD x c))) else none) σ1
  | .mth m o as, σ => (opd o (ev o) σ).bind fun x σ1 => (evOs as σ1).bind fun ys σ2 => ofO ((rd σ2 x).bind fun x => (rds σ2 ys).bind fun ys => mthop m x ys) σ2
  | .mut m i as, σ => match σ[i]? with
    | some (some (.fl _)) => (evDs as σ).bind fun ds σ1 => match σ1[i]? with
      | some (some w) => match mutop m w ds with
        | some (y, w') => .ok (.d y) (σ1.set i (some w'))
        | none => .bad
      | _ => .bad
    | _ => .bad
  | .ix a b, σ => (opd a (ev a) σ).bind fun x σ1 => (opd b (ev b) σ1).bind fun y σ2 =>
      ofO ((rd σ2 x).bind fun x => (rd σ2 y).bind fun y => (ixD x y).map W.d) σ2
  | .sl a lo hi, σ => (opd a (ev a) σ).bind fun x σ1 => (evI lo σ1).bind fun l σ2 => (evI hi σ2).bind fun h σ3 =>
      ofO ((rd σ3 x).bind fun x => slD x l h) σ3
  | .rev a, σ => (opd a (ev a) σ).bind fun x σ1 => ofO ((rd σ1 x).bind fun x => match x with
      | .lst xs => some (.fl xs.reverse)
      | .tup xs => some (.d (.tup xs.reverse))
      | _ => none) σ1
  | .fld a c k, σ => (opd a (ev a) σ).bind fun x σ1 => ofO ((rd σ1 x).bind fun x => match x with
      | .obj c' fs => if c = c' then (fs[k]?).map W.d else none
      | _ => none) σ1
  | .tup as, σ => (evDs as σ).bind fun ds σ1 => .ok (.d (.tup ds)) σ1
  | .lst as, σ => (evDs as σ).bind fun ds σ1 => .ok (.fl ds) σ1
  | .dk kvs, σ => (evDs kvs σ).bind fun ds σ1 => ofO ((putAll keyD [] ds).map W.fk) σ1
  | .dt kvs, σ => (evDs kvs σ).bind fun ds σ1 => ofO ((putAll tkeyD [] ds).map W.ft) σ1
  | .rng as, σ => (evOs as σ).bind fun xs σ1 => ofO ((rds σ1 xs).bind fun ds => (rngD ds).map W.fl) σ1
  | .lrg tp as, σ => (evOs as σ).bind fun xs σ1 => ofO ((rds σ1 xs).bind fun ds => (rngD ds).map fun ys => if tp then W.d (.tup ys) else W.fl ys) σ1
  | .enm a, σ => (ev a σ).bind fun w σ1 => ofO ((itemsD w.toD).map fun xs => W.fl (enmL xs)) σ1
  | .zip a b, σ => (ev a σ).bind fun x σ1 => (ev b σ1).bind fun y σ2 => ofO ((zipD x.toD y.toD).map W.fl) σ2
  | .lc own t it c e, σ => (ev it σ).bind fun w σ1 => match itemsD w.toD with
    | some xs => if own.all (plainAt σ1) ∧ xs.length ≤ sizeLine then
        (lcL (lcTurn own t (evC c) (ev e)) xs [] (wipeS σ1 own)).bind fun ys σ2 => .ok (.fl ys) (backS σ1 σ2 own)
      else .bad
    | none => .bad
  | .dc own t it c k v, σ => (ev it σ).bind fun w σ1 => match itemsD w.toD with
    | some xs => if own.all (plainAt σ1) ∧ xs.length ≤ sizeLine then
        (dcL (dcTurn own t (evC c) (ev k) (ev v)) xs [] (wipeS σ1 own)).bind fun ys σ2 => .ok (.fk ys) (backS σ1 σ2 own)
      else .bad
    | none => .bad
def evC : Option Ex → Option (Sg → R Sg Bool)
  | none => none
  | some c => some (tst c (ev c))
/-- values, held fast -/
def evDs : List Ex → Sg → R Sg (List D)
  | [], σ => .ok [] σ
  | e :: es, σ => (ev e σ).bind fun w σ1 => (evDs es σ1).bind fun ds σ2 => .ok (w.toD :: ds) σ2
/-- operands, looked at later -/
def evOs : List Ex → Sg → R Sg (List Opd)
  | [], σ => .ok [] σ
  | e :: es, σ => (opd e (ev e) σ).bind fun x σ1 => (evOs es σ1).bind fun xs σ2 => .ok (x :: xs) σ2
def evAs : List Ex → Sg → R Sg (List Ag)
  | [], σ => .ok [] σ
  | .io i :: es, σ => match σ[i]? with
    | some (some _) => (evAs es σ).bind fun xs σ2 => .ok (.io i :: xs) σ2
    | _ => .bad
  | e :: es, σ => (ev e σ).bind fun w σ1 => (evAs es σ1).bind fun xs σ2 => .ok (.d w.toD :: xs) σ2
def evI : Option Ex → Sg → R Sg (Option Int)
  | none, σ => .ok none σ
  | some e, σ => (opd e (ev e) σ).bind fun x σ1 => ofO ((rd σ1 x).bind fun x => match x with | .int i => some (some i) | _ => none) σ1
end
/-- new values kept apart -/
def evWs : List Ex → Sg → R Sg (List W)
  | [], σ => .ok [] σ
  | e :: es, σ => (ev nc cl e σ).bind fun w σ1 => (evWs es σ1).bind fun ds σ2 => .ok (w :: ds) σ2

def Out.ofR {α : Type} (r : R Sg α) (f : α → Sg → Out) : Out := match r with
  | .ok a σ => f a σ
  | .exc c ds σ => .exc c ds σ
  | .bad => .bad
@[simp] theorem Out.ofR_ok {α : Type} (a : α) (σ : Sg) (f : α → Sg → Out) : Out.ofR (.ok a σ) f = f a σ := rfl
@[simp] theorem Out.ofR_exc {α : Type} (c : Nat) (ds : List D) (σ : Sg) (f : α → Sg → Out) : Out.ofR (.exc c ds σ) f = .exc c ds σ := rfl
@[simp] theorem Out.ofR_bad {α : Type} (f : α → Sg → Out) : Out.ofR .bad f = .bad := rfl
def setS (σ : Sg) (i : Nat) (w : W) : Out := if i < σ.length then .nx (σ.set i (some w)) else .bad
def setSs : List Nat → List W → Sg → Out
  | [], [], σ => .nx σ
  | i :: is, w :: ws, σ => if i < σ.length then setSs is ws (σ.set i (some w)) else .bad
  | _, _, _ => .bad
def Out.seq (o : Out) (f : Sg → Out) : Out := match o with
  | .nx σ => f σ
  | o => o
@[simp] theorem Out.seq_nx (σ : Sg) (f : Sg → Out) : (Out.nx σ).seq f = f σ := rfl
@[simp] theorem Out.seq_rt (w : W) (σ : Sg) (f : Sg → Out) : (Out.rt w σ).seq f = .rt w σ := rfl
@[simp] theorem Out.seq_exc (c : Nat) (ds : List D) (σ : Sg) (f : Sg → Out) : (Out.exc c ds σ).seq f = .exc c ds σ := rfl
@[simp] theorem Out.seq_bad (f : Sg → Out) : (Out.bad).seq f = .bad := rfl

mutual
def run : St → Sg → Out
  | .pas, σ => .nx σ
  | .expr e, σ => .ofR (ev nc cl e σ) fun _ σ' => .nx σ'
  | .set i e, σ => .ofR (ev nc cl e σ) fun w σ' => setS σ' i w
  | .par is es, σ => .ofR (evWs nc cl es σ) fun ws σ' => if is.Nodup then setSs is ws σ' else .bad
  | .unp t e, σ => .ofR (ev nc cl e σ) fun w σ' => match asg t w.toD σ' with
    | some σ2 => .nx σ2
    | none => .bad
  | .six i k e, σ => match σ[i]? with
    | some (some _) => .ofR (ev nc cl e σ) fun w σ1 => .ofR (opd k (ev nc cl k) σ1) fun x σ2 => match rd σ2 x, σ2[i]? with
      | some kd, some (some w0) => match setop w0 kd w.toD with
        | some w1 => .nx (σ2.set i (some w1))
        | none => .bad
      | _, _ => .bad
    | _ => .bad
  | .aug i o e, σ => match σ[i]? with
    | some (some (.d x)) => .ofR (ev nc cl e σ) fun w σ1 => match augop o x w.toD with
      | some r => setS σ1 i (.d r)
      | _ => .bad
    | _ => .bad
  | .aix i k o e, σ => .ofR (ev nc cl k σ) fun kw σ1 => match σ1[i]? with
    | some (some w0) => match ixD w0.toD kw.toD with
      | some x => .ofR (ev nc cl e σ1) fun w σ2 => match augop o x w.toD, σ2[i]? with
        | some r, some (some w1) => match setop w1 kw.toD r with
          | some w2 => .nx (σ2.set i (some w2))
          | none => .bad
        | _, _ => .bad
      | none => .bad
    | _ => .bad
  | .ret (.var i), σ => match σ[i]? with
    | some (some w) => .rt w (σ.set i none)
    | _ => .bad
  | .ret e, σ => .ofR (ev nc cl e σ) fun w σ' => .rt w σ'
  | .retn, σ => .rt (.d .non) σ
  | .ite c a b, σ => .ofR (tst c (ev nc cl c) σ) fun k σ1 => if k then runs a σ1 else runs b σ1
  | .whl n c b, σ => whL (tst c (ev nc cl c)) (runs b) n σ
  | .fr t it b, σ => .ofR (ev nc cl it σ) fun w σ1 => match itemsD w.toD with
    | some xs => if xs.length ≤ sizeLine then frL (fun x σ => match asg t x σ with
        | some σ' => runs b σ'
        | none => .bad) xs σ1 else .bad
    | none => .bad
  | .rse c as, σ => .ofR (evDs nc cl as σ) fun ds σ1 => .exc c ds σ1
  | .nev, _ => .bad
def runs : List St → Sg → Out
  | [], σ => .nx σ
  | s :: ss, σ => (run s σ).seq fun σ' => runs ss σ'
end
end

/-- a def: how many parameters, which are handed over to be changed, how many names, the body -/
structure Fd where
  np : Nat
  io : List Nat
  nn : Nat
  body : List St
abbrev Pg := List Fd
/-- what the handed-over parameters hold at the end -/
def outsOf (σ : Sg) : List Nat → Option (List W)
  | [] => some []
  | i :: is => match σ[i]?, outsOf σ is with
    | some (some w), some ws => if w.own then some (w :: ws) else none
    | _, _ => none
/-- the places of what is handed over to be changed -/
def ownIx : Nat → List W → List Nat
  | _, [] => []
  | n, w :: ws => if w.own then n :: ownIx (n + 1) ws else ownIx (n + 1) ws
def ioOk (ws : List W) (io : List Nat) : Bool := (List.range ws.length).all fun i => match ws[i]? with
  | some w => w.own == io.contains i
  | none => true
def callN (P : Pg) (nc : Nat) : Nat → Calls
  | 0, _, _ => .bad
  | k + 1, f, ws => match P[f]? with
    | none => .bad
    | some fd => if ws.length = fd.np ∧ fd.np ≤ fd.nn ∧ ioOk ws fd.io then
        match runs nc (callN P nc k) fd.body (ws.map some ++ List.replicate (fd.nn - fd.np) none) with
        | .nx σ => match outsOf σ (ownIx 0 ws) with
          | some os => .ok (.d .non) os
          | none => .bad
        | .rt w σ => match outsOf σ (ownIx 0 ws) with
          | some os => .ok w os
          | none => .bad
        | .exc c ds σ => match outsOf σ (ownIx 0 ws) with
          | some os => .exc c ds os
          | none => .bad
        | .bad => .bad
      else .bad
end Cl

/-! Cl, part B: how clean values stand in the abstract heap. -/
namespace Cl
open PySem L2

/-- where the text's things stand -/
structure Tb where
  K : PySem.W.Frag
  fa : Nat → Addr
  ca : Nat → Addr
  cf : Nat → List Str

mutual
/-- d is v in the frozen heap F -/
inductive DR (T : Tb) (F : Hp) : D → V → Prop
  | non : DR T F .non .non
  | bl (b : Bool) : DR T F (.bl b) (.bl b)
  | int (i : Int) : DR T F (.int i) (.int i)
  | str (x : Str) : DR T F (.str x) (.str x)
  | tup {a : Addr} {ds : List D} {vs : List V} : F a = some (.tup vs) → DRs T F ds vs → DR T F (.tup ds) (.ref a)
  | lst {a : Addr} {ds : List D} {vs : List V} : F a = some (.lst vs) → DRs T F ds vs → DR T F (.lst ds) (.ref a)
  | dk {a : Addr} {kvs : List (Key × D)} {kv' : List (Key × V)} : F a = some (.dK kv') → kv'.map (·.1) = kvs.map (·.1) → DRs T F (kvs.map (·.2)) (kv'.map (·.2)) → DR T F (.dk kvs) (.ref a)
  | dt {a : Addr} {kvs : List (List Key × D)} {kv' : List (List Key × V)} : F a = some (.dT kv') → kv'.map (·.1) = kvs.map (·.1) → DRs T F (kvs.map (·.2)) (kv'.map (·.2)) → DR T F (.dt kvs) (.ref a)
  | obj {a dx : Addr} {c : Nat} {fs : List D} {vs : List V} : F a = some (.ins (T.ca c) dx ((T.cf c).zip vs)) → F dx = some (.own a) → DRs T F fs vs → vs.length = (T.cf c).length → DR T F (.obj c fs) (.ref a)
  | fn (f : Nat) : DR T F (.fn f) (.ref (T.fa f))
  | scr {a : Addr} {ns : List Int} : SqL T.K F a (ns.map V.int) → DR T F (.scr ns) (.ref a)
inductive DRs (T : Tb) (F : Hp) : List D → List V → Prop
  | nil : DRs T F [] []
  | cons {d : D} {v : V} {ds : List D} {vs : List V} : DR T F d v → DRs T F ds vs → DRs T F (d :: ds) (v :: vs)
end

section
variable {T : Tb} {F F' H H' : Hp}
theorem SqL.grow {K : PySem.W.Frag} {a : Addr} {xs : List V} (g : ∀ a o, F a = some o → F' a = some o) (h : SqL K F a xs) : SqL K F' a xs := by
  rcases h with (h | ⟨o, h⟩) | h
  · exact .inl (.inl (g _ _ h))
  · exact .inl (.inr ⟨o, g _ _ h⟩)
  · exact .inr h
mutual
theorem DR.grow (g : ∀ a o, F a = some o → F' a = some o) : ∀ {d : D} {v : V}, DR T F d v → DR T F' d v
  | _, _, .non => .non
  | _, _, .bl b => .bl b
  | _, _, .int i => .int i
  | _, _, .str x => .str x
  | _, _, .tup h r => .tup (g _ _ h) (DRs.grow g r)
  | _, _, .lst h r => .lst (g _ _ h) (DRs.grow g r)
  | _, _, .dk h e r => .dk (g _ _ h) e (DRs.grow g r)
  | _, _, .dt h e r => .dt (g _ _ h) e (DRs.grow g r)
  | _, _, .obj h h' r e => .obj (g _ _ h) (g _ _ h') (DRs.grow g r) e
  | _, _, .fn f => .fn f
  | _, _, .scr h => .scr (SqL.grow g h)
theorem DRs.grow (g : ∀ a o, F a = some o → F' a = some o) : ∀ {ds : List D} {vs : List V}, DRs T F ds vs → DRs T F' ds vs
  | _, _, .nil => .nil
  | _, _, .cons r t => .cons (DR.grow g r) (DRs.grow g t)
end
theorem DRs.length : ∀ {ds : List D} {vs : List V}, DRs T F ds vs → ds.length = vs.length
  | _, _, .nil => rfl
  | _, _, .cons _ t => by simp [DRs.length t]
theorem DRs.get : ∀ {ds : List D} {vs : List V} {i : Nat} {d : D}, DRs T F ds vs → ds[i]? = some d → ∃ v, vs[i]? = some v ∧ DR T F d v
  | _, _, _, _, .nil, e => by simp at e
  | _, _, 0, _, .cons r _, e => by simp at e; subst e; exact ⟨_, rfl, r⟩
  | _, _, i + 1, d, .cons _ t, e => by
    obtain ⟨v, h1, h2⟩ := DRs.get (i := i) (d := d) t (by simpa using e)
    exact ⟨v, by simpa using h1, h2⟩
theorem DRs.get' : ∀ {ds : List D} {vs : List V} {i : Nat} {v : V}, DRs T F ds vs → vs[i]? = some v → ∃ d, ds[i]? = some d ∧ DR T F d v
  | _, _, _, _, .nil, e => by simp at e
  | _, _, 0, _, .cons r _, e => by simp at e; subst e; exact ⟨_, rfl, r⟩
  | _, _, i + 1, d, .cons _ t, e => by
    obtain ⟨v, h1, h2⟩ := DRs.get' (i := i) (v := d) t (by simpa using e)
    exact ⟨v, by simpa using h1, h2⟩
theorem DRs.append : ∀ {ds es : List D} {vs us : List V}, DRs T F ds vs → DRs T F es us → DRs T F (ds ++ es) (vs ++ us)
  | _, _, _, _, .nil, s => s
  | _, _, _, _, .cons r t, s => .cons r (DRs.append t s)
theorem DRs.take : ∀ {ds : List D} {vs : List V} (n : Nat), DRs T F ds vs → DRs T F (ds.take n) (vs.take n)
  | _, _, 0, _ => .nil
  | _, _, _ + 1, .nil => .nil
  | _, _, n + 1, .cons r t => .cons r (DRs.take n t)
theorem DRs.drop : ∀ {ds : List D} {vs : List V} (n : Nat), DRs T F ds vs → DRs T F (ds.drop n) (vs.drop n)
  | _, _, 0, r => r
  | _, _, _ + 1, .nil => .nil
  | _, _, n + 1, .cons _ t => DRs.drop n t
theorem DRs.set {d : D} {v : V} (r : DR T F d v) : ∀ {ds : List D} {vs : List V} (i : Nat), DRs T F ds vs → DRs T F (ds.set i d) (vs.set i v)
  | _, _, _, .nil => .nil
  | _, _, 0, .cons _ t => .cons r t
  | _, _, i + 1, .cons q t => .cons q (DRs.set r i t)
theorem DRs.eraseIdx : ∀ {ds : List D} {vs : List V} (i : Nat), DRs T F ds vs → DRs T F (ds.eraseIdx i) (vs.eraseIdx i)
  | _, _, _, .nil => .nil
  | _, _, 0, .cons _ t => t
  | _, _, i + 1, .cons r t => .cons r (DRs.eraseIdx i t)
theorem DRs.dropLast {ds : List D} {vs : List V} (r : DRs T F ds vs) : DRs T F ds.dropLast vs.dropLast := by
  rw [List.dropLast_eq_take, List.dropLast_eq_take, r.length]
  exact r.take _
theorem DRs.reverse {ds : List D} {vs : List V} (r : DRs T F ds vs) : DRs T F ds.reverse vs.reverse := by
  induction ds generalizing vs with
  | nil => cases r; exact .nil
  | cons d ds ih =>
    cases r with
    | cons r t =>
      rw [List.reverse_cons, List.reverse_cons]
      exact (ih t).append (.cons r .nil)
theorem DRs.rep {ds : List D} {vs : List V} (r : DRs T F ds vs) : ∀ k : Nat, DRs T F (List.replicate k ds).flatten (List.replicate k vs).flatten
  | 0 => .nil
  | k + 1 => by
    rw [List.replicate_succ, List.replicate_succ, List.flatten_cons, List.flatten_cons]
    exact r.append (r.rep k)
theorem DRs.ints : ∀ {ds : List D} {vs : List V} {ns : List Int}, DRs T F ds vs → intsD ds = some ns → vs = ns.map V.int
  | _, _, _, .nil, e => by simp [intsD] at e; subst e; rfl
  | .int i :: r, v :: vs, ns, .cons q t, e => by
    cases q
    simp only [intsD, Option.map_eq_some_iff] at e
    obtain ⟨ns', e', rfl⟩ := e
    rw [List.map_cons, DRs.ints t e']
  | .non :: _, _, _, _, e => by simp [intsD] at e
  | .bl _ :: _, _, _, _, e => by simp [intsD] at e
  | .str _ :: _, _, _, _, e => by simp [intsD] at e
  | .tup _ :: _, _, _, _, e => by simp [intsD] at e
  | .lst _ :: _, _, _, _, e => by simp [intsD] at e
  | .dk _ :: _, _, _, _, e => by simp [intsD] at e
  | .dt _ :: _, _, _, _, e => by simp [intsD] at e
  | .obj _ _ :: _, _, _, _, e => by simp [intsD] at e
  | .fn _ :: _, _, _, _, e => by simp [intsD] at e
  | .scr _ :: _, _, _, _, e => by simp [intsD] at e
theorem DRs.bls : ∀ {ds : List D} {vs : List V} {ns : List Bool}, DRs T F ds vs → blsD ds = some ns → vs = ns.map V.bl
  | _, _, _, .nil, e => by simp [blsD] at e; subst e; rfl
  | .bl i :: r, v :: vs, ns, .cons q t, e => by
    cases q
    simp only [blsD, Option.map_eq_some_iff] at e
    obtain ⟨ns', e', rfl⟩ := e
    rw [List.map_cons, DRs.bls t e']
  | .non :: _, _, _, _, e => by simp [blsD] at e
  | .int _ :: _, _, _, _, e => by simp [blsD] at e
  | .str _ :: _, _, _, _, e => by simp [blsD] at e
  | .tup _ :: _, _, _, _, e => by simp [blsD] at e
  | .lst _ :: _, _, _, _, e => by simp [blsD] at e
  | .dk _ :: _, _, _, _, e => by simp [blsD] at e
  | .dt _ :: _, _, _, _, e => by simp [blsD] at e
  | .obj _ _ :: _, _, _, _, e => by simp [blsD] at e
  | .fn _ :: _, _, _, _, e => by simp [blsD] at e
  | .scr _ :: _, _, _, _, e => by simp [blsD] at e
theorem DRs.of_ints : ∀ ns : List Int, DRs T F (ns.map D.int) (ns.map V.int)
  | [] => .nil
  | i :: r => .cons (.int i) (DRs.of_ints r)
theorem DRs.atI {ds : List D} {vs : List V} {i : Int} {d : D} (r : DRs T F ds vs) (e : atI ds i = some d) : ∃ v, L2.atI vs i = some v ∧ DR T F d v := by
  unfold L2.atI at e ⊢
  rw [r.length] at e
  cases q : ixN vs.length i with
  | none => rw [q] at e; cases e
  | some j =>
    rw [q] at e
    exact r.get e

/-- a value, or a new list (dict): where it stands -/
def RS (T : Tb) (F H : Hp) : W → V → Prop
  | .d x, v => DR T F x v
  | .fl xs, v => ∃ a vs, v = .ref a ∧ F a = none ∧ H a = some (.lst vs) ∧ DRs T F xs vs
  | .fk kvs, v => ∃ (a : Addr) (kv' : List (Key × V)), v = .ref a ∧ F a = none ∧ H a = some (.dK kv') ∧ kv'.map (·.1) = kvs.map (·.1) ∧ DRs T F (kvs.map (·.2)) (kv'.map (·.2))
  | .ft kvs, v => ∃ (a : Addr) (kv' : List (List Key × V)), v = .ref a ∧ F a = none ∧ H a = some (.dT kv') ∧ kv'.map (·.1) = kvs.map (·.1) ∧ DRs T F (kvs.map (·.2)) (kv'.map (·.2))
theorem RS.own_at {w : W} {v : V} (r : RS T F H w v) (o : w.own = true) : ∃ a, v = .ref a ∧ F a = none ∧ ∃ x, H a = some x := by
  cases w with
  | d x => cases o
  | fl xs => obtain ⟨a, vs, e, f, h, _⟩ := r; exact ⟨a, e, f, _, h⟩
  | fk xs => obtain ⟨a, vs, e, f, h, _⟩ := r; exact ⟨a, e, f, _, h⟩
  | ft xs => obtain ⟨a, vs, e, f, h, _⟩ := r; exact ⟨a, e, f, _, h⟩
/-- it stays where its own address stays new and as it was -/
theorem RS.keep {w : W} {v : V} (r : RS T F H w v) (g : ∀ a o, F a = some o → F' a = some o) (f : ∀ a, w.own = true → v = .ref a → F' a = none) (h : ∀ a o, w.own = true → v = .ref a → H a = some o → H' a = some o) : RS T F' H' w v := by
  cases w with
  | d x => exact DR.grow g r
  | fl xs => obtain ⟨a, vs, e, f0, h0, r⟩ := r; exact ⟨a, vs, e, f a rfl e, h a _ rfl e h0, r.grow g⟩
  | fk xs => obtain ⟨a, vs, e, f0, h0, e', r⟩ := r; exact ⟨a, vs, e, f a rfl e, h a _ rfl e h0, e', r.grow g⟩
  | ft xs => obtain ⟨a, vs, e, f0, h0, e', r⟩ := r; exact ⟨a, vs, e, f a rfl e, h a _ rfl e h0, e', r.grow g⟩

theorem own_kind {w u : W} (e : w.kind = u.kind) : w.own = u.own := by cases w <;> cases u <;> first | rfl | cases e
/-- the addresses that the slots own -/
def OwnA (c : Sg) (σ : L2.St) (a : Addr) : Prop := ∃ (i : Nat) (w : W), c[i]? = some (some w) ∧ w.own = true ∧ σ[i]? = some (some (.ref a))

structure Sim (T : Tb) (F : Hp) (c : Sg) (σ : L2.St) (H : Hp) : Prop where
  sub : ∀ a o, F a = some o → H a = some o
  len : c.length = σ.length
  at_ : ∀ (i : Nat) (w : W), c[i]? = some (some w) → ∃ v, σ[i]? = some (some v) ∧ RS T F H w v
  inj : ∀ (i j : Nat) (w u : W) (a : Addr), c[i]? = some (some w) → w.own = true → c[j]? = some (some u) → u.own = true → σ[i]? = some (some (.ref a)) → σ[j]? = some (some (.ref a)) → i = j

/-- what an expression does to the state -/
structure Stp (T : Tb) (σ : L2.St) (F : Hp) (c : Sg) (H : Hp) (F' : Hp) (c' : Sg) (H' : Hp) : Prop where
  gr : ∀ a o, F a = some o → F' a = some o
  sim : Sim T F' c' σ H'
  fr : ∀ a o, H a = some o → ¬ OwnA c σ a → H' a = some o
  os : ∀ (i : Nat) (w : W), c'[i]? = some (some w) → w.own = true → ∃ w0 : W, c[i]? = some (some w0) ∧ w0.own = true
  dom : ∀ a, H' a = none → H a = none
  nf : ∀ a o, F' a = some o → F a = some o ∨ H a = none ∨ OwnA c σ a
variable {σ : L2.St} {c c' c2 : Sg} {F2 H2 : Hp}
theorem Stp.refl (s : Sim T F c σ H) : Stp T σ F c H F c H := ⟨fun _ _ h => h, s, fun _ _ h _ => h, fun i w h o => ⟨w, h, o⟩, fun _ h => h, fun _ _ h => .inl h⟩
theorem Stp.osA (s : Stp T σ F c H F' c' H') {a : Addr} (h : OwnA c' σ a) : OwnA c σ a := by
  obtain ⟨i, w, h1, h2, h3⟩ := h
  obtain ⟨w0, q1, q2⟩ := s.os i w h1 h2
  exact ⟨i, w0, q1, q2, h3⟩
theorem Stp.trans (s : Stp T σ F c H F' c' H') (t : Stp T σ F' c' H' F2 c2 H2) : Stp T σ F c H F2 c2 H2 where
  gr := fun a o h => t.gr a o (s.gr a o h)
  sim := t.sim
  fr := fun a o h n => t.fr a o (s.fr a o h n) fun q => n (s.osA q)
  os := fun i w h o => by
    obtain ⟨w1, h1, o1⟩ := t.os i w h o
    exact s.os i w1 h1 o1
  dom := fun a h => s.dom a (t.dom a h)
  nf := fun a o h => by
    rcases t.nf a o h with h | h | h
    · exact s.nf a o h
    · exact .inr (.inl (s.dom a h))
    · exact .inr (.inr (s.osA h))

theorem Sim.own_at (s : Sim T F c σ H) {a : Addr} (h : OwnA c σ a) : F a = none ∧ ∃ o, H a = some o := by
  obtain ⟨i, w, h1, h2, h3⟩ := h
  obtain ⟨v, q1, q2⟩ := s.at_ i w h1
  rw [h3] at q1
  cases q1
  obtain ⟨b, e, f, o⟩ := q2.own_at h2
  cases e
  exact ⟨f, o⟩
/-- new things at places that were free, tracked as frozen -/
theorem Sim.more (s : Sim T F c σ H) (G : Hp) (hF : ∀ a o, F a = some o → G a = some o) (hH : ∀ a o, H a = some o → H' a = some o) (hG : ∀ a o, G a = some o → H' a = some o) (hn : ∀ a o, G a = some o → F a = none → H a = none) : Stp T σ F c H G c H' where
  gr := hF
  sim := {
    sub := hG
    len := s.len
    at_ := fun i w h => by
      obtain ⟨v, h1, h2⟩ := s.at_ i w h
      refine ⟨v, h1, h2.keep hF (fun a o e => ?_) fun a o _ e h => hH a o h⟩
      obtain ⟨b, e', f, x, hx⟩ := h2.own_at o
      rw [e] at e'
      cases e'
      cases q : G a with
      | none => rfl
      | some y =>
        have := hn a y q f
        rw [hx] at this
        cases this
    inj := s.inj }
  fr := fun a o h _ => hH a o h
  os := fun i w h o => ⟨w, h, o⟩
  dom := fun a h => by
    cases q : H a with
    | none => rfl
    | some o => rw [hH a o q] at h; cases h
  nf := fun a o h => by
    cases q : F a with
    | some u => left; rw [← hF a u q, h]
    | none => exact .inr (.inl (hn a o h q))
theorem upd_old {p : Addr} {o : HO} (hp : H p = none) : ∀ a u, H a = some u → upd H p o a = some u := fun a u h => by
  rw [upd_ne (ne_of_none h hp)]; exact h
/-- a new frozen object -/
theorem Sim.newF (s : Sim T F c σ H) {p : Addr} {o : HO} (hp : H p = none) : Stp T σ F c H (upd F p o) c (upd H p o) := by
  have fp : F p = none := by
    cases q : F p with
    | none => rfl
    | some u => rw [s.sub _ _ q] at hp; cases hp
  refine s.more _ (upd_old fp) (upd_old hp) (fun a u h => ?_) fun a u h f => ?_
  · by_cases e : a = p
    · subst e; rw [upd_same] at h ⊢; exact h
    · rw [upd_ne e] at h ⊢; exact s.sub _ _ h
  · by_cases e : a = p
    · rw [e]; exact hp
    · rw [upd_ne e, f] at h; cases h
/-- a new object that is not frozen -/
theorem Sim.newH (s : Sim T F c σ H) {p : Addr} {o : HO} (hp : H p = none) : Stp T σ F c H F c (upd H p o) :=
  s.more F (fun _ _ h => h) (upd_old hp) (fun a u h => upd_old hp a u (s.sub a u h)) fun a u h f => by rw [f] at h; cases h
theorem Sim.notF (s : Sim T F c σ H) {p : Addr} (hp : H p = none) : F p = none := by
  cases q : F p with
  | none => rfl
  | some u => rw [s.sub _ _ q] at hp; cases hp

theorem get_set {α : Type} {l : List α} {i j : Nat} {x : α} : (l.set i x)[j]? = if i = j ∧ i < l.length then some x else l[j]? := by
  by_cases h : i = j
  · subst h
    by_cases hl : i < l.length
    · rw [List.getElem?_set_self hl, if_pos ⟨rfl, hl⟩]
    · rw [if_neg (fun z => hl z.2), List.getElem?_eq_none (by simpa using Nat.le_of_not_lt hl), List.getElem?_eq_none (by simpa using Nat.le_of_not_lt hl)]
  · rw [List.getElem?_set_ne h, if_neg (fun z => h z.1)]
theorem lt_of_get {α : Type} {l : List α} {i : Nat} {x : α} (h : l[i]? = some x) : i < l.length := (List.getElem?_eq_some_iff.mp h).1
/-- the thing at a slot is changed -/
theorem Sim.write (S : Sim T F c σ H) {i : Nat} {w w' : W} {a : Addr} {o : HO} (hi : c[i]? = some (some w)) (hw : w.own = true) (hσ : σ[i]? = some (some (.ref a))) (hk : w'.kind = w.kind) (r : RS T F (upd H a o) w' (.ref a)) :
    Stp T σ F c H F (c.set i (some w')) (upd H a o) := by
  have hl := lt_of_get hi
  obtain ⟨fa, oa, ha⟩ := S.own_at ⟨i, w, hi, hw, hσ⟩
  have fne : ∀ b u, F b = some u → b ≠ a := fun b u h e => by rw [e, fa] at h; cases h
  refine ⟨fun _ _ h => h, ⟨fun b u h => ?_, by rw [List.length_set]; exact S.len, fun j u h => ?_, fun j k u u' b h1 o1 h2 o2 h3 h4 => ?_⟩, fun b u h n => ?_, fun j u h ou => ?_, fun b h => ?_, fun _ _ h => .inl h⟩
  · rw [upd_ne (fne b u h)]; exact S.sub _ _ h
  · rw [get_set] at h
    by_cases e : i = j ∧ i < c.length
    · rw [if_pos e] at h
      cases h
      rw [← e.1]
      exact ⟨_, hσ, r⟩
    · rw [if_neg e] at h
      obtain ⟨v, h1, h2⟩ := S.at_ j u h
      refine ⟨v, h1, h2.keep (fun _ _ q => q) (fun b ob e' => ?_) fun b x ob e' q => ?_⟩
      · obtain ⟨b', e2, f, _⟩ := h2.own_at ob
        rw [e'] at e2; cases e2; exact f
      · have hb : b ≠ a := fun z => by
          subst z
          exact e ⟨S.inj i j w u b hi hw h ob hσ (by rw [h1, e']), hl⟩
        rw [upd_ne hb]; exact q
  · have key : ∀ (n : Nat) (x : W), (c.set i (some w'))[n]? = some (some x) → x.own = true → ∃ y, c[n]? = some (some y) ∧ y.own = true := fun n x h o => by
      rw [get_set] at h
      by_cases e : i = n ∧ i < c.length
      · rw [← e.1]; exact ⟨w, hi, hw⟩
      · rw [if_neg e] at h; exact ⟨x, h, o⟩
    obtain ⟨y1, q1, p1⟩ := key j u h1 o1
    obtain ⟨y2, q2, p2⟩ := key k u' h2 o2
    exact S.inj j k y1 y2 b q1 p1 q2 p2 h3 h4
  · have hb : b ≠ a := fun z => n (by rw [z]; exact ⟨i, w, hi, hw, hσ⟩)
    rw [upd_ne hb]; exact h
  · rw [get_set] at h
    by_cases e : i = j ∧ i < c.length
    · rw [if_pos e] at h
      cases h
      rw [← e.1]
      exact ⟨w, hi, hw⟩
    · rw [if_neg e] at h; exact ⟨u, h, ou⟩
  · by_cases e : b = a
    · rw [e, upd_same] at h; cases h
    · rw [upd_ne e] at h; exact h
/-- a slot's own thing is frozen -/
theorem Sim.freezeSlot (S : Sim T F c σ H) {i : Nat} {w : W} (hi : c[i]? = some (some w)) (hw : w.own = true) : ∃ F' v, σ[i]? = some (some v) ∧ DR T F' w.toD v ∧ Stp T σ F c H F' (c.set i (some (.d w.toD))) H := by
  obtain ⟨v, h1, h2⟩ := S.at_ i w hi
  obtain ⟨a, e, fa, o, ha⟩ := h2.own_at hw
  subst e
  have hl := lt_of_get hi
  have g : ∀ b u, F b = some u → upd F a o b = some u := upd_old fa
  have r : DR T (upd F a o) w.toD (.ref a) := by
    cases w with
    | d x => cases hw
    | fl xs =>
      obtain ⟨b, vs, e, _, hb, q⟩ := h2
      cases e
      rw [ha] at hb; cases hb
      exact .lst upd_same (q.grow g)
    | fk xs =>
      obtain ⟨b, vs, e, _, hb, e', q⟩ := h2
      cases e
      rw [ha] at hb; cases hb
      exact .dk upd_same e' (q.grow g)
    | ft xs =>
      obtain ⟨b, vs, e, _, hb, e', q⟩ := h2
      cases e
      rw [ha] at hb; cases hb
      exact .dt upd_same e' (q.grow g)
  have key : ∀ (n : Nat) (x : W), (c.set i (some (.d w.toD)))[n]? = some (some x) → x.own = true → c[n]? = some (some x) ∧ n ≠ i := fun n x h o => by
    rw [get_set] at h
    by_cases e : i = n ∧ i < c.length
    · rw [if_pos e] at h; cases h; cases o
    · rw [if_neg e] at h; exact ⟨h, fun z => e ⟨z.symm, hl⟩⟩
  refine ⟨_, _, h1, r, g, ⟨fun b u h => ?_, by rw [List.length_set]; exact S.len, fun j u h => ?_, fun j k u u' b q1 o1 q2 o2 h3 h4 => ?_⟩, fun _ _ h _ => h, fun j u h ou => ⟨u, (key j u h ou).1, ou⟩, fun _ h => h, fun b u h => ?_⟩
  · by_cases e : b = a
    · rw [e, upd_same] at h; cases h; rw [e]; exact ha
    · rw [upd_ne e] at h; exact S.sub _ _ h
  · rw [get_set] at h
    by_cases e : i = j ∧ i < c.length
    · rw [if_pos e] at h
      cases h
      rw [← e.1]
      exact ⟨_, h1, r⟩
    · rw [if_neg e] at h
      obtain ⟨v, p1, p2⟩ := S.at_ j u h
      refine ⟨v, p1, p2.keep g (fun b ob e' => ?_) fun _ _ _ _ q => q⟩
      obtain ⟨b', e2, f, _⟩ := p2.own_at ob
      rw [e'] at e2; cases e2
      have hb : b ≠ a := fun z => by
        subst z
        exact e ⟨S.inj i j w u b hi hw h ob h1 (by rw [p1, e']), hl⟩
      rw [upd_ne hb]; exact f
  · exact S.inj j k u u' b (key j u q1 o1).1 o1 (key k u' q2 o2).1 o2 h3 h4
  · by_cases e : b = a
    · rw [e]; exact .inr (.inr ⟨i, w, hi, hw, h1⟩)
    · rw [upd_ne e] at h; exact .inl h

/-- a result: new lists are new to H -/
def RW (T : Tb) (F' H H' : Hp) (w : W) (v : V) : Prop := RS T F' H' w v ∧ (w.own = true → ∀ a, v = .ref a → H a = none)
end
end Cl

/-! Cl, part C: readings of clean programs; operations by values. -/
namespace Cl
open PySem L2
section
variable {T : Tb} {F F' H H' : Hp} {c c' : Sg} {σ : L2.St}

/-- an error object: class, fields -/
def XR (T : Tb) (F H : Hp) (k : Nat) (ds : List D) (cls : Value) (d : Option Addr) : Prop :=
  cls = .ref (T.ca k) ∧ ((ds = [] ∧ d = none) ∨ ∃ dd vs, d = some dd ∧ H dd = some (.xd ((T.cf k).zip vs)) ∧ DRs T F ds vs ∧ vs.length = (T.cf k).length)

def PostP (T : Tb) (Wx : WX) (σ : L2.St) {α : Type} (F : Hp) (c : Sg) (H : Hp) (r : R Sg α) (K : α → Hp → Sg → Hp → Prop) : Prop :=
  match r with
  | .ok a c' => ∀ F' H', Stp T σ F c H F' c' H' → K a F' c' H'
  | .exc k ds c' => ∀ F' cls d H', Stp T σ F c H F' c' H' → XR T F' H' k ds cls d → Wx cls d σ H'
  | .bad => False
variable {Wx : WX} {α β : Type}
theorem PostP.later {r : R Sg α} {K : α → Hp → Sg → Hp → Prop} (h : PostP T Wx σ F c H r K) (s : Stp T σ F c H F' c' H') : PostP T Wx σ F' c' H' r K := by
  cases r with
  | ok a c2 => exact fun F2 H2 t => h F2 H2 (s.trans t)
  | exc k ds c2 => exact fun F2 cls d H2 t => h F2 cls d H2 (s.trans t)
  | bad => exact h
theorem PostP.bind {r : R Sg α} {f : α → Sg → R Sg β} {K : β → Hp → Sg → Hp → Prop} (h : PostP T Wx σ F c H (r.bind f) K) :
    PostP T Wx σ F c H r fun a F1 c1 H1 => PostP T Wx σ F1 c1 H1 (f a c1) K := by
  cases r with
  | ok a c1 => exact fun F1 H1 s => h.later s
  | exc k ds c2 => exact h
  | bad => exact h
theorem PostP.bind' {r : R Sg α} {f : α → Sg → R Sg β} {K : β → Hp → Sg → Hp → Prop} {a : α} {c1 : Sg} {F2 H2 : Hp} (h : PostP T Wx σ F c H (r.bind f) K) (e : r = .ok a c1) (s : Stp T σ F c H F2 c1 H2) : PostP T Wx σ F2 c1 H2 (f a c1) K := by
  subst e
  exact PostP.later (r := f a c1) h s
theorem PostP.mono {r : R Sg α} {K K' : α → Hp → Sg → Hp → Prop} (h : PostP T Wx σ F c H r K) (m : ∀ a F' c' H', r = .ok a c' → Stp T σ F c H F' c' H' → K a F' c' H' → K' a F' c' H') : PostP T Wx σ F c H r K' := by
  cases r with
  | ok a c1 => exact fun F1 H1 s => m a F1 c1 H1 rfl s (h F1 H1 s)
  | exc k ds c2 => exact h
  | bad => exact h
theorem PostP.ofO {o : Option α} {K : α → Hp → Sg → Hp → Prop} (h : PostP T Wx σ F c H (ofO o c) K) : ∃ a, o = some a ∧ ∀ F' H', Stp T σ F c H F' c H' → K a F' c H' := by
  cases o with
  | none => exact h.elim
  | some a => exact ⟨a, rfl, h⟩

/-! ### readings -/
def tE (T : Tb) (Wx : WX) (f : Sg → R Sg W) : TE := fun σ H Q => ∃ F c, Sim T F c σ H ∧ PostP T Wx σ F c H (f c) fun w F' _ H' => ∀ v, RW T F' H H' w v → Q v H'
def RO (T : Tb) (F : Hp) (σ : L2.St) : Opd → V → Prop
  | .val d, v => DR T F d v
  | .ref i, v => σ[i]? = some (some v)
def tO (T : Tb) (Wx : WX) (f : Sg → R Sg Opd) : TE := fun σ H Q => ∃ F c, Sim T F c σ H ∧ PostP T Wx σ F c H (f c) fun x F' _ H' => ∀ v, RO T F' σ x v → Q v H'
def tT (T : Tb) (Wx : WX) (f : Sg → R Sg Bool) : TT := fun σ H Q => ∃ F c, Sim T F c σ H ∧ PostP T Wx σ F c H (f c) fun b _ _ H' => Q b H'
theorem RO.grow (g : ∀ a o, F a = some o → F' a = some o) {x : Opd} {v : V} (r : RO T F σ x v) : RO T F' σ x v := by
  cases x with
  | val d => exact DR.grow g r
  | ref i => exact r
inductive ROs (T : Tb) (F : Hp) (σ : L2.St) : List Opd → List V → Prop
  | nil : ROs T F σ [] []
  | cons {x : Opd} {v : V} {xs : List Opd} {vs : List V} : RO T F σ x v → ROs T F σ xs vs → ROs T F σ (x :: xs) (v :: vs)
theorem ROs.grow (g : ∀ a o, F a = some o → F' a = some o) : ∀ {xs : List Opd} {vs : List V}, ROs T F σ xs vs → ROs T F' σ xs vs
  | _, _, .nil => .nil
  | _, _, .cons r t => .cons (r.grow g) (ROs.grow g t)
def tOs (T : Tb) (Wx : WX) (f : Sg → R Sg (List Opd)) : TA := fun σ H Q => ∃ F c, Sim T F c σ H ∧ PostP T Wx σ F c H (f c) fun xs F' _ H' => ∀ vs, ROs T F' σ xs vs → Q vs H'
def tDs (T : Tb) (Wx : WX) (f : Sg → R Sg (List D)) : TA := fun σ H Q => ∃ F c, Sim T F c σ H ∧ PostP T Wx σ F c H (f c) fun xs F' _ H' => ∀ vs, DRs T F' xs vs → Q vs H'

theorem _root_.L2.PE.impC {X : Cx} {e : Expr} {t t' : TE} (h : PE X e t) (i : ∀ σ H Q, t' σ H Q → t σ H Q) : PE X e t' := ⟨fun pins s σ H Q I q => h.run pins s σ H Q I (i σ H Q q)⟩
theorem _root_.L2.PT.impC {X : Cx} {e : Expr} {t t' : TT} (h : PT X e t) (i : ∀ σ H Q, t' σ H Q → t σ H Q) : PT X e t' := ⟨fun pins s σ H Q I q => h.run pins s σ H Q I (i σ H Q q)⟩
theorem _root_.L2.PW.impC {X : Cx} {e : Expr} {t t' : TT} (h : PW X e t) (i : ∀ σ H Q, t' σ H Q → t σ H Q) : PW X e t' := ⟨fun whole pins s σ H Q I q => h.run whole pins s σ H Q I (i σ H Q q)⟩
theorem _root_.L2.PA.impC {X : Cx} {e : List Expr} {t t' : TA} (h : PA X e t) (i : ∀ σ H Q, t' σ H Q → t σ H Q) : PA X e t' := ⟨fun pos pins s σ H Q I q => h.run pos pins s σ H Q I (i σ H Q q)⟩
theorem _root_.L2.PS.impC {X : Cx} {e : Stmt} {t t' : TS} (h : PS X e t) (i : ∀ D σ H, t' D σ H → t D σ H) : PS X e t' := ⟨fun pins s σ H D I q => h.run pins s σ H D I (i D σ H q)⟩
theorem _root_.L2.PSs.impC {X : Cx} {e : List Stmt} {t t' : TS} (h : PSs X e t) (i : ∀ D σ H, t' D σ H → t D σ H) : PSs X e t' := ⟨fun pins s σ H D I q => h.run pins s σ H D I (i D σ H q)⟩
theorem _root_.L2.PI.impC {X : Cx} {tg e : Expr} {t t' : TI} (h : PI X tg e t) (i : ∀ σ H Q, t' σ H Q → t σ H Q) : PI X tg e t' := ⟨fun pins s σ H Q I q => h.run pins s σ H Q I (i σ H Q q)⟩

/-! ### freezing -/
theorem Sim.freezeAt (s : Sim T F c σ H) {a : Addr} {o : HO} (fa : F a = none) (ha : H a = some o) (no : ¬ OwnA c σ a) : Sim T (upd F a o) c σ H where
  sub := fun b u h => by
    by_cases e : b = a
    · subst e; rw [upd_same] at h; cases h; exact ha
    · rw [upd_ne e] at h; exact s.sub _ _ h
  len := s.len
  at_ := fun i w h => by
    obtain ⟨v, h1, h2⟩ := s.at_ i w h
    refine ⟨v, h1, h2.keep (upd_old fa) (fun b ow e => ?_) fun _ _ _ _ q => q⟩
    obtain ⟨b', e', f, _⟩ := h2.own_at ow
    rw [e] at e'; cases e'
    have hb : b ≠ a := fun q => by
      subst q
      exact no ⟨i, w, h, ow, by rw [h1, e]⟩
    rw [upd_ne hb]; exact f
  inj := s.inj
theorem Stp.freeze (S : Sim T F c σ H) {w : W} {v : V} (s : Stp T σ F c H F' c' H') (r : RW T F' H H' w v) : ∃ F2, Stp T σ F c H F2 c' H' ∧ DR T F2 w.toD v ∧ ∀ a o, F' a = some o → F2 a = some o := by
  have key : ∀ (a : Addr) (o : HO), F' a = none → H' a = some o → H a = none → Stp T σ F c H (upd F' a o) c' H' := fun a o fa ha hn => by
    have nown : ¬ OwnA c' σ a := fun q => by
      obtain ⟨_, o', h⟩ := S.own_at (s.osA q)
      rw [hn] at h; cases h
    exact ⟨fun b u h => upd_old fa b u (s.gr b u h), s.sim.freezeAt fa ha nown, s.fr, s.os, s.dom, fun b u h => by
      by_cases e : b = a
      · rw [e]; exact .inr (.inl hn)
      · rw [upd_ne e] at h; exact s.nf b u h⟩
  obtain ⟨r, hn⟩ := r
  cases w with
  | d x => exact ⟨F', s, r, fun _ _ h => h⟩
  | fl xs =>
    obtain ⟨a, vs, e, f, h, q⟩ := r
    subst e
    exact ⟨_, key a _ f h (hn rfl a rfl), .lst upd_same (q.grow (upd_old f)), upd_old f⟩
  | fk xs =>
    obtain ⟨a, vs, e, f, h, e', q⟩ := r
    subst e
    exact ⟨_, key a _ f h (hn rfl a rfl), .dk upd_same e' (q.grow (upd_old f)), upd_old f⟩
  | ft xs =>
    obtain ⟨a, vs, e, f, h, e', q⟩ := r
    subst e
    exact ⟨_, key a _ f h (hn rfl a rfl), .dt upd_same e' (q.grow (upd_old f)), upd_old f⟩

/-! ### a value as it stands now -/
def DT (T : Tb) (F H : Hp) (d : D) (v : V) : Prop := DR T F d v ∨ ∃ w, w.own = true ∧ w.toD = d ∧ RS T F H w v
theorem rd_ok (S : Sim T F c σ H) {x : Opd} {v : V} {d : D} (r : RO T F σ x v) (e : rd c x = some d) : DT T F H d v := by
  cases x with
  | val y => cases e; exact .inl r
  | ref i =>
    simp only [rd] at e
    split at e
    · rename_i w hw
      cases e
      obtain ⟨u, h1, h2⟩ := S.at_ i w hw
      rw [(show σ[i]? = some (some v) from r)] at h1
      cases h1
      cases hw' : w.own with
      | false => cases w with
        | d x => exact .inl h2
        | fl _ => cases hw'
        | fk _ => cases hw'
        | ft _ => cases hw'
      | true => exact .inr ⟨w, hw', rfl, h2⟩
    · cases e
section
variable {v : V}
theorem DT.non (h : DT T F H .non v) : v = .non := by
  rcases h with h | ⟨w, o, e, h⟩
  · cases h; rfl
  · cases w <;> first | (cases o; done) | (cases e; done)
theorem DT.bl {b : Bool} (h : DT T F H (.bl b) v) : v = .bl b := by
  rcases h with h | ⟨w, o, e, h⟩
  · cases h; rfl
  · cases w <;> first | (cases o; done) | (cases e; done)
theorem DT.int {b : Int} (h : DT T F H (.int b) v) : v = .int b := by
  rcases h with h | ⟨w, o, e, h⟩
  · cases h; rfl
  · cases w <;> first | (cases o; done) | (cases e; done)
theorem DT.str {b : Str} (h : DT T F H (.str b) v) : v = .str b := by
  rcases h with h | ⟨w, o, e, h⟩
  · cases h; rfl
  · cases w <;> first | (cases o; done) | (cases e; done)
theorem DT.tup {ds : List D} (h : DT T F H (.tup ds) v) : ∃ a vs, v = .ref a ∧ F a = some (.tup vs) ∧ DRs T F ds vs := by
  rcases h with h | ⟨w, o, e, h⟩
  · cases h with | tup h1 h2 => exact ⟨_, _, rfl, h1, h2⟩
  · cases w <;> first | (cases o; done) | (cases e; done)
theorem DT.lst (sub : ∀ a o, F a = some o → H a = some o) {ds : List D} (h : DT T F H (.lst ds) v) : ∃ a vs, v = .ref a ∧ H a = some (.lst vs) ∧ DRs T F ds vs := by
  rcases h with h | ⟨w, o, e, h⟩
  · cases h with | lst h1 h2 => exact ⟨_, _, rfl, sub _ _ h1, h2⟩
  · cases w with
    | fl xs => cases e; obtain ⟨a, vs, e, _, h, r⟩ := h; exact ⟨a, vs, e, h, r⟩
    | _ => first | (cases o; done) | (cases e; done)
theorem DT.dk (sub : ∀ a o, F a = some o → H a = some o) {kvs : List (Key × D)} (h : DT T F H (.dk kvs) v) : ∃ (a : Addr) (kv' : List (Key × V)), v = .ref a ∧ H a = some (.dK kv') ∧ kv'.map (·.1) = kvs.map (·.1) ∧ DRs T F (kvs.map (·.2)) (kv'.map (·.2)) := by
  rcases h with h | ⟨w, o, e, h⟩
  · cases h with | dk h1 h2 h3 => exact ⟨_, _, rfl, sub _ _ h1, h2, h3⟩
  · cases w with
    | fk xs => cases e; obtain ⟨a, vs, e, _, h, r⟩ := h; exact ⟨a, vs, e, h, r⟩
    | _ => first | (cases o; done) | (cases e; done)
theorem DT.dt (sub : ∀ a o, F a = some o → H a = some o) {kvs : List (List Key × D)} (h : DT T F H (.dt kvs) v) : ∃ (a : Addr) (kv' : List (List Key × V)), v = .ref a ∧ H a = some (.dT kv') ∧ kv'.map (·.1) = kvs.map (·.1) ∧ DRs T F (kvs.map (·.2)) (kv'.map (·.2)) := by
  rcases h with h | ⟨w, o, e, h⟩
  · cases h with | dt h1 h2 h3 => exact ⟨_, _, rfl, sub _ _ h1, h2, h3⟩
  · cases w with
    | ft xs => cases e; obtain ⟨a, vs, e, _, h, r⟩ := h; exact ⟨a, vs, e, h, r⟩
    | _ => first | (cases o; done) | (cases e; done)
theorem DT.scr (sub : ∀ a o, F a = some o → H a = some o) {ns : List Int} (h : DT T F H (.scr ns) v) : ∃ a, v = .ref a ∧ SqL T.K H a (ns.map V.int) := by
  rcases h with h | ⟨w, o, e, h⟩
  · cases h with | scr h1 => exact ⟨_, rfl, SqL.grow sub h1⟩
  · cases w <;> first | (cases o; done) | (cases e; done)
theorem DT.obj {k : Nat} {fs : List D} (h : DT T F H (.obj k fs) v) : ∃ a dx vs, v = .ref a ∧ F a = some (.ins (T.ca k) dx ((T.cf k).zip vs)) ∧ F dx = some (.own a) ∧ DRs T F fs vs ∧ vs.length = (T.cf k).length := by
  rcases h with h | ⟨w, o, e, h⟩
  · cases h with | obj h1 h2 h3 h4 => exact ⟨_, _, _, rfl, h1, h2, h3, h4⟩
  · cases w <;> first | (cases o; done) | (cases e; done)
end

/-! ### new things -/
section
variable {Q : VK} {p : Addr}
/-- what follows an operation -/
def Kont (T : Tb) (σ : L2.St) (F : Hp) (c : Sg) (H : Hp) (Q : VK) (w : W) : Prop := ∀ F' v H', Stp T σ F c H F' c H' → RW T F' H H' w v → Q v H'
theorem Kont.same {d : D} {v : V} (k : Kont T σ F c H Q (.d d)) (S : Sim T F c σ H) (r : DR T F d v) : Q v H := k F v H (.refl S) ⟨r, fun z => nomatch z⟩
theorem Kont.tup {ds : List D} {vs : List V} (k : Kont T σ F c H Q (.d (.tup ds))) (S : Sim T F c σ H) (r : DRs T F ds vs) (hp : H p = none) : Q (.ref p) (upd H p (.tup vs)) :=
  k _ _ _ (S.newF hp) ⟨.tup upd_same (r.grow (upd_old (S.notF hp))), fun z => nomatch z⟩
theorem Kont.lst {ds : List D} {vs : List V} (k : Kont T σ F c H Q (.fl ds)) (S : Sim T F c σ H) (r : DRs T F ds vs) (hp : H p = none) : Q (.ref p) (upd H p (.lst vs)) :=
  k _ _ _ (S.newH hp) ⟨⟨p, vs, rfl, S.notF hp, upd_same, r⟩, fun _ a e => by cases e; exact hp⟩
end

/-! ### arithmetic, joining -/
def bopO : Bop → Operator
  | .add => .Add | .sub => .Sub | .mul => .Mult | .fdiv => .FloorDiv | .mod => .Mod | .pow => .Pow
def rBin (K : PySem.W.Frag) : Bop → R2
  | .add => fun x y H Q => (rI0 (fun i j => .int (i + j)) x y H Q ∨ (fun x y H Q => ∃ i j, x = .str i ∧ y = .str j ∧ i.length + j.length ≤ sizeLine ∧ Q (.str (i ++ j)) H) x y H Q) ∨ (rCatA K x y H Q ∨ rCat x y H Q)
  | .sub => rI0 fun i j => .int (i - j)
  | .mul => fun x y H Q => rI CMul (fun i j => .int (i * j)) x y H Q ∨ (rRep x y H Q ∨ rRepT K x y H Q)
  | .fdiv => rI CDiv fun i j => .int (i / j)
  | .mod => rI (fun _ j => 0 < j) fun i j => .int (i % j)
  | .pow => rI CPow fun i j => .int (i ^ j.toNat)
theorem op_bin {X : Cx} : ∀ o : Bop, OpR X (binaryOp (bopO o)) (rBin X.K o)
  | .add => (op_add.or op_add_str).or (op_catA.or op_cat)
  | .sub => op_sub
  | .mul => op_mul.or (op_rep.or op_repT)
  | .fdiv => op_fdiv
  | .mod => op_mod
  | .pow => op_pow
theorem bin_ok {Q : VK} (S : Sim T F c σ H) {o : Bop} {x y : D} {v u : V} {w : W} (hx : DT T F H x v) (hy : DT T F H y u) (e : binop o x y = some w) (k : Kont T σ F c H Q w) : rBin T.K o v u H Q := by
  unfold binop at e
  split at e
  · cases e; cases hx.int; cases hy.int
    exact .inl (.inl ⟨_, _, rfl, rfl, k.same S (.int _)⟩)
  · cases hx.str; cases hy.str
    split at e
    · cases e
      exact .inl (.inr ⟨_, _, rfl, rfl, ‹_›, k.same S (.str _)⟩)
    · cases e
  · obtain ⟨a, vs, rfl, h1, r1⟩ := hx.tup
    obtain ⟨b, us, rfl, h2, r2⟩ := hy.tup
    split at e
    · cases e
      rename_i hl
      refine .inr (.inl ⟨a, b, vs, us, rfl, rfl, .of (S.sub _ _ h1), .of (S.sub _ _ h2), by rw [← r1.length, ← r2.length]; exact hl, fun z => ?_, fun _ z => ?_, fun _ _ p hp => k.tup S (r1.append r2) hp⟩)
      · subst z; cases r1; exact k.same S (.tup h2 r2)
      · subst z; cases r2; rw [List.append_nil] at k; exact k.same S (.tup h1 r1)
    · cases e
  · obtain ⟨a, vs, rfl, h1, r1⟩ := hx.lst S.sub
    obtain ⟨b, us, rfl, h2, r2⟩ := hy.lst S.sub
    split at e
    · cases e
      rename_i hl
      exact .inr (.inr ⟨a, b, vs, us, rfl, rfl, h1, h2, by rw [← r1.length, ← r2.length]; exact hl, fun p hp => k.lst S (r1.append r2) hp⟩)
    · cases e
  · cases e; cases hx.int; cases hy.int
    exact ⟨_, _, rfl, rfl, k.same S (.int _)⟩
  · cases hx.int; cases hy.int
    split at e
    · cases e
      exact .inl ⟨_, _, rfl, rfl, ‹_›, k.same S (.int _)⟩
    · cases e
  · obtain ⟨a, vs, rfl, h1, r1⟩ := hx.lst S.sub
    cases hy.int
    split at e
    · cases e
      rename_i hl
      exact .inr (.inl ⟨a, _, vs, rfl, rfl, h1, hl.1, hl.2.1, by rw [← r1.length]; exact hl.2.2, fun p hp => k.lst S (r1.rep _) hp⟩)
    · cases e
  · obtain ⟨a, vs, rfl, h1, r1⟩ := hx.tup
    cases hy.int
    split at e
    · cases e
      rename_i hl
      exact .inr (.inr ⟨a, _, vs, rfl, rfl, .of (S.sub _ _ h1), fun z => by subst z; cases r1; exact hl.1 rfl, hl.2.1, hl.2.2.1, by rw [← r1.length]; exact hl.2.2.2, fun p hp => k.tup S (r1.rep _) hp⟩)
    · cases e
  · cases hx.int; cases hy.int
    split at e
    · cases e
      exact ⟨_, _, rfl, rfl, ‹_›, k.same S (.int _)⟩
    · cases e
  · cases hx.int; cases hy.int
    split at e
    · cases e
      exact ⟨_, _, rfl, rfl, ‹_›, k.same S (.int _)⟩
    · cases e
  · cases hx.int; cases hy.int
    split at e
    · cases e
      exact ⟨_, _, rfl, rfl, ‹_›, k.same S (.int _)⟩
    · cases e
  · cases e
end
end Cl

/-! Cl, part D: comparisons, truth, isinstance, built-ins, subscripts by values. -/
namespace Cl
open PySem L2
section
variable {T : Tb} {F F' H H' : Hp} {c c' : Sg} {σ : L2.St} {Wx : WX}

/-! ### == -/
mutual
theorem DR.dp (sub : ∀ a o, F a = some o → H a = some o) : ∀ {n : Nat} {d : D} {v : V}, DR T F d v → D.okN n d = true → Dp T.K H v d.py
  | n, .non, _, h, _ => by cases h; exact .non
  | n, .bl b, _, h, _ => by cases h; exact .bl b
  | n, .int i, _, h, _ => by cases h; exact .int i
  | n, .str x, _, h, _ => by cases h; exact .str x
  | 0, .tup ds, _, _, o => by simp [D.okN] at o
  | n + 1, .tup ds, _, h, o => by
    cases h with
    | tup h1 h2 => exact .tup (.of (sub _ _ h1)) (DRs.dp sub (n := n) h2 (by simpa [D.okN] using o))
  | 0, .lst ds, _, _, o => by simp [D.okN] at o
  | n + 1, .lst ds, _, h, o => by
    cases h with
    | lst h1 h2 => exact .lst (.of (sub _ _ h1)) (DRs.dp sub (n := n) h2 (by simpa [D.okN] using o))
  | n, .dk _, _, _, o => by simp [D.okN] at o
  | n, .dt _, _, _, o => by simp [D.okN] at o
  | n, .obj _ _, _, _, o => by simp [D.okN] at o
  | n, .fn _, _, _, o => by simp [D.okN] at o
  | n, .scr _, _, _, o => by simp [D.okN] at o
theorem DRs.dp (sub : ∀ a o, F a = some o → H a = some o) : ∀ {n : Nat} {ds : List D} {vs : List V}, DRs T F ds vs → D.okNs n ds = true → DpAll T.K H vs (D.pys ds)
  | _, [], _, h, _ => by cases h; exact .nil
  | n, d :: ds, _, h, o => by
    cases h with
    | cons r t =>
      have o' : D.okN n d = true ∧ D.okNs n ds = true := by simpa [D.okNs] using o
      exact .cons (DR.dp sub r o'.1) (DRs.dp sub t o'.2)
end
mutual
theorem okN_shape : ∀ (n : Nat) (d : D), D.okN n d = true → d.py.canLay0 = true ∧ d.py.depth ≤ n
  | n, .non, _ => ⟨rfl, Nat.zero_le _⟩
  | n, .bl b, _ => ⟨rfl, Nat.zero_le _⟩
  | n, .int i, _ => ⟨rfl, Nat.zero_le _⟩
  | n, .str x, o => ⟨by simpa [D.py, PyData.canLay0, D.okN] using o, Nat.zero_le _⟩
  | 0, .tup ds, o => by simp [D.okN] at o
  | n + 1, .tup ds, o => by
    have q := okNs_shape n ds (by simpa [D.okN] using o)
    exact ⟨by simpa [D.py, PyData.canLay0] using q.1, by simp only [D.py, PyData.depth]; omega⟩
  | 0, .lst ds, o => by simp [D.okN] at o
  | n + 1, .lst ds, o => by
    have q := okNs_shape n ds (by simpa [D.okN] using o)
    exact ⟨by simpa [D.py, PyData.canLay0] using q.1, by simp only [D.py, PyData.depth]; omega⟩
  | n, .dk _, o => by simp [D.okN] at o
  | n, .dt _, o => by simp [D.okN] at o
  | n, .obj _ _, o => by simp [D.okN] at o
  | n, .fn _, o => by simp [D.okN] at o
  | n, .scr _, o => by simp [D.okN] at o
theorem okNs_shape : ∀ (n : Nat) (ds : List D), D.okNs n ds = true → PyData.canLayAll0 (D.pys ds) = true ∧ PyData.depthAll (D.pys ds) ≤ n
  | n, [], _ => ⟨rfl, Nat.zero_le _⟩
  | n, d :: ds, o => by
    have o' : D.okN n d = true ∧ D.okNs n ds = true := by simpa [D.okNs] using o
    have q1 := okN_shape n d o'.1
    have q2 := okNs_shape n ds o'.2
    exact ⟨by simp [D.pys, PyData.canLayAll0, q1.1, q2.1], by simp only [D.pys, PyData.depthAll]; omega⟩
end
theorem ok_shaped {d : D} (o : d.ok = true) : SeqAt.shaped d.py = true := by
  have q := okN_shape 60 d o
  unfold SeqAt.shaped
  rw [q.1, Bool.true_and]
  exact decide_eq_true (by omega)
mutual
theorem eqb_py : ∀ (n m : Nat) (x y : D), D.okN n x = true → D.okN m y = true → PyData.eqv x.py y.py = D.eqb x y
  | n, m, .non, y, _, o => by cases y <;> first | rfl | (simp [D.okN] at o; done)
  | n, m, .bl a, y, _, o => by cases y <;> first | rfl | (simp [D.okN] at o; done)
  | n, m, .int a, y, _, o => by
    cases y <;> first | rfl | (simp [D.okN] at o; done)
  | n, m, .str a, y, _, o => by
    cases y <;> first | rfl | (simp [D.okN] at o; done) | (simp only [D.py, PyData.eqv, D.eqb]; rename_i b; by_cases h : a = b <;> simp [h])
  | n, m, .tup xs, y, o', o => by
    cases y <;> first | rfl | (simp [D.okN] at o; done) | skip
    cases n <;> cases m <;> first | (simp [D.okN] at o; done) | (simp [D.okN] at o'; done) | skip
    rename_i ys n m
    simp only [D.py, PyData.eqv, D.eqb]
    exact eqbs_py n m xs ys (by simpa [D.okN] using o') (by simpa [D.okN] using o)
  | n, m, .lst xs, y, o', o => by
    cases y <;> first | rfl | (simp [D.okN] at o; done) | skip
    cases n <;> cases m <;> first | (simp [D.okN] at o; done) | (simp [D.okN] at o'; done) | skip
    rename_i ys n m
    simp only [D.py, PyData.eqv, D.eqb]
    exact eqbs_py n m xs ys (by simpa [D.okN] using o') (by simpa [D.okN] using o)
  | n, _, .dk _, _, o, _ => by simp [D.okN] at o
  | n, _, .dt _, _, o, _ => by simp [D.okN] at o
  | n, _, .obj _ _, _, o, _ => by simp [D.okN] at o
  | n, _, .fn _, _, o, _ => by simp [D.okN] at o
  | n, _, .scr _, _, o, _ => by simp [D.okN] at o
theorem eqbs_py : ∀ (n m : Nat) (xs ys : List D), D.okNs n xs = true → D.okNs m ys = true → PyData.eqvAll (D.pys xs) (D.pys ys) = D.eqbs xs ys
  | _, _, [], [], _, _ => rfl
  | _, _, [], _ :: _, _, _ => rfl
  | _, _, _ :: _, [], _, _ => rfl
  | n, m, x :: xs, y :: ys, o, o' => by
    have q : D.okN n x = true ∧ D.okNs n xs = true := by simpa [D.okNs] using o
    have q' : D.okN m y = true ∧ D.okNs m ys = true := by simpa [D.okNs] using o'
    simp only [D.pys, PyData.eqvAll, D.eqbs]
    rw [eqb_py n m x y q.1 q'.1, eqbs_py n m xs ys q.2 q'.2]
end
theorem DT.dp (S : Sim T F c σ H) {d : D} {v : V} (h : DT T F H d v) (o : d.ok = true) : Dp T.K H v d.py := by
  rcases h with h | ⟨w, ow, e, h⟩
  · exact DR.dp S.sub h o
  · cases w with
    | fl xs =>
      cases e
      obtain ⟨a, vs, rfl, _, h, r⟩ := h
      exact .lst (.of h) (DRs.dp S.sub (n := 59) r (by simpa [D.ok, D.okN] using o))
    | fk _ => cases e; simp [D.ok, D.okN] at o
    | ft _ => cases e; simp [D.ok, D.okN] at o
    | d _ => cases ow

/-! ### in -/
theorem DR.flat {d : D} {v : V} (h : DR T F d v) (f : flatD d = true) : flatV v = true := by
  cases h <;> first | rfl | cases f
theorem DRs.flat : ∀ {ds : List D} {vs : List V}, DRs T F ds vs → ds.all flatD = true → vs.all flatV = true
  | _, _, .nil, _ => rfl
  | _, _, .cons r t, f => by
    rw [List.all_cons, Bool.and_eq_true] at f ⊢
    exact ⟨r.flat f.1, DRs.flat t f.2⟩
theorem flat_eq {x y : D} {v u : V} (hx : DR T F x v) (hy : DR T F y u) (fx : flatD x = true) (fy : flatD y = true) : eqV v u = D.eqb x y := by
  cases hx <;> cases hy <;> first
    | rfl
    | (cases fx; done)
    | (cases fy; done)
    | (simp only [eqV, D.eqb]; rename_i a b; by_cases h : a = b <;> simp [h])
theorem flat_any {x : D} {v : V} (hx : DR T F x v) (fx : flatD x = true) : ∀ {ds : List D} {vs : List V}, DRs T F ds vs → ds.all flatD = true → inV v vs = ds.any fun z => D.eqb z x
  | _, _, .nil, _ => rfl
  | d :: ds, _, .cons r t, f => by
    rw [List.all_cons, Bool.and_eq_true] at f
    have q := flat_any hx fx t f.2
    unfold inV at q ⊢
    rw [List.any_cons, List.any_cons, q, flat_eq r hx f.1 fx]
theorem DT.flat {d : D} {v : V} (h : DT T F H d v) (f : flatD d = true) : DR T F d v := by
  rcases h with h | ⟨w, o, e, h⟩
  · exact h
  · cases w <;> first | (cases o; done) | (cases e; cases f)
theorem any_py (n m : Nat) {x : D} (ox : D.okN n x = true) : ∀ (ys : List D), D.okNs m ys = true → ((D.pys ys).any fun z => PyData.eqv z x.py) = ys.any fun z => D.eqb z x
  | [], _ => rfl
  | y :: ys, o => by
    have q : D.okN m y = true ∧ D.okNs m ys = true := by simpa [D.okNs] using o
    rw [D.pys, List.any_cons, List.any_cons, any_py n m ox ys q.2, eqb_py m n y x q.1 ox]

theorem map_find {κ : Type} [DecidableEq κ] (k : κ) : ∀ {kvs : List (κ × D)} {kv' : List (κ × V)}, kv'.map (·.1) = kvs.map (·.1) → DRs T F (kvs.map (·.2)) (kv'.map (·.2)) →
    (valV kv' k).isSome = (dget kvs k).isSome ∧ ∀ d, dget kvs k = some d → ∃ v, valV kv' k = some v ∧ DR T F d v
  | [], [], _, _ => ⟨rfl, fun d e => by simp [dget] at e⟩
  | [], _ :: _, e, _ => by simp at e
  | _ :: _, [], e, _ => by simp at e
  | p :: kvs, q :: kv', e, r => by
    rw [List.map_cons, List.map_cons, List.cons.injEq] at e
    rw [List.map_cons, List.map_cons] at r
    cases r with
    | cons r t =>
      have ih := map_find k e.2 t
      unfold dget valV at ih ⊢
      rw [List.find?_cons, List.find?_cons, e.1]
      by_cases h : p.1 = k
      · rw [decide_eq_true h]
        exact ⟨rfl, fun d z => ⟨_, rfl, by cases z; exact r⟩⟩
      · rw [decide_eq_false h]
        exact ih
theorem key_v {d : D} {v : V} {k : Key} (h : DR T F d v) (e : keyD d = some k) : v = kV k := by
  cases h <;> first | (cases e; rfl) | cases e
theorem keys_v : ∀ {ds : List D} {vs : List V} {ks : List Key}, DRs T F ds vs → keysD ds = some ks → vs = ks.map kV
  | _, _, _, .nil, e => by simp [keysD] at e; subst e; rfl
  | _, _, _, .cons r t, e => by
    simp only [keysD] at e
    split at e
    · rename_i k ks e1 e2
      cases e
      rw [List.map_cons, key_v r e1, keys_v t e2]
    · cases e
theorem DT.key {d : D} {v : V} {k : Key} (h : DT T F H d v) (e : keyD d = some k) : v = kV k := by
  have f : flatD d = true := by cases d <;> first | rfl | cases e
  exact key_v (h.flat f) e
theorem DT.tkey (S : Sim T F c σ H) {d : D} {v : V} {ks : List Key} (h : DT T F H d v) (e : tkeyD d = some ks) : ∃ b, v = .ref b ∧ H b = some (.tup (ks.map kV)) := by
  cases d with
  | tup ds =>
    obtain ⟨a, vs, rfl, h1, r⟩ := h.tup
    rw [keys_v r e] at h1
    exact ⟨a, rfl, S.sub _ _ h1⟩
  | _ => cases e
/-- what a dict holds -/
theorem DT.dget (S : Sim T F c σ H) {x k : D} {v u : V} (hx : DT T F H x v) (hk : DT T F H k u) {r : Option D} (e : (match x with
    | .dk kvs => (keyD k).map fun k => dget kvs k
    | .dt kvs => (tkeyD k).map fun k => Cl.dget kvs k
    | _ => none) = some r) : ∃ a o, v = .ref a ∧ DGet H a u o ∧ o.isSome = r.isSome ∧ ∀ d, r = some d → ∃ v', o = some v' ∧ DR T F d v' := by
  cases x with
  | dk kvs =>
    obtain ⟨a, kv', rfl, h1, h2, h3⟩ := hx.dk S.sub
    obtain ⟨kk, e1, e2⟩ := Option.map_eq_some_iff.mp e
    have q := map_find kk h2 h3
    rw [hk.key e1]
    exact ⟨a, _, rfl, DGet.k h1, by rw [← e2]; exact q.1, fun d z => q.2 d (e2.trans z)⟩
  | dt kvs =>
    obtain ⟨a, kv', rfl, h1, h2, h3⟩ := hx.dt S.sub
    obtain ⟨kk, e1, e2⟩ := Option.map_eq_some_iff.mp e
    have q := map_find kk h2 h3
    obtain ⟨b, rfl, hb⟩ := hk.tkey S e1
    exact ⟨a, _, rfl, DGet.t h1 hb, by rw [← e2]; exact q.1, fun d z => q.2 d (e2.trans z)⟩
  | _ => cases e

/-! ### comparisons -/
def copO : Cop → CmpOp
  | .eq => .Eq | .ne => .NotEq | .lt => .Lt | .le => .LtE | .gt => .Gt | .ge => .GtE | .isN => .Is | .notN => .IsNot | .isin => .In | .notin => .NotIn
def rInT : R2 := fun y x H Q => ∃ a o, x = .ref a ∧ DGet H a y o ∧ Q (.bl o.isSome) H
def rNotInT : R2 := fun y x H Q => ∃ a o, x = .ref a ∧ DGet H a y o ∧ Q (.bl (!o.isSome)) H
theorem op_inT {X : Cx} (hu : X.A.units + 1 < cLine) : OpR X (compareOp .In) rInT := by
  intro pins s σ H x y v u Q I rx ry h
  obtain ⟨a, o, rfl, g, q⟩ := h
  cases ry
  exact d_in hu I g rx fun s' I' => ⟨.bl _, H, I', rfl, q⟩
theorem op_notInT {X : Cx} (hu : X.A.units + 1 < cLine) : OpR X (compareOp .NotIn) rNotInT := by
  intro pins s σ H x y v u Q I rx ry h
  obtain ⟨a, o, rfl, g, q⟩ := h
  cases ry
  exact d_notIn hu I g rx fun s' I' => ⟨.bl _, H, I', rfl, q⟩
def rCmp (K : PySem.W.Frag) : Cop → R2
  | .eq => rEqD K
  | .ne => rNeD K
  | .lt => rI0 fun i j => .bl (decide (i < j))
  | .le => rI0 fun i j => .bl (decide (i ≤ j))
  | .gt => rI0 fun i j => .bl (decide (j < i))
  | .ge => rI0 fun i j => .bl (decide (j ≤ i))
  | .isN => fun x y H Q => y = .non ∧ Q (.bl (decide (x = .non))) H
  | .notN => fun x y H Q => y = .non ∧ Q (.bl (!decide (x = .non))) H
  | .isin => fun x y H Q => (rIn K false x y H Q ∨ rInD K x y H Q) ∨ rInT x y H Q
  | .notin => fun x y H Q => (rIn K true x y H Q ∨ rNotInD K x y H Q) ∨ rNotInT x y H Q
theorem op_cmp {X : Cx} (hu : X.A.units + 65 < cLine) : ∀ o : Cop, OpR X (compareOp (copO o)) (rCmp X.K o)
  | .eq => op_eqD (by omega)
  | .ne => op_neD (by omega)
  | .lt => op_lt
  | .le => op_le
  | .gt => op_gt
  | .ge => op_ge
  | .isN => op_isN
  | .notN => op_notN
  | .isin => (op_in_seq.or (op_inD hu)).or (op_inT (by omega))
  | .notin => (op_notIn_seq.or (op_notInD hu)).or (op_notInT (by omega))
theorem in_ok (S : Sim T F c σ H) {x y : D} {v u : V} {b neg : Bool} {Q : VK} (hx : DT T F H x v) (hy : DT T F H y u) (e : inD x y = some b) (q : Q (.bl (if neg then !b else b)) H) :
    (rIn T.K neg v u H Q ∨ (if neg then rNotInD T.K v u H Q else rInD T.K v u H Q)) ∨ (if neg then rNotInT v u H Q else rInT v u H Q) := by
  unfold inD at e
  split at e
  · rename_i ys
    split at e
    · rename_i f
      rw [Bool.and_eq_true] at f
      cases e
      obtain ⟨a, vs, rfl, h1, r⟩ := hy.lst S.sub
      exact .inl (.inl ⟨a, vs, rfl, .inl (.of h1), (hx.flat f.1).flat f.1, r.flat f.2, by rw [flat_any (hx.flat f.1) f.1 r f.2]; exact q⟩)
    · split at e
      · rename_i f
        rw [Bool.and_eq_true] at f
        cases e
        refine .inl (.inr ?_)
        have a3 := any_py 60 59 (x := x) f.1 ys (by simpa [D.ok, D.okN] using f.2)
        cases neg with
        | false => exact ⟨x.py, D.pys ys, hx.dp S f.1, hy.dp S f.2, ok_shaped f.1, ok_shaped f.2, by rw [a3]; exact q⟩
        | true => exact ⟨x.py, D.pys ys, hx.dp S f.1, hy.dp S f.2, ok_shaped f.1, ok_shaped f.2, by rw [a3]; exact q⟩
      · cases e
  · rename_i ys
    split at e
    · rename_i f
      rw [Bool.and_eq_true] at f
      cases e
      obtain ⟨a, vs, rfl, h1, r⟩ := hy.tup
      exact .inl (.inl ⟨a, vs, rfl, .inr (.of (S.sub _ _ h1)), (hx.flat f.1).flat f.1, r.flat f.2, by rw [flat_any (hx.flat f.1) f.1 r f.2]; exact q⟩)
    · cases e
  · rename_i kvs
    obtain ⟨k, e1, e2⟩ := Option.map_eq_some_iff.mp e
    obtain ⟨a, o, rfl, g, i, _⟩ := DT.dget S hy hx (r := Cl.dget kvs k) (by show (keyD x).map _ = _; rw [e1]; rfl)
    refine .inr ?_
    cases neg with
    | false => exact ⟨a, o, rfl, g, by rw [i, e2]; exact q⟩
    | true => exact ⟨a, o, rfl, g, by rw [i, e2]; exact q⟩
  · rename_i kvs
    obtain ⟨k, e1, e2⟩ := Option.map_eq_some_iff.mp e
    obtain ⟨a, o, rfl, g, i, _⟩ := DT.dget S hy hx (r := Cl.dget kvs k) (by show (tkeyD x).map _ = _; rw [e1]; rfl)
    refine .inr ?_
    cases neg with
    | false => exact ⟨a, o, rfl, g, by rw [i, e2]; exact q⟩
    | true => exact ⟨a, o, rfl, g, by rw [i, e2]; exact q⟩
  · cases e
theorem isNon_ok {x : D} {v : V} (h : DT T F H x v) : decide (v = .non) = x.isNon := by
  rcases h with h | ⟨w, o, e, h⟩
  · cases h <;> simp [D.isNon]
  · obtain ⟨a, rfl, _⟩ := h.own_at o
    cases w <;> first | (cases o; done) | (cases e; simp [D.isNon])
theorem cmp_ok {Q : VK} (S : Sim T F c σ H) {o : Cop} {x y : D} {v u : V} {b : Bool} (hx : DT T F H x v) (hy : DT T F H y u) (e : cmpop o x y = some b) (q : Q (.bl b) H) : rCmp T.K o v u H Q := by
  have eqs : ∀ {b : Bool}, eqD x y = some b → Dp T.K H v x.py ∧ Dp T.K H u y.py ∧ SeqAt.shaped x.py = true ∧ SeqAt.shaped y.py = true ∧ PyData.eqv x.py y.py = b := fun {b} e => by
    unfold eqD at e
    split at e
    · rename_i f
      rw [Bool.and_eq_true] at f
      cases e
      exact ⟨hx.dp S f.1, hy.dp S f.2, ok_shaped f.1, ok_shaped f.2, eqb_py 60 60 x y f.1 f.2⟩
    · cases e
  unfold cmpop at e
  split at e
  · obtain ⟨h1, h2, h3, h4, h5⟩ := eqs e
    exact ⟨_, _, h1, h2, h3, h4, by rw [h5]; exact q⟩
  · obtain ⟨k, e1, rfl⟩ := Option.map_eq_some_iff.mp e
    obtain ⟨h1, h2, h3, h4, h5⟩ := eqs e1
    exact ⟨_, _, h1, h2, h3, h4, by rw [h5]; exact q⟩
  · cases e; cases hx.int; cases hy.int; exact ⟨_, _, rfl, rfl, q⟩
  · cases e; cases hx.int; cases hy.int; exact ⟨_, _, rfl, rfl, q⟩
  · cases e; cases hx.int; cases hy.int; exact ⟨_, _, rfl, rfl, q⟩
  · cases e; cases hx.int; cases hy.int; exact ⟨_, _, rfl, rfl, q⟩
  · cases hy.non
    cases e
    refine ⟨rfl, ?_⟩
    rw [isNon_ok hx]
    exact q
  · cases hy.non
    cases e
    refine ⟨rfl, ?_⟩
    rw [isNon_ok hx]
    exact q
  · exact in_ok (neg := false) S hx hy e q
  · obtain ⟨k, e1, rfl⟩ := Option.map_eq_some_iff.mp e
    exact in_ok (neg := true) S hx hy e1 q
  · cases e

/-! ### truth -/
theorem truth_ok (S : Sim T F c σ H) {x : D} {v : V} {b : Bool} (h : DT T F H x v) (e : truth x = some b) : TruV T.K v H b := by
  unfold truth at e
  split at e
  · cases h.non; cases e; rfl
  · cases h.bl; cases e; rfl
  · cases h.int; cases e; rfl
  · obtain ⟨a, vs, rfl, h1, r⟩ := h.tup
    cases e
    exact .inr (.inl ⟨vs, .of (S.sub _ _ h1), by cases r <;> rfl⟩)
  · obtain ⟨a, vs, rfl, h1, r⟩ := h.lst S.sub
    cases e
    exact .inl ⟨vs, .of h1, by cases r <;> rfl⟩
  · cases e
end
end Cl

/-! Cl, part E: isinstance, built-ins, subscripts, slices by values. -/
namespace Cl
open PySem PySem.Spec PyProof.Rows L2
section
variable {T : Tb} {F F' H H' : Hp} {c c' : Sg} {σ : L2.St} {Wx : WX}

/-! ### isinstance -/
def Cls1.val (T : Tb) : Cls1 → Value
  | .int => .type "int" | .bool => .type "bool" | .str => .type "str" | .tuple => .type "tuple" | .list => .type "list" | .dict => .type "dict" | .own c => .ref (T.ca c)
def Cls1.v (T : Tb) : Cls1 → V
  | .int => .ty "int" | .bool => .ty "bool" | .str => .ty "str" | .tuple => .ty "tuple" | .list => .ty "list" | .dict => .ty "dict" | .own c => .ref (T.ca c)
theorem Cls1.rel (T : Tb) (k : Cls1) : RelV (k.v T) (k.val T) ∧ ClsV (k.v T) (k.val T) := by
  cases k <;> first | exact ⟨rfl, .ty _⟩ | exact ⟨rfl, .own _⟩
/-- what the written part says of an own class (not an exception's) -/
structure ClsF (T : Tb) (n : Nat) (k : Nat) : Prop where
  cl : Cls T.K (T.ca k)
  ha : PySem.W.findIn T.K (.ref (T.ca k)) "__class__" = some (some (.builtin "object.__class__"))
  hn : PySem.W.specialIn T.K (.builtin "object.__class__") "__get__" = some (some (.builtin "getset_descriptor.__get__"))
  ht : PySem.W.takesIn T.K (.builtin "object.__class__") = some true
  hm : PySem.W.mroIn T.K (T.ca k) (.type "object") = some true
  to : ∀ t ∈ (["NoneType", "bool", "int", "str", "list", "tuple", "dict"] : List String), PySem.W.kitOne T.K (.type t) (.ref (T.ca k)) = some false
  of : ∀ t ∈ (["int", "bool", "str", "tuple", "list", "dict"] : List String), PySem.W.kitOne T.K (.ref (T.ca k)) (.type t) = some false
  own : ∀ j < n, PySem.W.kitOne T.K (.ref (T.ca k)) (.ref (T.ca j)) = some (k == j)
/-- the first n classes are own ones -/
def ClsOk (T : Tb) (n : Nat) : Prop := ∀ k < n, ClsF T n k
def tyD (T : Tb) : D → Option Value
  | .non => some (.type "NoneType") | .bl _ => some (.type "bool") | .int _ => some (.type "int") | .str _ => some (.type "str") | .tup _ => some (.type "tuple")
  | .lst _ => some (.type "list") | .scr _ => some (.type "list") | .dk _ => some (.type "dict") | .dt _ => some (.type "dict") | .obj c _ => some (.ref (T.ca c)) | .fn _ => none
def clsBelow (n : Nat) : Cls1 → Bool
  | .own c => decide (c < n)
  | _ => true
theorem ty_ok (S : Sim T F c σ H) {n : Nat} (C : ClsOk T n) {x : D} {v : V} (h : DT T F H x v) (o : isiOk x = true) (b : objBelow n x = true) : ∃ t, tyD T x = some t ∧ TyX T.K H v t := by
  cases x with
  | non => cases h.non; exact ⟨_, rfl, .base .non⟩
  | bl b => cases h.bl; exact ⟨_, rfl, .base (.bl _)⟩
  | int b => cases h.int; exact ⟨_, rfl, .base (.int _)⟩
  | str b => cases h.str; exact ⟨_, rfl, .base (.str _)⟩
  | tup ds => obtain ⟨a, vs, rfl, h1, _⟩ := h.tup; exact ⟨_, rfl, .base (.tup (S.sub _ _ h1))⟩
  | lst ds => obtain ⟨a, vs, rfl, h1, _⟩ := h.lst S.sub; exact ⟨_, rfl, .base (.lst h1)⟩
  | dk ds => obtain ⟨a, vs, rfl, h1, _⟩ := h.dk S.sub; exact ⟨_, rfl, .base (.dK h1)⟩
  | dt ds => obtain ⟨a, vs, rfl, h1, _⟩ := h.dt S.sub; exact ⟨_, rfl, .base (.dT h1)⟩
  | obj k fs =>
    obtain ⟨a, dx, vs, rfl, h1, _⟩ := h.obj
    have f := C k (of_decide_eq_true b)
    exact ⟨_, rfl, .base (.ins (S.sub _ _ h1) f.cl f.ha f.hn f.ht f.hm)⟩
  | fn f => cases o
  | scr ns =>
    obtain ⟨a, rfl, h1⟩ := h.scr S.sub
    rcases h1 with (h1 | ⟨ob, h1⟩) | ⟨ob, its, m, h1, h2, _⟩
    · exact ⟨_, rfl, .base (.lst h1)⟩
    · exact ⟨_, rfl, .base (.frz h1)⟩
    · exact ⟨_, rfl, .kList h1 h2⟩
def kitTab (a b : String) : Bool := (a == b) || (a == "bool" && b == "int")
theorem kit_tab : (["NoneType", "bool", "int", "str", "list", "tuple", "dict"].all fun a => ["int", "bool", "str", "tuple", "list", "dict"].all fun b => kitB a b == some (kitTab a b)) = true := by decide +kernel
theorem kit_at {a b : String} (ha : a ∈ (["NoneType", "bool", "int", "str", "list", "tuple", "dict"] : List String)) (hb : b ∈ (["int", "bool", "str", "tuple", "list", "dict"] : List String)) {r : Bool} (e : kitTab a b = r) : PySem.W.kitOne T.K (.type a) (.type b) = some r := by
  have h := List.all_eq_true.mp (List.all_eq_true.mp kit_tab a ha) b hb
  exact kit_ty (by rw [← e]; exact eq_of_beq h)
def nmD : D → Option String
  | .non => some "NoneType" | .bl _ => some "bool" | .int _ => some "int" | .str _ => some "str" | .tup _ => some "tuple"
  | .lst _ => some "list" | .scr _ => some "list" | .dk _ => some "dict" | .dt _ => some "dict" | _ => none
def Cls1.nm : Cls1 → Option String
  | .int => some "int" | .bool => some "bool" | .str => some "str" | .tuple => some "tuple" | .list => some "list" | .dict => some "dict" | .own _ => none
theorem nm_tab (x : D) (k : Cls1) (a b : String) (ha : nmD x = some a) (hb : k.nm = some b) : kitTab a b = isiD x k ∧ a ∈ (["NoneType", "bool", "int", "str", "list", "tuple", "dict"] : List String) ∧ b ∈ (["int", "bool", "str", "tuple", "list", "dict"] : List String) ∧ tyD T x = some (.type a) ∧ k.val T = .type b := by
  cases x <;> cases ha <;> cases k <;> cases hb <;> exact ⟨by simp [kitTab, isiD], by decide, by decide, rfl, rfl⟩
theorem kit_one {n : Nat} (C : ClsOk T n) {x : D} {t : Value} (e : tyD T x = some t) (b : objBelow n x = true) (k : Cls1) (kb : clsBelow n k = true) : PySem.W.kitOne T.K t (k.val T) = some (isiD x k) := by
  cases ha : nmD x with
  | some a =>
    cases hb : k.nm with
    | some z =>
      obtain ⟨h1, h2, h3, h4, h5⟩ := nm_tab (T := T) x k a z ha hb
      rw [e] at h4
      cases h4
      rw [h5]
      exact kit_at h2 h3 h1
    | none =>
      cases k with
      | own j =>
        have hj : j < n := of_decide_eq_true kb
        have q : tyD T x = some (.type a) ∧ a ∈ (["NoneType", "bool", "int", "str", "list", "tuple", "dict"] : List String) ∧ isiD x (.own j) = false := by
          cases x <;> cases ha <;> exact ⟨rfl, by decide, rfl⟩
        rw [e] at q
        cases q.1
        rw [q.2.2]
        exact (C j hj).to _ q.2.1
      | _ => cases hb
  | none =>
    cases x with
    | obj i fs =>
      have hi : i < n := of_decide_eq_true b
      cases e
      cases k with
      | own j => exact (C i hi).own j (of_decide_eq_true kb)
      | _ => exact (C i hi).of _ (by decide)
    | fn f => cases e
    | _ => cases ha
theorem kit_any {n : Nat} (C : ClsOk T n) {x : D} {t : Value} (e : tyD T x = some t) (b : objBelow n x = true) : ∀ ks : List Cls1, ks.all (clsBelow n) = true → PySem.W.kitAny T.K t (ks.map (Cls1.val T)) = some (ks.any fun k => isiD x k)
  | [], _ => kitAny_nil
  | k :: ks, h => by
    rw [List.all_cons, Bool.and_eq_true] at h
    refine kitAny_cons (kit_one C e b k h.1) (fun z => ?_) fun z => ?_
    · rw [List.any_cons, z, Bool.false_or]; exact kit_any C e b ks h.2
    · rw [List.any_cons, z, Bool.true_or]
theorem cls_vals (T : Tb) : ∀ ks : List Cls1, Paired ClsV (ks.map (Cls1.v T)) (ks.map (Cls1.val T))
  | [] => .nil
  | k :: ks => .cons (k.rel T).2 (cls_vals T ks)

/-! ### built-ins -/
def Blt.nm : Blt → Str
  | .len => "len" | .abs => "abs" | .int => "int" | .all => "all" | .any => "any" | .sum => "sum" | .tuple => "tuple" | .list => "list" | .min => "min" | .max => "max" | .sorted => "sorted"
def Blt.vl : Blt → Value
  | .len => .builtin "len" | .abs => .builtin "abs" | .int => .type "int" | .all => .builtin "all" | .any => .builtin "any" | .sum => .builtin "sum" | .tuple => .type "tuple" | .list => .type "list" | .min => .builtin "min" | .max => .builtin "max" | .sorted => .builtin "sorted"
def rBlt (K : PySem.W.Frag) : Blt → List V → Hp → VK → Prop
  | .len => fun xs H Q => ((∃ x n, xs = [x] ∧ LenV K x H n ∧ Q (.int n) H) ∨ (∃ a kvs, xs = [V.ref a] ∧ H a = some (.dK kvs) ∧ Q (.int kvs.length) H)) ∨ rLenT xs H Q
  | .abs => fun xs H Q => ∃ i, xs = [.int i] ∧ Q (.int (if i < 0 then -i else i)) H
  | .int => fun xs H Q => (∃ i, xs = [.int i] ∧ Q (.int i) H) ∨ ∃ k, xs = [.bl k] ∧ Q (.int (if k then 1 else 0)) H
  | .all => rAll K
  | .any => rAny K
  | .sum => rSum K
  | .tuple => fun xs H Q => ∃ p ys, xs = [.ref p] ∧ ((SqL K H p ys ∧ ∀ l, H l = none → Q (.ref l) (upd H l (.tup ys))) ∨ (SqT K H p ys ∧ Q (.ref p) H))
  | .list => fun xs H Q => ∃ p ys, xs = [.ref p] ∧ (SqL K H p ys ∨ SqT K H p ys) ∧ ∀ l, H l = none → Q (.ref l) (upd H l (.lst ys))
  | .min => rMin K
  | .max => rMax K
  | .sorted => rSorted K
theorem call_blt {X : Cx} (hc : X.calm = true) : ∀ b : Blt, CallR X b.vl (rBlt X.K b)
  | .len => (call_len.or call_lenD).or call_len_dT
  | .abs => call_abs
  | .int => call_int1
  | .all => cr_all hc
  | .any => cr_any hc
  | .sum => cr_sum hc
  | .tuple => call_tuple_of
  | .list => call_list_of
  | .min => cr_min hc
  | .max => cr_max hc
  | .sorted => cr_sorted
inductive DTs (T : Tb) (F H : Hp) : List D → List V → Prop
  | nil : DTs T F H [] []
  | cons {d : D} {v : V} {ds : List D} {vs : List V} : DT T F H d v → DTs T F H ds vs → DTs T F H (d :: ds) (v :: vs)
theorem rds_ok (S : Sim T F c σ H) : ∀ {xs : List Opd} {vs : List V} {ds : List D}, ROs T F σ xs vs → rds c xs = some ds → DTs T F H ds vs
  | _, _, _, .nil, e => by simp [rds] at e; subst e; exact .nil
  | _, _, _, .cons r t, e => by
    simp only [rds] at e
    split at e
    · rename_i d ds e1 e2
      cases e
      exact .cons (rd_ok S r e1) (rds_ok S t e2)
    · cases e
theorem DTs.one {d : D} {vs : List V} (h : DTs T F H [d] vs) : ∃ v, vs = [v] ∧ DT T F H d v := by
  cases h with | cons r t => cases t; exact ⟨_, rfl, r⟩
theorem DTs.two {d e : D} {vs : List V} (h : DTs T F H [d, e] vs) : ∃ v u, vs = [v, u] ∧ DT T F H d v ∧ DT T F H e u := by
  cases h with | cons r t => cases t with | cons r' t => cases t; exact ⟨_, _, rfl, r, r'⟩
theorem len_map {κ : Type} {kvs : List (κ × D)} {kv' : List (κ × V)} (e : kv'.map (·.1) = kvs.map (·.1)) : kv'.length = kvs.length := by
  have := congrArg List.length e
  simpa using this
theorem blt_ok (S : Sim T F c σ H) {Q : VK} {b : Blt} {ds : List D} {vs : List V} {w : W} (h : DTs T F H ds vs) (e : bltop b ds = some w) (k : Kont T σ F c H Q w) : rBlt T.K b vs H Q := by
  unfold bltop at e
  split at e
  · obtain ⟨v, rfl, g⟩ := h.one
    rename_i x
    obtain ⟨n, e1, rfl⟩ := Option.map_eq_some_iff.mp e
    unfold lenD at e1
    split at e1
    · cases g.str
      split at e1
      · cases e1; exact .inl (.inl ⟨_, _, rfl, ⟨‹_›, rfl⟩, k.same S (.int _)⟩)
      · cases e1
    · obtain ⟨a, us, rfl, h1, r⟩ := g.tup
      cases e1
      exact .inl (.inl ⟨_, _, rfl, .inr ⟨us, .of (S.sub _ _ h1), r.length⟩, k.same S (.int _)⟩)
    · obtain ⟨a, us, rfl, h1, r⟩ := g.lst S.sub
      cases e1
      exact .inl (.inl ⟨_, _, rfl, .inl ⟨us, .of h1, r.length⟩, k.same S (.int _)⟩)
    · obtain ⟨a, rfl, h1⟩ := g.scr S.sub
      cases e1
      exact .inl (.inl ⟨_, _, rfl, .inl ⟨_, h1, by simp⟩, k.same S (.int _)⟩)
    · obtain ⟨a, us, rfl, h1, h2, r⟩ := g.dk S.sub
      cases e1
      exact .inl (.inr ⟨_, _, rfl, h1, by rw [len_map h2]; exact k.same S (.int _)⟩)
    · obtain ⟨a, us, rfl, h1, h2, r⟩ := g.dt S.sub
      cases e1
      exact .inr ⟨_, _, rfl, h1, by rw [len_map h2]; exact k.same S (.int _)⟩
    · cases e1
  · obtain ⟨v, rfl, g⟩ := h.one
    cases g.int; cases e
    exact ⟨_, rfl, k.same S (.int _)⟩
  · obtain ⟨v, rfl, g⟩ := h.one
    cases g.int; cases e
    exact .inl ⟨_, rfl, k.same S (.int _)⟩
  · obtain ⟨v, rfl, g⟩ := h.one
    cases g.bl; cases e
    exact .inr ⟨_, rfl, k.same S (.int _)⟩
  · obtain ⟨v, rfl, g⟩ := h.one
    obtain ⟨bs, e1, rfl⟩ := Option.map_eq_some_iff.mp e
    obtain ⟨a, us, rfl, h1, r⟩ := g.lst S.sub
    exact ⟨a, bs, rfl, .of (by rw [← r.bls e1]; exact h1), k.same S (.bl _)⟩
  · obtain ⟨v, rfl, g⟩ := h.one
    obtain ⟨bs, e1, rfl⟩ := Option.map_eq_some_iff.mp e
    obtain ⟨a, us, rfl, h1, r⟩ := g.lst S.sub
    exact ⟨a, bs, rfl, .of (by rw [← r.bls e1]; exact h1), k.same S (.bl _)⟩
  · obtain ⟨v, rfl, g⟩ := h.one
    obtain ⟨bs, e1, rfl⟩ := Option.map_eq_some_iff.mp e
    obtain ⟨a, us, rfl, h1, r⟩ := g.lst S.sub
    exact ⟨a, bs, rfl, .of (by rw [← r.ints e1]; exact h1), k.same S (.int _)⟩
  · obtain ⟨v, rfl, g⟩ := h.one
    cases e
    obtain ⟨a, us, rfl, h1, r⟩ := g.lst S.sub
    exact ⟨a, us, rfl, .inl ⟨.of h1, fun l hl => k.tup S r hl⟩⟩
  · obtain ⟨v, rfl, g⟩ := h.one
    cases e
    obtain ⟨a, us, rfl, h1, r⟩ := g.tup
    exact ⟨a, us, rfl, .inr ⟨.of (S.sub _ _ h1), k.same S (.tup h1 r)⟩⟩
  · obtain ⟨v, rfl, g⟩ := h.one
    cases e
    obtain ⟨a, us, rfl, h1, r⟩ := g.lst S.sub
    exact ⟨a, us, rfl, .inl (.of h1), fun l hl => k.lst S r hl⟩
  · obtain ⟨v, rfl, g⟩ := h.one
    cases e
    obtain ⟨a, us, rfl, h1, r⟩ := g.tup
    exact ⟨a, us, rfl, .inr (.of (S.sub _ _ h1)), fun l hl => k.lst S r hl⟩
  · cases e

/-! ### subscripts -/
def rIxDc : R2 := fun x y H Q => ∃ a v, x = .ref a ∧ DGet H a y (some v) ∧ Q v H
theorem ix_dict {X : Cx} (hu : X.A.units + 1 < cLine) : IxR X rIxDc := by
  intro value slice pins s σ H x y v u Q I rx ry h hs
  obtain ⟨a, z, rfl, g, q⟩ := h
  cases rx
  unfold subscriptTail
  refine wpAny_bind ?_
  rw [getitemInPython_of_ne (dict_typeIs I g).not_modules]
  refine wpAny_bind (wpAny_specialOf (dict_typeIs I g) PySem.F.slot_dict_getitem.lookup ?_)
  have fin : wpAny (model X.prog X.w) X.A (subscripted slice false (.ref a) u) (fun r s₃ => wpAny (model X.prog X.w) X.A (letTemporaryGo value (.ref a) r >>= fun _ => pure r) (EP X pins σ Q) X.xe s₃) X.xe s := by
    rw [hs]
    exact wpAny_operating (d_getItem hu I g ry fun w' s3 I3 rw' => wpAny_bind (wpAny_letTemporaryGo (wpAny_pure ⟨z, H, I3, rw', q⟩)))
  first
    | exact wpAny_pure (wpAny_bind fin)
    | exact wpAny_bind (wpAny_pure (wpAny_bind fin))
    | exact wpAny_bind fin
def rIxA (K : PySem.W.Frag) : R2 := fun x y H Q => (rIxL K x y H Q ∨ rIxT K x y H Q) ∨ rIxDc x y H Q
theorem ix_all {X : Cx} (hu : X.A.units + 1 < cLine) : IxR X (rIxA X.K) := (ix_list.or ix_tup).or (ix_dict hu)
theorem atI_map {α β : Type} (f : α → β) (xs : List α) (i : Int) : atI (xs.map f) i = (atI xs i).map f := by
  unfold atI
  rw [List.length_map]
  cases ixN xs.length i with
  | none => rfl
  | some j => simp
theorem ix_ok (S : Sim T F c σ H) {Q : VK} {x y d : D} {v u : V} (hx : DT T F H x v) (hy : DT T F H y u) (e : ixD x y = some d) (k : Kont T σ F c H Q (.d d)) : rIxA T.K v u H Q := by
  unfold ixD at e
  split at e
  · obtain ⟨a, vs, rfl, h1, r⟩ := hx.lst S.sub
    cases hy.int
    obtain ⟨z, e1, r1⟩ := r.atI e
    exact .inl (.inl ⟨a, vs, _, z, rfl, rfl, .of h1, e1, k.same S r1⟩)
  · obtain ⟨a, vs, rfl, h1, r⟩ := hx.tup
    cases hy.int
    obtain ⟨z, e1, r1⟩ := r.atI e
    exact .inl (.inr ⟨a, vs, _, z, rfl, rfl, .of (S.sub _ _ h1), e1, k.same S r1⟩)
  · obtain ⟨a, rfl, h1⟩ := hx.scr S.sub
    cases hy.int
    obtain ⟨j, e1, rfl⟩ := Option.map_eq_some_iff.mp e
    exact .inl (.inl ⟨a, _, _, .int j, rfl, rfl, h1, by rw [atI_map, e1]; rfl, k.same S (.int _)⟩)
  · rename_i kvs
    cases ek : keyD y with
    | none => rw [ek] at e; cases e
    | some kk =>
      rw [ek] at e
      obtain ⟨a, o, rfl, g, _, q⟩ := DT.dget S hx hy (r := some d) (by show (keyD y).map _ = _; rw [ek]; exact congrArg some e)
      obtain ⟨v', rfl, r⟩ := q d rfl
      exact .inr ⟨a, v', rfl, g, k.same S r⟩
  · rename_i kvs
    cases ek : tkeyD y with
    | none => rw [ek] at e; cases e
    | some kk =>
      rw [ek] at e
      obtain ⟨a, o, rfl, g, _, q⟩ := DT.dget S hx hy (r := some d) (by show (tkeyD y).map _ = _; rw [ek]; exact congrArg some e)
      obtain ⟨v', rfl, r⟩ := q d rfl
      exact .inr ⟨a, v', rfl, g, k.same S r⟩
  · cases e

/-! ### slices -/
def rSlAll (K : PySem.W.Frag) : V → Option Int → Option Int → Hp → VK → Prop := fun x lo hi H Q => rSlL K x lo hi H Q ∨ rSlA K x lo hi H Q
theorem sl_all {X : Cx} : SlR X (rSlAll X.K) := sl_list.or sl_tupA
theorem cut_rel {ds : List D} {vs : List V} (r : DRs T F ds vs) (lo hi : Option Int) : DRs T F (cutD ds lo hi) (cutV vs lo hi) := by
  unfold cutD cutV
  rw [r.length]
  exact (r.drop _).take _
theorem cut_all {vs : List V} {lo hi : Option Int} (h : HT.sIx vs.length 0 lo = 0 ∧ HT.sIx vs.length vs.length hi = vs.length) {ds : List D} (e : ds.length = vs.length) : cutD ds lo hi = ds := by
  unfold cutD
  rw [e, h.1, h.2]
  simp [← e]
theorem sl_ok (S : Sim T F c σ H) {Q : VK} {x : D} {v : V} {lo hi : Option Int} {w : W} (hx : DT T F H x v) (e : slD x lo hi = some w) (k : Kont T σ F c H Q w) : rSlAll T.K v lo hi H Q := by
  unfold slD at e
  split at e
  · cases e
    obtain ⟨a, vs, rfl, h1, r⟩ := hx.lst S.sub
    exact .inl ⟨a, vs, rfl, .of h1, fun p hp => k.lst S (cut_rel r lo hi) hp⟩
  · cases e
    obtain ⟨a, vs, rfl, h1, r⟩ := hx.tup
    refine .inr ⟨a, vs, rfl, .of (S.sub _ _ h1), fun z => ?_, fun _ p hp => k.tup S (cut_rel r lo hi) hp⟩
    rw [cut_all z r.length] at k
    exact k.same S (.tup h1 r)
  · cases e
    obtain ⟨a, rfl, h1⟩ := hx.scr S.sub
    rename_i ns
    refine .inl ⟨a, _, rfl, h1, fun p hp => ?_⟩
    have e : cutV (ns.map V.int) lo hi = (cutI ns lo hi).map V.int := by
      unfold cutV cutI
      rw [List.length_map, List.map_take, List.map_drop]
    rw [e]
    exact k.lst S (.of_ints _) hp
  · cases e
end
end Cl

/-! Cl, part F: changing methods; the look at a text (chk); contexts. -/
namespace Cl
open PySem PySem.Spec PyProof.Rows L2
section
variable {T : Tb} {F F' H H' : Hp} {c c' : Sg} {σ : L2.St} {Wx : WX}

/-! ### changing methods -/
def Mut.nm : Mut → Str
  | .append => "append" | .pop => "pop" | .popAt => "pop" | .extend => "extend"
def rMut : Mut → V → List V → Hp → VK → Prop
  | .append => rAppend | .pop => rPop | .popAt => rPopAt | .extend => rExtend
theorem mut_ok (S : Sim T F c σ H) {Q : VK} {m : Mut} {i : Nat} {w w' : W} {ds : List D} {vs : List V} {d : D} {v : V} (hi : c[i]? = some (some w)) (hv : σ[i]? = some (some v)) (h : DRs T F ds vs) (e : mutop m w ds = some (d, w'))
    (k : ∀ F' r H', Stp T σ F c H F' (c.set i (some w')) H' → DR T F' d r → Q r H') : rMut m v vs H Q ∧ w.kind = 1 := by
  unfold mutop at e
  split at e
  · split at e
    · rename_i xs d0 hl
      cases e
      obtain ⟨u, h1, h2⟩ := S.at_ i _ hi
      rw [hv] at h1
      cases h1
      obtain ⟨a, us, rfl, fa, ha, r⟩ := h2
      cases h with
      | cons r0 t =>
        cases t
        refine ⟨⟨a, us, _, rfl, rfl, ha, by rw [← r.length]; exact hl, k _ _ _ (S.write hi rfl hv rfl ⟨a, _, rfl, fa, upd_same, r.append (.cons r0 .nil)⟩) .non⟩, rfl⟩
    · cases e
  · split at e
    · rename_i xs y hy
      cases e
      obtain ⟨u, h1, h2⟩ := S.at_ i _ hi
      rw [hv] at h1
      cases h1
      obtain ⟨a, us, rfl, fa, ha, r⟩ := h2
      cases h
      rw [r.length] at hy
      obtain ⟨z, hz, rz⟩ := r.get hy
      exact ⟨⟨a, us, z, rfl, rfl, ha, hz, k _ _ _ (S.write hi rfl hv rfl ⟨a, _, rfl, fa, upd_same, r.dropLast⟩) rz⟩, rfl⟩
    · cases e
  · split at e
    · rename_i xs j hj
      split at e
      · rename_i n hn
        split at e
        · rename_i y hy
          cases e
          obtain ⟨u, h1, h2⟩ := S.at_ i _ hi
          rw [hv] at h1
          cases h1
          obtain ⟨a, us, rfl, fa, ha, r⟩ := h2
          cases h with
          | cons r0 t =>
            cases t
            cases r0
            obtain ⟨z, hz, rz⟩ := r.get hy
            exact ⟨⟨a, us, j, n, z, rfl, rfl, ha, hj.1, hj.2, by rw [← r.length]; exact hn, hz, k _ _ _ (S.write hi rfl hv rfl ⟨a, _, rfl, fa, upd_same, r.eraseIdx n⟩) rz⟩, rfl⟩
        · cases e
      · cases e
    · cases e
  · split at e
    · rename_i xs zs hl
      cases e
      obtain ⟨u, h1, h2⟩ := S.at_ i _ hi
      rw [hv] at h1
      cases h1
      obtain ⟨a, us, rfl, fa, ha, r⟩ := h2
      cases h with
      | cons r0 t =>
        cases t
        cases r0 with
        | lst hb rz =>
          exact ⟨⟨a, _, us, _, rfl, rfl, ha, S.sub _ _ hb, by rw [← r.length, ← rz.length]; exact hl, k _ _ _ (S.write hi rfl hv rfl ⟨a, _, rfl, fa, upd_same, r.append rz⟩) .non⟩, rfl⟩
    · cases e
  · cases e
end

/-! ### the look -/
/-- names of the module -/
structure Gt where
  fn : List (Str × Nat)
  io : List (List Nat)
  con : List (Str × D)
  cls : List (Str × Nat)
def visB (sc : Scope) (x : Str) : Bool := match sc.names.lookup x with
  | some .local => true
  | some .cell => true
  | some .free => true
  | _ => false
def locB (sc : Scope) (x : Str) : Bool := match sc.names.lookup x with
  | some .local => true
  | some .cell => true
  | _ => false
def varB (N : List Str) (sc : Scope) (i : Nat) : Expr → Bool
  | .Name x _ => decide (N[i]? = some x) && visB sc x && !(x == ("__debug__" : Str)) && !(x == ("__classdict__" : Str))
  | _ => false
def glB (sc : Scope) (x : Str) : Bool := decide (sc.names.lookup x = some .globalImplicit) && !(x == ("__debug__" : Str))
/-- constants -/
def sameD : D → D → Bool
  | .non, .non => true
  | .bl a, .bl b => a == b
  | .int a, .int b => decide (a = b)
  | .str a, .str b => decide (a = b)
  | _, _ => false
theorem sameD_eq {a b : D} (h : sameD a b = true) : a = b := by
  unfold sameD at h
  split at h <;> simp_all
def conD (Γ : Gt) (sc : Scope) : Expr → Option D
  | .Constant (.int n) _ _ => some (.int n)
  | .Constant (.str x) _ _ => some (.str x)
  | .Constant (.bool b) _ _ => some (.bl b)
  | .Constant .none _ _ => some .non
  | .Name x _ => if glB sc x then Γ.con.lookup x else none
  | _ => none
def conB (Γ : Gt) (sc : Scope) (d : D) (e : Expr) : Bool := match conD Γ sc e with
  | some d' => sameD d d'
  | none => false
def clsB (Γ : Gt) (sc : Scope) (k : Cls1) : Expr → Bool
  | .Name x _ => glB sc x && match k with
    | .int => decide (x = "int") | .bool => decide (x = "bool") | .str => decide (x = "str") | .tuple => decide (x = "tuple") | .list => decide (x = "list") | .dict => decide (x = "dict")
    | .own c => decide (Γ.cls.lookup x = some c)
  | _ => false
def clssB (Γ : Gt) (sc : Scope) : List Cls1 → List Expr → Bool
  | [], [] => true
  | k :: ks, e :: es => clsB Γ sc k e && clssB Γ sc ks es
  | _, _ => false
def noSlice : Expr → Bool
  | .Slice _ _ _ _ => false
  | _ => true
def noSet : Expr → Bool
  | .Set _ _ _ => false
  | _ => true
def noStar : Expr → Bool
  | .Starred _ _ => false
  | _ => true
def plainT : Expr → Bool
  | .UnaryOp .Not _ _ => false
  | .BoolOp _ _ _ => false
  | .IfExp _ _ _ _ => false
  | .Compare _ _ _ _ => false
  | _ => true
/-- what yields bools alone -/
def boolE : Ex → Bool
  | .not _ => true
  | .and _ _ => true
  | .or _ _ => true
  | .cmp _ _ _ => true
  | .chn _ _ _ _ _ => true
  | _ => false
def isIo : Ex → Option Nat
  | .io i => some i
  | _ => none
/-- what stands ahead of a method's name -/
def baseB : Expr → Bool
  | .Name _ _ => true
  | .Attribute _ _ _ => true
  | .Subscript _ _ _ => true
  | _ => false

mutual
def tgB (N : List Str) (sc : Scope) (pr : List Nat) : Tg → Expr → Bool
  | .nm i, .Name x _ => decide (N[i]? = some x) && locB sc x && !pr.contains i
  | .tp ts, .Tuple es _ _ => tgsB N sc pr ts es
  | _, _ => false
def tgsB (N : List Str) (sc : Scope) (pr : List Nat) : List Tg → List Expr → Bool
  | [], [] => true
  | t :: ts, .Starred _ _ :: es => false
  | t :: ts, e :: es => tgB N sc pr t e && tgsB N sc pr ts es
  | _, _ => false
end
/-- a target stays within the block's own slots -/
def tgOwn (own : List Nat) : Tg → Bool
  | .nm i => own.contains i
  | .tp ts => ts.all fun t => match t with
    | .nm i => own.contains i
    | _ => false
def ownNames (N : List Str) : List Nat → Option (List (Str × Nat))
  | [] => some []
  | i :: r => match N[i]?, ownNames N r with
    | some x, some q => some ((x, i) :: q)
    | _, _ => none

/-- the pattern of [::-1] -/
def isRev : Option Expr → Option Expr → Option Expr → Bool
  | none, none, some (.UnaryOp .USub (.Constant (.int n) _ _) _) => decide (n = 1)
  | _, _, _ => false
/-- the look in mode m (0: a value, 1: a test, 2: walked), of what is looked at as a value -/
def gen (m : Nat) (x : Expr) (v : Bool) : Bool := match m with
  | 0 => v
  | 1 => plainT x && v
  | _ => noSet x && v
mutual
def chk (Γ : Gt) (N : List Str) : Ex → Scope → Nat → Expr → Expr → Bool
  | .var i, sc, m, _, x => gen m x (varB N sc i x)
  | .io _, _, _, _, _ => false
  | .con d, sc, m, _, x => gen m x (conB Γ sc d x)
  | .bin o a b, sc, m, _, x => gen m x (match x with
    | .BinOp l op r _ => decide (op = bopO o) && chk Γ N a sc 0 l l && chk Γ N b sc 0 r r
    | _ => false)
  | .neg a, sc, m, _, x => gen m x (match x with
    | .UnaryOp .USub e _ => chk Γ N a sc 0 e e
    | _ => false)
  | .not a, sc, m, _, x => decide (m ≤ 1) && match x with
    | .UnaryOp .Not e _ => chk Γ N a sc m e e
    | _ => false
  | .and a b, sc, m, _, x => decide (m ≤ 1) && match x with
    | .BoolOp .And (x :: y :: r) p => chk Γ N a sc m x x && match r with
      | [] => chk Γ N b sc m y y
      | z :: r => chk Γ N b sc m y (.BoolOp .And (y :: z :: r) p)
    | _ => false
  | .or a b, sc, m, _, x => decide (m ≤ 1) && match x with
    | .BoolOp .Or (x :: y :: r) p => chk Γ N a sc m x x && match r with
      | [] => chk Γ N b sc m y y
      | z :: r => chk Γ N b sc m y (.BoolOp .Or (y :: z :: r) p)
    | _ => false
  | .cmp o a b, sc, m, _, x => decide (m ≤ 1) && match x with
    | .Compare l [op] [r] _ => decide (op = copO o) && !behindInMarks op r && chk Γ N a sc 0 l l && chk Γ N b sc 0 r r
    | _ => false
  | .chn o o' a b d, sc, m, _, x => decide (m ≤ 1) && match x with
    | .Compare l [op, op'] [r, s] _ => decide (op = copO o) && decide (op' = copO o') && !lastMarks [op, op'] [r, s] && chk Γ N a sc 0 l l && chk Γ N b sc 0 r r && chk Γ N d sc 0 s s
    | _ => false
  | .ite d a b, sc, m, _, x => gen m x (match x with
    | .IfExp t x y _ => chk Γ N d sc 1 t t && chk Γ N a sc 0 x x && chk Γ N b sc 0 y y
    | _ => false)
  | .call f as, sc, m, _, x => gen m x (match x with
    | .Call (.Name x _) (e :: es) [] _ => glB sc x && decide (Γ.fn.lookup x = some f) && chkAs Γ N as sc (e :: es)
    | _ => false)
  | .blt b as, sc, m, _, x => gen m x (match x with
    | .Call (.Name x _) (e :: es) [] _ => glB sc x && decide (x = b.nm) && chks Γ N as sc (e :: es)
    | _ => false)
  | .isi a tp ks, sc, m, _, x => gen m x (match x with
    | .Call (.Name x _) [e, t] [] _ => glB sc x && decide (x = "isinstance") && chk Γ N a sc 0 e e && noStar e && match tp, ks, t with
      | false, [k], t => clsB Γ sc k t
      | true, ks, .Tuple es _ _ => clssB Γ sc ks es && decide (es.length ≤ 1000)
      | _, _, _ => false
    | _ => false)
  | .mth _ _ _, _, _, _, _ => false
  | .mut mm i as, sc, m, _, x => gen m x (match x with
    | .Call (.Attribute o at_ ap) es [] p => varB N sc i o && decide (at_ = mm.nm) && (ap.endLine == p.line) && (match es with
      | [] => (match mm with | .pop => true | _ => false) && (match as with | [] => true | _ => false)
      | _ :: _ => (match mm with | .pop => false | _ => true) && decide (es.length < 10) && chks Γ N as sc es)
    | _ => false)
  | .ix a b, sc, m, _, x => gen m x (match x with
    | .Subscript e s _ => noSlice s && chk Γ N a sc 0 e e && chk Γ N b sc 0 s s
    | _ => false)
  | .sl a lo hi, sc, m, _, x => gen m x (match x with
    | .Subscript e (.Slice l h none _) _ => chk Γ N a sc 0 e e && chkI Γ N lo sc l && chkI Γ N hi sc h
    | _ => false)
  | .rev a, sc, m, _, x => gen m x (match x with
    | .Subscript e (.Slice l h st _) _ => isRev l h st && chk Γ N a sc 0 e e
    | _ => false)
  | .fld _ _ _, _, _, _, _ => false
  | .tup as, sc, m, _, x => gen m x (match x with
    | .Tuple es _ _ => chks Γ N as sc es && decide (es.length ≤ 1000)
    | _ => false)
  | .lst as, sc, m, _, x => gen m x (match x with
    | .List es _ => chks Γ N as sc es && decide (es.length ≤ 1000)
    | _ => false)
  | .rng as, sc, m, _, x => decide (m = 2) && match x with
    | .Call (.Name x _) (e :: es) [] _ => glB sc x && decide (x = "range") && decide (es.length ≤ 1) && chks Γ N as sc (e :: es)
    | _ => false
  | .lrg tp as, sc, m, _, x => gen m x (match x with
    | .Call (.Name f _) [.Call (.Name r _) (e :: es) [] _] [] _ => glB sc f && decide (f = if tp then "tuple" else "list") && glB sc r && decide (r = "range") && decide (es.length ≤ 1) && chks Γ N as sc (e :: es)
    | _ => false)
  | .enm a, sc, m, t, x => decide (m = 2) && match t, x with
    | .Tuple _ _ _, .Call (.Name x _) [e] [] _ => glB sc x && decide (x = "enumerate") && noStar e && chk Γ N a sc 0 e e
    | _, _ => false
  | .zip a b, sc, m, t, x => decide (m = 2) && match t, x with
    | .Tuple _ _ _, .Call (.Name x _) [e, e2] [] _ => glB sc x && decide (x = "zip") && noStar e && noStar e2 && chk Γ N a sc 0 e e && chk Γ N b sc 0 e2 e2
    | _, _ => false
  | .lc own t it d e, sc, m, _, x => gen m x (match x with
    | .ListComp elt [⟨tg, iter, ifs, 0⟩] scope _ =>
      chk Γ N it sc 2 tg iter && (match ownNames N own with
        | some on => blkC N sc scope on
        | none => false) && tgB N scope [] t tg && tgOwn own t && chkC Γ N d (relS scope sc) ifs && chk Γ N e (relS scope sc) 0 elt elt
    | _ => false)
  | .dc own t it d k v, sc, m, _, x => gen m x (match x with
    | .DictComp kx vx [⟨tg, iter, ifs, 0⟩] scope _ =>
      chk Γ N it sc 2 tg iter && (match ownNames N own with
        | some on => blkC N sc scope on
        | none => false) && tgB N scope [] t tg && tgOwn own t && chkC Γ N d (relS scope sc) ifs && chk Γ N k (relS scope sc) 0 kx kx && chk Γ N v (relS scope sc) 0 vx vx
    | _ => false)
  | .dk kvs, sc, m, _, x => gen m x (match kvs, x with
    | [], .Dict [] [] _ => true
    | _, _ => false)
  | .dt kvs, sc, m, _, x => gen m x (match x with
    | .Dict [] [] _ => kvs.isEmpty
    | .Dict [some kx] [vx] _ => noStar kx && noStar vx && chks Γ N kvs sc [kx, vx]
    | _ => false)
def chks (Γ : Gt) (N : List Str) : List Ex → Scope → List Expr → Bool
  | [], _, x => match x with
    | [] => true
    | _ => false
  | a :: as, sc, x => match x with
    | e :: es => noStar e && chk Γ N a sc 0 e e && chks Γ N as sc es
    | [] => false
def chkAs (Γ : Gt) (N : List Str) : List Ex → Scope → List Expr → Bool
  | [], _, x => match x with
    | [] => true
    | _ => false
  | a :: as, sc, x => match x with
    | e :: es => noStar e && (match isIo a with
      | some i => varB N sc i e
      | none => chk Γ N a sc 0 e e) && chkAs Γ N as sc es
    | [] => false
def chkI (Γ : Gt) (N : List Str) : Option Ex → Scope → Option Expr → Bool
  | none, _, x => match x with
    | none => true
    | _ => false
  | some a, sc, x => match x with
    | some e => chk Γ N a sc 0 e e
    | none => false
def chkC (Γ : Gt) (N : List Str) : Option Ex → Scope → List Expr → Bool
  | none, _, x => match x with
    | [] => true
    | _ => false
  | some a, sc, x => match x with
    | [e] => chk Γ N a sc 1 e e
    | _ => false
termination_by structural x => x
end
end Cl

/-! Cl, part G: one rule a construct. -/
namespace Cl
open PySem PySem.Spec PyProof.Rows L2

/-- the promise of a def: what its clean run says -/
def spR (T : Tb) (P : Pg) (nc k f : Nat) (np : Nat) : Sp := fun vs H Q E => ∃ F ws, vs.length = np ∧ Sim T F (ws.map some) (vs.map some) H ∧
  match callN P nc k f ws with
  | .ok w os => ∀ F' v H', (∀ a o, F a = some o → F' a = some o) → (∀ a o, F' a = some o → H' a = some o) → (∀ a o, H a = some o → ¬ OwnA (ws.map some) (vs.map some) a → H' a = some o) → (∀ a, H' a = none → H a = none) → (∀ a o, F' a = some o → F a = some o ∨ H a = none ∨ OwnA (ws.map some) (vs.map some) a) →
      Paired (fun i o => ∃ u, vs[i]? = some u ∧ RS T F' H' o u) (ownIx 0 ws) os → RW T F' H H' w v → Q v H'
  | .exc c ds os => ∀ F' cls d H', (∀ a o, F a = some o → F' a = some o) → (∀ a o, F' a = some o → H' a = some o) → (∀ a o, H a = some o → ¬ OwnA (ws.map some) (vs.map some) a → H' a = some o) → (∀ a, H' a = none → H a = none) → (∀ a o, F' a = some o → F a = some o ∨ H a = none ∨ OwnA (ws.map some) (vs.map some) a) →
      Paired (fun i o => ∃ u, vs[i]? = some u ∧ RS T F' H' o u) (ownIx 0 ws) os → XR T F' H' c ds cls d → E cls d H'
  | .bad => False

def bnames : List Str := ["isinstance", "range", "enumerate", "zip", "len", "abs", "int", "all", "any", "sum", "tuple", "list", "min", "max", "sorted", "bool", "str", "dict"]
/-- what a context knows -/
structure Gd (Γ : Gt) (T : Tb) (P : Pg) (nc k : Nat) (Wx : WX) (N : List Str) (sc : Scope) (X : Cx) : Prop where
  kT : X.K = T.K
  hN : X.N = N
  nd : N.Nodup
  hs : X.env.scope = sc
  calm : X.calm = true
  room : Room k X.A
  blt : ∀ x ∈ bnames, X.mg x = none
  con : ∀ x d, Γ.con.lookup x = some d → ∃ u v, X.mg x = some u ∧ RelV v u ∧ ∀ F, DR T F d v
  cls : ∀ x c, Γ.cls.lookup x = some c → X.mg x = some (.ref (T.ca c)) ∧ c < nc
  fns : ∀ x f, Γ.fn.lookup x = some f → ∃ fd fdd ps, P[f]? = some fd ∧ FnOk X.prog X.w X.K X.mg X.base (CX X.prog X.w) k (T.fa f) fdd ps (spR T P nc k f fd.np) ∧ X.mg x = some (.ref (T.fa f)) ∧ PySem.W.keepIn X.K (.ref (T.fa f)) = true ∧ Binds X.K fdd ps []
  tk : Takes X Wx
  cok : ClsOk T nc

  kind : sc.kind = .function
section
variable {Γ : Gt} {T : Tb} {P : Pg} {nc k : Nat} {Wx : WX} {N : List Str} {sc : Scope} {X : Cx}
theorem Gd.u65 (G : Gd Γ T P nc k Wx N sc X) : X.A.units + 65 < cLine := by have := G.room.un; omega
theorem Gd.u1 (G : Gd Γ T P nc k Wx N sc X) : X.A.units + 1 < cLine := by have := G.room.un; omega
theorem Gd.nd' (G : Gd Γ T P nc k Wx N sc X) : X.N.Nodup := by rw [G.hN]; exact G.nd

abbrev evX (P : Pg) (nc k : Nat) : Ex → Sg → R Sg W := ev nc (callN P nc k)
/-- a value's reading -/
abbrev AE (T : Tb) (P : Pg) (nc k : Nat) (Wx : WX) (X : Cx) (e : Ex) (x : Expr) : Prop := PE X x (tE T Wx (evX P nc k e))
abbrev AO (T : Tb) (P : Pg) (nc k : Nat) (Wx : WX) (X : Cx) (e : Ex) (x : Expr) : Prop := PE X x (tO T Wx (opd e (evX P nc k e)))

theorem gl_of (G : Gd Γ T P nc k Wx N sc X) {x : Str} (h : glB sc x = true) : Gl X x ∧ (x == ("__debug__" : Str)) = false := by
  unfold glB at h
  rw [Bool.and_eq_true] at h
  refine ⟨?_, by simpa using h.2⟩
  show X.env.scope.names.lookup x = _
  rw [G.hs]
  exact of_decide_eq_true h.1
theorem vis_of (G : Gd Γ T P nc k Wx N sc X) {x : Str} (h : visB sc x = true) : Vis X.env.scope x := by
  rw [G.hs]
  unfold visB at h
  split at h <;> first | exact .inl (by assumption) | exact .inr (.inl (by assumption)) | exact .inr (.inr (by assumption)) | cases h
theorem var_ok (G : Gd Γ T P nc k Wx N sc X) {i : Nat} {x : Expr} (h : varB N sc i x = true) : PE X x (tVar i) := by
  unfold varB at h
  split at h
  · simp only [Bool.and_eq_true, Bool.not_eq_true', decide_eq_true_eq] at h
    obtain ⟨⟨⟨h1, h2⟩, h3⟩, h4⟩ := h
    exact pe_var (by rw [G.hN]; exact h1) (vis_of G h2) h3 h4
  · cases h

/-! ### names -/
theorem ae_var (G : Gd Γ T P nc k Wx N sc X) {i : Nat} {x : Expr} (h : varB N sc i x = true) : AE T P nc k Wx X (.var i) x := by
  refine (var_ok G h).impC fun σ H Q ⟨F, c, S, q⟩ => ?_
  simp only [evX, ev] at q
  split at q
  · rename_i w hw
    split at q
    · rename_i ow
      obtain ⟨F', v, h1, r, st⟩ := S.freezeSlot hw ow
      exact ⟨v, h1, q F' H st v ⟨r, fun z => nomatch z⟩⟩
    · rename_i ow
      obtain ⟨v, h1, r⟩ := S.at_ i w hw
      exact ⟨v, h1, q F H (.refl S) v ⟨r, fun z => absurd z ow⟩⟩
  · exact q.elim
theorem ao_of {e : Ex} {x : Expr} (h : AE T P nc k Wx X e x) (hv : ∀ i, e = .var i → PE X x (tVar i)) : AO T P nc k Wx X e x := by
  have gen : (∀ f : Sg → R Sg W, opd e f = fun σ => (f σ).bind fun w σ' => .ok (.val w.toD) σ') → AO T P nc k Wx X e x := fun he => by
    refine h.impC fun σ H Q ⟨F, c, S, q⟩ => ⟨F, c, S, ?_⟩
    rw [he] at q
    refine q.bind.mono fun w F1 c1 H1 he st q1 v r => ?_
    obtain ⟨F2, st2, r2, g2⟩ := st.freeze S r
    exact (q.bind' he st2) F2 H1 (.refl st2.sim) v r2
  cases e with
  | var i =>
    refine (hv i rfl).impC fun σ H Q ⟨F, c, S, q⟩ => ?_
    simp only [opd] at q
    split at q
    · rename_i w hw
      obtain ⟨v, h1, r⟩ := S.at_ i w hw
      exact ⟨v, h1, q F H (.refl S) v h1⟩
    · exact q.elim
  | _ => exact gen fun f => rfl
theorem ae_con (G : Gd Γ T P nc k Wx N sc X) {d : D} {x : Expr} (h : conB Γ sc d x = true) : AE T P nc k Wx X (.con d) x := by
  have fin : ∀ {v : V}, (∀ F, DR T F d v) → ∀ σ H Q, tE T Wx (evX P nc k (.con d)) σ H Q → tC v σ H Q := fun {v} r σ H Q ⟨F, c, S, q⟩ => q F H (.refl S) v ⟨r F, fun z => nomatch z⟩
  unfold conB at h
  split at h
  · rename_i d' e
    cases sameD_eq h
    unfold conD at e
    split at e
    · cases e; exact pe_int.impC (fin fun _ => .int _)
    · cases e; exact pe_str.impC (fin fun _ => .str _)
    · cases e; exact pe_bl.impC (fin fun _ => .bl _)
    · cases e; exact pe_non.impC (fin fun _ => .non)
    · split at e
      · rename_i g
        obtain ⟨u, v, h1, h2, h3⟩ := G.con _ _ e
        obtain ⟨g1, g2⟩ := gl_of G g
        exact (pe_glob g1 h1 h2 g2).impC (fin h3)
      · cases e
    · cases e
  · cases h

/-! ### operators -/
section
variable {σ : L2.St} {F : Hp} {c : Sg} {H : Hp} {Q : VK}
/-- what follows, seen from here -/
theorem Kont.of {F0 : Hp} {c0 : Sg} {H0 : Hp} {w : W} (st : Stp T σ F0 c0 H0 F c H) (q : ∀ F' H', Stp T σ F c H F' c H' → ∀ v, RW T F' H0 H' w v → Q v H') : Kont T σ F c H Q w :=
  fun F' v H' s r => q F' H' s v ⟨r.1, fun o a e => st.dom a (r.2 o a e)⟩
end
theorem ae_bin (G : Gd Γ T P nc k Wx N sc X) {o : Bop} {a b : Ex} {l r : Expr} {p : Pos} (ha : AO T P nc k Wx X a l) (hb : AO T P nc k Wx X b r) : AE T P nc k Wx X (.bin o a b) (.BinOp l (bopO o) r p) := by
  refine (pe_op (op_bin o) ha hb).impC fun σ H Q ⟨F, c, S, q⟩ => ⟨F, c, S, ?_⟩
  simp only [evX, ev] at q
  refine q.bind.mono fun x F1 c1 H1 _ st1 q1 v1 r1 => ⟨F1, c1, st1.sim, q1.bind.mono fun y F2 c2 H2 _ st2 q2 v2 r2 => ?_⟩
  obtain ⟨w, e, q3⟩ := q2.ofO
  obtain ⟨x', ex, e⟩ := Option.bind_eq_some_iff.mp e
  obtain ⟨y', ey, e⟩ := Option.bind_eq_some_iff.mp e
  rw [G.kT]
  exact bin_ok st2.sim (rd_ok st2.sim (r1.grow st2.gr) ex) (rd_ok st2.sim r2 ey) e (.of (st1.trans st2) q3)
theorem ae_neg {a : Ex} {l : Expr} {p : Pos} (ha : AO T P nc k Wx X a l) : AE T P nc k Wx X (.neg a) (.UnaryOp .USub l p) := by
  refine (pe_un un_neg ha).impC fun σ H Q ⟨F, c, S, q⟩ => ⟨F, c, S, ?_⟩
  simp only [evX, ev] at q
  refine q.bind.mono fun x F1 c1 H1 _ st1 q1 v1 r1 => ?_
  obtain ⟨w, e, q3⟩ := q1.ofO
  obtain ⟨x', ex, e⟩ := Option.bind_eq_some_iff.mp e
  split at e
  · cases e
    cases (rd_ok st1.sim r1 ex).int
    exact ⟨_, rfl, (Kont.of st1 q3).same st1.sim (.int _)⟩
  · cases e
theorem cmp_imp (G : Gd Γ T P nc k Wx N sc X) {o : Cop} {a b : Ex} (σ : L2.St) (H : Hp) (Q : VK) (q : tE T Wx (evX P nc k (.cmp o a b)) σ H Q) : tOp (rCmp X.K o) (tO T Wx (opd a (evX P nc k a))) (tO T Wx (opd b (evX P nc k b))) σ H Q := by
  obtain ⟨F, c, S, q⟩ := q
  refine ⟨F, c, S, ?_⟩
  simp only [evX, ev] at q
  refine q.bind.mono fun x F1 c1 H1 _ st1 q1 v1 r1 => ⟨F1, c1, st1.sim, q1.bind.mono fun y F2 c2 H2 _ st2 q2 v2 r2 => ?_⟩
  obtain ⟨w, e, q3⟩ := q2.ofO
  obtain ⟨x', ex, e⟩ := Option.bind_eq_some_iff.mp e
  obtain ⟨y', ey, e⟩ := Option.bind_eq_some_iff.mp e
  obtain ⟨b', eb, rfl⟩ := Option.map_eq_some_iff.mp e
  rw [G.kT]
  exact cmp_ok st2.sim (rd_ok st2.sim (r1.grow st2.gr) ex) (rd_ok st2.sim r2 ey) eb ((Kont.of (st1.trans st2) q3).same st2.sim (.bl _))
theorem ae_cmp (G : Gd Γ T P nc k Wx N sc X) {o : Cop} {a b : Ex} {l r : Expr} {p : Pos} (ha : AO T P nc k Wx X a l) (hb : AO T P nc k Wx X b r) (hm : behindInMarks (copO o) r = false) : AE T P nc k Wx X (.cmp o a b) (.Compare l [copO o] [r] p) :=
  (pe_cmpR (op_cmp G.u65 o) ha hb hm).impC (cmp_imp G)
theorem chn_imp (G : Gd Γ T P nc k Wx N sc X) {o o' : Cop} {a b d : Ex} (σ : L2.St) (H : Hp) (Q : VK) (q : tE T Wx (evX P nc k (.chn o o' a b d)) σ H Q) : tChain (rCmp X.K o) (rCmp X.K o') (tO T Wx (opd a (evX P nc k a))) (tO T Wx (opd b (evX P nc k b))) (tO T Wx (opd d (evX P nc k d))) σ H Q := by
  obtain ⟨F, c, S, q⟩ := q
  refine ⟨F, c, S, ?_⟩
  simp only [evX, ev] at q
  refine q.bind.mono fun x F1 c1 H1 _ st1 q1 v1 r1 => ⟨F1, c1, st1.sim, q1.bind.mono fun y F2 c2 H2 _ st2 q2 v2 r2 => ?_⟩
  have q2' := q2.bind
  obtain ⟨b', e, q3⟩ := q2'.ofO
  obtain ⟨x', ex, e⟩ := Option.bind_eq_some_iff.mp e
  obtain ⟨y', ey, e⟩ := Option.bind_eq_some_iff.mp e
  rw [G.kT]
  refine cmp_ok st2.sim (rd_ok st2.sim (r1.grow st2.gr) ex) (rd_ok st2.sim r2 ey) e ⟨b', rfl, ?_⟩
  have q4 := q3 F2 H2 (.refl st2.sim)
  cases b' with
  | false =>
    rw [if_neg Bool.false_ne_true] at q4 ⊢
    exact q4 F2 H2 (.refl st2.sim) _ ⟨.bl _, fun z => nomatch z⟩
  | true =>
    rw [if_pos rfl] at q4 ⊢
    refine ⟨F2, c2, st2.sim, q4.bind.mono fun z F3 c3 H3 _ st3 q5 v3 r3 => ?_⟩
    obtain ⟨w, e, q6⟩ := q5.ofO
    obtain ⟨y2, ey2, e⟩ := Option.bind_eq_some_iff.mp e
    obtain ⟨z', ez, e⟩ := Option.bind_eq_some_iff.mp e
    obtain ⟨b2, eb, rfl⟩ := Option.map_eq_some_iff.mp e
    exact cmp_ok st3.sim (rd_ok st3.sim (r2.grow st3.gr) ey2) (rd_ok st3.sim r3 ez) eb ((Kont.of ((st1.trans st2).trans st3) q6).same st3.sim (.bl _))
theorem ae_chn (G : Gd Γ T P nc k Wx N sc X) {o o' : Cop} {a b d : Ex} {l r s : Expr} {p : Pos} (ha : AO T P nc k Wx X a l) (hb : AO T P nc k Wx X b r) (hd : AO T P nc k Wx X d s) (hm : lastMarks [copO o, copO o'] [r, s] = false) :
    AE T P nc k Wx X (.chn o o' a b d) (.Compare l [copO o, copO o'] [r, s] p) := by
  exact (pe_chain (op_cmp G.u65 o) (op_cmp G.u65 o') ha hb hd hm).impC (chn_imp G)
theorem ae_ix (G : Gd Γ T P nc k Wx N sc X) {a b : Ex} {l r : Expr} {p : Pos} (ha : AO T P nc k Wx X a l) (hb : AO T P nc k Wx X b r) (hn : noSlice r = true) : AE T P nc k Wx X (.ix a b) (.Subscript l r p) := by
  have hp : PlainIx r := fun o i => by cases r <;> first | rfl | cases hn
  refine (pe_ix (ix_all G.u1) ha hb hp).impC fun σ H Q ⟨F, c, S, q⟩ => ⟨F, c, S, ?_⟩
  simp only [evX, ev] at q
  refine q.bind.mono fun x F1 c1 H1 _ st1 q1 v1 r1 => ⟨F1, c1, st1.sim, q1.bind.mono fun y F2 c2 H2 _ st2 q2 v2 r2 => ?_⟩
  obtain ⟨w, e, q3⟩ := q2.ofO
  obtain ⟨x', ex, e⟩ := Option.bind_eq_some_iff.mp e
  obtain ⟨y', ey, e⟩ := Option.bind_eq_some_iff.mp e
  obtain ⟨d, ed, rfl⟩ := Option.map_eq_some_iff.mp e
  rw [G.kT]
  exact ix_ok st2.sim (rd_ok st2.sim (r1.grow st2.gr) ex) (rd_ok st2.sim r2 ey) ed (.of (st1.trans st2) q3)
def AI (T : Tb) (P : Pg) (nc k : Nat) (Wx : WX) (X : Cx) (e : Option Ex) (x : Option Expr) : Prop := PO X x fun σ H Q => ∃ F c, Sim T F c σ H ∧ PostP T Wx σ F c H (evI nc (callN P nc k) e c) fun i _ _ H' => Q i H'
theorem ai_none : AI T P nc k Wx X none none := by
  refine ⟨fun pins s σ H Q I h => po_none.run pins s σ H Q I ?_⟩
  obtain ⟨F, c, S, q⟩ := h
  exact q F H (.refl S)
theorem ai_some {e : Ex} {x : Expr} (h : AO T P nc k Wx X e x) : AI T P nc k Wx X (some e) (some x) := by
  refine ⟨fun pins s σ H Q I q => (po_some h).run pins s σ H Q I ?_⟩
  obtain ⟨F, c, S, q⟩ := q
  refine ⟨F, c, S, ?_⟩
  simp only [evI] at q
  refine q.bind.mono fun x F1 c1 H1 _ st1 q1 v1 r1 => ?_
  obtain ⟨w, e, q3⟩ := q1.ofO
  obtain ⟨x', ex, e⟩ := Option.bind_eq_some_iff.mp e
  split at e
  · cases e
    cases (rd_ok st1.sim r1 ex).int
    exact ⟨_, rfl, q3 F1 H1 (.refl st1.sim)⟩
  · cases e
theorem ae_sl (G : Gd Γ T P nc k Wx N sc X) {a : Ex} {lo hi : Option Ex} {l : Expr} {x y : Option Expr} {p p2 : Pos} (ha : AO T P nc k Wx X a l) (hl : AI T P nc k Wx X lo x) (hh : AI T P nc k Wx X hi y) : AE T P nc k Wx X (.sl a lo hi) (.Subscript l (.Slice x y none p2) p) := by
  refine (pe_slice sl_all ha hl hh).impC fun σ H Q ⟨F, c, S, q⟩ => ⟨F, c, S, ?_⟩
  simp only [evX, ev] at q
  refine q.bind.mono fun x F1 c1 H1 _ st1 q1 v1 r1 => ⟨F1, c1, st1.sim, q1.bind.mono fun i F2 c2 H2 _ st2 q2 => ⟨F2, c2, st2.sim, q2.bind.mono fun j F3 c3 H3 _ st3 q3 => ?_⟩⟩
  obtain ⟨w, e, q4⟩ := q3.ofO
  obtain ⟨x', ex, e⟩ := Option.bind_eq_some_iff.mp e
  rw [G.kT]
  exact sl_ok st3.sim (rd_ok st3.sim ((r1.grow st2.gr).grow st3.gr) ex) e (.of ((st1.trans st2).trans st3) q4)

/-! ### arguments -/
theorem star_of {e : Expr} (h : (match e with | .Starred _ _ => false | _ => true) = true) (es : List Expr) (env : Env) : starEach (e :: es) env = (false, eval e env) :: starEach es env := by
  cases e <;> first | rfl | cases h
theorem star_each {e : Expr} (h : noStar e = true) (es : List Expr) (env : Env) : starEach (e :: es) env = (false, eval e env) :: starEach es env := by
  cases e <;> first | rfl | cases h
theorem star_any {p : Pos} {env : Env} : ∀ {es : List Expr}, es.all noStar = true → (backTo p (starEach es env)).any (·.1) = false
  | [], _ => rfl
  | e :: es, h => by
    rw [List.all_cons, Bool.and_eq_true] at h
    rw [star_each h.1]
    show (false || (backTo p (starEach es env)).any (·.1)) = false
    rw [star_any h.2]
    rfl
theorem star_all {p : Pos} {env : Env} : ∀ {es : List Expr}, es.all noStar = true → (backTo p (starEach es env)).all (fun x => !x.1) = true
  | [], _ => rfl
  | e :: es, h => by
    rw [List.all_cons, Bool.and_eq_true] at h
    rw [star_each h.1]
    show (true && (backTo p (starEach es env)).all (fun x => !x.1)) = true
    rw [star_all h.2]
    rfl
abbrev ADs (T : Tb) (P : Pg) (nc k : Nat) (Wx : WX) (X : Cx) (es : List Ex) (xs : List Expr) : Prop := PA X xs (tDs T Wx (evDs nc (callN P nc k) es))
abbrev AOs (T : Tb) (P : Pg) (nc k : Nat) (Wx : WX) (X : Cx) (es : List Ex) (xs : List Expr) : Prop := PA X xs (tOs T Wx (evOs nc (callN P nc k) es))
theorem ads_nil : ADs T P nc k Wx X [] [] := pa_nil.impC fun σ H Q ⟨F, c, S, q⟩ => q F H (.refl S) [] .nil
theorem ads_cons {e : Ex} {es : List Ex} {x : Expr} {xs : List Expr} (h : AE T P nc k Wx X e x) (hs : ADs T P nc k Wx X es xs) (hn : noStar x = true) : ADs T P nc k Wx X (e :: es) (x :: xs) := by
  refine (pa_cons h hs (star_each hn xs X.env)).impC fun σ H Q ⟨F, c, S, q⟩ => ⟨F, c, S, ?_⟩
  simp only [evDs] at q
  refine q.bind.mono fun w F1 c1 H1 he st1 q1 v1 r1 => ?_
  obtain ⟨F2, st2, r2, g2⟩ := st1.freeze S r1
  refine ⟨F2, c1, st2.sim, (q.bind' he st2).bind.mono fun ds F3 c3 H3 _ st3 q3 vs rs => ?_⟩
  exact q3 F3 H3 (.refl st3.sim) (v1 :: vs) (.cons (r2.grow st3.gr) rs)
theorem aos_nil : AOs T P nc k Wx X [] [] := pa_nil.impC fun σ H Q ⟨F, c, S, q⟩ => q F H (.refl S) [] .nil
theorem aos_cons {e : Ex} {es : List Ex} {x : Expr} {xs : List Expr} (h : AO T P nc k Wx X e x) (hs : AOs T P nc k Wx X es xs) (hn : noStar x = true) : AOs T P nc k Wx X (e :: es) (x :: xs) := by
  refine (pa_cons h hs (star_each hn xs X.env)).impC fun σ H Q ⟨F, c, S, q⟩ => ⟨F, c, S, ?_⟩
  simp only [evOs] at q
  refine q.bind.mono fun w F1 c1 H1 _ st1 q1 v1 r1 => ⟨F1, c1, st1.sim, q1.bind.mono fun ds F3 c3 H3 _ st3 q3 vs rs => ?_⟩
  exact q3 F3 H3 (.refl st3.sim) (v1 :: vs) (.cons (r1.grow st3.gr) rs)

/-! ### displays -/
theorem small_line {n : Nat} (h : n ≤ 1000) : n ≤ sizeLine := by rw [sizeLine_eq]; omega
theorem evDs_len {cl : Calls} : ∀ {es : List Ex} {c : Sg} {ds : List D} {c' : Sg}, evDs nc cl es c = .ok ds c' → ds.length = es.length
  | [], c, ds, c', h => by simp only [evDs] at h; cases h; rfl
  | e :: es, c, ds, c', h => by
    simp only [evDs] at h
    cases h1 : ev nc cl e c with
    | bad => rw [h1] at h; cases h
    | exc _ _ _ => rw [h1] at h; cases h
    | ok w c1 =>
      rw [h1, R.bind_ok] at h
      cases h2 : evDs nc cl es c1 with
      | bad => rw [h2] at h; cases h
      | exc _ _ _ => rw [h2] at h; cases h
      | ok ds' c2 =>
        rw [h2, R.bind_ok] at h
        cases h
        rw [List.length_cons, List.length_cons, evDs_len h2]
theorem ae_tup {es : List Ex} {xs : List Expr} {n : Nat} {p : Pos} (h : ADs T P nc k Wx X es xs) (hl : es.length ≤ 1000) : AE T P nc k Wx X (.tup es) (.Tuple xs n p) := by
  refine (pe_tup h).impC fun σ H Q ⟨F, c, S, q⟩ => ⟨F, c, S, ?_⟩
  simp only [evX, ev] at q
  refine q.bind.mono fun ds F1 c1 H1 he st1 q1 vs rs => ⟨?_, fun p hp => ?_⟩
  · rw [← rs.length, evDs_len he]; exact small_line hl
  · exact (Kont.of st1 q1).tup st1.sim rs hp
theorem ae_lst {es : List Ex} {xs : List Expr} {p : Pos} (h : ADs T P nc k Wx X es xs) (hl : es.length ≤ 1000) : AE T P nc k Wx X (.lst es) (.List xs p) := by
  refine (pe_lst h).impC fun σ H Q ⟨F, c, S, q⟩ => ⟨F, c, S, ?_⟩
  simp only [evX, ev] at q
  refine q.bind.mono fun ds F1 c1 H1 he st1 q1 vs rs => ⟨?_, fun p hp => ?_⟩
  · rw [← rs.length, evDs_len he]; exact small_line hl
  · exact (Kont.of st1 q1).lst st1.sim rs hp
theorem ae_dk0 {p : Pos} : AE T P nc k Wx X (.dk []) (.Dict [] [] p) := by
  refine pe_dnewK.impC fun σ H Q ⟨F, c, S, q⟩ p hp => ?_
  simp only [evX, ev, evDs, R.bind_ok, putAll, Option.map_some, ofO_some] at q
  exact q F _ (S.newH hp) _ ⟨⟨p, [], rfl, S.notF hp, upd_same, rfl, .nil⟩, fun _ a e => by cases e; exact hp⟩
theorem ae_dt0 {p : Pos} : AE T P nc k Wx X (.dt []) (.Dict [] [] p) := by
  refine pe_dnewT.impC fun σ H Q ⟨F, c, S, q⟩ p hp => ?_
  simp only [evX, ev, evDs, R.bind_ok, putAll, Option.map_some, ofO_some] at q
  exact q F _ (S.newH hp) _ ⟨⟨p, [], rfl, S.notF hp, upd_same, rfl, .nil⟩, fun _ a e => by cases e; exact hp⟩

/-! ### built-ins, isinstance, changing methods -/
theorem blt_mem (b : Blt) : b.nm ∈ bnames := by cases b <;> decide +kernel
theorem blt_boot (b : Blt) : bootBuiltins b.nm = some b.vl := by cases b <;> decide +kernel
theorem ae_blt (G : Gd Γ T P nc k Wx N sc X) {b : Blt} {es : List Ex} {x : Expr} {xs : List Expr} {p p2 : Pos} (h : AOs T P nc k Wx X es (x :: xs)) (hg : glB sc b.nm = true) (hn : (x :: xs).all noStar = true) : AE T P nc k Wx X (.blt b es) (.Call (.Name b.nm p2) (x :: xs) [] p) := by
  obtain ⟨g1, g2⟩ := gl_of G hg
  have hn' : noStar x = true ∧ xs.all noStar = true := by rw [List.all_cons, Bool.and_eq_true] at hn; exact hn
  have nm : b.nm ≠ "__name__" := by cases b <;> decide +kernel
  have main : PE X (.Call (.Name b.nm p2) (x :: xs) [] p) (tCB (rBlt X.K b) (tOs T Wx (evOs nc (callN P nc k) es))) := by
    have hm := G.blt _ (blt_mem b)
    have hv := blt_boot b
    have hc := call_blt G.calm b
    cases b <;> first
      | exact pe_callB hc g1 hm hv h nm g2 (star_each hn'.1 _ _) (star_any hn'.2)
      | exact pe_callTy hc g1 hm hv h nm g2 (star_each hn'.1 _ _) (star_any hn'.2)
  refine main.impC fun σ H Q ⟨F, c, S, q⟩ => ⟨F, c, S, ?_⟩
  simp only [evX, ev] at q
  refine q.bind.mono fun ys F1 c1 H1 _ st1 q1 vs rs => ?_
  obtain ⟨w, e, q3⟩ := q1.ofO
  obtain ⟨ds, ed, e⟩ := Option.bind_eq_some_iff.mp e
  rw [G.kT]
  exact blt_ok st1.sim (rds_ok st1.sim rs ed) e (.of st1 q3)
end
end Cl

/-! Cl, part H: one rule a construct, on. -/
namespace Cl
open PySem PySem.Spec PyProof.Rows L2
section
variable {Γ : Gt} {T : Tb} {P : Pg} {nc k : Nat} {Wx : WX} {N : List Str} {sc : Scope} {X : Cx}

theorem DT.keep {F H H' : Hp} {d : D} {v : V} (h : DT T F H d v) (m : ∀ a o, H a = some o → H' a = some o) : DT T F H' d v := by
  rcases h with h | ⟨w, o, e, h⟩
  · exact .inl h
  · exact .inr ⟨w, o, e, h.keep (fun _ _ q => q) (fun a o' e' => by
      obtain ⟨b, e2, f, _⟩ := h.own_at o
      rw [e'] at e2; cases e2; exact f) fun a x _ _ q => m a x q⟩
theorem RW.later {F' H0 H H' : Hp} {w : W} {v : V} (r : RW T F' H H' w v) (dom : ∀ a, H a = none → H0 a = none) : RW T F' H0 H' w v := ⟨r.1, fun o a e => dom a (r.2 o a e)⟩
/-- a reading asked from here on -/
theorem tE_on {f : Sg → R Sg W} {σ : L2.St} {F F1 H H1 : Hp} {c c1 : Sg} {Q : VK} (st : Stp T σ F c H F1 c1 H1) (q : PostP T Wx σ F1 c1 H1 (f c1) fun w F' _ H' => ∀ v, RW T F' H H' w v → Q v H') : tE T Wx f σ H1 Q :=
  ⟨F1, c1, st.sim, q.mono fun w F2 c2 H2 _ _ q2 v r => q2 v (r.later st.dom)⟩

/-! ### isinstance -/
theorem cls_ok (G : Gd Γ T P nc k Wx N sc X) {c : Cls1} {x : Expr} (h : clsB Γ sc c x = true) : PE X x (tC (c.v T)) ∧ clsBelow nc c = true := by
  unfold clsB at h
  split at h
  · rw [Bool.and_eq_true] at h
    obtain ⟨g1, g2⟩ := gl_of G h.1
    cases c with
    | own j =>
      obtain ⟨m, hj⟩ := G.cls _ _ (of_decide_eq_true h.2)
      exact ⟨pe_glob g1 m rfl g2, decide_eq_true hj⟩
    | int => cases of_decide_eq_true h.2; exact ⟨pe_bltn g1 (G.blt _ (by decide +kernel)) (u := .type "int") (by decide +kernel) rfl (by decide +kernel) g2, rfl⟩
    | bool => cases of_decide_eq_true h.2; exact ⟨pe_bltn g1 (G.blt _ (by decide +kernel)) (u := .type "bool") (by decide +kernel) rfl (by decide +kernel) g2, rfl⟩
    | str => cases of_decide_eq_true h.2; exact ⟨pe_bltn g1 (G.blt _ (by decide +kernel)) (u := .type "str") (by decide +kernel) rfl (by decide +kernel) g2, rfl⟩
    | tuple => cases of_decide_eq_true h.2; exact ⟨pe_bltn g1 (G.blt _ (by decide +kernel)) (u := .type "tuple") (by decide +kernel) rfl (by decide +kernel) g2, rfl⟩
    | list => cases of_decide_eq_true h.2; exact ⟨pe_bltn g1 (G.blt _ (by decide +kernel)) (u := .type "list") (by decide +kernel) rfl (by decide +kernel) g2, rfl⟩
    | dict => cases of_decide_eq_true h.2; exact ⟨pe_bltn g1 (G.blt _ (by decide +kernel)) (u := .type "dict") (by decide +kernel) rfl (by decide +kernel) g2, rfl⟩
  · cases h
theorem cls_noStar {c : Cls1} {x : Expr} (h : clsB Γ sc c x = true) : noStar x = true := by
  unfold clsB at h
  split at h
  · rfl
  · cases h
theorem clss_ok (G : Gd Γ T P nc k Wx N sc X) : ∀ {ks : List Cls1} {xs : List Expr}, clssB Γ sc ks xs = true → PA X xs (fun _ H Q => Q (ks.map (Cls1.v T)) H) ∧ ks.all (clsBelow nc) = true ∧ ks.length = xs.length
  | [], [], _ => ⟨pa_nil, rfl, rfl⟩
  | [], _ :: _, h => by simp [clssB] at h
  | _ :: _, [], h => by simp [clssB] at h
  | c :: ks, x :: xs, h => by
    simp only [clssB, Bool.and_eq_true] at h
    obtain ⟨h1, h2⟩ := cls_ok G h.1
    obtain ⟨h3, h4, h5⟩ := clss_ok G h.2
    exact ⟨pa_cons h1 h3 (star_each (cls_noStar h.1) xs X.env), by rw [List.all_cons, h2, h4]; rfl, by simp [h5]⟩
theorem isi_boot : bootBuiltins "isinstance" = some (.builtin "isinstance") := by decide +kernel
theorem ae_isi1 (G : Gd Γ T P nc k Wx N sc X) {a : Ex} {c : Cls1} {x t : Expr} {p p2 : Pos} (ha : AO T P nc k Wx X a x) (hn : noStar x = true) (hg : glB sc "isinstance" = true) (hc : clsB Γ sc c t = true) : AE T P nc k Wx X (.isi a false [c]) (.Call (.Name "isinstance" p2) [x, t] [] p) := by
  obtain ⟨g1, g2⟩ := gl_of G hg
  obtain ⟨h1, h2⟩ := cls_ok G hc
  have nt := cls_noStar hc
  refine (pe_callB call_isi g1 (G.blt _ (by decide +kernel)) isi_boot (pa_cons ha (pa_cons h1 pa_nil (star_each nt [] X.env)) (star_each hn [t] X.env)) (by decide +kernel) g2 (star_each hn [t] X.env) (star_any (by simp [nt]))).impC fun σ H Q ⟨F, cc, S, q⟩ => ⟨F, cc, S, ?_⟩
  simp only [evX, ev] at q
  refine q.bind.mono fun y F1 c1 H1 _ st1 q1 v1 r1 => ?_
  obtain ⟨w, e, q3⟩ := q1.ofO
  obtain ⟨d, ed, e⟩ := Option.bind_eq_some_iff.mp e
  split at e
  · rename_i o
    rw [Bool.and_eq_true] at o
    cases e
    obtain ⟨ty, e1, e2⟩ := ty_ok st1.sim G.cok (rd_ok st1.sim r1 ed) o.1 o.2
    refine ⟨v1, c.v T, ty, c.val T, _, rfl, (c.rel T).2, by rw [G.kT]; exact e2, by rw [G.kT]; exact kit_one G.cok e1 o.2 c h2, ?_⟩
    have := (Kont.of st1 q3).same st1.sim (.bl _)
    simpa using this
  · cases e
theorem ae_isi2 (G : Gd Γ T P nc k Wx N sc X) {a : Ex} {cs : List Cls1} {x : Expr} {xs : List Expr} {p p2 p3 : Pos} {n : Nat} (ha : AO T P nc k Wx X a x) (hn : noStar x = true) (hg : glB sc "isinstance" = true) (hc : clssB Γ sc cs xs = true) (hl : xs.length ≤ 1000) :
    AE T P nc k Wx X (.isi a true cs) (.Call (.Name "isinstance" p2) [x, .Tuple xs n p3] [] p) := by
  obtain ⟨g1, g2⟩ := gl_of G hg
  obtain ⟨h1, h2, h3⟩ := clss_ok G hc
  refine (pe_callB call_isiT g1 (G.blt _ (by decide +kernel)) isi_boot (pa_cons ha (pa_cons (pe_tup h1) pa_nil rfl) (star_each hn _ X.env)) (by decide +kernel) g2 (star_each hn _ X.env) rfl).impC fun σ H Q ⟨F, cc, S, q⟩ => ⟨F, cc, S, ?_⟩
  simp only [evX, ev] at q
  refine q.bind.mono fun y F1 c1 H1 _ st1 q1 v1 r1 => ⟨by rw [List.length_map, h3]; exact small_line hl, fun p hp => ?_⟩
  obtain ⟨w, e, q3⟩ := q1.ofO
  obtain ⟨d, ed, e⟩ := Option.bind_eq_some_iff.mp e
  split at e
  · rename_i o
    rw [Bool.and_eq_true] at o
    cases e
    have st2 := st1.sim.newH (p := p) (o := .tup (cs.map (Cls1.v T))) hp
    obtain ⟨ty, e1, e2⟩ := ty_ok st2.sim G.cok ((rd_ok st1.sim r1 ed).keep (upd_old hp)) o.1 o.2
    refine ⟨v1, p, _, ty, _, _, rfl, upd_same, cls_vals T cs, by rw [G.kT]; exact e2, by rw [G.kT]; exact kit_any G.cok e1 o.2 cs h2, ?_⟩
    exact q3 _ _ st2 _ ⟨.bl _, fun z => nomatch z⟩
  · cases e

/-! ### not, and, or, if .. else -/
theorem tst_post {e : Ex} {f : Sg → R Sg W} {σ : L2.St} {F H : Hp} {c : Sg} {K : Bool → Hp → Sg → Hp → Prop} (q : PostP T Wx σ F c H (tst e f c) K) :
    PostP T Wx σ F c H (opd e f c) fun x F1 c1 H1 => ∀ v, RO T F1 σ x v → ∃ b, TruV T.K v H1 b ∧ K b F1 c1 H1 := by
  unfold tst at q
  refine q.bind.mono fun x F1 c1 H1 _ st q1 v r => ?_
  obtain ⟨b, e, q2⟩ := q1.ofO
  obtain ⟨d, ed, e⟩ := Option.bind_eq_some_iff.mp e
  exact ⟨b, truth_ok st.sim (rd_ok st.sim r ed) e, q2 F1 H1 (.refl st.sim)⟩
theorem ae_not (G : Gd Γ T P nc k Wx N sc X) {a : Ex} {x : Expr} {p : Pos} (ha : AO T P nc k Wx X a x) : AE T P nc k Wx X (.not a) (.UnaryOp .Not x p) := by
  refine (pe_notT ha).impC fun σ H Q ⟨F, c, S, q⟩ => ⟨F, c, S, ?_⟩
  simp only [evX, ev] at q
  refine (tst_post q.bind).mono fun y F1 c1 H1 _ st1 q1 v1 r1 => ?_
  obtain ⟨b, t, q2⟩ := q1 v1 r1
  exact ⟨b, by rw [G.kT]; exact t, q2 F1 H1 (.refl st1.sim) _ ⟨.bl _, fun z => nomatch z⟩⟩
theorem ae_and {a b : Ex} {x y : Expr} {rest : List Expr} {p : Pos} (ha : AE T P nc k Wx X a x) (hb : AE T P nc k Wx X b (.BoolOp .And (y :: rest) p)) : AE T P nc k Wx X (.and a b) (.BoolOp .And (x :: y :: rest) p) := by
  refine (pe_and ha hb).impC fun σ H Q ⟨F, c, S, q⟩ => ⟨F, c, S, ?_⟩
  simp only [evX, ev] at q
  refine q.bind.mono fun w F1 c1 H1 _ st1 q1 v1 r1 => ?_
  split at q1
  · cases r1.1
    refine ⟨true, rfl, ?_⟩
    rw [if_pos rfl]
    refine ⟨F1, c1, st1.sim, q1.bind.mono fun w2 F2 c2 H2 _ st2 q2 v2 r2 => ?_⟩
    split at q2
    · exact q2 F2 H2 (.refl st2.sim) v2 (r2.later st1.dom)
    · exact q2.elim
  · cases r1.1
    refine ⟨false, rfl, ?_⟩
    rw [if_neg Bool.false_ne_true]
    exact q1 F1 H1 (.refl st1.sim) _ ⟨.bl _, fun z => nomatch z⟩
  · exact q1.elim
theorem ae_or {a b : Ex} {x y : Expr} {rest : List Expr} {p : Pos} (ha : AE T P nc k Wx X a x) (hb : AE T P nc k Wx X b (.BoolOp .Or (y :: rest) p)) : AE T P nc k Wx X (.or a b) (.BoolOp .Or (x :: y :: rest) p) := by
  refine (pe_or ha hb).impC fun σ H Q ⟨F, c, S, q⟩ => ⟨F, c, S, ?_⟩
  simp only [evX, ev] at q
  refine q.bind.mono fun w F1 c1 H1 _ st1 q1 v1 r1 => ?_
  split at q1
  · cases r1.1
    refine ⟨false, rfl, ?_⟩
    rw [if_neg Bool.false_ne_true]
    refine ⟨F1, c1, st1.sim, q1.bind.mono fun w2 F2 c2 H2 _ st2 q2 v2 r2 => ?_⟩
    split at q2
    · exact q2 F2 H2 (.refl st2.sim) v2 (r2.later st1.dom)
    · exact q2.elim
  · cases r1.1
    refine ⟨true, rfl, ?_⟩
    rw [if_pos rfl]
    exact q1 F1 H1 (.refl st1.sim) _ ⟨.bl _, fun z => nomatch z⟩
  · exact q1.elim

/-! ### tests -/
def tTb (T : Tb) (Wx : WX) (f : Sg → R Sg W) : TT := fun σ H Q => ∃ F c, Sim T F c σ H ∧ PostP T Wx σ F c H (f c) fun w _ _ H' => ∃ b, w = .d (.bl b) ∧ Q b H'
abbrev BT (T : Tb) (P : Pg) (nc k : Nat) (Wx : WX) (X : Cx) (e : Ex) (x : Expr) : Prop := PT X x (tTb T Wx (evX P nc k e))
abbrev BW (T : Tb) (P : Pg) (nc k : Nat) (Wx : WX) (X : Cx) (e : Ex) (x : Expr) : Prop := PW X x (tTb T Wx (evX P nc k e))
abbrev CT (T : Tb) (P : Pg) (nc k : Nat) (Wx : WX) (X : Cx) (e : Ex) (x : Expr) : Prop := PT X x (tT T Wx (tst e (evX P nc k e)))
theorem plain_is {x : Expr} (h : plainT x = true) (env : Env) (whole : Sem Value) : isTrue x env whole = (do let v ← whole; standAt x.pos; holding [v] (truthy v)) := by
  cases x <;> first | rfl | (cases h; done) | (rename_i op _ _; cases op <;> first | rfl | (cases h; done))
theorem ct_plain (G : Gd Γ T P nc k Wx N sc X) {e : Ex} {x : Expr} (h : AO T P nc k Wx X e x) (hp : plainT x = true) : CT T P nc k Wx X e x := by
  refine (pt_truth h (plain_is hp X.env)).impC fun σ H Q ⟨F, c, S, q⟩ => ⟨F, c, S, ?_⟩
  refine (tst_post q).mono fun y F1 c1 H1 _ st1 q1 v1 r1 => ?_
  obtain ⟨b, t, q2⟩ := q1 v1 r1
  exact ⟨b, by rw [G.kT]; exact t, q2⟩
theorem bt_plain {e : Ex} {x : Expr} (h : AE T P nc k Wx X e x) (hp : plainT x = true) : BT T P nc k Wx X e x := by
  refine (pt_val h (plain_is hp X.env)).impC fun σ H Q ⟨F, c, S, q⟩ => ⟨F, c, S, q.mono fun w F1 c1 H1 _ st1 q1 v1 r1 => ?_⟩
  obtain ⟨b, rfl, q2⟩ := q1
  cases r1.1
  exact ⟨b, rfl, q2⟩
theorem ct_bt {e : Ex} {x : Expr} (h : BT T P nc k Wx X e x) (hv : ∀ i, e ≠ .var i) (hb : ∀ c w c', evX P nc k e c = .ok w c' → ∃ b, w = .d (.bl b)) : CT T P nc k Wx X e x := by
  refine h.impC fun σ H Q ⟨F, c, S, q⟩ => ⟨F, c, S, ?_⟩
  have he : opd e (evX P nc k e) c = (evX P nc k e c).bind fun w σ' => .ok (.val w.toD) σ' := by
    cases e <;> first | rfl | exact absurd rfl (hv _)
  unfold tst at q
  rw [he] at q
  refine q.bind.bind.mono fun w F1 c1 H1 hw st q1 => ?_
  obtain ⟨b, rfl⟩ := hb _ _ _ hw
  exact ⟨b, rfl, q1 F1 H1 (.refl st.sim) F1 H1 (.refl st.sim)⟩
theorem bt_not {a : Ex} {x : Expr} {p : Pos} (ha : CT T P nc k Wx X a x) : BT T P nc k Wx X (.not a) (.UnaryOp .Not x p) := by
  refine (pt_not ha).impC fun σ H Q ⟨F, c, S, q⟩ => ⟨F, c, S, ?_⟩
  simp only [evX, ev] at q
  refine q.bind.mono fun b F1 c1 H1 _ st1 q1 => ?_
  obtain ⟨b', e, q2⟩ := q1 F1 H1 (.refl st1.sim)
  cases e
  exact q2
theorem tTest_bt {e : Ex} {te : TE} {x : Expr} (h : PT X x (tTest te)) (i : ∀ σ H Q, tE T Wx (evX P nc k e) σ H Q → te σ H Q) : BT T P nc k Wx X e x := by
  refine h.impC fun σ H Q ⟨F, c, S, q⟩ => i σ H _ ⟨F, c, S, q.mono fun w F1 c1 H1 _ st1 q1 v1 r1 => ?_⟩
  obtain ⟨b, rfl, q2⟩ := q1
  cases r1.1
  exact ⟨b, rfl, q2⟩
theorem bw_and {a b : Ex} {x y : Expr} {rest : List Expr} {p : Pos} (ha : BT T P nc k Wx X a x) (hb : BW T P nc k Wx X b (.BoolOp .And (y :: rest) p)) : BW T P nc k Wx X (.and a b) (.BoolOp .And (x :: y :: rest) p) := by
  refine (pw_and ha hb).impC fun σ H Q ⟨F, c, S, q⟩ => ⟨F, c, S, ?_⟩
  simp only [evX, ev] at q
  refine q.bind.mono fun w F1 c1 H1 _ st1 q1 => ?_
  split at q1
  · refine ⟨true, rfl, ?_⟩
    show if _ then _ else _
    rw [if_pos rfl]
    refine ⟨F1, c1, st1.sim, q1.bind.mono fun w2 F2 c2 H2 _ st2 q2 => ?_⟩
    split at q2
    · obtain ⟨b, e, q3⟩ := q2 F2 H2 (.refl st2.sim)
      cases e
      exact ⟨_, rfl, q3⟩
    · exact q2.elim
  · refine ⟨false, rfl, ?_⟩
    show if _ then _ else _
    rw [if_neg Bool.false_ne_true]
    obtain ⟨b, e, q3⟩ := q1 F1 H1 (.refl st1.sim)
    cases e
    exact q3
  · exact q1.elim
theorem bw_or {a b : Ex} {x y : Expr} {rest : List Expr} {p : Pos} (ha : BT T P nc k Wx X a x) (hb : BW T P nc k Wx X b (.BoolOp .Or (y :: rest) p)) : BW T P nc k Wx X (.or a b) (.BoolOp .Or (x :: y :: rest) p) := by
  refine (pw_or ha hb).impC fun σ H Q ⟨F, c, S, q⟩ => ⟨F, c, S, ?_⟩
  simp only [evX, ev] at q
  refine q.bind.mono fun w F1 c1 H1 _ st1 q1 => ?_
  split at q1
  · refine ⟨false, rfl, ?_⟩
    show if _ then _ else _
    rw [if_neg Bool.false_ne_true]
    refine ⟨F1, c1, st1.sim, q1.bind.mono fun w2 F2 c2 H2 _ st2 q2 => ?_⟩
    split at q2
    · obtain ⟨b, e, q3⟩ := q2 F2 H2 (.refl st2.sim)
      cases e
      exact ⟨_, rfl, q3⟩
    · exact q2.elim
  · refine ⟨true, rfl, ?_⟩
    show if _ then _ else _
    rw [if_pos rfl]
    obtain ⟨b, e, q3⟩ := q1 F1 H1 (.refl st1.sim)
    cases e
    exact q3
  · exact q1.elim
theorem bw_one {a : Ex} {x : Expr} {p : Pos} {op : BoolOp} (ha : BT T P nc k Wx X a x) : BW T P nc k Wx X a (.BoolOp op [x] p) := by
  cases op with
  | And => exact pw_and1 ha
  | Or => exact pw_or1 ha
theorem R.bind_ok_iff {S α β : Type} {r : R S α} {f : α → S → R S β} {b : β} {s : S} (h : r.bind f = .ok b s) : ∃ a s1, r = .ok a s1 ∧ f a s1 = .ok b s := by
  cases r with
  | ok a s1 => exact ⟨a, s1, rfl, h⟩
  | exc _ _ _ => cases h
  | bad => cases h
theorem ofO_ok_iff {S α : Type} {o : Option α} {s s' : S} {a : α} (h : ofO o s = .ok a s') : o = some a ∧ s = s' := by
  cases o with
  | none => cases h
  | some b => cases h; exact ⟨rfl, rfl⟩
theorem bool_ev {cl : Calls} {e : Ex} (h : boolE e = true) {c : Sg} {w : W} {c' : Sg} (he : ev nc cl e c = .ok w c') : ∃ b, w = .d (.bl b) := by
  cases e with
  | not a =>
    simp only [ev] at he
    obtain ⟨b, s1, _, h2⟩ := R.bind_ok_iff he
    cases h2
    exact ⟨_, rfl⟩
  | and a b =>
    simp only [ev] at he
    obtain ⟨b, s1, _, h2⟩ := R.bind_ok_iff he
    split at h2
    · obtain ⟨b, s1, _, h3⟩ := R.bind_ok_iff h2
      split at h3
      · cases h3; exact ⟨_, rfl⟩
      · cases h3
    · cases h2; exact ⟨_, rfl⟩
    · cases h2
  | or a b =>
    simp only [ev] at he
    obtain ⟨b, s1, _, h2⟩ := R.bind_ok_iff he
    split at h2
    · obtain ⟨b, s1, _, h3⟩ := R.bind_ok_iff h2
      split at h3
      · cases h3; exact ⟨_, rfl⟩
      · cases h3
    · cases h2; exact ⟨_, rfl⟩
    · cases h2
  | cmp o a b =>
    simp only [ev] at he
    obtain ⟨x, s1, _, h2⟩ := R.bind_ok_iff he
    obtain ⟨y, s2, _, h3⟩ := R.bind_ok_iff h2
    obtain ⟨h4, _⟩ := ofO_ok_iff h3
    obtain ⟨x', ex, e⟩ := Option.bind_eq_some_iff.mp h4
    obtain ⟨y', ey, e⟩ := Option.bind_eq_some_iff.mp e
    obtain ⟨b', eb, rfl⟩ := Option.map_eq_some_iff.mp e
    exact ⟨_, rfl⟩
  | chn o o' a b d =>
    simp only [ev] at he
    obtain ⟨x, s1, _, h2⟩ := R.bind_ok_iff he
    obtain ⟨y, s2, _, h3⟩ := R.bind_ok_iff h2
    obtain ⟨z, s3, _, h4⟩ := R.bind_ok_iff h3
    split at h4
    · obtain ⟨z, s3, _, h5⟩ := R.bind_ok_iff h4
      obtain ⟨h6, _⟩ := ofO_ok_iff h5
      obtain ⟨x', ex, e⟩ := Option.bind_eq_some_iff.mp h6
      obtain ⟨y', ey, e⟩ := Option.bind_eq_some_iff.mp e
      obtain ⟨b', eb, rfl⟩ := Option.map_eq_some_iff.mp e
      exact ⟨_, rfl⟩
    · cases h4; exact ⟨_, rfl⟩
  | _ => cases h
theorem bt_cmp (G : Gd Γ T P nc k Wx N sc X) {o : Cop} {a b : Ex} {l r : Expr} {p : Pos} (ha : AO T P nc k Wx X a l) (hb : AO T P nc k Wx X b r) (hm : behindInMarks (copO o) r = false) : BT T P nc k Wx X (.cmp o a b) (.Compare l [copO o] [r] p) :=
  tTest_bt (pt_cmpR (op_cmp G.u65 o) ha hb hm) (cmp_imp G)
theorem bt_chn (G : Gd Γ T P nc k Wx N sc X) {o o' : Cop} {a b d : Ex} {l r s : Expr} {p : Pos} (ha : AO T P nc k Wx X a l) (hb : AO T P nc k Wx X b r) (hd : AO T P nc k Wx X d s) (hm : lastMarks [copO o, copO o'] [r, s] = false) :
    BT T P nc k Wx X (.chn o o' a b d) (.Compare l [copO o, copO o'] [r, s] p) :=
  tTest_bt (pt_chain (op_cmp G.u65 o) (op_cmp G.u65 o') ha hb hd hm) (chn_imp G)
theorem ct_bool {e : Ex} {x : Expr} (h : BT T P nc k Wx X e x) (hb : boolE e = true) : CT T P nc k Wx X e x :=
  ct_bt h (fun i z => by rw [z] at hb; cases hb) fun c w c' he => bool_ev hb he
theorem ae_ite {d a b : Ex} {t x y : Expr} {p : Pos} (hd : CT T P nc k Wx X d t) (ha : AE T P nc k Wx X a x) (hb : AE T P nc k Wx X b y) : AE T P nc k Wx X (.ite d a b) (.IfExp t x y p) := by
  refine (pe_ifExp hd ha hb).impC fun σ H Q ⟨F, c, S, q⟩ => ⟨F, c, S, ?_⟩
  simp only [evX, ev] at q
  refine q.bind.mono fun b' F1 c1 H1 _ st1 q1 => ?_
  cases b' with
  | true =>
    rw [if_pos rfl] at q1 ⊢
    exact tE_on st1 q1
  | false =>
    rw [if_neg Bool.false_ne_true] at q1 ⊢
    exact tE_on st1 q1

/-! ### changing methods -/
theorem ae_mut (G : Gd Γ T P nc k Wx N sc X) {m : Mut} {i : Nat} {es : List Ex} {o x : Expr} {xs : List Expr} {ap p : Pos} (ho : varB N sc i o = true) (h : ADs T P nc k Wx X es (x :: xs)) (hn : (x :: xs).all noStar = true) (hl : (ap.endLine == p.line) = true) (hs : (x :: xs).length < 10) :
    AE T P nc k Wx X (.mut m i es) (.Call (.Attribute o m.nm ap) (x :: xs) [] p) := by
  have hn' : noStar x = true ∧ xs.all noStar = true := by rw [List.all_cons, Bool.and_eq_true] at hn; exact hn
  have hbase : attributeBase o m.nm X.env (eval o X.env) = eval o X.env := by
    unfold varB at ho
    split at ho
    · rfl
    · cases ho
  have hfew : ((backTo p (starEach (x :: xs) X.env)).all (fun x => !x.1) && (backToKw p (keywordEach [] X.env)).all (fun x => x.1.isSome)
      && decide ((x :: xs).length + ([] : List Keyword).length + (if ([] : List Keyword).isEmpty then 0 else 1) < 30)) = true := by
    rw [star_all hn]
    have : (x :: xs).length < 30 := by omega
    simp only [List.length_nil, List.isEmpty_nil, if_true, Nat.add_zero, decide_eq_true this, Bool.true_and, Bool.and_true]
    rfl
  have main : PE X (.Call (.Attribute o m.nm ap) (x :: xs) [] p) (tBM X.K "list" (rMut m) (tVar i) (tDs T Wx (evDs nc (callN P nc k) es))) := by
    cases m with
    | append => exact pe_bm PySem.F.plainAttrs_list PySem.F.slot_list_append PySem.F.type_list_append mt_append (var_ok G ho) h hbase hfew hl (star_each hn'.1 _ _) (star_any hn'.2)
    | pop => exact pe_bm PySem.F.plainAttrs_list PySem.F.slot_list_pop PySem.F.type_list_pop mt_pop (var_ok G ho) h hbase hfew hl (star_each hn'.1 _ _) (star_any hn'.2)
    | popAt => exact pe_bm PySem.F.plainAttrs_list PySem.F.slot_list_pop PySem.F.type_list_pop mt_popAt (var_ok G ho) h hbase hfew hl (star_each hn'.1 _ _) (star_any hn'.2)
    | extend => exact pe_bm PySem.F.plainAttrs_list PySem.F.slot_list_extend PySem.F.type_list_extend mt_extend (var_ok G ho) h hbase hfew hl (star_each hn'.1 _ _) (star_any hn'.2)
  refine main.impC fun σ H Q ⟨F, c, S, q⟩ => ?_
  simp only [evX, ev] at q
  split at q
  · rename_i zs hz
    obtain ⟨v, h1, a, us, rfl, fa, ha, _⟩ := S.at_ i _ hz
    refine ⟨_, h1, .inl ⟨rfl, us, .of ha⟩, F, c, S, q.bind.mono fun ds F1 c1 H1 _ st1 q1 vs rs => ?_⟩
    split at q1
    · rename_i w hw
      split at q1
      · rename_i d w' hm
        refine (mut_ok st1.sim hw h1 rs hm fun F' r H' s' r' => ?_).1
        exact q1 F' H' s' r ⟨r', fun z => nomatch z⟩
      · exact q1.elim
    · exact q1.elim
  · exact q.elim
theorem ae_pop (G : Gd Γ T P nc k Wx N sc X) {i : Nat} {o : Expr} {ap p : Pos} (ho : varB N sc i o = true) (hl : (ap.endLine == p.line) = true) : AE T P nc k Wx X (.mut .pop i []) (.Call (.Attribute o Mut.pop.nm ap) [] [] p) := by
  have hbase : attributeBase o Mut.pop.nm X.env (eval o X.env) = eval o X.env := by
    unfold varB at ho
    split at ho
    · rfl
    · cases ho
  refine (pe_bm0 PySem.F.plainAttrs_list PySem.F.slot_list_pop PySem.F.type_list_pop mt_pop (var_ok G ho) hbase hl).impC fun σ H Q ⟨F, c, S, q⟩ => ?_
  simp only [evX, ev, evDs, R.bind_ok] at q
  split at q
  · rename_i zs hz
    obtain ⟨v, h1, a, us, rfl, fa, ha, _⟩ := S.at_ i _ hz
    refine ⟨_, h1, .inl ⟨rfl, us, .of ha⟩, ?_⟩
    rw [hz] at q
    simp only at q
    split at q
    · rename_i d w' hm
      refine (mut_ok (m := .pop) S hz h1 .nil hm fun F' r H' s' r' => ?_).1
      exact q F' H' s' r ⟨r', fun z => nomatch z⟩
    · exact q.elim
  · exact q.elim
end
end Cl

/-! Cl, part I: calls of the text's own defs. -/
namespace Cl
open PySem PySem.Spec PyProof.Rows L2
section
variable {Γ : Gt} {T : Tb} {P : Pg} {nc k : Nat} {Wx : WX} {N : List Str} {sc : Scope} {X : Cx}
def RA (T : Tb) (F : Hp) (σ : L2.St) : Ag → V → Prop
  | .d x, v => DR T F x v
  | .io i, v => σ[i]? = some (some v)
inductive RAs (T : Tb) (F : Hp) (σ : L2.St) : List Ag → List V → Prop
  | nil : RAs T F σ [] []
  | cons {a : Ag} {v : V} {as : List Ag} {vs : List V} : RA T F σ a v → RAs T F σ as vs → RAs T F σ (a :: as) (v :: vs)
theorem RA.grow {F F' : Hp} {σ : L2.St} (g : ∀ a o, F a = some o → F' a = some o) {a : Ag} {v : V} (r : RA T F σ a v) : RA T F' σ a v := by
  cases a with
  | d x => exact DR.grow g r
  | io i => exact r
def tAs (T : Tb) (Wx : WX) (f : Sg → R Sg (List Ag)) : TA := fun σ H Q => ∃ F c, Sim T F c σ H ∧ PostP T Wx σ F c H (f c) fun xs F' _ H' => ∀ vs, RAs T F' σ xs vs → Q vs H'
abbrev AAs (T : Tb) (P : Pg) (nc k : Nat) (Wx : WX) (X : Cx) (es : List Ex) (xs : List Expr) : Prop := PA X xs (tAs T Wx (evAs nc (callN P nc k) es))
theorem aas_nil : AAs T P nc k Wx X [] [] := pa_nil.impC fun σ H Q ⟨F, c, S, q⟩ => q F H (.refl S) [] .nil
theorem aas_io {i : Nat} {es : List Ex} {x : Expr} {xs : List Expr} (h : PE X x (tVar i)) (hs : AAs T P nc k Wx X es xs) (hn : noStar x = true) : AAs T P nc k Wx X (.io i :: es) (x :: xs) := by
  refine (pa_cons h hs (star_each hn xs X.env)).impC fun σ H Q ⟨F, c, S, q⟩ => ?_
  simp only [evAs] at q
  split at q
  · rename_i w hw
    obtain ⟨v, h1, _⟩ := S.at_ i w hw
    exact ⟨v, h1, F, c, S, q.bind.mono fun as F1 c1 H1 _ st1 q1 vs rs => q1 F1 H1 (.refl st1.sim) (v :: vs) (.cons h1 rs)⟩
  · exact q.elim
theorem aas_cons {e : Ex} {es : List Ex} {x : Expr} {xs : List Expr} (h : AE T P nc k Wx X e x) (hs : AAs T P nc k Wx X es xs) (hn : noStar x = true) (hi : ∀ i, e ≠ .io i) : AAs T P nc k Wx X (e :: es) (x :: xs) := by
  refine (pa_cons h hs (star_each hn xs X.env)).impC fun σ H Q ⟨F, c, S, q⟩ => ⟨F, c, S, ?_⟩
  have he : evAs nc (callN P nc k) (e :: es) c = (ev nc (callN P nc k) e c).bind fun w σ1 => (evAs nc (callN P nc k) es σ1).bind fun xs σ2 => .ok (.d w.toD :: xs) σ2 := by
    cases e <;> first | rfl | exact absurd rfl (hi _)
  rw [he] at q
  refine q.bind.mono fun w F1 c1 H1 he st1 q1 v1 r1 => ?_
  obtain ⟨F2, st2, r2, g2⟩ := st1.freeze S r1
  refine ⟨F2, c1, st2.sim, (q.bind' he st2).bind.mono fun ds F3 c3 H3 _ st3 q3 vs rs => ?_⟩
  exact q3 F3 H3 (.refl st3.sim) (v1 :: vs) (.cons (DR.grow st3.gr r2) rs)

/-! ### handing over -/
section
variable {F H : Hp} {c : Sg} {σ : L2.St}
/-- argument n: its value, the slot it came of -/
theorem ags_at (S : Sim T F c σ H) : ∀ {ags : List Ag} {vs : List V} {ws : List W}, RAs T F σ ags vs → agWs c ags = some ws →
    ws.length = vs.length ∧ ags.length = ws.length ∧ ∀ (n : Nat) (w : W), ws[n]? = some w → ∃ v, vs[n]? = some v ∧ RS T F H w v ∧ (w.own = true → ∃ i, ags[n]? = some (.io i) ∧ c[i]? = some (some w) ∧ σ[i]? = some (some v))
  | _, _, _, .nil, e => by simp [agWs] at e; subst e; exact ⟨rfl, rfl, fun n w h => by simp at h⟩
  | a :: as, _, ws, .cons r t, e => by
    simp only [agWs] at e
    split at e
    · rename_i w ws' e1 e2
      cases e
      obtain ⟨l1, l2, ih⟩ := ags_at S t e2
      refine ⟨by simp [l1], by simp [l2], fun n u h => ?_⟩
      cases n with
      | zero =>
        simp at h
        subst h
        refine ⟨_, rfl, ?_⟩
        cases a with
        | d x => cases e1; exact ⟨r, fun z => nomatch z⟩
        | io i =>
          have hc : c[i]? = some (some w) ∧ w.own = true := by
            simp only [agW] at e1
            split at e1 <;> first | (cases e1; exact ⟨by assumption, rfl⟩) | cases e1
          obtain ⟨v', h1, h2⟩ := S.at_ i w hc.1
          rw [(show σ[i]? = some (some _) from r)] at h1
          cases h1
          exact ⟨h2, fun _ => ⟨i, rfl, hc.1, r⟩⟩
      | succ n =>
        obtain ⟨v, h1, h2, h3⟩ := ih n u (by simpa using h)
        exact ⟨v, by simpa using h1, h2, fun o => by simpa using h3 o⟩
    · cases e
theorem ioS_mem : ∀ {ags : List Ag} {i : Nat}, i ∈ ioS ags ↔ ∃ n : Nat, ags[n]? = some (.io i)
  | [], i => ⟨fun h => by simp [ioS] at h, fun ⟨n, h⟩ => by simp at h⟩
  | .io j :: as, i => by
    rw [ioS, List.mem_cons, ioS_mem]
    constructor
    · rintro (rfl | ⟨n, h⟩)
      · exact ⟨0, rfl⟩
      · exact ⟨n + 1, by simpa using h⟩
    · rintro ⟨n, h⟩
      cases n with
      | zero => simp at h; exact .inl h.symm
      | succ n => exact .inr ⟨n, by simpa using h⟩
  | .d x :: as, i => by
    rw [ioS, ioS_mem]
    constructor
    · rintro ⟨n, h⟩; exact ⟨n + 1, by simpa using h⟩
    · rintro ⟨n, h⟩
      cases n with
      | zero => simp at h
      | succ n => exact ⟨n, by simpa using h⟩
theorem ioS_inj : ∀ {ags : List Ag}, (ioS ags).Nodup → ∀ {i n m : Nat}, ags[n]? = some (.io i) → ags[m]? = some (.io i) → n = m
  | [], _, _, n, _, h, _ => by simp at h
  | a :: as, nd, i, n, m, h1, h2 => by
    have nd' : (ioS as).Nodup ∧ (∀ j, a = .io j → j ∉ ioS as) := by
      cases a with
      | io j => rw [ioS, List.nodup_cons] at nd; exact ⟨nd.2, fun j' e => by cases e; exact nd.1⟩
      | d x => exact ⟨nd, fun j e => nomatch e⟩
    cases n with
    | zero =>
      cases m with
      | zero => rfl
      | succ m =>
        simp at h1
        exact absurd (ioS_mem.mpr ⟨m, by simpa using h2⟩) (nd'.2 i h1)
    | succ n =>
      cases m with
      | zero =>
        simp at h2
        exact absurd (ioS_mem.mpr ⟨n, by simpa using h1⟩) (nd'.2 i h2)
      | succ m => rw [ioS_inj nd'.1 (i := i) (n := n) (m := m) (by simpa using h1) (by simpa using h2)]
/-- the arguments as a state of their own -/
theorem args_sim (S : Sim T F c σ H) {ags : List Ag} {vs : List V} {ws : List W} (r : RAs T F σ ags vs) (e : agWs c ags = some ws) (nd : (ioS ags).Nodup) : Sim T F (ws.map some) (vs.map some) H := by
  obtain ⟨l1, l2, at_⟩ := ags_at S r e
  have got : ∀ (n : Nat) (w : W), (ws.map some)[n]? = some (some w) → ws[n]? = some w := fun n w h => by
    rw [List.getElem?_map] at h
    cases q : ws[n]? with
    | none => rw [q] at h; cases h
    | some u => rw [q] at h; cases h; rfl
  have gotv : ∀ (n : Nat) (v : V), (vs.map some)[n]? = some (some v) → vs[n]? = some v := fun n w h => by
    rw [List.getElem?_map] at h
    cases q : vs[n]? with
    | none => rw [q] at h; cases h
    | some u => rw [q] at h; cases h; rfl
  refine ⟨S.sub, by simp [l1], fun n w h => ?_, fun n m w u a h1 o1 h2 o2 h3 h4 => ?_⟩
  · obtain ⟨v, q1, q2, _⟩ := at_ n w (got n w h)
    exact ⟨v, by rw [List.getElem?_map, q1]; rfl, q2⟩
  · obtain ⟨v, q1, q2, q3⟩ := at_ n w (got n w h1)
    obtain ⟨v', p1, p2, p3⟩ := at_ m u (got m u h2)
    rw [gotv n _ h3] at q1
    rw [gotv m _ h4] at p1
    cases q1
    cases p1
    obtain ⟨i, i1, i2, i3⟩ := q3 o1
    obtain ⟨j, j1, j2, j3⟩ := p3 o2
    have : i = j := S.inj i j w u a i2 o1 j2 o2 i3 j3
    subst this
    exact ioS_inj nd i1 j1
/-- slots and places of what is handed over -/
theorem own_pairs (S : Sim T F c σ H) : ∀ {ags : List Ag} {vs : List V} {ws : List W} (b : Nat), RAs T F σ ags vs → agWs c ags = some ws →
    Paired (fun i n => ∃ m, n = b + m ∧ ags[m]? = some (.io i) ∧ ∃ v, vs[m]? = some v ∧ σ[i]? = some (some v)) (ioS ags) (ownIx b ws)
  | _, _, _, _, .nil, e => by simp [agWs] at e; subst e; exact .nil
  | a :: as, v0 :: vs0, ws, b, .cons r t, e => by
    simp only [agWs] at e
    split at e
    · rename_i w ws' e1 e2
      cases e
      have ih := own_pairs S (b + 1) t e2
      have ih' : Paired (fun i n => ∃ m, n = b + m ∧ (a :: as)[m]? = some (.io i) ∧ ∃ v, (v0 :: vs0)[m]? = some v ∧ σ[i]? = some (some v)) (ioS as) (ownIx (b + 1) ws') :=
        Paired.mapP ih fun i n ⟨m, h1, h2, v, h3, h4⟩ => ⟨m + 1, by omega, by simpa using h2, v, by simpa using h3, h4⟩
      cases a with
      | d x => cases e1; exact ih'
      | io i =>
        have hw : w.own = true := by
          simp only [agW] at e1
          split at e1 <;> first | (cases e1; rfl) | cases e1
        rw [ioS, ownIx, if_pos hw]
        exact .cons ⟨0, rfl, rfl, _, rfl, r⟩ ih'
    · cases e
/-- what stands behind putBack -/
theorem putBack_at : ∀ {is : List Nat} {os : List W} {c c' : Sg}, is.Nodup → putBack c is os = some c' → c'.length = c.length ∧ (∀ w ∈ os, w.own = true) ∧ is.length = os.length ∧
    (∀ j, j ∉ is → c'[j]? = c[j]?) ∧ ∀ (n i : Nat) (o : W), is[n]? = some i → os[n]? = some o → i < c.length → c'[i]? = some (some o)
  | [], [], c, c', _, h => by simp [putBack] at h; subst h; exact ⟨rfl, by simp, rfl, fun _ _ => rfl, fun n i o h => by simp at h⟩
  | [], _ :: _, _, _, _, h => by simp [putBack] at h
  | _ :: _, [], _, _, _, h => by simp [putBack] at h
  | i :: is, o :: os, c, c', nd, h => by
    rw [List.nodup_cons] at nd
    simp only [putBack] at h
    split at h
    · rename_i ow
      obtain ⟨h1, h2, h3, h4, h5⟩ := putBack_at nd.2 h
      rw [List.length_set] at h1
      refine ⟨h1, fun w hw => ?_, by simp [h3], fun j hj => ?_, fun n j u hj hu hl => ?_⟩
      · rcases List.mem_cons.mp hw with rfl | hw
        · exact ow
        · exact h2 w hw
      · rw [List.mem_cons, not_or] at hj
        rw [h4 j hj.2, List.getElem?_set_ne (Ne.symm hj.1)]
      · cases n with
        | zero =>
          simp at hj hu
          subst hj hu
          rw [h4 i nd.1, List.getElem?_set_self hl]
        | succ n =>
          exact h5 n j u (by simpa using hj) (by simpa using hu) (by rw [List.length_set]; exact hl)
    · cases h
theorem Paired.at_ {α β : Type} {R : α → β → Prop} : ∀ {xs : List α} {ys : List β}, Paired R xs ys → xs.length = ys.length ∧ ∀ (n : Nat) (x : α), xs[n]? = some x → ∃ y, ys[n]? = some y ∧ R x y
  | _, _, .nil => ⟨rfl, fun n x h => by simp at h⟩
  | _, _, .cons r t => by
    obtain ⟨l, at_⟩ := Paired.at_ t
    refine ⟨by simp [l], fun n x h => ?_⟩
    cases n with
    | zero => simp at h; subst h; exact ⟨_, rfl, r⟩
    | succ n => simpa using at_ n x (by simpa using h)

/-- behind a call -/
theorem back_stp (S : Sim T F c σ H) {ags : List Ag} {vs : List V} {ws : List W} {os : List W} {c' : Sg} {F' H' : Hp} (r : RAs T F σ ags vs) (e : agWs c ags = some ws) (nd : (ioS ags).Nodup) (pb : putBack c (ioS ags) os = some c')
    (gr : ∀ a o, F a = some o → F' a = some o) (sub : ∀ a o, F' a = some o → H' a = some o) (fr : ∀ a o, H a = some o → ¬ OwnA (ws.map some) (vs.map some) a → H' a = some o) (dom : ∀ a, H' a = none → H a = none)
    (nf : ∀ a o, F' a = some o → F a = some o ∨ H a = none ∨ OwnA (ws.map some) (vs.map some) a) (outs : Paired (fun i o => ∃ u, vs[i]? = some u ∧ RS T F' H' o u) (ownIx 0 ws) os) : Stp T σ F c H F' c' H' := by
  obtain ⟨l1, l2, at_⟩ := ags_at S r e
  have prs := own_pairs S 0 r e
  obtain ⟨p1, p2, p3, p4, p5⟩ := putBack_at nd pb
  obtain ⟨q1, q2⟩ := Paired.at_ prs
  obtain ⟨o1, o2⟩ := Paired.at_ outs
  have got : ∀ {α : Type} (l : List α) (n : Nat) (w : α), (l.map some)[n]? = some (some w) → l[n]? = some w := fun l n w h => by
    rw [List.getElem?_map] at h
    cases q : l[n]? with
    | none => rw [q] at h; cases h
    | some u => rw [q] at h; cases h; rfl
  -- what is handed over is of ours
  have ours : ∀ a, OwnA (ws.map some) (vs.map some) a → ∃ i ∈ ioS ags, ∃ w : W, c[i]? = some (some w) ∧ w.own = true ∧ σ[i]? = some (some (.ref a)) := fun a ⟨n, w, h1, h2, h3⟩ => by
    obtain ⟨v, z1, z2, z3⟩ := at_ n w (got ws n w h1)
    rw [got vs n _ h3] at z1
    cases z1
    obtain ⟨i, i1, i2, i3⟩ := z3 h2
    exact ⟨i, ioS_mem.mpr ⟨n, i1⟩, w, i2, h2, i3⟩
  have oursA : ∀ a, OwnA (ws.map some) (vs.map some) a → OwnA c σ a := fun a h => by
    obtain ⟨i, _, w, h1, h2, h3⟩ := ours a h
    exact ⟨i, w, h1, h2, h3⟩
  -- a slot that was handed over
  have slot : ∀ i ∈ ioS ags, ∃ w o v, c[i]? = some (some w) ∧ w.own = true ∧ c'[i]? = some (some o) ∧ o.own = true ∧ σ[i]? = some (some v) ∧ RS T F' H' o v ∧ RS T F H w v := fun i hi => by
    obtain ⟨n, hn⟩ := List.getElem?_of_mem hi
    obtain ⟨m, hm, m', em, a1, v, v1, v2⟩ := q2 n i hn
    obtain ⟨o, ho, u, u1, u2⟩ := o2 n m hm
    have e' : m = m' := by omega
    subst e'
    rw [u1] at v1
    cases v1
    have hl : m < ws.length := by
      have := lt_of_get a1
      omega
    obtain ⟨v', z1, z2, z3⟩ := at_ m ws[m] (List.getElem?_eq_getElem hl)
    rw [u1] at z1
    cases z1
    have ow : (ws[m]).own = true := by
      cases hh : (ws[m]).own with
      | true => rfl
      | false =>
        -- an argument of this kind is no slot
        exfalso
        have hg : agW c (.io i) = some ws[m] := by
          have key : ∀ {ags : List Ag} {ws : List W}, agWs c ags = some ws → ∀ (n : Nat) (a : Ag), ags[n]? = some a → ∃ w, ws[n]? = some w ∧ agW c a = some w := by
            intro ags
            induction ags with
            | nil => intro ws e n a h; simp at h
            | cons b bs ih =>
              intro ws e n a h
              simp only [agWs] at e
              split at e
              · rename_i w ws' e1 e2
                cases e
                cases n with
                | zero => simp at h; subst h; exact ⟨w, rfl, e1⟩
                | succ n => simpa using ih e2 n a (by simpa using h)
              · cases e
          obtain ⟨w, k1, k2⟩ := key e m _ a1
          rw [List.getElem?_eq_getElem hl] at k1
          cases k1
          exact k2
        simp only [agW] at hg
        split at hg <;> first | (cases hg; done) | (have hg' := Option.some.inj hg; rw [← hg'] at hh; cases hh)
    obtain ⟨i', i1, i2, i3⟩ := z3 ow
    rw [a1] at i1
    cases i1
    have oo : o.own = true := p2 o (List.mem_of_getElem? ho)
    exact ⟨ws[m], o, _, i2, ow, p5 n i o hn ho (lt_of_get i2), oo, v2, u2, z2⟩
  have kindOf : ∀ (j : Nat) (w : W), c'[j]? = some (some w) → w.own = true → ∃ w0 : W, c[j]? = some (some w0) ∧ w0.own = true := fun j w h o => by
    by_cases hj : j ∈ ioS ags
    · obtain ⟨w0, _, _, h1, h2, _⟩ := slot j hj
      exact ⟨w0, h1, h2⟩
    · rw [p4 j hj] at h; exact ⟨w, h, o⟩
  refine ⟨gr, ⟨sub, by rw [p1]; exact S.len, fun j w h => ?_, fun i j w u a h1 o1' h2 o2' h3 h4 => ?_⟩, fun a o h n => fr a o h fun z => n (oursA a z), fun j w h o => ?_, dom, fun a o h => ?_⟩
  · by_cases hj : j ∈ ioS ags
    · obtain ⟨w0, o, v, h1, h2, h3, h4, h5, h6, _⟩ := slot j hj
      rw [h3] at h
      cases h
      exact ⟨v, h5, h6⟩
    · rw [p4 j hj] at h
      obtain ⟨v, h1, h2⟩ := S.at_ j w h
      have apart : ∀ b, w.own = true → v = .ref b → ¬ OwnA (ws.map some) (vs.map some) b := fun b ob eb z => by
        obtain ⟨i, hi, w', i1, i2, i3⟩ := ours b z
        have : j = i := S.inj j i w w' b h ob i1 i2 (by rw [h1, eb]) i3
        exact hj (this ▸ hi)
      refine ⟨v, h1, h2.keep gr (fun b ob eb => ?_) fun b x ob eb q => fr b x q (apart b ob eb)⟩
      obtain ⟨b', e', f, x, hx⟩ := h2.own_at ob
      rw [eb] at e'
      cases e'
      cases q : F' b with
      | none => rfl
      | some y =>
        rcases nf b y q with z | z | z
        · rw [f] at z; cases z
        · rw [hx] at z; cases z
        · exact absurd z (apart b ob eb)
  · obtain ⟨w0, k1, k2⟩ := kindOf i w h1 o1'
    obtain ⟨u0, m1, m2⟩ := kindOf j u h2 o2'
    exact S.inj i j w0 u0 a k1 k2 m1 m2 h3 h4
  · by_cases hj : j ∈ ioS ags
    · obtain ⟨w0, o', v, h1, h2, h3, h4, h5, h6, h7⟩ := slot j hj
      rw [h3] at h
      cases h
      exact ⟨w0, h1, h2⟩
    · rw [p4 j hj] at h; exact ⟨w, h, o⟩
  · rcases nf a o h with z | z | z
    · exact .inl z
    · exact .inr (.inl z)
    · exact .inr (.inr (oursA a z))
end

theorem callN_len {f : Nat} {ws : List W} {fd : Fd} (hp : P[f]? = some fd) (h : callN P nc k f ws ≠ .bad) : ws.length = fd.np := by
  cases k with
  | zero => exact absurd rfl h
  | succ k =>
    simp only [callN, hp] at h
    split at h
    · rename_i q; exact q.1
    · exact absurd rfl h
theorem ae_call (G : Gd Γ T P nc k Wx N sc X) {f : Nat} {es : List Ex} {x : Expr} {xs : List Expr} {g : Str} {p p2 : Pos} (h : AAs T P nc k Wx X es (x :: xs)) (hg : glB sc g = true) (hf : Γ.fn.lookup g = some f) (hn : (x :: xs).all noStar = true) :
    AE T P nc k Wx X (.call f es) (.Call (.Name g p2) (x :: xs) [] p) := by
  obtain ⟨g1, g2⟩ := gl_of G hg
  have hn' : noStar x = true ∧ xs.all noStar = true := by rw [List.all_cons, Bool.and_eq_true] at hn; exact hn
  obtain ⟨fd, fdd, ps, hp, Fk, hm, hk, hb⟩ := G.fns g f hf
  refine (pe_callS Fk G.room g1 hm hk hb (fun σ => passAt G.tk σ) h g2 (star_each hn'.1 _ _) (star_any hn'.2)).impC fun σ H Q ⟨F, c, S, q⟩ => ⟨F, c, S, ?_⟩
  simp only [evX, ev] at q
  refine q.bind.mono fun ags F1 c1 H1 _ st1 q1 vs rs => ?_
  unfold callS at q1
  split at q1
  · rename_i nd
    split at q1
    · rename_i ws hws
      have l := ags_at st1.sim rs hws
      have sim := args_sim st1.sim rs hws nd
      have hlen : vs.length = fd.np := by
        rw [← l.1]
        refine callN_len (nc := nc) (k := k) hp fun (z : callN P nc k f ws = .bad) => ?_
        rw [z] at q1
        exact q1
      refine ⟨F1, ws, hlen, sim, ?_⟩
      cases hr : callN P nc k f ws with
      | bad => rw [hr] at q1; exact q1
      | ok w os =>
        rw [hr] at q1
        simp only at q1
        split at q1
        · rename_i c' pb
          intro F' v H' gr sub fr dom nf outs rw'
          exact q1 F' H' (back_stp st1.sim rs hws nd pb gr sub fr dom nf outs) v (rw'.later st1.dom)
        · exact q1.elim
      | exc e ds os =>
        rw [hr] at q1
        simp only at q1
        split at q1
        · rename_i c' pb
          intro F' cls d H' gr sub fr dom nf outs xr
          exact q1 F' cls d H' (back_stp st1.sim rs hws nd pb gr sub fr dom nf outs) xr
        · exact q1.elim
    · exact q1.elim
  · exact q1.elim
end
end Cl

/-! Cl, part J: targets, what is walked, comprehensions. -/
namespace Cl
open PySem PySem.Spec PyProof.Rows L2
section
variable {T : Tb} {F F' H H' : Hp} {c c' : Sg} {σ : L2.St}

/-! ### slots set -/
theorem Sim.setD (S : Sim T F c σ H) {i : Nat} {d : D} {v : V} (hi : i < c.length) (r : DR T F d v) : Sim T F (c.set i (some (.d d))) (σ.set i (some v)) H := by
  have hσ : i < σ.length := by rw [← S.len]; exact hi
  have key : ∀ (n : Nat) (x : W), (c.set i (some (.d d)))[n]? = some (some x) → x.own = true → n ≠ i ∧ c[n]? = some (some x) := fun n x h o => by
    rw [get_set] at h
    by_cases e : i = n ∧ i < c.length
    · rw [if_pos e] at h; cases h; cases o
    · rw [if_neg e] at h; exact ⟨fun z => e ⟨z.symm, hi⟩, h⟩
  refine ⟨S.sub, by rw [List.length_set, List.length_set]; exact S.len, fun j w h => ?_, fun j k w u a h1 o1 h2 o2 h3 h4 => ?_⟩
  · rw [get_set] at h
    by_cases e : i = j ∧ i < c.length
    · rw [if_pos e] at h
      cases h
      rw [← e.1]
      exact ⟨v, List.getElem?_set_self hσ, r⟩
    · rw [if_neg e] at h
      obtain ⟨u, h1, h2⟩ := S.at_ j w h
      exact ⟨u, by rw [List.getElem?_set_ne (fun z => e ⟨z, hi⟩)]; exact h1, h2⟩
  · obtain ⟨n1, q1⟩ := key j w h1 o1
    obtain ⟨n2, q2⟩ := key k u h2 o2
    rw [List.getElem?_set_ne (Ne.symm n1)] at h3
    rw [List.getElem?_set_ne (Ne.symm n2)] at h4
    exact S.inj j k w u a q1 o1 q2 o2 h3 h4
/-- what a target does to the slots -/
structure AsgR (s : List Nat) (c c' : Sg) (σ σ' : L2.St) : Prop where
  lc : c'.length = c.length
  lσ : σ'.length = σ.length
  out : ∀ j, j ∉ s → c'[j]? = c[j]? ∧ σ'[j]? = σ[j]?
  own : ∀ (j : Nat) (w : W), c'[j]? = some (some w) → w.own = true → c[j]? = some (some w) ∧ σ'[j]? = σ[j]?
theorem AsgR.trans {s t : List Nat} {c c1 c2 : Sg} {σ σ1 σ2 : L2.St} (a : AsgR s c c1 σ σ1) (b : AsgR t c1 c2 σ1 σ2) : AsgR (s ++ t) c c2 σ σ2 where
  lc := b.lc.trans a.lc
  lσ := b.lσ.trans a.lσ
  out := fun j h => by
    rw [List.mem_append, not_or] at h
    obtain ⟨h1, h2⟩ := b.out j h.2
    obtain ⟨h3, h4⟩ := a.out j h.1
    exact ⟨h1.trans h3, h2.trans h4⟩
  own := fun j w h o => by
    obtain ⟨h1, h2⟩ := b.own j w h o
    obtain ⟨h3, h4⟩ := a.own j w h1 o
    exact ⟨h3, h2.trans h4⟩
mutual
def tgS : Tg → List Nat
  | .nm i => [i]
  | .tp ts => tgSs ts
def tgSs : List Tg → List Nat
  | [] => []
  | t :: ts => tgS t ++ tgSs ts
end
mutual
def gOf (K : PySem.W.Frag) : Tg → TG
  | .nm i => gName i
  | .tp ts => gTup K ts.length (gsOf K ts)
def gsOf (K : PySem.W.Frag) : List Tg → TGs
  | [] => gNil
  | t :: ts => gCons (gOf K t) (gsOf K ts)
end
mutual
theorem gOf_ok : ∀ (t : Tg) {d : D} {v : V} {F : Hp} {c c' : Sg} {σ : L2.St} {H : Hp} {Q : L2.St → Hp → Prop}, Sim T F c σ H → DR T F d v → asg t d c = some c' → (∀ σ', Sim T F c' σ' H → AsgR (tgS t) c c' σ σ' → Q σ' H) → gOf T.K t v σ H Q
  | .nm i, d, v, F, c, c', σ, H, Q, S, r, e, q => by
    simp only [asg] at e
    split at e
    · rename_i hi
      cases e
      refine q _ (S.setD hi r) ⟨by rw [List.length_set], by rw [List.length_set], fun j hj => ?_, fun j w h o => ?_⟩
      · have hj' : i ≠ j := fun z => hj (by rw [tgS, z]; exact List.mem_singleton.mpr rfl)
        exact ⟨List.getElem?_set_ne hj', List.getElem?_set_ne hj'⟩
      · rw [get_set] at h
        by_cases e : i = j ∧ i < c.length
        · rw [if_pos e] at h; cases h; cases o
        · rw [if_neg e] at h
          exact ⟨h, List.getElem?_set_ne fun z => e ⟨z, hi⟩⟩
    · cases e
  | .tp ts, d, v, F, c, c', σ, H, Q, S, r, e, q => by
    cases d with
    | tup ds =>
      simp only [asg] at e
      cases r with
      | tup h1 r =>
        refine ⟨_, _, rfl, .of (S.sub _ _ h1), ?_, gsOf_ok ts S r e q⟩
        rw [← r.length]
        exact asgs_len ts ds e
    | _ => simp [asg] at e
theorem asgs_len : ∀ (ts : List Tg) (ds : List D) {c c' : Sg}, asgs ts ds c = some c' → ds.length = ts.length
  | [], [], _, _, _ => rfl
  | [], _ :: _, _, _, e => by simp [asgs] at e
  | _ :: _, [], _, _, e => by simp [asgs] at e
  | t :: ts, d :: ds, c, c', e => by
    simp only [asgs] at e
    obtain ⟨c1, e1, e2⟩ := Option.bind_eq_some_iff.mp e
    simp [asgs_len ts ds e2]
theorem gsOf_ok : ∀ (ts : List Tg) {ds : List D} {vs : List V} {F : Hp} {c c' : Sg} {σ : L2.St} {H : Hp} {Q : L2.St → Hp → Prop}, Sim T F c σ H → DRs T F ds vs → asgs ts ds c = some c' → (∀ σ', Sim T F c' σ' H → AsgR (tgSs ts) c c' σ σ' → Q σ' H) → gsOf T.K ts vs σ H Q
  | [], ds, vs, F, c, c', σ, H, Q, S, r, e, q => by
    cases r with
    | nil => simp [asgs] at e; subst e; exact ⟨rfl, q σ S ⟨rfl, rfl, fun _ _ => ⟨rfl, rfl⟩, fun _ _ h _ => ⟨h, rfl⟩⟩⟩
    | cons _ _ => simp [asgs] at e
  | t :: ts, ds, vs, F, c, c', σ, H, Q, S, r, e, q => by
    cases r with
    | nil => simp [asgs] at e
    | cons r1 r2 =>
      simp only [asgs] at e
      obtain ⟨c1, e1, e2⟩ := Option.bind_eq_some_iff.mp e
      refine ⟨_, _, rfl, gOf_ok t S r1 e1 fun σ1 S1 a1 => ?_⟩
      exact gsOf_ok ts S1 r2 e2 fun σ2 S2 a2 => q σ2 S2 (a1.trans a2)
end
def Fnx (X : Cx) (sc : Scope) : Prop := ∀ x, sc.names.lookup x = some .cell → X.fn x = true
mutual
theorem pg_of {X : Cx} {N : List Str} {sc : Scope} {pr : List Nat} (hK : X.K = T.K) (hc : X.calm = true) (hN : X.N = N) (nd : N.Nodup) (hs : ∀ x, (sc.names.lookup x = some .local → X.env.scope.names.lookup x = some .local) ∧ (sc.names.lookup x = some .cell → X.env.scope.names.lookup x = some .cell)) (fx : Fnx X sc) :
    ∀ (t : Tg) (e : Expr), tgB N sc pr t e = true → PG X e (gOf T.K t)
  | .nm i, e, h => by
    cases e with
    | Name x p =>
      simp only [tgB, Bool.and_eq_true, decide_eq_true_eq] at h
      obtain ⟨⟨h1, h2⟩, h3⟩ := h
      unfold locB at h2
      split at h2
      · rename_i q
        exact pg_name (by rw [hN]; exact nd) (by rw [hN]; exact h1) (.inl ((hs x).1 q)) (.inr ((hs x).1 q))
      · rename_i q
        exact pg_name (by rw [hN]; exact nd) (by rw [hN]; exact h1) (.inr ((hs x).2 q)) (.inl (fx x q))
      · cases h2
    | _ => simp [tgB] at h
  | .tp ts, e, h => by
    cases e with
    | Tuple es n p =>
      simp only [tgB] at h
      obtain ⟨h1, h2, h3⟩ := pgs_of hK hc hN nd hs fx ts es h
      have q := pg_tup (k := n) (pos := p) hc h1 h2 h3
      rw [hK] at q
      exact q
    | _ => simp [tgB] at h
theorem pgs_of {X : Cx} {N : List Str} {sc : Scope} {pr : List Nat} (hK : X.K = T.K) (hc : X.calm = true) (hN : X.N = N) (nd : N.Nodup) (hs : ∀ x, (sc.names.lookup x = some .local → X.env.scope.names.lookup x = some .local) ∧ (sc.names.lookup x = some .cell → X.env.scope.names.lookup x = some .cell)) (fx : Fnx X sc) :
    ∀ (ts : List Tg) (es : List Expr), tgsB N sc pr ts es = true → PGs X es (gsOf T.K ts) ∧ (assignEach es X.env).length = ts.length ∧ (assignEach es X.env).findIdx? (·.1) = none
  | [], [], _ => ⟨pgs_nil, rfl, rfl⟩
  | [], _ :: _, h => by simp [tgsB] at h
  | _ :: _, [], h => by simp [tgsB] at h
  | t :: ts, e :: es, h => by
    have ns : noStar e = true := by
      cases e <;> first | rfl | (simp [tgsB] at h)
    have ae : assignEach (e :: es) X.env = (false, assign e X.env) :: assignEach es X.env := by cases e <;> first | rfl | cases ns
    have h' : tgB N sc pr t e = true ∧ tgsB N sc pr ts es = true := by
      cases e <;> first | (cases ns; done) | (simpa [tgsB] using h)
    obtain ⟨h1, h2, h3⟩ := pgs_of hK hc hN nd hs fx ts es h'.2
    refine ⟨pgs_cons (pg_of hK hc hN nd hs fx t e h'.1) h1 (by rw [ae]; rfl), by rw [ae]; simp [h2], ?_⟩
    rw [ae, List.findIdx?_cons]
    simp [h3]
end

/-! ### what is walked -/
def ItOk (T : Tb) (F : Hp) (xs : List D) (J : It) : Prop := ∀ (F' : Hp) (c : Sg) (σ : L2.St) (H : Hp), (∀ a o, F a = some o → F' a = some o) → Sim T F' c σ H →
  (∀ i, xs.length ≤ i → J.stop i H) ∧ ∀ (i : Nat) (d : D), xs[i]? = some d → J.go i H ∧ ∀ x H2, J.yld i H x H2 → ∃ F2, Stp T σ F' c H F2 c H2 ∧ DR T F2 d x
def tI (T : Tb) (Wx : WX) (f : Sg → R Sg W) : TI := fun σ H R => ∃ F c, Sim T F c σ H ∧ PostP T Wx σ F c H (f c) fun w F' _ H' => ∃ xs, itemsD w.toD = some xs ∧ ∀ J, ItOk T F' xs J → R J H'
theorem itl_ok {F : Hp} {a : Addr} {ds : List D} {vs : List V} (h : F a = some (.lst vs)) (r : DRs T F ds vs) : ItOk T F ds (Itl T.K a) := fun F' c σ H g S => by
  have hH : SqL T.K H a vs := .of (S.sub _ _ (g _ _ h))
  refine ⟨fun i hi => ⟨vs, hH, by rw [← r.length]; exact hi⟩, fun i d e => ?_⟩
  obtain ⟨v, h1, h2⟩ := r.get e
  refine ⟨⟨vs, v, hH, h1⟩, fun x H2 y => ?_⟩
  obtain ⟨rfl, y⟩ := y
  have := y vs hH
  rw [h1] at this
  cases this
  exact ⟨F', .refl S, h2.grow g⟩
theorem itt_ok {F : Hp} {a : Addr} {ds : List D} {vs : List V} (h : F a = some (.tup vs)) (r : DRs T F ds vs) : ItOk T F ds (Itt T.K a) := fun F' c σ H g S => by
  have hH : SqT T.K H a vs := .of (S.sub _ _ (g _ _ h))
  refine ⟨fun i hi => ⟨vs, hH, by rw [← r.length]; exact hi⟩, fun i d e => ?_⟩
  obtain ⟨v, h1, h2⟩ := r.get e
  refine ⟨⟨vs, v, hH, h1⟩, fun x H2 y => ?_⟩
  obtain ⟨rfl, y⟩ := y
  have := y vs hH
  rw [h1] at this
  cases this
  exact ⟨F', .refl S, h2.grow g⟩
theorem its_ok {F : Hp} {a : Addr} {ns : List Int} (h : SqL T.K F a (ns.map V.int)) : ItOk T F (ns.map D.int) (Itl T.K a) := fun F' c σ H g S => by
  have hH : SqL T.K H a (ns.map V.int) := SqL.grow S.sub (SqL.grow g h)
  refine ⟨fun i hi => ⟨_, hH, by simpa using hi⟩, fun i d e => ?_⟩
  rw [List.getElem?_map] at e
  cases q : ns[i]? with
  | none => rw [q] at e; cases e
  | some n =>
    rw [q] at e
    cases e
    refine ⟨⟨_, .int n, hH, by rw [List.getElem?_map, q]; rfl⟩, fun x H2 y => ?_⟩
    obtain ⟨rfl, y⟩ := y
    have := y _ hH
    rw [List.getElem?_map, q] at this
    cases this
    exact ⟨F', .refl S, .int n⟩
section
variable {Γ : Gt} {P : Pg} {nc k : Nat} {Wx : WX} {N : List Str} {sc : Scope} {X : Cx}
/-- a list, a tuple, the script -/
theorem pi_seq (G : Gd Γ T P nc k Wx N sc X) {e : Ex} {tg x : Expr} (h : AE T P nc k Wx X e x) : PI X tg x (tI T Wx (evX P nc k e)) := by
  refine ⟨fun pins s σ H R I hq => ?_⟩
  obtain ⟨F, c, S, q⟩ := hq
  cases hr : evX P nc k e c with
  | bad => rw [hr] at q; exact q.elim
  | exc n ds c1 =>
    refine (pi_list (tg := tg) h).run pins s σ H R I ⟨F, c, S, ?_⟩
    rw [hr] at q ⊢
    exact q
  | ok w c1 =>
    rw [hr] at q
    have lists : (∀ ds, w.toD ≠ .tup ds) → iList X.K (tE T Wx (evX P nc k e)) σ H R := fun nt => by
      refine ⟨F, c, S, ?_⟩
      rw [hr]
      intro F1 H1 st v r
      obtain ⟨F2, st2, r2, g2⟩ := st.freeze S r
      obtain ⟨xs, e1, q1⟩ := q F2 H1 st2
      rw [G.kT]
      cases hd : w.toD with
      | lst ds =>
        rw [hd] at r2 e1
        cases e1
        cases r2 with
        | lst h1 h2 => exact ⟨_, rfl, ⟨_, .of (st2.sim.sub _ _ h1)⟩, q1 _ (itl_ok h1 h2)⟩
      | scr ns =>
        rw [hd] at r2 e1
        cases e1
        cases r2 with
        | scr h1 => exact ⟨_, rfl, ⟨_, SqL.grow st2.sim.sub h1⟩, q1 _ (its_ok h1)⟩
      | tup ds => exact absurd hd (nt ds)
      | _ => rw [hd] at e1; cases e1
    cases hd : w.toD with
    | tup ds =>
      refine (pi_tup (tg := tg) h).run pins s σ H R I ⟨F, c, S, ?_⟩
      rw [hr]
      intro F1 H1 st v r
      obtain ⟨F2, st2, r2, g2⟩ := st.freeze S r
      obtain ⟨xs, e1, q1⟩ := q F2 H1 st2
      rw [G.kT]
      rw [hd] at r2 e1
      cases e1
      cases r2 with
      | tup h1 h2 => exact ⟨_, rfl, ⟨_, .of (st2.sim.sub _ _ h1)⟩, q1 _ (itt_ok h1 h2)⟩
    | _ => exact (pi_list (tg := tg) h).run pins s σ H R I (lists fun ds z => by rw [hd] at z; cases z)
theorem itr_ok {F : Hp} (lo : Int) (n : Nat) : ItOk T F ((List.range n).map fun (i : Nat) => D.int (lo + i)) (Itr lo n) := fun F' c σ H g S => by
  refine ⟨fun i hi => (by simpa using hi : n ≤ i), fun i d e => ?_⟩
  rw [List.getElem?_map] at e
  by_cases hi : i < n
  · rw [List.getElem?_range hi] at e
    cases e
    refine ⟨hi, fun x H2 y => ?_⟩
    obtain ⟨rfl, rfl⟩ := y
    exact ⟨F', .refl S, .int _⟩
  · rw [List.getElem?_eq_none (by simpa using hi)] at e
    cases e
theorem evOs_len {cl : Calls} : ∀ {es : List Ex} {c : Sg} {ds : List Opd} {c' : Sg}, evOs nc cl es c = .ok ds c' → ds.length = es.length
  | [], c, ds, c', h => by simp only [evOs] at h; cases h; rfl
  | e :: es, c, ds, c', h => by
    simp only [evOs] at h
    obtain ⟨x, s1, _, h2⟩ := R.bind_ok_iff h
    obtain ⟨y, s2, h3, h4⟩ := R.bind_ok_iff h2
    cases h4
    rw [List.length_cons, List.length_cons, evOs_len h3]
theorem ROs.length {F : Hp} : ∀ {xs : List Opd} {vs : List V}, ROs T F σ xs vs → xs.length = vs.length
  | _, _, .nil => rfl
  | _, _, .cons _ t => by simp [ROs.length t]
theorem DTs.length {F H : Hp} : ∀ {xs : List D} {vs : List V}, DTs T F H xs vs → xs.length = vs.length
  | _, _, .nil => rfl
  | _, _, .cons _ t => by simp [DTs.length t]
theorem pi_rng1 (G : Gd Γ T P nc k Wx N sc X) {a : Ex} {tg x : Expr} {p p2 : Pos} (h : AO T P nc k Wx X a x) (hn : noStar x = true) (hg : glB sc "range" = true) : PI X tg (.Call (.Name "range" p2) [x] [] p) (tI T Wx (evX P nc k (.rng [a]))) := by
  obtain ⟨g1, g2⟩ := gl_of G hg
  have ha : AOs T P nc k Wx X [a] [x] := aos_cons h aos_nil hn
  refine (pi_range1 g1 (G.blt _ (by decide +kernel)) ha (star_each hn [] X.env)).impC fun σ H R ⟨F, c, S, q⟩ => ⟨F, c, S, ?_⟩
  simp only [evX, ev] at q
  refine q.bind.mono fun xs F1 c1 H1 he st1 q1 vs rs => ?_
  obtain ⟨w, e, q2⟩ := q1.ofO
  obtain ⟨ds, ed, e⟩ := Option.bind_eq_some_iff.mp e
  obtain ⟨ys, ey, rfl⟩ := Option.map_eq_some_iff.mp e
  have dt := rds_ok st1.sim rs ed
  unfold rngD at ey
  split at ey
  · split at ey
    · rename_i j hj
      cases ey
      obtain ⟨v, rfl, d⟩ := dt.one
      cases d.int
      refine ⟨j, rfl, hj.1, by omega, ?_⟩
      obtain ⟨zs, ez, q3⟩ := q2 F1 H1 (.refl st1.sim)
      cases ez
      have := itr_ok (T := T) (F := F1) 0 j.toNat
      simp only [Int.zero_add] at this
      exact q3 _ this
    · cases ey
  · have l1 := evOs_len he
    have l2 := rs.length
    have l3 := dt.length
    simp at l1 l3
    omega
  · cases ey
theorem pi_rng2 (G : Gd Γ T P nc k Wx N sc X) {a b : Ex} {tg x y : Expr} {p p2 : Pos} (h : AO T P nc k Wx X a x) (h' : AO T P nc k Wx X b y) (hn : noStar x = true) (hn' : noStar y = true) (hg : glB sc "range" = true) : PI X tg (.Call (.Name "range" p2) [x, y] [] p) (tI T Wx (evX P nc k (.rng [a, b]))) := by
  obtain ⟨g1, g2⟩ := gl_of G hg
  have ha : AOs T P nc k Wx X [a, b] [x, y] := aos_cons h (aos_cons h' aos_nil hn') hn
  refine (pi_range2 g1 (G.blt _ (by decide +kernel)) ha (by rw [star_each hn [y] X.env, star_each hn' [] X.env]; rfl) (star_each hn' [] X.env)).impC fun σ H R ⟨F, c, S, q⟩ => ⟨F, c, S, ?_⟩
  simp only [evX, ev] at q
  refine q.bind.mono fun xs F1 c1 H1 he st1 q1 vs rs => ?_
  obtain ⟨w, e, q2⟩ := q1.ofO
  obtain ⟨ds, ed, e⟩ := Option.bind_eq_some_iff.mp e
  obtain ⟨ys, ey, rfl⟩ := Option.map_eq_some_iff.mp e
  have dt := rds_ok st1.sim rs ed
  unfold rngD at ey
  split at ey
  · have l1 := evOs_len he
    have l2 := rs.length
    have l3 := dt.length
    simp at l1 l3
    omega
  · split at ey
    · rename_i i j hj
      cases ey
      obtain ⟨v, u, rfl, d1, d2⟩ := dt.two
      cases d1.int
      cases d2.int
      refine ⟨i, j, rfl, ⟨hj.1, by omega, hj.2.2.1, by omega⟩, ?_⟩
      obtain ⟨zs, ez, q3⟩ := q2 F1 H1 (.refl st1.sim)
      cases ez
      exact q3 _ (itr_ok i _)
    · cases ey
  · cases ey
end
end
end Cl

/-! Cl, part K: enumerate over a tuple. -/
namespace PySem
open PySem.Spec PyProof.Rows
namespace ClEnum
variable {prog : Program} {w : World} {A : Around} {E : Value → Shared → Prop} {s : Shared}
theorem drawsT (hh : A.handled = none) (it l : Addr) (hne : l ≠ it) (items : Array Value) :
    Draws prog w A it [it, l] items.size (fun i v => items[i]? = some v) (fun i h => h.IsTupleIter it l i ∧ h.IsTuple l items) where
  live := fun _ _ st => let ⟨o, ho, _⟩ := st.1; ⟨o, ho⟩
  frame := fun _ _ _ st hk => ⟨st.1.at fun o e => hk it (by simp) o e, let ⟨o, ho, r⟩ := st.2; ⟨o, hk l (by simp) o ho, r⟩⟩
  item := fun i s Q E hi st hQ => by
    refine wpAny_nextOf_tuple_item st.1 st.2 (x := items[i]) (by simp [hi]) fun h' hit' hs' => ?_
    exact hQ _ h' s.toks (by simp [hi]) ⟨hit', st.2.extBut hs'.extBut hne⟩ hs'
  done := fun s Q E st hE => wpAny_nextOf_tuple_end hh st.1 st.2 (by simp) hE
theorem meetsT (l : Addr) (items : Array Value) (n : Nat) (dct : Option Addr) (sl : Array (Option Value)) :
    Meets (Builtin.«enumerate.__new__» ⟨[.type "enumerate", .ref l], []⟩) (fun _ R s => s.heap.get? l = some { cls := .type "tuple", dict := dct, data := .seq items n, slots := sl } ∧
      R (.ok (.ret (.ref (s.heap.push { cls := .type "tuple_iterator", data := .fields #[.ref l, .int 0 0] }).objs.size)))
        { s with heap := (s.heap.push { cls := .type "tuple_iterator", data := .fields #[.ref l, .int 0 0] }).push { cls := .type "enumerate", data := .fields #[.none, .bool false, .ref s.heap.objs.size, rawInt 0, .none, .none] } }) :=
  .of_wp fun prog w A R s h => by
    obtain ⟨hp, g, d, tk, os⟩ := s; obtain ⟨hl, h⟩ := h
    have hsub := sub_enumerate
    have hL : Heap.IsTuple (Shared.heap ⟨hp, g, d, tk, os⟩) l items := ⟨_, hl, rfl, n, rfl⟩
    wp_walk using wpAny_loadPart' hl
    refine wpAny_stack_any fun st => wpAny_pure ?_
    split
    · rename_i c _ _ _ _ _
      cases (c == Value.type "enumerate")
      · wp_walk using wpAny_loadPart' hl, wpAny_pyIter_tuple hL
        exact ⟨_, rfl, h⟩
      · wp_walk using wpAny_loadPart' hl, wpAny_pyIter_tuple hL
        exact ⟨_, rfl, h⟩
    · wp_walk using wpAny_loadPart' hl, wpAny_pyIter_tuple hL
      exact ⟨_, rfl, h⟩
theorem callT {l : Addr} {items : Array Value} {Q : Value → Shared → Prop} (hL : s.heap.IsTuple l items)
    (h : ∀ h', IsEnum h' (s.heap.objs.size + 1) s.heap.objs.size 0 .none → h'.IsTupleIter s.heap.objs.size l 0 → h'.objs.size = s.heap.objs.size + 2 →
      (∀ b o, s.heap.get? b = some o → h'.get? b = some o) → Q (.ref (s.heap.objs.size + 1)) { s with heap := h' }) :
    wpAny (model prog w) A (call (.type "enumerate") [.ref l]) Q E s := by
  obtain ⟨⟨c, dct, dt, sl⟩, hl, hc, n, hd⟩ := hL
  replace hc : c = .type "tuple" := hc
  replace hd : dt = .seq items n := hd
  subst hc hd
  refine callType_new F.called_enumerate (by decide) (F.typeCall_enumerate_1 _) (F.newCall_enumerate_1 _) (fun obj => F.args_object_init_2 obj _) F.entry_enumerate_new
    (meetsT l items n dct sl) ⟨hl, ?_⟩
  have hz : (s.heap.push { cls := .type "tuple_iterator", data := .fields #[.ref l, .int 0 0] }).objs.size = s.heap.objs.size + 1 := Heap.size_push ..
  show _ ∧ _
  rw [hz]
  have he : IsEnum ((s.heap.push { cls := .type "tuple_iterator", data := .fields #[.ref l, .int 0 0] }).push
      { cls := .type "enumerate", data := .fields #[.none, .bool false, .ref s.heap.objs.size, rawInt 0, .none, .none] }) (s.heap.objs.size + 1) s.heap.objs.size 0 .none := by
    have := Heap.get?_push_size (s.heap.push { cls := .type "tuple_iterator", data := .fields #[.ref l, .int 0 0] })
      (o := { cls := .type "enumerate", data := .fields #[.none, .bool false, .ref s.heap.objs.size, rawInt 0, .none, .none] }) rfl
    rw [hz] at this; exact this
  refine ⟨⟨_, he, rfl⟩, h _ he ⟨_, Heap.get?_push_of_some _ (Heap.get?_push_size _ rfl), rfl, rfl⟩ (by rw [Heap.size_push, hz]) fun b o x => Heap.get?_push_of_some _ (Heap.get?_push_of_some _ x)⟩
end ClEnum
end PySem
namespace Cl
open PySem PySem.Spec PyProof.Rows L2
/-- the tuple at a, each item with its number -/
def IteT (K : PySem.W.Frag) (a : Addr) : It :=
  ⟨fun i H => ∃ (xs : List V) (x : V), SqT K H a xs ∧ xs[i]? = some x, fun i H v H' => ∃ T x, v = .ref T ∧ H T = none ∧ H' = upd H T (.tup [.int (i : Nat), x]) ∧ ∀ xs, SqT K H a xs → xs[i]? = some x, fun i H => ∃ xs : List V, SqT K H a xs ∧ xs.length ≤ i⟩
theorem turn_enumT {P : Program} {w : World} {K : PySem.W.Frag} {elts : List Expr} {kk : Nat} {tpos : Pos} (a e it : Addr) :
    Turn P w K (.Tuple elts kk tpos) (IteT K a) [e, it] e (fun i h => (∃ old, IsEnum h e it ((i : Nat) : Int) old) ∧ h.IsTupleIter it a i ∧ e ≠ it) where
  mem := by simp
  obj := fun i h st b hb => by
    obtain ⟨⟨old, he⟩, ⟨o, ho, hc, hd⟩, _⟩ := st
    have e' : b = e ∨ b = it := by simpa using hb
    rcases e' with z | z
    · rw [z]; exact ⟨_, he, fun v q => nomatch q⟩
    · rw [z]; exact ⟨o, ho, fun v q => by rw [hd] at q; cases q⟩
  keep := fun i h h' st k => let ⟨⟨old, he⟩, hi, hne⟩ := st; ⟨⟨old, k e (by simp) _ he⟩, hi.at fun o q => k it (by simp) o q, hne⟩
  item := by
    intro X hP hw hK hc i pins s σ H E I hf st hg
    subst hP hw hK
    obtain ⟨⟨old, he⟩, hit, hne⟩ := st
    obtain ⟨xs, x, hq, hx⟩ := hg
    obtain ⟨its, rv, p, hz⟩ := I.tuple hq
    obtain ⟨u, hu, ru⟩ := rv.get hx
    have hel : e < s.heap.objs.size := Heap.lt_size he
    have hil : it < s.heap.objs.size := by obtain ⟨_, q, _⟩ := hit; exact Heap.lt_size q
    obtain ⟨oa, hoa, hca, na, hda⟩ := id p
    have hae : a ≠ it := fun z => by
      obtain ⟨o2, ho2, hc2, _⟩ := hit
      rw [z, ho2] at hoa; cases hoa; rw [hc2] at hca; simp at hca
    have hea : e ≠ a := fun z => by
      rw [← z, he] at hoa; cases hoa; simp at hca
    have D := ClEnum.drawsT (prog := X.prog) (w := X.w) (A := X.A.in1) (show X.A.in1.handled = none from I.ok.hd hc) it a hae its.toArray
    have hlt : i < its.toArray.size := by
      have := lt_of_get hu
      simpa using this
    refine wpAny_pyNext_enum_itemD D he ⟨hit, p⟩ hlt hne (by simp [hne, hea]) fun x' h' tk hx' ho hst' hT hsz hk => ?_
    have ex : x' = u := by
      have : its[i]? = some x' := by simpa using hx'
      rw [hu] at this; cases this; rfl
    subst ex
    refine ⟨_, rfl, wpAny_letOwnedTupleGo_enum (s := { s with heap := h', toks := tk + 1 }) ho fun h'' he' sb => ?_⟩
    have hT2 : h''.get? s.heap.objs.size = some { cls := .type "tuple", data := .seq #[.int i tk, x'] } := (sb.2 _ (Nat.ne_of_gt hel)).trans hT
    have new : ObjOk X.prog X.w (upd H s.heap.objs.size (.tup [.int (i : Nat), x])) h'' s.heap.objs.size (.tup [.int (i : Nat), x]) :=
      ⟨by show 2 ≤ sizeLine; decide, [.int i tk, x'], .cons ⟨_, rfl⟩ (.cons ru .nil), ⟨_, hT2, rfl, _, rfl⟩⟩
    have I1 : Inv X pins σ (upd H s.heap.objs.size (.tup [.int (i : Nat), x])) { s with heap := h'', toks := tk + 1 } :=
      I.turnedNew (ch := [e, it]) (fun b ob hb q => (sb.2 b (fun z => hb (by simp [z]))).trans (hk b ob (fun z => hb (by simp [z])) (fun z => hb (by simp [z])) q)) hf (Nat.le_refl _) new
    refine ⟨.ref s.heap.objs.size, _, I1, rfl, ⟨_, x, rfl, I.hok.fresh (Nat.le_refl _), rfl, fun ys hy => by rw [I.tuple_inj hy hq]; exact hx⟩, ⟨⟨x', ?_⟩, hst'.1.at fun o q => (sb.2 it (Ne.symm hne)).trans q, hne⟩, fun b hb => ?_⟩
    · have e1 : ((i + 1 : Nat) : Int) = (i : Int) + 1 := by omega
      rw [e1]; exact he'
    · have hb' : b < s.heap.objs.size := by
        have e' : b = e ∨ b = it := by simpa using hb
        rcases e' with z | z
        · rw [z]; exact hel
        · rw [z]; exact hil
      rw [upd_ne (Nat.ne_of_lt hb')]
      exact (hf b hb).1
  done := by
    intro X hP hw hK hc i pins s σ H E I hf st hg
    subst hP hw hK
    obtain ⟨⟨old, he⟩, hit, hne⟩ := st
    obtain ⟨xs, hq, hx⟩ := hg
    obtain ⟨its, rv, p, hz⟩ := I.tuple hq
    obtain ⟨f0, f1, f2, f3, f4, f5⟩ := hf it (by simp)
    have hl := rv.length
    obtain ⟨oa, hoa, hca, na, hda⟩ := id p
    have hae : a ≠ it := fun z => by
      obtain ⟨o2, ho2, hc2, _⟩ := hit
      rw [z, ho2] at hoa; cases hoa; rw [hc2] at hca; simp at hca
    have D : Draws X.prog X.w X.A.in1 it [it, a] i (fun i v => its.toArray[i]? = some v) (fun j h => j = i ∧ h.IsTupleIter it a j ∧ h.IsTuple a its.toArray) := {
      live := fun _ _ st => let ⟨o, ho, _⟩ := st.2.1; ⟨o, ho⟩
      frame := fun _ _ _ st hk => ⟨st.1, st.2.1.at fun o e => hk it (by simp) o e, let ⟨o, ho, r⟩ := st.2.2; ⟨o, hk a (by simp) o ho, r⟩⟩
      item := fun j s Q E hj st hQ => absurd st.1 (by omega)
      done := fun s Q E st hE => wpAny_nextOf_tuple_end (show X.A.in1.handled = none from I.ok.hd hc) st.2.1 st.2.2 (by simp; omega) hE }
    exact wpAny_pyNext_enum_endD D he ⟨rfl, hit, p⟩ fun h' eb => ⟨rfl, I.turned (t' := s.toks) (fun b o hb q => eb b o hb q) f0 f1 f3 f4 f5⟩
  self := fun A i s Q E st h => let ⟨⟨_, he⟩, _⟩ := st; wpAny_pyIter_enum he h
def iEnumA (K : PySem.W.Frag) (ta : TA) : TI := fun σ H R => ta σ H fun vs H1 => ∃ a xs, vs = [.ref a] ∧ ((SqL K H1 a xs ∧ R (Ite K a) H1) ∨ (SqT K H1 a xs ∧ R (IteT K a) H1))
theorem pi_enumA {X : Cx} {e : Expr} {ta : TA} {p pos tpos : Pos} {elts : List Expr} {kk : Nat} (hg : Gl X "enumerate") (hm : X.mg "enumerate" = none) (ha : PA X [e] ta) (hs : starEach [e] X.env = [(false, eval e X.env)] := by rfl) :
    PI X (.Tuple elts kk tpos) (.Call (.Name "enumerate" p) [e] [] pos) (iEnumA X.K ta) := by
  refine ⟨fun pins s σ H R I h => ?_⟩
  refine Call_ (ld_blt I hg hm boot_enumerate (PyProof.Rows.callWith_type1 (thn (ha.run pos pins s σ H _ I h) fun us s1 ⟨vs, H1, I1, r1, q1⟩ => ?_) hs rfl))
  obtain ⟨a, xs, ex, q⟩ := q1
  subst ex
  cases r1 with
  | cons r rr =>
    cases rr
    cases r
    have low : ∀ b, b ∈ [s1.heap.objs.size + 1, s1.heap.objs.size] → FpOk X pins H1 b := fun b hb => by
      have e' : b = s1.heap.objs.size + 1 ∨ b = s1.heap.objs.size := by simpa using hb
      have hle : s1.heap.objs.size ≤ b := by
        rcases e' with z | z
        · rw [z]; exact Nat.le_add_right _ _
        · rw [z]; exact Nat.le_refl _
      exact I1.fpOk hle (I1.hok.fresh hle)
    rcases q with ⟨hq, q⟩ | ⟨hq, q⟩
    · obtain ⟨its, rv, p', hz⟩ := I1.list hq
      refine call_enumerate_list p'.isList fun h' he hit hsz hk => wpAny_pyIter_enum he ?_
      have I2 : Inv X pins σ H1 { s1 with heap := h' } := I1.kept (t' := s1.toks) hk
      exact ⟨s1.heap.objs.size + 1, [s1.heap.objs.size + 1, s1.heap.objs.size], _, _, H1, rfl, I2, turn_enum a (s1.heap.objs.size + 1) s1.heap.objs.size, ⟨⟨.none, he⟩, hit, Nat.succ_ne_self _⟩, low, q⟩
    · obtain ⟨its, rv, p', hz⟩ := I1.tuple hq
      refine ClEnum.callT (show s1.heap.IsTuple a its.toArray from p') fun h' he hit hsz hk => wpAny_pyIter_enum he ?_
      have I2 : Inv X pins σ H1 { s1 with heap := h' } := I1.kept (t' := s1.toks) hk
      exact ⟨s1.heap.objs.size + 1, [s1.heap.objs.size + 1, s1.heap.objs.size], _, _, H1, rfl, I2, turn_enumT a (s1.heap.objs.size + 1) s1.heap.objs.size, ⟨⟨.none, he⟩, hit, Nat.succ_ne_self _⟩, low, q⟩
section
variable {T : Tb} {F : Hp}
theorem enm_at {ds : List D} {i : Nat} {d : D} (e : (enmL ds)[i]? = some d) : ∃ x, ds[i]? = some x ∧ d = .tup [.int i, x] := by
  unfold enmL at e
  rw [List.getElem?_map] at e
  cases q : ds.zipIdx[i]? with
  | none => rw [q] at e; cases e
  | some p =>
    rw [q] at e
    cases e
    rw [List.getElem?_zipIdx] at q
    cases z : ds[i]? with
    | none => rw [z] at q; cases q
    | some x =>
      rw [z] at q
      cases q
      exact ⟨x, rfl, by simp⟩
theorem enm_len (ds : List D) : (enmL ds).length = ds.length := by simp [enmL]
theorem yld_pair {F' H : Hp} {c : Sg} {σ : L2.St} (S : Sim T F' c σ H) {p : Addr} (hp : H p = none) {x y : D} {v u : V} (rx : DR T F' x v) (ry : DR T F' y u) :
    ∃ F2, Stp T σ F' c H F2 c (upd H p (.tup [v, u])) ∧ DR T F2 (.tup [x, y]) (.ref p) :=
  ⟨_, S.newF hp, .tup upd_same (.cons (rx.grow (upd_old (S.notF hp))) (.cons (ry.grow (upd_old (S.notF hp))) .nil))⟩
theorem ite_ok {a : Addr} {ds : List D} {vs : List V} (h : SqL T.K F a vs) (r : DRs T F ds vs) : ItOk T F (enmL ds) (Ite T.K a) := fun F' c σ H g S => by
  have hH : SqL T.K H a vs := SqL.grow S.sub (SqL.grow g h)
  refine ⟨fun i hi => ⟨vs, hH, by rw [enm_len] at hi; rw [← r.length]; exact hi⟩, fun i d e => ?_⟩
  obtain ⟨x, ex, rfl⟩ := enm_at e
  obtain ⟨v, h1, h2⟩ := r.get ex
  refine ⟨⟨vs, v, hH, h1⟩, fun y H2 yl => ?_⟩
  obtain ⟨p, z, rfl, hp, rfl, f⟩ := yl
  have := f vs hH
  rw [h1] at this
  cases this
  exact yld_pair S hp (.int _) (h2.grow g)
theorem iteT_ok {a : Addr} {ds : List D} {vs : List V} (h : F a = some (.tup vs)) (r : DRs T F ds vs) : ItOk T F (enmL ds) (IteT T.K a) := fun F' c σ H g S => by
  have hH : SqT T.K H a vs := .of (S.sub _ _ (g _ _ h))
  refine ⟨fun i hi => ⟨vs, hH, by rw [enm_len] at hi; rw [← r.length]; exact hi⟩, fun i d e => ?_⟩
  obtain ⟨x, ex, rfl⟩ := enm_at e
  obtain ⟨v, h1, h2⟩ := r.get ex
  refine ⟨⟨vs, v, hH, h1⟩, fun y H2 yl => ?_⟩
  obtain ⟨p, z, rfl, hp, rfl, f⟩ := yl
  have := f vs hH
  rw [h1] at this
  cases this
  exact yld_pair S hp (.int _) (h2.grow g)
theorem zip_at {as bs : List D} {i : Nat} {d : D} (e : (List.zipWith (fun x y => D.tup [x, y]) as bs)[i]? = some d) : ∃ x y, as[i]? = some x ∧ bs[i]? = some y ∧ d = .tup [x, y] := by
  rw [List.getElem?_zipWith] at e
  cases q : as[i]? with
  | none => rw [q] at e; cases e
  | some x =>
    cases q2 : bs[i]? with
    | none => rw [q, q2] at e; cases e
    | some y => rw [q, q2] at e; cases e; exact ⟨x, y, rfl, rfl, rfl⟩
theorem itz_ok {a b : Addr} {ds es : List D} {vs us : List V} (h : F a = some (.lst vs)) (h' : F b = some (.lst us)) (r : DRs T F ds vs) (r' : DRs T F es us) : ItOk T F (List.zipWith (fun x y => D.tup [x, y]) ds es) (Itz T.K a b) := fun F' c σ H g S => by
  have hH : SqL T.K H a vs := .of (S.sub _ _ (g _ _ h))
  have hH' : SqL T.K H b us := .of (S.sub _ _ (g _ _ h'))
  refine ⟨fun i hi => ⟨vs, us, hH, hH', ?_⟩, fun i d e => ?_⟩
  · rw [List.length_zipWith] at hi
    have l1 := r.length
    have l2 := r'.length
    omega
  obtain ⟨x, y, ex, ey, rfl⟩ := zip_at e
  obtain ⟨v, h1, h2⟩ := r.get ex
  obtain ⟨u, k1, k2⟩ := r'.get ey
  refine ⟨⟨vs, us, v, u, hH, hH', h1, k1⟩, fun z H2 yl => ?_⟩
  obtain ⟨p, x', y', rfl, hp, rfl, f, f'⟩ := yl
  have e1 := f vs hH
  have e2 := f' us hH'
  rw [h1] at e1
  rw [k1] at e2
  cases e1
  cases e2
  exact yld_pair S hp (h2.grow g) (k2.grow g)
theorem itzT_ok {a b : Addr} {ds es : List D} {vs us : List V} (h : F a = some (.tup vs)) (h' : F b = some (.tup us)) (r : DRs T F ds vs) (r' : DRs T F es us) : ItOk T F (List.zipWith (fun x y => D.tup [x, y]) ds es) (RZ.ItzT T.K a b) := fun F' c σ H g S => by
  have hH : SqT T.K H a vs := .of (S.sub _ _ (g _ _ h))
  have hH' : SqT T.K H b us := .of (S.sub _ _ (g _ _ h'))
  refine ⟨fun i hi => ⟨vs, us, hH, hH', ?_⟩, fun i d e => ?_⟩
  · rw [List.length_zipWith] at hi
    have l1 := r.length
    have l2 := r'.length
    omega
  obtain ⟨x, y, ex, ey, rfl⟩ := zip_at e
  obtain ⟨v, h1, h2⟩ := r.get ex
  obtain ⟨u, k1, k2⟩ := r'.get ey
  refine ⟨⟨vs, us, v, u, hH, hH', h1, k1⟩, fun z H2 yl => ?_⟩
  obtain ⟨p, x', y', rfl, hp, rfl, f, f'⟩ := yl
  have e1 := f vs hH
  have e2 := f' us hH'
  rw [h1] at e1
  rw [k1] at e2
  cases e1
  cases e2
  exact yld_pair S hp (h2.grow g) (k2.grow g)
end
section
variable {Γ : Gt} {T : Tb} {P : Pg} {nc k : Nat} {Wx : WX} {N : List Str} {sc : Scope} {X : Cx}
theorem pi_enm (G : Gd Γ T P nc k Wx N sc X) {a : Ex} {x : Expr} {elts : List Expr} {kk : Nat} {tp p p2 : Pos} (h : AE T P nc k Wx X a x) (hn : noStar x = true) (hg : glB sc "enumerate" = true) : PI X (.Tuple elts kk tp) (.Call (.Name "enumerate" p2) [x] [] p) (tI T Wx (evX P nc k (.enm a))) := by
  obtain ⟨g1, g2⟩ := gl_of G hg
  refine (pi_enumA g1 (G.blt _ (by decide +kernel)) (pa_cons h pa_nil (star_each hn [] X.env)) (star_each hn [] X.env)).impC fun σ H R ⟨F, c, S, q⟩ => ⟨F, c, S, ?_⟩
  simp only [evX, ev] at q
  refine q.bind.mono fun w F1 c1 H1 he st1 q1 v r => ?_
  obtain ⟨F2, st2, r2, g2⟩ := st1.freeze S r
  obtain ⟨w2, e, q2⟩ := (q.bind' he st2).ofO
  obtain ⟨xs, ex, rfl⟩ := Option.map_eq_some_iff.mp e
  obtain ⟨ys, ey, q3⟩ := q2 F2 H1 (.refl st2.sim)
  cases ey
  rw [G.kT]
  cases hd : w.toD with
  | lst ds =>
    rw [hd] at ex r2
    cases ex
    cases r2 with
    | lst h1 h2 => exact ⟨_, _, rfl, .inl ⟨.of (st2.sim.sub _ _ h1), q3 _ (ite_ok (.of h1) h2)⟩⟩
  | tup ds =>
    rw [hd] at ex r2
    cases ex
    cases r2 with
    | tup h1 h2 => exact ⟨_, _, rfl, .inr ⟨.of (st2.sim.sub _ _ h1), q3 _ (iteT_ok h1 h2)⟩⟩
  | scr ns =>
    rw [hd] at ex r2
    cases ex
    cases r2 with
    | scr h1 => exact ⟨_, _, rfl, .inl ⟨SqL.grow st2.sim.sub h1, q3 _ (ite_ok h1 (DRs.of_ints ns))⟩⟩
  | _ => rw [hd] at ex; cases ex
theorem pi_zp (G : Gd Γ T P nc k Wx N sc X) {a b : Ex} {x y : Expr} {elts : List Expr} {kk : Nat} {tp p p2 : Pos} (h : AE T P nc k Wx X a x) (h' : AE T P nc k Wx X b y) (hn : noStar x = true) (hn' : noStar y = true) (hg : glB sc "zip" = true) :
    PI X (.Tuple elts kk tp) (.Call (.Name "zip" p2) [x, y] [] p) (tI T Wx (evX P nc k (.zip a b))) := by
  obtain ⟨g1, g2⟩ := gl_of G hg
  refine (RZ.pi_zipA g1 (G.blt _ (by decide +kernel)) (pa_cons h (pa_cons h' pa_nil (star_each hn' [] X.env)) (star_each hn [y] X.env)) (star_each hn [y] X.env) (star_any (by simp [hn']))).impC fun σ H R ⟨F, c, S, q⟩ => ⟨F, c, S, ?_⟩
  simp only [evX, ev] at q
  refine q.bind.mono fun w F1 c1 H1 he st1 q1 v r => ?_
  obtain ⟨F2, st2, r2, g2⟩ := st1.freeze S r
  have q2 := q.bind' he st2
  refine ⟨F2, c1, st2.sim, q2.bind.mono fun w2 F3 c3 H3 he3 st3 q3 v' r' => ?_⟩
  obtain ⟨F4, st4, r4, g4⟩ := st3.freeze st2.sim r'
  obtain ⟨w4, e, q4⟩ := (q2.bind' he3 st4).ofO
  obtain ⟨xs, ex, rfl⟩ := Option.map_eq_some_iff.mp e
  obtain ⟨ys, ey, q5⟩ := q4 F4 H3 (.refl st4.sim)
  cases ey
  rw [G.kT]
  have r2' := r2.grow st4.gr
  unfold zipD at ex
  split at ex
  · rename_i ds es e1 e2
    cases ex
    rw [e1] at r2'
    rw [e2] at r4
    cases r2' with
    | lst h1 h2 =>
      cases r4 with
      | lst h3 h4 => exact ⟨_, _, _, _, rfl, .inl ⟨.of (st4.sim.sub _ _ h1), .of (st4.sim.sub _ _ h3), q5 _ (itz_ok h1 h3 h2 h4)⟩⟩
  · rename_i ds es e1 e2
    cases ex
    rw [e1] at r2'
    rw [e2] at r4
    cases r2' with
    | tup h1 h2 =>
      cases r4 with
      | tup h3 h4 => exact ⟨_, _, _, _, rfl, .inr ⟨.of (st4.sim.sub _ _ h1), .of (st4.sim.sub _ _ h3), q5 _ (itzT_ok h1 h3 h2 h4)⟩⟩
  · cases ex
end
end Cl

/-! Cl, part L: comprehensions. -/
namespace Cl
open PySem PySem.Spec PyProof.Rows L2
section
variable {T : Tb} {F F' H H' : Hp} {c c' : Sg} {σ : L2.St}

/-! ### slots forgotten -/
theorem wipeS_len (c : Sg) : ∀ vs : List Nat, (wipeS c vs).length = c.length
  | [] => rfl
  | v :: vs => by rw [wipeS, List.length_set, wipeS_len c vs]
theorem wipeS_out {c : Sg} {j : Nat} : ∀ {vs : List Nat}, j ∉ vs → (wipeS c vs)[j]? = c[j]?
  | [], _ => rfl
  | v :: vs, h => by
    rw [List.mem_cons, not_or] at h
    rw [wipeS, List.getElem?_set_ne (Ne.symm h.1), wipeS_out h.2]
theorem wipeS_in {c : Sg} {j : Nat} {w : W} : ∀ {vs : List Nat}, (wipeS c vs)[j]? = some (some w) → j ∉ vs ∧ c[j]? = some (some w)
  | [], h => ⟨by simp, h⟩
  | v :: vs, h => by
    rw [wipeS, get_set] at h
    split at h
    · cases h
    · rename_i hv
      obtain ⟨h1, h2⟩ := wipeS_in h
      refine ⟨?_, h2⟩
      rw [List.mem_cons, not_or]
      refine ⟨fun e => hv ⟨e.symm, ?_⟩, h1⟩
      rw [wipeS_len, e.symm]
      exact lt_of_get h2
theorem wipe_out {c : L2.St} {j : Nat} : ∀ {vs : List Nat}, j ∉ vs → (wipe c vs)[j]? = c[j]?
  | [], _ => rfl
  | v :: vs, h => by
    rw [List.mem_cons, not_or] at h
    rw [wipe, List.getElem?_set_ne (Ne.symm h.1), wipe_out h.2]
theorem wipe_at {c : L2.St} {j : Nat} (hj : j < c.length) : ∀ {vs : List Nat}, j ∈ vs → (wipe c vs)[j]? = some none
  | v :: vs, h => by
    rw [wipe, get_set]
    by_cases e : v = j
    · rw [if_pos ⟨e, by rw [wipe_length]; rw [e]; exact hj⟩]
    · rw [if_neg (fun z => e z.1)]
      rcases List.mem_cons.mp h with h | h
      · exact absurd h.symm e
      · exact wipe_at hj h
theorem wipeS_at {c : Sg} {j : Nat} (hj : j < c.length) : ∀ {vs : List Nat}, j ∈ vs → (wipeS c vs)[j]? = some none
  | v :: vs, h => by
    rw [wipeS, get_set]
    by_cases e : v = j
    · rw [if_pos ⟨e, by rw [wipeS_len]; rw [e]; exact hj⟩]
    · rw [if_neg (fun z => e z.1)]
      rcases List.mem_cons.mp h with h | h
      · exact absurd h.symm e
      · exact wipeS_at hj h
theorem wipeS_idem (c : Sg) (vs : List Nat) : wipeS (wipeS c vs) vs = wipeS c vs := by
  refine List.ext_getElem? fun j => ?_
  by_cases hm : j ∈ vs
  · by_cases hl : j < c.length
    · rw [wipeS_at (by rw [wipeS_len]; exact hl) hm, wipeS_at hl hm]
    · rw [List.getElem?_eq_none (by rw [wipeS_len, wipeS_len]; exact Nat.le_of_not_lt hl), List.getElem?_eq_none (by rw [wipeS_len]; exact Nat.le_of_not_lt hl)]
  · rw [wipeS_out hm]
/-- the target within the block's own slots changes none of the others -/
theorem wipe_asg {s own : List Nat} {c c' : Sg} {σ σ2 : L2.St} (a : AsgR s c c' (wipe σ own) σ2) (hs : ∀ i ∈ s, i ∈ own) : wipe σ2 own = wipe σ own := by
  refine List.ext_getElem? fun j => ?_
  have l := a.lσ
  rw [wipe_length] at l
  by_cases hm : j ∈ own
  · by_cases hl : j < σ.length
    · rw [wipe_at (by rw [l]; exact hl) hm, wipe_at hl hm]
    · rw [List.getElem?_eq_none (by rw [wipe_length, l]; exact Nat.le_of_not_lt hl), List.getElem?_eq_none (by rw [wipe_length]; exact Nat.le_of_not_lt hl)]
  · rw [wipe_out hm, (a.out j fun z => hm (hs j z)).2]
theorem backS_len (c0 c : Sg) : ∀ vs : List Nat, (backS c0 c vs).length = c.length
  | [] => rfl
  | v :: vs => by rw [backS, List.length_set, backS_len c0 c vs]
theorem backS_in {c0 c : Sg} {j : Nat} {w : W} : ∀ {vs : List Nat}, (backS c0 c vs)[j]? = some (some w) → (j ∈ vs ∧ c0[j]? = some (some w)) ∨ (j ∉ vs ∧ c[j]? = some (some w))
  | [], h => .inr ⟨by simp, h⟩
  | v :: vs, h => by
    rw [backS, get_set] at h
    split at h
    · rename_i e
      left
      obtain ⟨e, _⟩ := e
      subst e
      refine ⟨List.mem_cons_self, ?_⟩
      cases q : c0[v]? with
      | none => rw [q] at h; cases h
      | some o => rw [q] at h; cases o with
        | none => cases h
        | some u => cases h; rfl
    · rename_i hv
      rcases backS_in h with ⟨h1, h2⟩ | ⟨h1, h2⟩
      · exact .inl ⟨List.mem_cons_of_mem _ h1, h2⟩
      · by_cases e : v = j
        · exact absurd ⟨e, by rw [backS_len]; rw [e]; exact lt_of_get h2⟩ hv
        · exact .inr ⟨by rw [List.mem_cons, not_or]; exact ⟨Ne.symm e, h1⟩, h2⟩

theorem Sim.wipe (S : Sim T F c σ H) (vs : List Nat) : Sim T F (wipeS c vs) (L2.wipe σ vs) H where
  sub := S.sub
  len := by rw [wipeS_len, wipe_length]; exact S.len
  at_ := fun i w h => by
    obtain ⟨h1, h2⟩ := wipeS_in h
    rw [wipe_out h1]
    exact S.at_ i w h2
  inj := fun i j w u a h1 o1 h2 o2 h3 h4 => by
    obtain ⟨n1, g1⟩ := wipeS_in h1
    obtain ⟨n2, g2⟩ := wipeS_in h2
    rw [wipe_out n1] at h3
    rw [wipe_out n2] at h4
    exact S.inj i j w u a g1 o1 g2 o2 h3 h4
theorem Stp.unset {s own : List Nat} {c1 c2 : Sg} {σ2 : L2.St} (S : Sim T F c (L2.wipe σ own) H) (a : AsgR s c c1 (L2.wipe σ own) σ2) (hs : ∀ i ∈ s, i ∈ own) (st : Stp T σ2 F c1 H F' c2 H') : Stp T (L2.wipe σ own) F c H F' (wipeS c2 own) H' := by
  have hw := wipe_asg a hs
  have up : ∀ b, OwnA c1 σ2 b → OwnA c (L2.wipe σ own) b := fun b ⟨j, w, h1, h2, h3⟩ => by
    obtain ⟨g1, g2⟩ := a.own j w h1 h2
    exact ⟨j, w, g1, h2, by rw [← g2]; exact h3⟩
  have out : ∀ j, j ∉ own → (L2.wipe σ own)[j]? = σ2[j]? := fun j h => by rw [← hw, wipe_out h]
  refine ⟨st.gr, ⟨st.sim.sub, ?_, fun j w h => ?_, fun i j w u b h1 o1 h2 o2 h3 h4 => ?_⟩, fun b o h n => st.fr b o h fun z => n (up b z), fun j w h o => ?_, st.dom, fun b o h => ?_⟩
  · rw [wipeS_len, ← hw, wipe_length]; exact st.sim.len
  · obtain ⟨h1, h2⟩ := wipeS_in h
    rw [out j h1]
    exact st.sim.at_ j w h2
  · obtain ⟨n1, g1⟩ := wipeS_in h1
    obtain ⟨n2, g2⟩ := wipeS_in h2
    rw [out i n1] at h3
    rw [out j n2] at h4
    exact st.sim.inj i j w u b g1 o1 g2 o2 h3 h4
  · obtain ⟨h1, h2⟩ := wipeS_in h
    obtain ⟨w0, q1, q2⟩ := st.os j w h2 o
    obtain ⟨g1, _⟩ := a.own j w0 q1 q2
    exact ⟨w0, g1, q2⟩
  · rcases st.nf b o h with z | z | z
    · exact .inl z
    · exact .inr (.inl z)
    · exact .inr (.inr (up b z))
/-- a new thing that is not tracked as frozen changes -/
theorem Stp.updN (S : Sim T F c σ H) (st : Stp T σ F c H F' c' H') {a : Addr} {o : HO} (hn : H a = none) (hf : F' a = none) : Stp T σ F c H F' c' (upd H' a o) := by
  have no : ¬ OwnA c' σ a := fun q => by
    obtain ⟨_, o', h⟩ := S.own_at (st.osA q)
    rw [hn] at h; cases h
  refine ⟨st.gr, ⟨fun b u h => ?_, st.sim.len, fun j w h => ?_, st.sim.inj⟩, fun b u h n => ?_, st.os, fun b h => ?_, st.nf⟩
  · have hb : b ≠ a := fun z => by rw [z, hf] at h; cases h
    rw [upd_ne hb]; exact st.sim.sub b u h
  · obtain ⟨v, h1, h2⟩ := st.sim.at_ j w h
    refine ⟨v, h1, h2.keep (fun _ _ q => q) (fun b ow e => ?_) fun b x ow e q => ?_⟩
    · obtain ⟨b', e2, f, _⟩ := h2.own_at ow
      rw [e] at e2; cases e2; exact f
    · have hb : b ≠ a := fun z => by
        subst z
        exact no ⟨j, w, h, ow, by rw [h1, e]⟩
      rw [upd_ne hb]; exact q
  · have hb : b ≠ a := fun z => by rw [z, hn] at h; cases h
    rw [upd_ne hb]; exact st.fr b u h n
  · by_cases e : b = a
    · rw [e, upd_same] at h; cases h
    · rw [upd_ne e] at h; exact st.dom b h
/-- behind the block -/
theorem Stp.back {own : List Nat} {c2 : Sg} (S : Sim T F c σ H) (hp : own.all (plainAt c) = true) (st : Stp T (L2.wipe σ own) F (wipeS c own) H F' c2 H') (hw : wipeS c2 own = c2) : Stp T σ F c H F' (backS c c2 own) H' := by
  have up : ∀ b, OwnA (wipeS c own) (L2.wipe σ own) b → OwnA c σ b := fun b ⟨j, w, h1, h2, h3⟩ => by
    obtain ⟨n, g⟩ := wipeS_in h1
    rw [wipe_out n] at h3
    exact ⟨j, w, g, h2, h3⟩
  have pl : ∀ j w, j ∈ own → c[j]? = some (some w) → w.own = false := fun j w hj h => by
    have := List.all_eq_true.mp hp j hj
    unfold plainAt at this
    rw [h] at this
    simpa using this
  refine ⟨st.gr, ⟨st.sim.sub, ?_, fun j w h => ?_, fun i j w u b h1 o1 h2 o2 h3 h4 => ?_⟩, fun b o h n => st.fr b o h fun z => n (up b z), fun j w h o => ?_, st.dom, fun b o h => ?_⟩
  · rw [backS_len, st.sim.len, wipe_length]
  · rcases backS_in h with ⟨h1, h2⟩ | ⟨h1, h2⟩
    · obtain ⟨v, g1, g2⟩ := S.at_ j w h2
      have := pl j w h1 h2
      refine ⟨v, g1, g2.keep st.gr (fun a e => ?_) fun a x e => ?_⟩
      · rw [this] at e; cases e
      · rw [this] at e; cases e
    · obtain ⟨v, g1, g2⟩ := st.sim.at_ j w h2
      rw [wipe_out h1] at g1
      exact ⟨v, g1, g2⟩
  · rcases backS_in h1 with ⟨n1, g1⟩ | ⟨n1, g1⟩
    · rw [pl i w n1 g1] at o1; cases o1
    · rcases backS_in h2 with ⟨n2, g2⟩ | ⟨n2, g2⟩
      · rw [pl j u n2 g2] at o2; cases o2
      · exact st.sim.inj i j w u b g1 o1 g2 o2 (by rw [wipe_out n1]; exact h3) (by rw [wipe_out n2]; exact h4)
  · rcases backS_in h with ⟨h1, h2⟩ | ⟨h1, h2⟩
    · rw [pl j w h1 h2] at o; cases o
    · obtain ⟨w0, q1, q2⟩ := st.os j w h2 o
      obtain ⟨n, g⟩ := wipeS_in q1
      exact ⟨w0, g, q2⟩
  · rcases st.nf b o h with z | z | z
    · exact .inl z
    · exact .inr (.inl z)
    · exact .inr (.inr (up b z))
theorem asgs_in_own : ∀ {own : List Nat} {t : Tg}, tgOwn own t = true → ∀ i ∈ tgS t, i ∈ own
  | own, .nm j, h, i, hi => by
    simp only [tgS, List.mem_singleton] at hi
    subst hi
    simpa [tgOwn] using h
  | own, .tp ts, h, i, hi => by
    simp only [tgS] at hi
    simp only [tgOwn, List.all_eq_true] at h
    have key : ∀ ts : List Tg, (∀ t ∈ ts, (match t with | .nm i => own.contains i | _ => false) = true) → i ∈ tgSs ts → i ∈ own := by
      intro ts
      induction ts with
      | nil => intro _ h; simp [tgSs] at h
      | cons t ts ih =>
        intro h1 h2
        rw [tgSs, List.mem_append] at h2
        rcases h2 with h2 | h2
        · have := h1 t List.mem_cons_self
          cases t with
          | nm j =>
            simp only [tgS, List.mem_singleton] at h2
            subst h2
            simpa using this
          | tp _ => cases this
        · exact ih (fun t ht => h1 t (List.mem_cons_of_mem _ ht)) h2
    exact key ts h hi
theorem itc_len {xs : List D} {i : Nat} (h : ¬ i < xs.length) : xs.drop i = [] := List.drop_eq_nil_of_le (Nat.le_of_not_lt h)
theorem drop_get {α : Type} {xs : List α} {i : Nat} (h : i < xs.length) : xs.drop i = xs[i] :: xs.drop (i + 1) := by
  rw [List.drop_eq_getElem_cons h]
end

abbrev W0 : WX := fun _ _ _ _ => False
section
variable {T : Tb} {P : Pg} {nc k : Nat} {Wx : WX}
/-- a clause's test -/
def tC? (T : Tb) (t : Option (Sg → R Sg Bool)) : TT := match t with
  | none => tYes
  | some f => tT T W0 f
/-- one turn, seen from the wiped state -/
theorem lc_turn {F H : Hp} {c c' : Sg} {σ : L2.St} {own : List Nat} {t : Tg} {tc : Option (Sg → R Sg Bool)} {fe : Sg → R Sg W} {x : D} {v : V} {o : Option D} {KY : VK} {KN : Hp → Prop} (ho : tgOwn own t = true) (S : Sim T F c (L2.wipe σ own) H) (hw : wipeS c own = c) (r : DR T F x v)
    (ht : lcTurn own t tc fe x c = .ok o c') (hk : ∀ y, o = some y → ∀ F' v' H', Stp T (L2.wipe σ own) F c H F' c' H' → DR T F' y v' → KY v' H') (hk0 : o = none → ∀ F' H', Stp T (L2.wipe σ own) F c H F' c' H' → KN H') :
    gOf T.K t v (L2.wipe σ own) H fun σ2 H2 => wipe σ2 own = wipe σ own ∧ tC? T tc σ2 H2 fun b H3 => if b = true then tE T W0 fe σ2 H3 KY else KN H3 := by
  unfold lcTurn at ht
  rw [hw] at ht
  split at ht
  · cases ht
  · rename_i ca ha
    have io := asgs_in_own ho
    refine gOf_ok t S r ha fun σ2 S2 a2 => ⟨wipe_asg a2 io, ?_⟩
    cases tc with
    | none =>
      obtain ⟨w, s3, e1, e2⟩ := R.bind_ok_iff ht
      cases e2
      show if true = true then tE T W0 fe σ2 H KY else KN H
      rw [if_pos rfl]
      refine ⟨F, ca, S2, ?_⟩
      rw [e1]
      intro F4 H4 st4 v4 r4
      obtain ⟨F5, st5, r5, _⟩ := st4.freeze S2 r4
      exact hk _ rfl F5 v4 H4 (st5.unset S a2 io) r5
    | some f =>
      obtain ⟨b, s2, e1, e2⟩ := R.bind_ok_iff ht
      refine ⟨F, ca, S2, ?_⟩
      rw [e1]
      intro F3 H3 st3
      cases b with
      | false =>
        rw [if_neg Bool.false_ne_true] at e2 ⊢
        cases e2
        exact hk0 rfl F3 H3 (st3.unset S a2 io)
      | true =>
        rw [if_pos rfl] at e2 ⊢
        obtain ⟨w, s3, e3, e4⟩ := R.bind_ok_iff e2
        cases e4
        refine ⟨F3, s2, st3.sim, ?_⟩
        rw [e3]
        intro F4 H4 st4 v4 r4
        obtain ⟨F5, st5, r5, _⟩ := st4.freeze st3.sim r4
        exact hk _ rfl F5 v4 H4 ((st3.trans st5).unset S a2 io) r5
theorem kV_of {F : Hp} {d : D} {v : V} {k : Key} (r : DR T F d v) (e : keyD d = some k) : v = kV k := by
  cases r <;> simp only [keyD] at e <;> first | (cases e; rfl) | cases e
theorem dc_turn {F H : Hp} {c c' : Sg} {σ : L2.St} {own : List Nat} {t : Tg} {tc : Option (Sg → R Sg Bool)} {fk fv : Sg → R Sg W} {x : D} {v : V} {o : Option (Key × D)} {KY : List (Key × V) → Key → V → Hp → Prop} {KN : Hp → Prop} (ho : tgOwn own t = true) (S : Sim T F c (L2.wipe σ own) H) (hw : wipeS c own = c) (r : DR T F x v)
    (ht : dcTurn own t tc fk fv x c = .ok o c') (hk : ∀ y, o = some y → ∀ F' v' H', Stp T (L2.wipe σ own) F c H F' c' H' → DR T F' y.2 v' → ∃ kvs, KY kvs y.1 v' H') (hk0 : o = none → ∀ F' H', Stp T (L2.wipe σ own) F c H F' c' H' → KN H') :
    gOf T.K t v (L2.wipe σ own) H fun σ2 H2 => wipe σ2 own = wipe σ own ∧ tC? T tc σ2 H2 fun b H3 => if b = true then tE T W0 fk σ2 H3 (fun y H4 => tE T W0 fv σ2 H4 fun z H5 => ∃ kvs kk, y = kV kk ∧ KY kvs kk z H5) else KN H3 := by
  unfold dcTurn at ht
  simp only at ht
  rw [hw] at ht
  split at ht
  · cases ht
  · rename_i ca ha
    have io := asgs_in_own ho
    refine gOf_ok t S r ha fun σ2 S2 a2 => ⟨wipe_asg a2 io, ?_⟩
    have fin : ∀ {F3 H3 s2}, Stp T σ2 F ca H F3 s2 H3 → ((fk s2).bind fun wk σ2 => (fv σ2).bind fun wv σ3 => match keyD wk.toD with
        | some kk => R.ok (some (kk, wv.toD)) (wipeS σ3 own)
        | none => .bad) = .ok o c' → tE T W0 fk σ2 H3 (fun y H4 => tE T W0 fv σ2 H4 fun z H5 => ∃ kvs kk, y = kV kk ∧ KY kvs kk z H5) := fun {F3 H3 s2} st3 e2 => by
      obtain ⟨wk, s3, e3, e4⟩ := R.bind_ok_iff e2
      obtain ⟨wv, s4, e5, e6⟩ := R.bind_ok_iff e4
      split at e6
      · rename_i kk hkk
        cases e6
        refine ⟨F3, s2, st3.sim, ?_⟩
        rw [e3]
        intro F4 H4 st4 v4 r4
        obtain ⟨F5, st5, r5, _⟩ := st4.freeze st3.sim r4
        refine ⟨F5, s3, st5.sim, ?_⟩
        rw [e5]
        intro F6 H6 st6 v6 r6
        obtain ⟨F7, st7, r7, _⟩ := st6.freeze st5.sim r6
        obtain ⟨kvs, hkv⟩ := hk _ rfl F7 v6 H6 (((st3.trans st5).trans st7).unset S a2 io) r7
        exact ⟨kvs, kk, kV_of r5 hkk, hkv⟩
      · cases e6
    cases tc with
    | none =>
      show if true = true then tE T W0 fk σ2 H (fun y H4 => tE T W0 fv σ2 H4 fun z H5 => ∃ kvs kk, y = kV kk ∧ KY kvs kk z H5) else KN H
      rw [if_pos rfl]
      exact fin (.refl S2) ht
    | some f =>
      obtain ⟨b, s2, e1, e2⟩ := R.bind_ok_iff ht
      refine ⟨F, ca, S2, ?_⟩
      rw [e1]
      intro F3 H3 st3
      cases b with
      | false =>
        rw [if_neg Bool.false_ne_true] at e2 ⊢
        cases e2
        exact hk0 rfl F3 H3 (st3.unset S a2 io)
      | true =>
        rw [if_pos rfl] at e2 ⊢
        exact fin st3 e2
theorem lcL_none {f : D → Sg → R Sg (Option D)} {x : D} {xs acc : List D} {c : Sg} {ys : List D} {c3 : Sg} (h : lcL f (x :: xs) acc c = .ok ys c3) : ∃ o c', f x c = .ok o c' ∧ lcL f xs (match o with | some y => acc ++ [y] | none => acc) c' = .ok ys c3 := by
  rw [lcL] at h
  split at h
  · rename_i y c' e; exact ⟨_, _, e, h⟩
  · rename_i c' e; exact ⟨_, _, e, h⟩
  · cases h
theorem lcL_noexc {f : D → Sg → R Sg (Option D)} : ∀ {xs acc : List D} {c : Sg} {a b s}, lcL f xs acc c ≠ .exc a b s
  | [], acc, c, a, b, s, h => by cases h
  | x :: xs, acc, c, a, b, s, h => by
    rw [lcL] at h
    split at h
    · exact lcL_noexc h
    · exact lcL_noexc h
    · cases h
theorem dcL_none {f : D → Sg → R Sg (Option (Key × D))} {x : D} {xs : List D} {acc : List (Key × D)} {c : Sg} {ys : List (Key × D)} {c3 : Sg} (h : dcL f (x :: xs) acc c = .ok ys c3) : ∃ o c', f x c = .ok o c' ∧ dcL f xs (match o with | some y => dput acc y.1 y.2 | none => acc) c' = .ok ys c3 := by
  rw [dcL] at h
  split at h
  · rename_i y c' e; exact ⟨_, _, e, h⟩
  · rename_i c' e; exact ⟨_, _, e, h⟩
  · cases h
theorem dcL_noexc {f : D → Sg → R Sg (Option (Key × D))} : ∀ {xs : List D} {acc : List (Key × D)} {c : Sg} {a b s}, dcL f xs acc c ≠ .exc a b s
  | [], acc, c, a, b, s, h => by cases h
  | x :: xs, acc, c, a, b, s, h => by
    rw [dcL] at h
    split at h
    · exact dcL_noexc h
    · exact dcL_noexc h
    · cases h
/-- a new thing, not frozen, over a step -/
theorem Stp.keepN {F1 F2 F3 H1 H2 H3 : Hp} {c1 c2 c3 : Sg} {σ : L2.St} {a : Addr} {o : HO} (S : Sim T F1 c1 σ H1) (hn : H1 a = none) (st : Stp T σ F1 c1 H1 F2 c2 H2) (st' : Stp T σ F2 c2 H2 F3 c3 H3) (hf : F2 a = none) (ho : H2 a = some o) : F3 a = none ∧ H3 a = some o := by
  have no : ¬ OwnA c2 σ a := fun q => by
    obtain ⟨_, o', h⟩ := S.own_at (st.osA q)
    rw [hn] at h; cases h
  refine ⟨?_, st'.fr a o ho no⟩
  cases z : F3 a with
  | none => rfl
  | some u =>
    rcases st'.nf a u z with z' | z' | z'
    · rw [hf] at z'; cases z'
    · rw [ho] at z'; cases z'
    · exact absurd z' no
theorem lc_imp {own : List Nat} {t : Tg} {it : Ex} {d : Option Ex} {e : Ex} (ho : tgOwn own t = true) {σ : L2.St} {H : Hp} {Q : VK} (q : tE T Wx (evX P nc k (.lc own t it d e)) σ H Q) :
    tLc (tI T Wx (evX P nc k it)) (gOf T.K t) (tC? T (evC nc (callN P nc k) d)) (tE T W0 (evX P nc k e)) own σ H Q := by
  obtain ⟨F, c, S, q⟩ := q
  refine ⟨F, c, S, ?_⟩
  simp only [evX, ev] at q
  refine q.bind.mono fun w F1 c1 H1 he st1 q1 => ?_
  cases hx : itemsD w.toD with
  | none => rw [hx] at q1; exact q1.elim
  | some xs =>
    rw [hx] at q1
    refine ⟨xs, rfl, fun J hJ D hD => ?_⟩
    simp only at q1
    split at q1
    · rename_i hc
      obtain ⟨pl, hl⟩ := hc
      cases hr : lcL (lcTurn own t (evC nc (callN P nc k) d) (evX P nc k e)) xs [] (wipeS c1 own) with
      | bad => rw [hr] at q1; exact q1.elim
      | exc a b s => exact absurd hr lcL_noexc
      | ok ys c3 =>
        rw [hr, R.bind_ok] at q1
        have S1 := st1.sim.wipe own
        have fD : F1 D = none := st1.sim.notF hD
        have st0 : Stp T (L2.wipe σ own) F1 (wipeS c1 own) H1 F1 (wipeS c1 own) (upd H1 D (.lst [])) := Stp.updN S1 (.refl S1) hD fD
        refine ⟨fun i m Hc => m = xs.length - i ∧ i ≤ xs.length ∧ ∃ F2 c2 acc avs, Stp T (L2.wipe σ own) F1 (wipeS c1 own) H1 F2 c2 Hc ∧ F2 D = none ∧ Hc D = some (.lst avs) ∧ DRs T F2 acc avs ∧ wipeS c2 own = c2 ∧ acc.length ≤ i ∧ lcL (lcTurn own t (evC nc (callN P nc k) d) (evX P nc k e)) (xs.drop i) acc c2 = .ok ys c3,
          ⟨xs.length, by simp, Nat.zero_le _, F1, _, [], [], st0, fD, upd_same, .nil, wipeS_idem _ _, Nat.le_refl _, by simpa using hr⟩, ?_⟩
        rintro i m Hc ⟨rfl, hi, F2, c2, acc, avs, st, fD2, hDc, ra, hw, hal, hrest⟩
        obtain ⟨stop, item⟩ := hJ F2 c2 (L2.wipe σ own) Hc st.gr st.sim
        by_cases hlt : i < xs.length
        · right
          rw [drop_get hlt] at hrest
          obtain ⟨o, c', hturn, hrest⟩ := lcL_none hrest
          obtain ⟨go, yld⟩ := item i xs[i] (List.getElem?_eq_getElem hlt)
          refine ⟨go, fun H' => i + 1 ≤ xs.length ∧ ∃ F2 c2 acc avs, Stp T (L2.wipe σ own) F1 (wipeS c1 own) H1 F2 c2 H' ∧ F2 D = none ∧ H' D = some (.lst avs) ∧ DRs T F2 acc avs ∧ wipeS c2 own = c2 ∧ acc.length ≤ i + 1 ∧ lcL (lcTurn own t (evC nc (callN P nc k) d) (evX P nc k e)) (xs.drop (i + 1)) acc c2 = .ok ys c3,
            fun H' h => ⟨xs.length - (i + 1), by omega, rfl, h⟩, fun x Hy y => ?_⟩
          obtain ⟨F3, sty, rx⟩ := yld x Hy y
          obtain ⟨fD3, hD3⟩ := Stp.keepN S1 hD st sty fD2 hDc
          have st3 := st.trans sty
          have ex : ∃ z, c' = wipeS z own := by
            unfold lcTurn at hturn
            split at hturn
            · cases hturn
            · split at hturn
              · obtain ⟨w, s3, e1, e2⟩ := R.bind_ok_iff hturn
                cases e2; exact ⟨_, rfl⟩
              · obtain ⟨b, s3, e1, e2⟩ := R.bind_ok_iff hturn
                split at e2
                · obtain ⟨w, s4, e3, e4⟩ := R.bind_ok_iff e2
                  cases e4; exact ⟨_, rfl⟩
                · cases e2; exact ⟨_, rfl⟩
          obtain ⟨z, rfl⟩ := ex
          refine lc_turn ho sty.sim hw rx hturn ?_ ?_
          · intro y eo F4 v4 H4 st4 r4
            subst eo
            obtain ⟨fD4, hD4⟩ := Stp.keepN S1 hD st3 st4 fD3 hD3
            refine ⟨avs, hD4, by rw [← ra.length]; omega, hlt, F4, _, acc ++ [y], avs ++ [v4], Stp.updN S1 (st3.trans st4) hD fD4, fD4, upd_same, ((ra.grow sty.gr).grow st4.gr).append (.cons r4 .nil), wipeS_idem _ _, by rw [List.length_append]; exact Nat.succ_le_succ hal, hrest⟩
          · intro eo F4 H4 st4
            subst eo
            obtain ⟨fD4, hD4⟩ := Stp.keepN S1 hD st3 st4 fD3 hD3
            exact ⟨hlt, F4, _, acc, avs, st3.trans st4, fD4, hD4, (ra.grow sty.gr).grow st4.gr, wipeS_idem _ _, Nat.le_succ_of_le hal, hrest⟩
        · left
          rw [itc_len hlt, lcL] at hrest
          cases hrest
          refine ⟨stop i (Nat.le_of_not_lt hlt), ?_⟩
          exact q1 F2 Hc (st.back st1.sim pl hw) (.ref D) ⟨⟨D, avs, rfl, fD2, hDc, ra⟩, fun _ a ea => by cases ea; exact st1.dom D hD⟩
    · exact q1.elim
theorem put_keys {α β : Type} {kvs : List (Key × α)} {kvs' : List (Key × β)} (h : kvs'.map (·.1) = kvs.map (·.1)) (k : Key) : kvs'.any (fun kv => decide (kv.1 = k)) = kvs.any fun kv => decide (kv.1 = k) := by
  have e1 : kvs'.any (fun kv => decide (kv.1 = k)) = (kvs'.map (·.1)).any fun x => decide (x = k) := by rw [List.any_map]; rfl
  have e2 : kvs.any (fun kv => decide (kv.1 = k)) = (kvs.map (·.1)).any fun x => decide (x = k) := by rw [List.any_map]; rfl
  rw [e1, e2, h]
theorem drs_putGo {F : Hp} {κ : Type} [DecidableEq κ] {k : κ} {d : D} {v : V} (r : DR T F d v) : ∀ {kvs : List (κ × D)} {kvs' : List (κ × V)}, kvs'.map (·.1) = kvs.map (·.1) → DRs T F (kvs.map (·.2)) (kvs'.map (·.2)) →
    (kvs'.map (fun kv => if kv.1 = k then (kv.1, v) else kv)).map (·.1) = (kvs.map (fun kv => if kv.1 = k then (kv.1, d) else kv)).map (·.1) ∧ DRs T F ((kvs.map (fun kv => if kv.1 = k then (kv.1, d) else kv)).map (·.2)) ((kvs'.map (fun kv => if kv.1 = k then (kv.1, v) else kv)).map (·.2))
  | [], [], _, _ => ⟨rfl, .nil⟩
  | [], _ :: _, e, _ => by simp at e
  | _ :: _, [], e, _ => by simp at e
  | (a, x) :: r1, (b, y) :: r2, e, h => by
    simp only [List.map_cons, List.cons.injEq] at e
    obtain ⟨e1, e2⟩ := e
    subst e1
    cases h with
    | cons h1 h2 =>
      obtain ⟨g1, g2⟩ := drs_putGo r e2 h2
      by_cases hk : b = k
      · simp only [List.map_cons, if_pos hk]
        exact ⟨by rw [g1], .cons r g2⟩
      · simp only [List.map_cons, if_neg hk]
        exact ⟨by rw [g1], .cons h1 g2⟩
theorem drs_put {F : Hp} {κ : Type} [DecidableEq κ] {k : κ} {d : D} {v : V} (r : DR T F d v) {kvs : List (κ × D)} {kvs' : List (κ × V)} (e : kvs'.map (·.1) = kvs.map (·.1)) (h : DRs T F (kvs.map (·.2)) (kvs'.map (·.2))) :
    (putK kvs' k v).map (·.1) = (dput kvs k d).map (·.1) ∧ DRs T F ((dput kvs k d).map (·.2)) ((putK kvs' k v).map (·.2)) := by
  have e3 : kvs'.any (fun kv => decide (kv.1 = k)) = kvs.any fun kv => decide (kv.1 = k) := by
    have e1 : kvs'.any (fun kv => decide (kv.1 = k)) = (kvs'.map (·.1)).any fun x => decide (x = k) := by rw [List.any_map]; rfl
    have e2 : kvs.any (fun kv => decide (kv.1 = k)) = (kvs.map (·.1)).any fun x => decide (x = k) := by rw [List.any_map]; rfl
    rw [e1, e2, e]
  unfold putK dput
  rw [e3]
  split
  · exact drs_putGo r e h
  · simp only [List.map_append, e]
    exact ⟨rfl, h.append (.cons r .nil)⟩
theorem dput_len {κ : Type} [DecidableEq κ] (kvs : List (κ × D)) (k : κ) (v : D) : (dput kvs k v).length ≤ kvs.length + 1 := by
  unfold dput
  split
  · simp
  · simp
theorem dc_imp {own : List Nat} {t : Tg} {it : Ex} {d : Option Ex} {ek e : Ex} (ho : tgOwn own t = true) {σ : L2.St} {H : Hp} {Q : VK} (q : tE T Wx (evX P nc k (.dc own t it d ek e)) σ H Q) :
    tDc (tI T Wx (evX P nc k it)) (gOf T.K t) (tC? T (evC nc (callN P nc k) d)) (tE T W0 (evX P nc k ek)) (tE T W0 (evX P nc k e)) own σ H Q := by
  obtain ⟨F, c, S, q⟩ := q
  refine ⟨F, c, S, ?_⟩
  simp only [evX, ev] at q
  refine q.bind.mono fun w F1 c1 H1 he st1 q1 => ?_
  cases hx : itemsD w.toD with
  | none => rw [hx] at q1; exact q1.elim
  | some xs =>
    rw [hx] at q1
    refine ⟨xs, rfl, fun J hJ D hD => ?_⟩
    simp only at q1
    split at q1
    · rename_i hc
      obtain ⟨pl, hl⟩ := hc
      cases hr : dcL (dcTurn own t (evC nc (callN P nc k) d) (evX P nc k ek) (evX P nc k e)) xs [] (wipeS c1 own) with
      | bad => rw [hr] at q1; exact q1.elim
      | exc a b s => exact absurd hr dcL_noexc
      | ok ys c3 =>
        rw [hr, R.bind_ok] at q1
        have S1 := st1.sim.wipe own
        have fD : F1 D = none := st1.sim.notF hD
        have st0 : Stp T (L2.wipe σ own) F1 (wipeS c1 own) H1 F1 (wipeS c1 own) (upd H1 D (.dK [])) := Stp.updN S1 (.refl S1) hD fD
        refine ⟨fun i m Hc => m = xs.length - i ∧ i ≤ xs.length ∧ ∃ F2 c2 acc avs, Stp T (L2.wipe σ own) F1 (wipeS c1 own) H1 F2 c2 Hc ∧ F2 D = none ∧ Hc D = some (.dK avs) ∧ (avs.map (·.1) = acc.map (·.1) ∧ DRs T F2 (acc.map (·.2)) (avs.map (·.2))) ∧ wipeS c2 own = c2 ∧ acc.length ≤ i ∧ dcL (dcTurn own t (evC nc (callN P nc k) d) (evX P nc k ek) (evX P nc k e)) (xs.drop i) acc c2 = .ok ys c3,
          ⟨xs.length, by simp, Nat.zero_le _, F1, _, [], [], st0, fD, upd_same, ⟨rfl, .nil⟩, wipeS_idem _ _, Nat.le_refl _, by simpa using hr⟩, ?_⟩
        rintro i m Hc ⟨rfl, hi, F2, c2, acc, avs, st, fD2, hDc, ra, hw, hal, hrest⟩
        obtain ⟨stop, item⟩ := hJ F2 c2 (L2.wipe σ own) Hc st.gr st.sim
        by_cases hlt : i < xs.length
        · right
          rw [drop_get hlt] at hrest
          obtain ⟨o, c', hturn, hrest⟩ := dcL_none hrest
          obtain ⟨go, yld⟩ := item i xs[i] (List.getElem?_eq_getElem hlt)
          refine ⟨go, fun H' => i + 1 ≤ xs.length ∧ ∃ F2 c2 acc avs, Stp T (L2.wipe σ own) F1 (wipeS c1 own) H1 F2 c2 H' ∧ F2 D = none ∧ H' D = some (.dK avs) ∧ (avs.map (·.1) = acc.map (·.1) ∧ DRs T F2 (acc.map (·.2)) (avs.map (·.2))) ∧ wipeS c2 own = c2 ∧ acc.length ≤ i + 1 ∧ dcL (dcTurn own t (evC nc (callN P nc k) d) (evX P nc k ek) (evX P nc k e)) (xs.drop (i + 1)) acc c2 = .ok ys c3,
            fun H' h => ⟨xs.length - (i + 1), by omega, rfl, h⟩, fun x Hy y => ?_⟩
          obtain ⟨F3, sty, rx⟩ := yld x Hy y
          obtain ⟨fD3, hD3⟩ := Stp.keepN S1 hD st sty fD2 hDc
          have st3 := st.trans sty
          have ex : ∃ z, c' = wipeS z own := by
            unfold dcTurn at hturn
            simp only at hturn
            have fin : ∀ {s2}, ((evX P nc k ek s2).bind fun wk σ2 => (evX P nc k e σ2).bind fun wv σ3 => match keyD wk.toD with
                | some kk => R.ok (some (kk, wv.toD)) (wipeS σ3 own)
                | none => .bad) = .ok o c' → ∃ z, c' = wipeS z own := fun {s2} e2 => by
              obtain ⟨wk, s3, e3, e4⟩ := R.bind_ok_iff e2
              obtain ⟨wv, s4, e5, e6⟩ := R.bind_ok_iff e4
              split at e6
              · cases e6; exact ⟨_, rfl⟩
              · cases e6
            split at hturn
            · cases hturn
            · split at hturn
              · exact fin hturn
              · obtain ⟨b, s3, e1, e2⟩ := R.bind_ok_iff hturn
                split at e2
                · exact fin e2
                · cases e2; exact ⟨_, rfl⟩
          obtain ⟨z, rfl⟩ := ex
          refine dc_turn ho sty.sim hw rx hturn ?_ ?_
          · intro y eo F4 v4 H4 st4 r4
            subst eo
            obtain ⟨fD4, hD4⟩ := Stp.keepN S1 hD st3 st4 fD3 hD3
            have hla : avs.length = acc.length := by have := congrArg List.length ra.1; simpa using this
            have hp := drs_put (k := y.1) r4 ra.1 ((ra.2.grow sty.gr).grow st4.gr)
            exact ⟨avs, hD4, by rw [hla]; omega, hlt, F4, _, dput acc y.1 y.2, _, Stp.updN S1 (st3.trans st4) hD fD4, fD4, upd_same, hp, wipeS_idem _ _, Nat.le_trans (dput_len _ _ _) (Nat.succ_le_succ hal), hrest⟩
          · intro eo F4 H4 st4
            subst eo
            obtain ⟨fD4, hD4⟩ := Stp.keepN S1 hD st3 st4 fD3 hD3
            exact ⟨hlt, F4, _, acc, avs, st3.trans st4, fD4, hD4, ⟨ra.1, (ra.2.grow sty.gr).grow st4.gr⟩, wipeS_idem _ _, Nat.le_succ_of_le hal, hrest⟩
        · left
          rw [itc_len hlt, dcL] at hrest
          cases hrest
          refine ⟨stop i (Nat.le_of_not_lt hlt), ?_⟩
          exact q1 F2 Hc (st.back st1.sim pl hw) (.ref D) ⟨⟨D, avs, rfl, fD2, hDc, ra.1, ra.2⟩, fun _ a ea => by cases ea; exact st1.dom D hD⟩
    · exact q1.elim
end
end Cl

/-! Cl, part M: [::-1], a dict of one tuple, blocks. -/
namespace ClRev
open PySem PySem.Spec PyProof.Rows HT
section
variable {prog : Program} {w : World} {A : Around} {E : Value → Shared → Prop} {s : Shared}
theorem adj (n : Nat) : Builtin.Slice.sliceAdjust none none (-1) (n : Int) = ((n : Int) - 1, -1) := by
  have h : ((-1 : Int) < 0) := by decide
  unfold Builtin.Slice.sliceAdjust
  simp only [h, if_true]
theorem plc (n : Nat) : Builtin.Slice.slicePlaces ((n : Int) - 1) (-1) (-1) = n := by
  have h : ¬ ((-1 : Int) > 0) := by decide
  unfold Builtin.Slice.slicePlaces
  simp only [h, if_false]
  have e : (-(-1 : Int)) = 1 := by decide
  rw [e, Int.ediv_one]
  split <;> omega
theorem app {sl : Addr} {vl vu vs : Value} {n : Nat} {Q : Int × Int × Nat → Shared → Prop} (hs : s.heap.IsSliceOf sl vl vu vs) (pl : IsPart vl none) (pu : IsPart vu none) (ps : IsPart vs (some (-1)))
    (h : Q ((n : Int) - 1, -1, n) s) : wpAny (model prog w) A (Builtin.Slice.sliceApplied (.ref sl) (pure (n : Int))) Q E s := by
  obtain ⟨os, g1, g2, g3⟩ := id hs
  unfold Builtin.Slice.sliceApplied Builtin.Slice.sliceFields
  refine wpAny_bind (wpAny_bind (wpAny_field g1 g3 (x := vl) rfl (wpAny_bind (wpAny_field g1 g3 (x := vu) rfl (wpAny_bind (wpAny_field g1 g3 (x := vs) rfl (wpAny_pure ?_)))))))
  refine wpAny_bind (slicePart_ ps ?_)
  show wpAny _ _ (if ((-1 : Int) == 0) = true then _ else _) _ _ s
  rw [if_neg (by decide)]
  refine wpAny_bind (slicePart_ pl (wpAny_bind (slicePart_ pu (wpAny_bind (wpAny_pure ?_)))))
  show wpAny _ _ (match Builtin.Slice.sliceAdjust none none (-1) (n : Int) with | (lo, hi) => pure (lo, (-1 : Int), Builtin.Slice.slicePlaces lo hi (-1))) _ _ s
  rw [adj n]
  show wpAny _ _ (pure ((n : Int) - 1, (-1 : Int), Builtin.Slice.slicePlaces ((n : Int) - 1) (-1) (-1))) _ _ s
  rw [plc]
  exact wpAny_pure h
theorem fm_congr {α β : Type} {f g : α → Option β} : ∀ {l : List α}, (∀ x ∈ l, f x = g x) → l.filterMap f = l.filterMap g
  | [], _ => rfl
  | x :: l, h => by rw [List.filterMap_cons, List.filterMap_cons, h x List.mem_cons_self, fm_congr fun y hy => h y (List.mem_cons_of_mem _ hy)]
theorem pick (xs : Array Value) : ((List.range xs.size).filterMap fun (m : Nat) => xs[(((xs.size : Int) - 1) + (m : Int) * (-1)).toNat]?).toArray = xs.toList.reverse.toArray := by
  have e : ((List.range xs.size).filterMap fun (m : Nat) => xs[(((xs.size : Int) - 1) + (m : Int) * (-1)).toNat]?) = ((List.range xs.size).map (fun k => xs.size - 1 - k)).filterMap (xs[·]?) := by
    rw [List.filterMap_map]
    refine fm_congr fun m hm => ?_
    have := List.mem_range.mp hm
    have e2 : (((xs.size : Int) - 1) + (m : Int) * (-1)).toNat = xs.size - 1 - m := by omega
    rw [e2]; rfl
  rw [e, PySem.W.krv_range, List.filterMap_reverse, PySem.W.krv_all]
theorem get {t sl : Addr} {items : Array Value} {vl vu vs : Value} {Q : Value → Shared → Prop} (ht : IsTup s.heap t items) (hs : s.heap.IsSliceOf sl vl vu vs) (pl : IsPart vl none) (pu : IsPart vu none) (ps : IsPart vs (some (-1)))
    (h : Q (.ref s.heap.objs.size) { s with heap := s.heap.push { cls := .type "tuple", data := .seq items.toList.reverse.toArray } })
    (hsz : items.size ≤ sizeLine) : wpAny (model prog w) A (getItem (.ref t) (.ref sl)) Q E s := by
  have big : sizeOk (.seq items.toList.reverse.toArray) := by
    show items.toList.reverse.toArray.size ≤ sizeLine
    rw [List.size_toArray, List.length_reverse, Array.length_toList]
    exact hsz
  obtain ⟨os, g1, g2, g3⟩ := id hs
  have tS : s.TypeIs (.ref sl) "slice" := ⟨os, g1, g2⟩
  unfold getItem
  try with_reducible refine wpAny_holding ?_
  first | refine wpAny_bind (wpAny_pure ?_) | skip
  refine wpAny_bind (wpAny_sequenceKey ht.typeIs (by decide) (wpAny_bind (wpAny_callSpecial?_slot (name := Str.ofString "__getitem__") ht.typeIs PyProof.Rows.slot_tuple_getitem
    (wpAny_call_entry PyProof.Rows.slot_tuple_getitem ht.typeIs entry_tuple_getitem ?_ (args_tuple_getitem _ _)))))
  show wpAny _ _ (Builtin.Tuple.tupleItemsOf (.ref t) >>= _) _ _ s
  refine wpAny_bind (tupleItemsOf_ ht (wpAny_bind (wpAny_typeOf tS ?_)))
  rw [if_pos (by decide)]
  refine wpAny_bind (app hs pl pu ps ?_)
  have hno : ¬ ((((items.size : Int) - 1) == 0 && (-1 : Int) == 1 && items.size == items.size) = true) := by
    intro q
    rw [Bool.and_eq_true, Bool.and_eq_true] at q
    exact absurd q.1.2 (by decide)
  show wpAny _ _ (if ((((items.size : Int) - 1) == 0 && (-1 : Int) == 1 && items.size == items.size) = true) then _ else _) _ _ s
  rw [if_neg hno, pick]
  first
    | exact wpAny_bind (m := Builtin.Tuple.tupleExact _) (wpAny_newObj_type (wpAny_pure ⟨_, rfl, wpAny_pure h⟩) big)
    | exact wpAny_bind (m := Builtin.Tuple.tupleExact _) (wpAny_newObj_type (wpAny_bind (wpAny_pure (wpAny_pure ⟨_, rfl, wpAny_pure h⟩))) big)
    | exact wpAny_bind (wpAny_bind (m := Builtin.Tuple.tupleExact _) (wpAny_newObj_type (wpAny_pure (wpAny_pure ⟨_, rfl, wpAny_pure h⟩)) big))
    | exact wpAny_bind (wpAny_bind (m := Builtin.Tuple.tupleExact _) (wpAny_newObj_type (wpAny_pure ⟨_, rfl, wpAny_pure h⟩) big))
end
end ClRev
namespace Cl
open PySem PySem.Spec PyProof.Rows L2
/-- a list or a tuple from behind -/
def tRevA (K : PySem.W.Frag) (te : TE) : TE := fun σ H Q => te σ H fun x H1 => ∃ a xs, x = .ref a ∧ ((SqL K H1 a xs ∧ ∀ p, H1 p = none → Q (.ref p) (upd H1 p (.lst xs.reverse))) ∨ (SqT K H1 a xs ∧ ∀ p, H1 p = none → Q (.ref p) (upd H1 p (.tup xs.reverse))))
theorem pe_revA {X : Cx} {e : Expr} {te : TE} {k : Nat} {p1 p2 p3 pos : Pos} (he : PE X e te) : PE X (.Subscript e (.Slice none none (some (.UnaryOp .USub (.Constant (.int 1) k p1) p2)) p3) pos) (tRevA X.K te) := by
  refine ⟨fun pins s σ H Q I h => Subscript_ (thn (he.run pins s σ H _ I h) fun v s1 ⟨x, H1, I1, r1, a, xs, ex, q⟩ => ?_)⟩
  subst ex
  cases r1
  have neg1 : PO X (some (.UnaryOp .USub (.Constant (.int 1) k p1) p2)) (tPart (tUn (rU fun i => .int (-i)) (tC (.int 1)))) := po_some (pe_un un_neg pe_int)
  refine wpAny_Slice (thn (po_none.run pins s1 σ H1 (fun o H2 => o = none ∧ H2 = H1) I1 ⟨rfl, rfl⟩) fun vl s2 ⟨l, H2, I2, pl, e1, e2⟩ => ?_)
  subst e1 e2
  refine thn (po_none.run pins s2 σ H2 (fun o H3 => o = none ∧ H3 = H2) I2 ⟨rfl, rfl⟩) fun vu s3 ⟨u, H3, I3, pu, e1, e2⟩ => ?_
  subst e1 e2
  refine thn (neg1.run pins s3 σ H3 (fun o H4 => o = some (-1) ∧ H4 = H3) I3 ⟨1, rfl, -1, rfl, rfl, rfl⟩) fun vs s4 ⟨o, H4, I4, ps, e1, e2⟩ => ?_
  subst e1 e2
  have I5 : Inv X pins σ H4 { s4 with heap := s4.heap.push { cls := .type "slice", data := .fields #[vl, vu, vs] } } := I4.kept (t' := s4.toks) fun b ob q => Heap.get?_push_of_some _ q
  show wpAny (model X.prog X.w) X.A (subscriptTail e (.Slice none none (some (.UnaryOp .USub (.Constant (.int 1) k p1) p2)) p3) (.ref a) (.ref s4.heap.objs.size)) (EP X pins σ Q) X.xe _
  rcases q with ⟨hx, q⟩ | ⟨hx, q⟩
  · obtain ⟨its, r, ht, hz⟩ := I5.list hx
    have hlen := r.length
    refine tail_any (ops := [.ref a, .ref s4.heap.objs.size]) ht.isList.typeIs (PySem.slot_list_getitem.lookup) (wpAny_getItem_list_slice ht.isList (Heap.IsSliceOf.new _ vl vu vs) pl pu ps (by decide) ?_ (by rw [List.size_toArray]; omega)) (by with_unfolding_all rfl)
    rw [PySem.W.krv_pick]
    exact ⟨.ref _, _, I5.laid (t' := s4.toks) (o := .lst xs.reverse) (fun b ob q => Heap.get?_push_of_some _ q) (Nat.le_refl _) ⟨by rw [List.length_reverse]; exact hz, _, 0, r.reverse, Heap.get?_push_size _ rfl⟩, rfl, q _ (I5.hok.fresh (Nat.le_refl _))⟩
  · obtain ⟨its, r, ht, hz⟩ := I5.tuple hx
    have hlen := r.length
    refine tail_any (ops := [.ref a, .ref s4.heap.objs.size]) ht.typeIs PyProof.Rows.slot_tuple_getitem.lookup (ClRev.get ht (Heap.IsSliceOf.new _ vl vu vs) pl pu ps ?_ (by rw [List.size_toArray]; omega)) (by with_unfolding_all rfl)
    exact ⟨.ref _, _, I5.laid (t' := s4.toks) (o := .tup xs.reverse) (fun b ob q => Heap.get?_push_of_some _ q) (Nat.le_refl _) ⟨by rw [List.length_reverse]; exact hz, _, r.reverse, IsTup.new _ _⟩, rfl, q _ (I5.hok.fresh (Nat.le_refl _))⟩

/-- {k: v}, k a tuple of ints and texts -/
def tDisp1T (tk tv : TE) : TE := fun σ H Q => ∀ p, H p = none → tk σ (upd H p (.dT [])) fun x H1 => tv σ H1 fun y H2 => ∃ b k, x = .ref b ∧ H2 p = some (.dT []) ∧ H2 b = some (.tup (k.map kV)) ∧ Q (.ref p) (upd H2 p (.dT [(k, y)]))
theorem pe_disp1T {X : Cx} {kx vx : Expr} {tk tv : TE} {pos : Pos} (hu : X.A.units + 1 < cLine) (hk : PE X kx tk) (hv : PE X vx tv) : PE X (.Dict [some kx] [vx] pos) (tDisp1T tk tv) := by
  refine ⟨fun pins s σ H Q I q => ?_⟩
  have hn := I.hok.fresh (Nat.le_refl s.heap.objs.size)
  have I1 := I.laid (a := s.heap.objs.size) (o := .dT []) (h' := s.heap.push { cls := .type "dict", data := .dict #[] }) (t' := s.toks) (fun _ _ q => Heap.get?_push_of_some _ q) (Nat.le_refl _) (dt_empty s.heap I.big)
  rw [arm_eval_Dict, zip_pairTrees [some kx] [vx] X.env pos rfl rfl, dictDisplay_pairs _ (by simp [pairTrees]) (by simp [pairTrees])]
  refine wpAny_bind (wpAny_standAt (wpAny_bind ?_))
  unfold subDict
  refine wpAny_bind (wpAny_alloc (wpAny_bind (wpAny_holding ?_)))
  rw [if_pos (by simp [pairTrees])]
  refine wpAny_bind (pairTrees_cons_walk (thn (hk.run pins _ σ _ _ I1 (q _ hn)) fun u s1 ⟨x, H1, J1, rx, q1⟩ => thn (hv.run pins s1 σ H1 _ J1 q1) fun u2 s2 ⟨y, H2, J2, ry, b, k, ex, hp, hb, q2⟩ => pairTrees_nil_walk ?_))
  subst ex
  cases (show u = Value.ref b from rx)
  refine wpAny_holding ?_
  rw [List.forIn_cons]
  obtain ⟨z, hd, xs, rel, dd⟩ := dt_of J2.hok hp
  have hz : xs.length ≤ sizeLine := by rw [← Paired.length rel]; exact z
  refine wpAny_bind (wpAny_bind (wpAny_bind (wpAny_dictSet_heap (hsz := hz) (show X.A.units < cLine by omega) (key_of J2.hok hb) dd fun h' dd' hs => wpAny_pure ?_)))
  show wpAny (model X.prog X.w) X.A (forIn [] _ _) _ _ _
  rw [List.forIn_nil]
  refine wpAny_pure (wpAny_pure (wpAny_pure (wpAny_pure ⟨.ref s.heap.objs.size, _, ?_, rfl, q2⟩)))
  obtain ⟨o, es, ep, g1, g2, g3, g4, _, g5⟩ := dd'
  refine d_write J2 (by rw [hp]; exact True.intro) hs ⟨o, g1⟩ ⟨by show 1 ≤ sizeLine; decide, hd, _, KT.keeps (H := H2) (rel.put k hb ry) fun c ys ec => ?_, o, es, ep, g1, g2, g3, g4, g5⟩
  rw [upd_ne (ne_of ec hp (fun z => nomatch z))]
  exact ec
end Cl

/-! Cl, part N: what was looked at is sound: expressions. -/
namespace Cl
open PySem PySem.Spec PyProof.Rows L2
section
variable {Γ : Gt} {T : Tb} {P : Pg} {nc k : Nat} {Wx : WX} {N : List Str} {sc : Scope} {X : Cx}
theorem takesF {X : Cx} : Takes X W0 := fun u s' x => by
  obtain ⟨_, _, _, _, _, _, _, _, _, _, _, _, _, _, _, _, z⟩ := x
  exact z.elim
/-- a block of the context -/
theorem Gd.blk (G : Gd Γ T P nc k Wx N sc X) {scope : Scope} (hk : scope.kind = .function) (s : Shared) (H : Hp) (C : Addr) (cl : List (Str × Addr)) (fp : List Addr) : Gd Γ T P nc k W0 N (relS scope sc) (X.blk s H scope (compEnvC scope cl C X.env) fp) where
  kT := G.kT
  hN := G.hN
  nd := G.nd
  hs := by
    have : (compEnvC scope cl C X.env).scope = relS scope X.env.scope := rfl
    rw [← G.hs]; exact this
  calm := G.calm
  room := G.room
  blt := G.blt
  con := G.con
  cls := G.cls
  fns := G.fns
  tk := takesF
  cok := G.cok
  kind := hk
theorem ae_rev (G : Gd Γ T P nc k Wx N sc X) {a : Ex} {l : Expr} {j : Nat} {p1 p2 p3 p : Pos} (ha : AO T P nc k Wx X a l) : AE T P nc k Wx X (.rev a) (.Subscript l (.Slice none none (some (.UnaryOp .USub (.Constant (.int 1) j p1) p2)) p3) p) := by
  refine (pe_revA ha).impC fun σ H Q ⟨F, c, S, q⟩ => ⟨F, c, S, ?_⟩
  simp only [evX, ev] at q
  refine q.bind.mono fun x F1 c1 H1 _ st1 q1 v1 r1 => ?_
  obtain ⟨w, e, q3⟩ := q1.ofO
  obtain ⟨x', ex, e⟩ := Option.bind_eq_some_iff.mp e
  rw [G.kT]
  split at e
  · cases e
    obtain ⟨b, vs, rfl, h1, r⟩ := (rd_ok st1.sim r1 ex).lst st1.sim.sub
    exact ⟨b, vs, rfl, .inl ⟨.of h1, fun p hp => (Kont.of st1 q3).lst st1.sim r.reverse hp⟩⟩
  · cases e
    obtain ⟨b, vs, rfl, h1, r⟩ := (rd_ok st1.sim r1 ex).tup
    exact ⟨b, vs, rfl, .inr ⟨.of (st1.sim.sub _ _ h1), fun p hp => (Kont.of st1 q3).tup st1.sim r.reverse hp⟩⟩
  · cases e
theorem ae_dt1 (G : Gd Γ T P nc k Wx N sc X) {a b : Ex} {l r : Expr} {p : Pos} (ha : AE T P nc k Wx X a l) (hb : AE T P nc k Wx X b r) : AE T P nc k Wx X (.dt [a, b]) (.Dict [some l] [r] p) := by
  refine (pe_disp1T G.u1 ha hb).impC fun σ H Q ⟨F, c, S, q⟩ p hp => ?_
  have st0 := S.newH (o := .dT []) hp
  simp only [evX, ev, evDs] at q
  have q0 := (q.later st0).bind.bind
  refine ⟨F, c, st0.sim, q0.mono fun w1 F1 c1 H1 h1 st1 _ v1 r1 => ?_⟩
  obtain ⟨F2, st2, r2, g2⟩ := st1.freeze st0.sim r1
  have q1 := ((q.later st0).bind.bind' h1 st2).bind.bind
  refine ⟨F2, c1, st2.sim, q1.mono fun w2 F3 c3 H3 h3 st3 _ v3 r3 => ?_⟩
  obtain ⟨F4, st4, r4, g4⟩ := st3.freeze st2.sim r3
  have q2 := ((q.later st0).bind.bind' h1 st2).bind.bind' h3 st4
  have q3 := q2 F4 H3 (.refl st4.sim)
  simp only [R.bind_ok] at q3
  have q4 := q3 F4 H3 (.refl st4.sim)
  obtain ⟨w, e, _⟩ := q4.ofO
  obtain ⟨kvs, ek, rfl⟩ := Option.map_eq_some_iff.mp e
  have ek' := ek
  simp only [putAll] at ek
  split at ek
  · rename_i ks hks
    cases ek
    obtain ⟨b, rfl, hb⟩ := DT.tkey st4.sim (.inl (r2.grow st4.gr)) hks
    have n1 := Stp.keepN S hp st0 st2 (S.notF hp) upd_same
    have n2 := Stp.keepN S hp (st0.trans st2) st4 n1.1 n1.2
    refine ⟨b, ks, rfl, n2.2, hb, ?_⟩
    simp only [h1, h3, R.bind_ok, ek', Option.map_some, ofO_some] at q
    exact q F4 _ (Stp.updN S ((st0.trans st2).trans st4) hp n2.1) (.ref p) ⟨⟨p, _, rfl, n2.1, upd_same, rfl, .cons r4 .nil⟩, fun _ a ea => by cases ea; exact hp⟩
  · cases ek
theorem own_names {N : List Str} : ∀ {own : List Nat} {on : List (Str × Nat)}, ownNames N own = some on → on.map (·.2) = own
  | [], on, h => by simp only [ownNames] at h; cases h; rfl
  | i :: r, on, h => by
    simp only [ownNames] at h
    split at h
    · rename_i x q _ hq
      cases h
      rw [List.map_cons, own_names hq]
    · cases h
/-- a clause's tests -/
abbrev CTs (T : Tb) (P : Pg) (nc k : Nat) (X : Cx) (d : Option Ex) (xs : List Expr) : Prop := PTs X xs (tC? T (evC nc (callN P nc k) d))
abbrev AIt (T : Tb) (P : Pg) (nc k : Nat) (Wx : WX) (X : Cx) (e : Ex) (tg x : Expr) : Prop := PI X tg x (tI T Wx (evX P nc k e))
theorem noSet_pure {x : Expr} (h : noSet x = true) (env : Env) (v : Value) : foldedSetIterable x env v = pure v := by
  cases x <;> first | rfl | cases h
section
variable {own : List Nat} {on : List (Str × Nat)} {t : Tg} {it e ek : Ex} {d : Option Ex} {tg iter elt kx vx : Expr} {ifs : List Expr} {scope : Scope} {p : Pos}
theorem lc_tg (G : Gd Γ T P nc k Wx N sc X) (ht : tgB N scope [] t tg = true) (s : Shared) (H : Hp) (C : Addr) (cl : List (Str × Addr)) (fp : List Addr) : PG (X.blk s H scope (compEnvC scope cl C X.env) fp) tg (gOf T.K t) := by
  have keep : ∀ x kd, kd ≠ NameKind.free → scope.names.lookup x = some kd → (relS scope X.env.scope).names.lookup x = some kd := fun x kd hk h => lookup_relS_keep hk h
  refine pg_of (X := X.blk s H scope (compEnvC scope cl C X.env) fp) (sc := scope) (pr := []) G.kT G.calm G.hN G.nd (fun x => ⟨fun h => ?_, fun h => ?_⟩) (fun x h => ?_) t tg ht
  · exact keep x _ (by decide) h
  · exact keep x _ (by decide) h
  · show (scope.names.lookup x == some .cell) = true
    rw [h]; rfl
theorem ae_lc (G : Gd Γ T P nc k Wx N sc X) (hi : AIt T P nc k Wx X it tg iter) (hn : noSet iter = true) (ho : ownNames N own = some on) (hb : blkC N sc scope on = true) (ht : tgB N scope [] t tg = true) (hw : tgOwn own t = true)
    (hd : ∀ Y, Gd Γ T P nc k W0 N (relS scope sc) Y → CTs T P nc k Y d ifs) (he : ∀ Y, Gd Γ T P nc k W0 N (relS scope sc) Y → AE T P nc k W0 Y e elt) : AE T P nc k Wx X (.lc own t it d e) (.ListComp elt [⟨tg, iter, ifs, 0⟩] scope p) := by
  have ok := blkOk_by hb
  have ok' : BlkOk X.N X.env.scope scope on := by rw [G.hN, G.hs]; exact ok
  refine (pe_lc G.calm G.nd' hi ok' (fun s H C cl fp => lc_tg G ht s H C cl fp) (fun s H C cl fp => hd _ (G.blk ok.kind s H C cl fp)) (fun s H C cl fp => he _ (G.blk ok.kind s H C cl fp)) (fun x => noSet_pure hn _ x)).impC fun σ H Q q => ?_
  rw [own_names ho]
  exact lc_imp hw q
theorem ae_dc (G : Gd Γ T P nc k Wx N sc X) (hi : AIt T P nc k Wx X it tg iter) (hn : noSet iter = true) (ho : ownNames N own = some on) (hb : blkC N sc scope on = true) (ht : tgB N scope [] t tg = true) (hw : tgOwn own t = true)
    (hd : ∀ Y, Gd Γ T P nc k W0 N (relS scope sc) Y → CTs T P nc k Y d ifs) (hk : ∀ Y, Gd Γ T P nc k W0 N (relS scope sc) Y → AE T P nc k W0 Y ek kx) (he : ∀ Y, Gd Γ T P nc k W0 N (relS scope sc) Y → AE T P nc k W0 Y e vx) :
    AE T P nc k Wx X (.dc own t it d ek e) (.DictComp kx vx [⟨tg, iter, ifs, 0⟩] scope p) := by
  have ok := blkOk_by hb
  have ok' : BlkOk X.N X.env.scope scope on := by rw [G.hN, G.hs]; exact ok
  refine (pe_dc G.calm G.nd' hi ok' (fun s H C cl fp => lc_tg G ht s H C cl fp) (fun s H C cl fp => hd _ (G.blk ok.kind s H C cl fp)) (fun s H C cl fp => hk _ (G.blk ok.kind s H C cl fp)) (fun s H C cl fp => he _ (G.blk ok.kind s H C cl fp)) (fun x => noSet_pure hn _ x)).impC fun σ H Q q => ?_
  rw [own_names ho]
  exact dc_imp hw q
end
theorem chks_star : ∀ {es : List Ex} {xs : List Expr}, chks Γ N es sc xs = true → xs.all noStar = true ∧ es.length = xs.length
  | [], xs, h => by
    simp only [chks] at h
    split at h
    · exact ⟨rfl, rfl⟩
    · cases h
  | a :: as, xs, h => by
    simp only [chks] at h
    split at h
    · simp only [Bool.and_eq_true] at h
      obtain ⟨h1, h2⟩ := chks_star h.2
      exact ⟨by rw [List.all_cons, h.1.1, h1]; rfl, by simp [h2]⟩
    · cases h
theorem chkAs_star : ∀ {es : List Ex} {xs : List Expr}, chkAs Γ N es sc xs = true → xs.all noStar = true
  | [], xs, h => by
    simp only [chkAs] at h
    split at h
    · rfl
    · cases h
  | a :: as, xs, h => by
    simp only [chkAs] at h
    split at h
    · simp only [Bool.and_eq_true] at h
      rw [List.all_cons, h.1.1, chkAs_star h.2]; rfl
    · cases h
theorem rev_is {l h st : Option Expr} (r : isRev l h st = true) : l = none ∧ h = none ∧ ∃ j p1 p2, st = some (.UnaryOp .USub (.Constant (.int 1) j p1) p2) := by
  unfold isRev at r
  split at r
  · rw [of_decide_eq_true r]; exact ⟨rfl, rfl, _, _, _, rfl⟩
  · cases r
def isBo : Expr → Bool
  | .BoolOp _ _ _ => true
  | _ => false
/-- what a look in mode m gives -/
def Res (T : Tb) (P : Pg) (nc k : Nat) (Wx : WX) (X : Cx) (e : Ex) (m : Nat) (tg x : Expr) : Prop := match m with
  | 0 => AE T P nc k Wx X e x ∧ AO T P nc k Wx X e x
  | 1 => CT T P nc k Wx X e x ∧ BT T P nc k Wx X e x ∧ (isBo x = true → BW T P nc k Wx X e x)
  | _ => AIt T P nc k Wx X e tg x ∧ noSet x = true
theorem res_gen (G : Gd Γ T P nc k Wx N sc X) {e : Ex} {m : Nat} {tg x : Expr} {v : Bool} (h : gen m x v = true) (a : v = true → AE T P nc k Wx X e x) (hv : ∀ i, e = .var i → v = true → PE X x (tVar i)) : Res T P nc k Wx X e m tg x := by
  match m with
  | 0 => exact ⟨a h, ao_of (a h) fun i z => hv i z h⟩
  | 1 =>
    have h' : plainT x = true ∧ v = true := by simpa [gen] using h
    exact ⟨ct_plain G (ao_of (a h'.2) fun i z => hv i z h'.2) h'.1, bt_plain (a h'.2) h'.1, fun z => by
      cases x <;> first | (cases z; done) | (cases h'.1; done)⟩
  | m + 2 =>
    have h' : noSet x = true ∧ v = true := by simpa [gen] using h
    exact ⟨pi_seq G (a h'.2), h'.1⟩
theorem ao_not {e : Ex} {x : Expr} (h : AE T P nc k Wx X e x) (hn : ∀ i, e ≠ .var i) : AO T P nc k Wx X e x := ao_of h fun i z => absurd z (hn i)
theorem res_le (e : Ex) {m : Nat} {tg x : Expr} (h : m ≤ 1) (hn : ∀ i, e ≠ .var i) (hb : boolE e = true) (a : m = 0 → AE T P nc k Wx X e x) (b : m = 1 → BT T P nc k Wx X e x) (w : m = 1 → isBo x = true → BW T P nc k Wx X e x) : Res T P nc k Wx X e m tg x := by
  match m, h with
  | 0, _ => exact ⟨a rfl, ao_not (a rfl) hn⟩
  | 1, _ => exact ⟨ct_bool (b rfl) hb, b rfl, w rfl⟩
theorem res_bw (e : Ex) {m : Nat} {tg x : Expr} (h : m ≤ 1) (hn : ∀ i, e ≠ .var i) (hb : boolE e = true) (a : m = 0 → AE T P nc k Wx X e x) (b : m = 1 → BW T P nc k Wx X e x) : Res T P nc k Wx X e m tg x :=
  res_le e h hn hb a (fun z => (b z).pt) fun z _ => b z
/-- the rest of a chain of and, or -/
theorem bw_rest {a : Ex} {y z : Expr} {r : List Expr} {p : Pos} {op : BoolOp} (h : Res T P nc k Wx X a 1 y (.BoolOp op (y :: z :: r) p)) : BW T P nc k Wx X a (.BoolOp op (y :: z :: r) p) := h.2.2 rfl
/-- one behind another -/
abbrev APs (T : Tb) (P : Pg) (nc k : Nat) (Wx : WX) (X : Cx) (es : List Ex) (xs : List Expr) : Prop := Paired (fun e x => AE T P nc k Wx X e x ∧ AO T P nc k Wx X e x ∧ noStar x = true) es xs
theorem aps_ads : ∀ {es : List Ex} {xs : List Expr}, APs T P nc k Wx X es xs → ADs T P nc k Wx X es xs
  | _, _, .nil => ads_nil
  | _, _, .cons r t => ads_cons r.1 (aps_ads t) r.2.2
theorem aps_aos : ∀ {es : List Ex} {xs : List Expr}, APs T P nc k Wx X es xs → AOs T P nc k Wx X es xs
  | _, _, .nil => aos_nil
  | _, _, .cons r t => aos_cons r.2.1 (aps_aos t) r.2.2
theorem pi_rng (G : Gd Γ T P nc k Wx N sc X) {es : List Ex} {x : Expr} {xs : List Expr} {tg : Expr} {p p2 : Pos} (h : APs T P nc k Wx X es (x :: xs)) (hl : xs.length ≤ 1) (hg : glB sc "range" = true) : AIt T P nc k Wx X (.rng es) tg (.Call (.Name "range" p2) (x :: xs) [] p) := by
  cases h with
  | cons r t =>
    cases t with
    | nil => exact pi_rng1 G r.2.1 r.2.2 hg
    | cons r' t' =>
      cases t' with
      | nil => exact pi_rng2 G r.2.1 r'.2.1 r.2.2 r'.2.2 hg
      | cons _ _ => simp at hl
theorem rg_rel {F : Hp} (a b : Int) : DRs T F ((List.range (b - a).toNat).map fun (i : Nat) => D.int (a + i)) (rgV a b) := by
  unfold rgV
  generalize (b - a).toNat = n
  induction n with
  | zero => exact .nil
  | succ n ih =>
    rw [List.range_succ, List.map_append, List.map_append]
    exact ih.append (.cons (.int _) .nil)
/-- what follows a range's bounds -/
theorem rg_fin {F H : Hp} {c : Sg} {σ : L2.St} {Q : VK} {tp : Bool} {a b : Int} (S : Sim T F c σ H) (k : Kont T σ F c H Q (if tp then W.d (.tup ((List.range (b - a).toNat).map fun (i : Nat) => D.int (a + i))) else W.fl ((List.range (b - a).toNat).map fun (i : Nat) => D.int (a + i)))) :
    ∀ q, H q = none → Q (.ref q) (upd H q (if tp then .tup (rgV a b) else .lst (rgV a b))) := fun q hq => by
  cases tp with
  | true => exact Kont.tup k S (rg_rel a b) hq
  | false => exact Kont.lst k S (rg_rel a b) hq
theorem pe_lrg {te : L2.St → Hp → (Int → Int → Hp → Prop) → Prop} (G : Gd Γ T P nc k Wx N sc X) {tp : Bool} {f : Str} {e : Expr} {p p4 : Pos} (hn : noStar e = true) (hf : f = if tp then "tuple" else "list") (hg : glB sc f = true) (he : PRg X e te) :
    PE X (.Call (.Name f p) [e] [] p4) (fun σ H Q => te σ H fun a b H1 => RgOk a b ∧ ∀ q, H1 q = none → Q (.ref q) (upd H1 q (if tp then .tup (rgV a b) else .lst (rgV a b)))) := by
  obtain ⟨g1, g2⟩ := gl_of G hg
  cases tp with
  | true =>
    cases hf
    exact pe_tupRg G.calm g1 (G.blt _ (by decide +kernel)) he (star_each hn [] _)
  | false =>
    cases hf
    exact pe_listRg G.calm g1 (G.blt _ (by decide +kernel)) he (star_each hn [] _)
theorem ae_lrg (G : Gd Γ T P nc k Wx N sc X) {tp : Bool} {es : List Ex} {f : Str} {x : Expr} {xs : List Expr} {p p2 p3 p4 : Pos} (h : APs T P nc k Wx X es (x :: xs)) (hl : xs.length ≤ 1) (hf : f = if tp then "tuple" else "list") (hg : glB sc f = true) (hr : glB sc "range" = true) :
    AE T P nc k Wx X (.lrg tp es) (.Call (.Name f p) [.Call (.Name "range" p2) (x :: xs) [] p3] [] p4) := by
  obtain ⟨r1, r2⟩ := gl_of G hr
  have mr : X.mg "range" = none := G.blt _ (by decide +kernel)
  cases h with
  | @cons a _ es' _ r t =>
    cases t with
    | nil =>
      refine (pe_lrg G rfl hf hg (prg_1 (pos := p3) (p := p2) r1 mr r.2.1 (star_each r.2.2 [] _))).impC fun σ H Q ⟨F, c, S, q⟩ => ⟨F, c, S, ?_⟩
      simp only [evX, ev, evOs] at q
      refine q.bind.bind.mono fun y F1 c1 H1 he st1 q1 v1 r1 => ?_
      have q2 := q1 F1 H1 (.refl st1.sim)
      obtain ⟨w, e, q3⟩ := q2.ofO
      obtain ⟨ds, ed, e⟩ := Option.bind_eq_some_iff.mp e
      obtain ⟨ys, ey, rfl⟩ := Option.map_eq_some_iff.mp e
      have dt := rds_ok st1.sim (.cons r1 .nil) ed
      unfold rngD at ey
      split at ey
      · split at ey
        · rename_i j hj
          cases ey
          obtain ⟨v, ev, d⟩ := dt.one
          cases ev
          cases d.int
          refine ⟨j, rfl, ⟨by decide, by decide, hj.1, by omega, by rw [Int.sub_zero]; exact hj.2⟩, rg_fin st1.sim ?_⟩
          simp only [Int.sub_zero, Int.zero_add]
          exact .of st1 q3
        · cases ey
      · have := dt.length; simp at this
      · cases ey
    | cons r' t' =>
      cases t' with
      | nil =>
        refine (pe_lrg G rfl hf hg (prg_2 (pos := p3) (p := p2) r1 mr r.2.1 r'.2.1 (by rw [star_each r.2.2 [_] X.env, star_each r'.2.2 [] X.env]) (star_each r'.2.2 [] _) (star_any (by simp [r'.2.2])))).impC fun σ H Q ⟨F, c, S, q⟩ => ⟨F, c, S, ?_⟩
        simp only [evX, ev, evOs] at q
        refine q.bind.bind.mono fun y F1 c1 H1 he st1 q1 v1 r1 => ⟨F1, c1, st1.sim, q1.bind.bind.mono fun y2 F2 c2 H2 he2 st2 q2 v2 r2 => ?_⟩
        have q4 := q2 F2 H2 (.refl st2.sim)
        simp only [R.bind_ok] at q4
        have q5 := q4 F2 H2 (.refl st2.sim)
        obtain ⟨w, e, q3⟩ := q5.ofO
        obtain ⟨ds, ed, e⟩ := Option.bind_eq_some_iff.mp e
        obtain ⟨ys, ey, rfl⟩ := Option.map_eq_some_iff.mp e
        have dt := rds_ok st2.sim (.cons (r1.grow st2.gr) (.cons r2 .nil)) ed
        unfold rngD at ey
        split at ey
        · have := dt.length; simp at this
        · split at ey
          · rename_i i j hj
            cases ey
            obtain ⟨v, u, ev, d1, d2⟩ := dt.two
            cases ev
            cases d1.int
            cases d2.int
            exact ⟨i, j, rfl, rfl, ⟨hj.1, by omega, hj.2.2.1, by omega, hj.2.2.2.2⟩, rg_fin st2.sim (.of (st1.trans st2) q3)⟩
          · cases ey
        · cases ey
      | cons _ _ => simp at hl
theorem dt1_of (G : Gd Γ T P nc k Wx N sc X) {es : List Ex} {l r : Expr} {p : Pos} (h : APs T P nc k Wx X es [l, r]) : AE T P nc k Wx X (.dt es) (.Dict [some l] [r] p) := by
  match es, h with
  | [a, b], .cons q (.cons q' .nil) => exact ae_dt1 G q.1 q'.1
theorem isIo_eq {e : Ex} {i : Nat} (h : isIo e = some i) : e = .io i := by
  cases e <;> simp [isIo] at h
  rw [h]
mutual
theorem chk_ok : ∀ (e : Ex) {Wx : WX} {sc : Scope} {X : Cx} (m : Nat) (tg x : Expr), Gd Γ T P nc k Wx N sc X → chk Γ N e sc m tg x = true → Res T P nc k Wx X e m tg x
  | .var i, Wx, sc, X, m, tg, x, G, h => res_gen G h (fun h => ae_var G h) fun j z h => by cases z; exact var_ok G h
  | .io _, Wx, sc, X, m, tg, x, G, h => nomatch h
  | .con d, Wx, sc, X, m, tg, x, G, h => res_gen G h (fun h => ae_con G h) fun j z h => nomatch z
  | .bin o a b, Wx, sc, X, m, tg, x, G, h => res_gen G h (fun h => by
      split at h
      · simp only [Bool.and_eq_true, decide_eq_true_eq] at h
        obtain ⟨⟨rfl, h1⟩, h2⟩ := h
        exact ae_bin G (chk_ok a 0 _ _ G h1).2 (chk_ok b 0 _ _ G h2).2
      · cases h) fun j z h => nomatch z
  | .neg a, Wx, sc, X, m, tg, x, G, h => res_gen G h (fun h => by
      split at h
      · exact ae_neg (chk_ok a 0 _ _ G h).2
      · cases h) fun j z h => nomatch z
  | .not a, Wx, sc, X, m, tg, x, G, h => by
      simp only [chk, Bool.and_eq_true, decide_eq_true_eq] at h
      obtain ⟨hm, h⟩ := h
      split at h
      · exact res_le _ hm (fun i z => nomatch z) rfl (fun e => by subst e; exact ae_not G (chk_ok a 0 _ _ G h).2) (fun e => by subst e; exact bt_not (chk_ok a 1 _ _ G h).1) (fun _ z => nomatch z)
      · cases h
  | .and a b, Wx, sc, X, m, tg, x, G, h => by
      simp only [chk, Bool.and_eq_true, decide_eq_true_eq] at h
      obtain ⟨hm, h⟩ := h
      split at h
      · simp only [Bool.and_eq_true] at h
        obtain ⟨h1, h2⟩ := h
        split at h2
        · exact res_bw _ hm (fun i z => nomatch z) rfl (fun e => by subst e; exact ae_and (chk_ok a 0 _ _ G h1).1 (pe_one (chk_ok b 0 _ _ G h2).1))
            (fun e => by subst e; exact bw_and (chk_ok a 1 _ _ G h1).2.1 (bw_one (chk_ok b 1 _ _ G h2).2.1))
        · exact res_bw _ hm (fun i z => nomatch z) rfl (fun e => by subst e; exact ae_and (chk_ok a 0 _ _ G h1).1 (chk_ok b 0 _ _ G h2).1)
            (fun e => by subst e; exact bw_and (chk_ok a 1 _ _ G h1).2.1 (bw_rest (chk_ok b 1 _ _ G h2)))
      · cases h
  | .or a b, Wx, sc, X, m, tg, x, G, h => by
      simp only [chk, Bool.and_eq_true, decide_eq_true_eq] at h
      obtain ⟨hm, h⟩ := h
      split at h
      · simp only [Bool.and_eq_true] at h
        obtain ⟨h1, h2⟩ := h
        split at h2
        · exact res_bw _ hm (fun i z => nomatch z) rfl (fun e => by subst e; exact ae_or (chk_ok a 0 _ _ G h1).1 (pe_one (chk_ok b 0 _ _ G h2).1))
            (fun e => by subst e; exact bw_or (chk_ok a 1 _ _ G h1).2.1 (bw_one (chk_ok b 1 _ _ G h2).2.1))
        · exact res_bw _ hm (fun i z => nomatch z) rfl (fun e => by subst e; exact ae_or (chk_ok a 0 _ _ G h1).1 (chk_ok b 0 _ _ G h2).1)
            (fun e => by subst e; exact bw_or (chk_ok a 1 _ _ G h1).2.1 (bw_rest (chk_ok b 1 _ _ G h2)))
      · cases h
  | .cmp o a b, Wx, sc, X, m, tg, x, G, h => by
      simp only [chk, Bool.and_eq_true, decide_eq_true_eq] at h
      obtain ⟨hm, h⟩ := h
      split at h
      · simp only [Bool.and_eq_true, decide_eq_true_eq, Bool.not_eq_true'] at h
        obtain ⟨⟨⟨rfl, h0⟩, h1⟩, h2⟩ := h
        have ha := (chk_ok a 0 _ _ G h1).2
        have hb := (chk_ok b 0 _ _ G h2).2
        exact res_le _ hm (fun i z => nomatch z) rfl (fun _ => ae_cmp G ha hb h0) (fun _ => bt_cmp G ha hb h0) (fun _ z => nomatch z)
      · cases h
  | .chn o o' a b d, Wx, sc, X, m, tg, x, G, h => by
      simp only [chk, Bool.and_eq_true, decide_eq_true_eq] at h
      obtain ⟨hm, h⟩ := h
      split at h
      · simp only [Bool.and_eq_true, decide_eq_true_eq, Bool.not_eq_true'] at h
        obtain ⟨⟨⟨⟨⟨rfl, rfl⟩, h0⟩, h1⟩, h2⟩, h3⟩ := h
        have ha := (chk_ok a 0 _ _ G h1).2
        have hb := (chk_ok b 0 _ _ G h2).2
        have hd := (chk_ok d 0 _ _ G h3).2
        exact res_le _ hm (fun i z => nomatch z) rfl (fun _ => ae_chn G ha hb hd h0) (fun _ => bt_chn G ha hb hd h0) (fun _ z => nomatch z)
      · cases h
  | .ite d a b, Wx, sc, X, m, tg, x, G, h => res_gen G h (fun h => by
      split at h
      · simp only [Bool.and_eq_true] at h
        exact ae_ite (chk_ok d 1 _ _ G h.1.1).1 (chk_ok a 0 _ _ G h.1.2).1 (chk_ok b 0 _ _ G h.2).1
      · cases h) fun j z h => nomatch z
  | .call f as, Wx, sc, X, m, tg, x, G, h => res_gen G h (fun h => by
      split at h
      · simp only [Bool.and_eq_true, decide_eq_true_eq] at h
        exact ae_call G (chkAs_ok as _ G h.2) h.1.1 h.1.2 (chkAs_star h.2)
      · cases h) fun j z h => nomatch z
  | .blt b as, Wx, sc, X, m, tg, x, G, h => res_gen G h (fun h => by
      split at h
      · simp only [Bool.and_eq_true, decide_eq_true_eq] at h
        obtain ⟨⟨h1, rfl⟩, h2⟩ := h
        exact ae_blt G (aps_aos (chks_ok as _ G h2)) h1 (chks_star h2).1
      · cases h) fun j z h => nomatch z
  | .isi a tp ks, Wx, sc, X, m, tg, x, G, h => res_gen G h (fun h => by
      split at h
      · simp only [Bool.and_eq_true, decide_eq_true_eq] at h
        obtain ⟨⟨⟨⟨h1, rfl⟩, h2⟩, h3⟩, h4⟩ := h
        split at h4
        · exact ae_isi1 G (chk_ok a 0 _ _ G h2).2 h3 h1 h4
        · simp only [Bool.and_eq_true, decide_eq_true_eq] at h4
          exact ae_isi2 G (chk_ok a 0 _ _ G h2).2 h3 h1 h4.1 h4.2
        · cases h4
      · cases h) fun j z h => nomatch z
  | .mth _ _ _, Wx, sc, X, m, tg, x, G, h => nomatch h
  | .mut mm i as, Wx, sc, X, m, tg, x, G, h => res_gen G h (fun h => by
      split at h
      · simp only [Bool.and_eq_true, decide_eq_true_eq] at h
        obtain ⟨⟨⟨h1, rfl⟩, h2⟩, h3⟩ := h
        split at h3
        · simp only [Bool.and_eq_true] at h3
          obtain ⟨h4, h5⟩ := h3
          split at h4
          · split at h5
            · exact ae_pop G h1 h2
            · cases h5
          · cases h4
        · simp only [Bool.and_eq_true, decide_eq_true_eq] at h3
          exact ae_mut G h1 (aps_ads (chks_ok as _ G h3.2)) (chks_star h3.2).1 h2 h3.1.2
      · cases h) fun j z h => nomatch z
  | .ix a b, Wx, sc, X, m, tg, x, G, h => res_gen G h (fun h => by
      split at h
      · simp only [Bool.and_eq_true] at h
        exact ae_ix G (chk_ok a 0 _ _ G h.1.2).2 (chk_ok b 0 _ _ G h.2).2 h.1.1
      · cases h) fun j z h => nomatch z
  | .sl a lo hi, Wx, sc, X, m, tg, x, G, h => res_gen G h (fun h => by
      split at h
      · simp only [Bool.and_eq_true] at h
        exact ae_sl G (chk_ok a 0 _ _ G h.1.1).2 (chkI_ok lo _ G h.1.2) (chkI_ok hi _ G h.2)
      · cases h) fun j z h => nomatch z
  | .rev a, Wx, sc, X, m, tg, x, G, h => res_gen G h (fun h => by
      split at h
      · simp only [Bool.and_eq_true] at h
        obtain ⟨rfl, rfl, j, p1, p2, rfl⟩ := rev_is h.1
        exact ae_rev G (chk_ok a 0 _ _ G h.2).2
      · cases h) fun j z h => nomatch z
  | .fld _ _ _, Wx, sc, X, m, tg, x, G, h => nomatch h
  | .tup as, Wx, sc, X, m, tg, x, G, h => res_gen G h (fun h => by
      split at h
      · simp only [Bool.and_eq_true, decide_eq_true_eq] at h
        exact ae_tup (aps_ads (chks_ok as _ G h.1)) (by rw [(chks_star h.1).2]; exact h.2)
      · cases h) fun j z h => nomatch z
  | .lst as, Wx, sc, X, m, tg, x, G, h => res_gen G h (fun h => by
      split at h
      · simp only [Bool.and_eq_true, decide_eq_true_eq] at h
        exact ae_lst (aps_ads (chks_ok as _ G h.1)) (by rw [(chks_star h.1).2]; exact h.2)
      · cases h) fun j z h => nomatch z
  | .rng as, Wx, sc, X, m, tg, x, G, h => by
      simp only [chk, Bool.and_eq_true, decide_eq_true_eq] at h
      obtain ⟨rfl, h⟩ := h
      split at h
      · simp only [Bool.and_eq_true, decide_eq_true_eq] at h
        obtain ⟨⟨⟨h1, rfl⟩, h2⟩, h3⟩ := h
        exact ⟨pi_rng G (chks_ok as _ G h3) h2 h1, rfl⟩
      · cases h
  | .lrg tp as, Wx, sc, X, m, tg, x, G, h => res_gen G h (fun h => by
      split at h
      · simp only [Bool.and_eq_true, decide_eq_true_eq] at h
        obtain ⟨⟨⟨⟨⟨h1, h2⟩, h3⟩, rfl⟩, h4⟩, h5⟩ := h
        exact ae_lrg G (chks_ok as _ G h5) h4 h2 h1 h3
      · cases h) fun j z h => nomatch z
  | .enm a, Wx, sc, X, m, tg, x, G, h => by
      simp only [chk, Bool.and_eq_true, decide_eq_true_eq] at h
      obtain ⟨rfl, h⟩ := h
      split at h
      · simp only [Bool.and_eq_true, decide_eq_true_eq] at h
        obtain ⟨⟨⟨h1, rfl⟩, h2⟩, h3⟩ := h
        exact ⟨pi_enm G (chk_ok a 0 _ _ G h3).1 h2 h1, rfl⟩
      · cases h
  | .zip a b, Wx, sc, X, m, tg, x, G, h => by
      simp only [chk, Bool.and_eq_true, decide_eq_true_eq] at h
      obtain ⟨rfl, h⟩ := h
      split at h
      · simp only [Bool.and_eq_true, decide_eq_true_eq] at h
        obtain ⟨⟨⟨⟨⟨h1, rfl⟩, h2⟩, h3⟩, h4⟩, h5⟩ := h
        exact ⟨pi_zp G (chk_ok a 0 _ _ G h4).1 (chk_ok b 0 _ _ G h5).1 h2 h3 h1, rfl⟩
      · cases h
  | .lc own t it d e, Wx, sc, X, m, tg, x, G, h => res_gen G h (fun h => by
      split at h
      · simp only [Bool.and_eq_true] at h
        obtain ⟨⟨⟨⟨⟨h1, h2⟩, h3⟩, h4⟩, h5⟩, h6⟩ := h
        split at h2
        · rename_i on hon
          exact ae_lc G (chk_ok it 2 _ _ G h1).1 (chk_ok it 2 _ _ G h1).2 hon h2 h3 h4 (fun Y G' => chkC_ok d _ G' h5) (fun Y G' => (chk_ok e 0 _ _ G' h6).1)
        · cases h2
      · cases h) fun j z h => nomatch z
  | .dc own t it d ek e, Wx, sc, X, m, tg, x, G, h => res_gen G h (fun h => by
      split at h
      · simp only [Bool.and_eq_true] at h
        obtain ⟨⟨⟨⟨⟨⟨h1, h2⟩, h3⟩, h4⟩, h5⟩, h6⟩, h7⟩ := h
        split at h2
        · rename_i on hon
          exact ae_dc G (chk_ok it 2 _ _ G h1).1 (chk_ok it 2 _ _ G h1).2 hon h2 h3 h4 (fun Y G' => chkC_ok d _ G' h5) (fun Y G' => (chk_ok ek 0 _ _ G' h6).1) (fun Y G' => (chk_ok e 0 _ _ G' h7).1)
        · cases h2
      · cases h) fun j z h => nomatch z
  | .dk kvs, Wx, sc, X, m, tg, x, G, h => res_gen G h (fun h => by
      split at h
      · exact ae_dk0
      · cases h) fun j z h => nomatch z
  | .dt kvs, Wx, sc, X, m, tg, x, G, h => res_gen G h (fun h => by
      split at h
      · cases kvs with
        | nil => exact ae_dt0
        | cons _ _ => cases h
      · simp only [Bool.and_eq_true] at h
        exact dt1_of G (chks_ok kvs _ G h.2)
      · cases h) fun j z h => nomatch z
theorem chks_ok : ∀ (es : List Ex) {Wx : WX} {sc : Scope} {X : Cx} (xs : List Expr), Gd Γ T P nc k Wx N sc X → chks Γ N es sc xs = true → APs T P nc k Wx X es xs
  | [], Wx, sc, X, xs, G, h => by
      simp only [chks] at h
      split at h
      · exact .nil
      · cases h
  | a :: as, Wx, sc, X, xs, G, h => by
      simp only [chks] at h
      split at h
      · simp only [Bool.and_eq_true] at h
        exact .cons ⟨(chk_ok a 0 _ _ G h.1.2).1, (chk_ok a 0 _ _ G h.1.2).2, h.1.1⟩ (chks_ok as _ G h.2)
      · cases h
theorem chkAs_ok : ∀ (es : List Ex) {Wx : WX} {sc : Scope} {X : Cx} (xs : List Expr), Gd Γ T P nc k Wx N sc X → chkAs Γ N es sc xs = true → AAs T P nc k Wx X es xs
  | [], Wx, sc, X, xs, G, h => by
      simp only [chkAs] at h
      split at h
      · exact aas_nil
      · cases h
  | a :: as, Wx, sc, X, xs, G, h => by
      simp only [chkAs] at h
      split at h
      · simp only [Bool.and_eq_true] at h
        obtain ⟨⟨h1, h2⟩, h3⟩ := h
        split at h2
        · rename_i i hi
          rw [isIo_eq hi]
          exact aas_io (var_ok G h2) (chkAs_ok as _ G h3) h1
        · rename_i hi
          exact aas_cons (chk_ok a 0 _ _ G h2).1 (chkAs_ok as _ G h3) h1 (fun i z => by subst z; cases hi)
      · cases h
theorem chkI_ok : ∀ (e : Option Ex) {Wx : WX} {sc : Scope} {X : Cx} (x : Option Expr), Gd Γ T P nc k Wx N sc X → chkI Γ N e sc x = true → AI T P nc k Wx X e x
  | none, Wx, sc, X, x, G, h => by
      simp only [chkI] at h
      split at h
      · exact ai_none
      · cases h
  | some a, Wx, sc, X, x, G, h => by
      simp only [chkI] at h
      split at h
      · exact ai_some (chk_ok a 0 _ _ G h).2
      · cases h
theorem chkC_ok : ∀ (e : Option Ex) {sc : Scope} {X : Cx} (x : List Expr), Gd Γ T P nc k W0 N sc X → chkC Γ N e sc x = true → CTs T P nc k X e x
  | none, sc, X, x, G, h => by
      simp only [chkC] at h
      split at h
      · exact pts_nil
      · cases h
  | some a, sc, X, x, G, h => by
      simp only [chkC] at h
      split at h
      · exact pts_one (chk_ok a 1 _ _ G h).1
      · cases h
end
end
end Cl

/-! Cl, part O: statements. -/
namespace Cl
open PySem PySem.Spec PyProof.Rows L2

/-- the entry of a def -/
structure Ent where
  F0 : Hp
  c0 : Sg
  σ0 : L2.St
  H0 : Hp
  pr : List Nat
/-- within the body of a def -/
structure Bd (T : Tb) (E : Ent) (F : Hp) (c : Sg) (σ : L2.St) (H : Hp) : Prop where
  gr : ∀ a o, E.F0 a = some o → F a = some o
  sim : Sim T F c σ H
  s0 : Sim T E.F0 E.c0 E.σ0 E.H0
  fr : ∀ a o, E.H0 a = some o → ¬ OwnA E.c0 E.σ0 a → H a = some o
  ow : ∀ (i : Nat) (w : W) (a : Addr), c[i]? = some (some w) → w.own = true → σ[i]? = some (some (.ref a)) → i ∈ E.pr ∨ E.H0 a = none
  pw : ∀ i ∈ E.pr, ∃ w : W, E.c0[i]? = some (some w) ∧ w.own = true
  dom : ∀ a, H a = none → E.H0 a = none
  nf : ∀ a o, F a = some o → E.F0 a = some o ∨ E.H0 a = none ∨ OwnA E.c0 E.σ0 a
  pin : ∀ i ∈ E.pr, σ[i]? = E.σ0[i]?
section
variable {T : Tb} {E : Ent} {F F' H H' : Hp} {c c' : Sg} {σ σ' : L2.St}
theorem Bd.oA (B : Bd T E F c σ H) {a : Addr} (h : OwnA c σ a) : OwnA E.c0 E.σ0 a ∨ E.H0 a = none := by
  obtain ⟨i, w, h1, h2, h3⟩ := h
  rcases B.ow i w a h1 h2 h3 with z | z
  · obtain ⟨w0, k1, k2⟩ := B.pw i z
    exact .inl ⟨i, w0, k1, k2, by rw [← B.pin i z]; exact h3⟩
  · exact .inr z
theorem Bd.stp (B : Bd T E F c σ H) (s : Stp T σ F c H F' c' H') : Bd T E F' c' σ H' where
  gr := fun a o h => s.gr a o (B.gr a o h)
  sim := s.sim
  s0 := B.s0
  fr := fun a o h n => s.fr a o (B.fr a o h n) fun q => by
    rcases B.oA q with z | z
    · exact n z
    · rw [h] at z; cases z
  ow := fun i w a h o e => by
    obtain ⟨w0, k1, k2⟩ := s.os i w h o
    exact B.ow i w0 a k1 k2 e
  pw := B.pw
  dom := fun a h => B.dom a (s.dom a h)
  nf := fun a o h => by
    rcases s.nf a o h with z | z | z
    · exact B.nf a o z
    · exact .inr (.inl (B.dom a z))
    · rcases B.oA z with y | y
      · exact .inr (.inr y)
      · exact .inr (.inl y)
  pin := B.pin
/-- a slot takes a value -/
theorem Bd.set (B : Bd T E F c σ H) {i : Nat} {w : W} {v : V} (hi : i < c.length) (hp : i ∉ E.pr) (r : RS T F H w v) (hn : w.own = true → ∀ a, v = .ref a → E.H0 a = none ∧ ¬ OwnA c σ a) : Bd T E F (c.set i (some w)) (σ.set i (some v)) H := by
  have hσ : i < σ.length := by rw [← B.sim.len]; exact hi
  have key : ∀ (n : Nat) (x : W) (a : Addr), (c.set i (some w))[n]? = some (some x) → (σ.set i (some v))[n]? = some (some (.ref a)) → (n = i ∧ x = w ∧ v = .ref a) ∨ (n ≠ i ∧ c[n]? = some (some x) ∧ σ[n]? = some (some (.ref a))) := fun n x a h1 h2 => by
    by_cases e : i = n
    · subst e
      rw [List.getElem?_set_self hi] at h1
      rw [List.getElem?_set_self hσ] at h2
      cases h1; cases h2
      exact .inl ⟨rfl, rfl, rfl⟩
    · rw [List.getElem?_set_ne e] at h1 h2
      exact .inr ⟨Ne.symm e, h1, h2⟩
  refine ⟨B.gr, ⟨B.sim.sub, by rw [List.length_set, List.length_set]; exact B.sim.len, fun j x h => ?_, fun j l x y a h1 o1 h2 o2 h3 h4 => ?_⟩, B.s0, B.fr, fun j x a h o e => ?_, B.pw, B.dom, B.nf, fun j hj => ?_⟩
  · by_cases e : i = j
    · subst e
      rw [List.getElem?_set_self hi] at h
      cases h
      exact ⟨v, List.getElem?_set_self hσ, r⟩
    · rw [List.getElem?_set_ne e] at h ⊢
      exact B.sim.at_ j x h
  · rcases key j x a h1 h3 with ⟨e1, e2, e3⟩ | ⟨e1, e2, e3⟩
    · rcases key l y a h2 h4 with ⟨f1, f2, f3⟩ | ⟨f1, f2, f3⟩
      · rw [e1, f1]
      · subst e2
        exact absurd ⟨l, y, f2, o2, f3⟩ (hn o1 a e3).2
    · rcases key l y a h2 h4 with ⟨f1, f2, f3⟩ | ⟨f1, f2, f3⟩
      · subst f2
        exact absurd ⟨j, x, e2, o1, e3⟩ (hn o2 a f3).2
      · exact B.sim.inj j l x y a e2 o1 f2 o2 e3 f3
  · rcases key j x a h e with ⟨e1, e2, e3⟩ | ⟨e1, e2, e3⟩
    · subst e2
      exact .inr (hn o a e3).1
    · exact B.ow j x a e2 o e3
  · have e : i ≠ j := fun z => hp (z ▸ hj)
    rw [List.getElem?_set_ne e]
    exact B.pin j hj
/-- a slot is given up -/
theorem Bd.drop (B : Bd T E F c σ H) (i : Nat) : Bd T E F (c.set i none) σ H := by
  have key : ∀ (n : Nat) (x : W), (c.set i none)[n]? = some (some x) → c[n]? = some (some x) := fun n x h => by
    rw [get_set] at h
    split at h
    · cases h
    · exact h
  exact ⟨B.gr, ⟨B.sim.sub, by rw [List.length_set]; exact B.sim.len, fun j x h => B.sim.at_ j x (key j x h), fun j l x y a h1 o1 h2 o2 h3 h4 => B.sim.inj j l x y a (key j x h1) o1 (key l y h2) o2 h3 h4⟩, B.s0, B.fr, fun j x a h o e => B.ow j x a (key j x h) o e, B.pw, B.dom, B.nf, B.pin⟩
/-- targets -/
theorem Bd.asg (B : Bd T E F c σ H) {s : List Nat} (a : AsgR s c c' σ σ') (S : Sim T F c' σ' H) (hs : ∀ i ∈ s, i ∉ E.pr) : Bd T E F c' σ' H where
  gr := B.gr
  sim := S
  s0 := B.s0
  fr := B.fr
  ow := fun i w b h o e => by
    obtain ⟨k1, k2⟩ := a.own i w h o
    exact B.ow i w b k1 o (by rw [← k2]; exact e)
  pw := B.pw
  dom := B.dom
  nf := B.nf
  pin := fun i hi => by
    rw [(a.out i fun z => hs i z hi).2]
    exact B.pin i hi

/-! ### what is wanted behind a statement -/
def PostS (T : Tb) (Wx : WX) (E : Ent) (F : Hp) (o : Out) (D : Ends) : Prop := match o with
  | .nx c' => ∀ F' σ' H', (∀ a o, F a = some o → F' a = some o) → Bd T E F' c' σ' H' → D.nx σ' H'
  | .rt w c' => ∀ F' σ' H' v, (∀ a o, F a = some o → F' a = some o) → Bd T E F' c' σ' H' → RW T F' E.H0 H' w v → D.rt v H'
  | .exc k ds c' => ∀ F' σ' cls d H', (∀ a o, F a = some o → F' a = some o) → Bd T E F' c' σ' H' → XR T F' H' k ds cls d → Wx cls d σ' H'
  | .bad => False
variable {Wx : WX} {D : Ends}
theorem PostS.later {o : Out} (h : PostS T Wx E F o D) (g : ∀ a o, F a = some o → F' a = some o) : PostS T Wx E F' o D := by
  cases o with
  | nx c' => exact fun F2 σ' H' g2 => h F2 σ' H' fun a o z => g2 a o (g a o z)
  | rt w c' => exact fun F2 σ' H' v g2 => h F2 σ' H' v fun a o z => g2 a o (g a o z)
  | exc k ds c' => exact fun F2 σ' cls d H' g2 => h F2 σ' cls d H' fun a o z => g2 a o (g a o z)
  | bad => exact h
/-- an expression ahead -/
theorem PostS.ofR {α : Type} {r : R Sg α} {f : α → Sg → Out} (h : PostS T Wx E F (.ofR r f) D) (B : Bd T E F c σ H) : PostP T Wx σ F c H r fun a F' c' H' => PostS T Wx E F' (f a c') D ∧ Bd T E F' c' σ H' := by
  cases r with
  | ok a c1 => exact fun F1 H1 s => ⟨h.later s.gr, B.stp s⟩
  | exc k ds c1 => exact fun F1 cls d H1 s x => h F1 σ cls d H1 s.gr (B.stp s) x
  | bad => exact h
theorem PostS.seq {o : Out} {f : Sg → Out} {D : Ends} (h : PostS T Wx E F (o.seq f) D) : PostS T Wx E F o { D with nx := fun σ' H' => ∃ F' c', (∀ a o, F a = some o → F' a = some o) ∧ Bd T E F' c' σ' H' ∧ PostS T Wx E F' (f c') D } := by
  cases o with
  | nx c' => exact fun F' σ' H' g B => ⟨F', c', g, B, h.later g⟩
  | rt w c' => exact h
  | exc k ds c' => exact h
  | bad => exact h
/-- a statement's reading -/
def tS (T : Tb) (Wx : WX) (pr : List Nat) (f : Sg → Out) : TS := fun D σ H => ∃ E F c, E.pr = pr ∧ Bd T E F c σ H ∧ PostS T Wx E F (f c) D
end

section
variable {Γ : Gt} {T : Tb} {P : Pg} {nc k : Nat} {Wx : WX} {N : List Str} {sc : Scope} {X : Cx} {pr : List Nat}
abbrev runX (P : Pg) (nc k : Nat) : St → Sg → Out := run nc (callN P nc k)
abbrev runsX (P : Pg) (nc k : Nat) : List St → Sg → Out := runs nc (callN P nc k)
abbrev SOk (T : Tb) (P : Pg) (nc k : Nat) (Wx : WX) (pr : List Nat) (X : Cx) (s : St) (x : Stmt) : Prop := PS X x (tS T Wx pr (runX P nc k s))
abbrev SsOk (T : Tb) (P : Pg) (nc k : Nat) (Wx : WX) (pr : List Nat) (X : Cx) (s : List St) (x : List Stmt) : Prop := PSs X x (tS T Wx pr (runsX P nc k s))

theorem ss_nil : SsOk T P nc k Wx pr X [] [] := pss_nil.impC fun D σ H ⟨E, F, c, _, B, q⟩ => q F σ H (fun _ _ h => h) B
theorem ss_cons {s : St} {ss : List St} {x : Stmt} {xs : List Stmt} (h : SOk T P nc k Wx pr X s x) (hs : SsOk T P nc k Wx pr X ss xs) : SsOk T P nc k Wx pr X (s :: ss) (x :: xs) := by
  refine (pss_cons h hs).impC fun D σ H ⟨E, F, c, e, B, q⟩ => ?_
  simp only [runsX, runs] at q
  have q' := q.seq
  refine ⟨E, F, c, e, B, ?_⟩
  revert q'
  show PostS T Wx E F (runX P nc k s c) _ → PostS T Wx E F (runX P nc k s c) _
  cases runX P nc k s c with
  | nx c' =>
    intro q' F' σ' H' g B'
    obtain ⟨F2, c2, g2, B2, q2⟩ := q' F' σ' H' g B'
    exact ⟨E, F2, c2, e, B2, q2⟩
  | rt w c' => exact fun q' => q'
  | exc _ _ _ => exact fun q' => q'
  | bad => exact fun q' => q'
theorem s_pas {p : Pos} : SOk T P nc k Wx pr X .pas (.Pass p) := ps_pass.impC fun D σ H ⟨E, F, c, _, B, q⟩ => q F σ H (fun _ _ h => h) B
theorem s_nev {x : Stmt} : SOk T P nc k Wx pr X .nev x := ps_never.impC fun D σ H ⟨E, F, c, _, B, q⟩ => q
def noComp : Expr → Bool
  | .ListComp _ _ _ _ => false
  | .SetComp _ _ _ _ => false
  | .DictComp _ _ _ _ _ => false
  | _ => true
theorem sw_no {e : Expr} (h : noComp e = true) (t : Option Expr) (l : Nat) (env : Env) : swapsWith e t l env = pure false := by
  cases e <;> first | rfl | cases h
theorem s_expr {e : Ex} {x : Expr} {p : Pos} (h : AE T P nc k Wx X e x) (hn : noComp x = true) : SOk T P nc k Wx pr X (.expr e) (.Expr x p) := by
  refine (ps_expr h (sw_no hn _ _ _)).impC fun D σ H ⟨E, F, c, _, B, q⟩ => ⟨F, c, B.sim, ?_⟩
  simp only [runX, run] at q
  refine (q.ofR B).mono fun w F1 c1 H1 _ st ⟨q1, B1⟩ v r => ?_
  exact q1 F1 σ H1 (fun _ _ h => h) B1
/-- a new value into a slot -/
theorem set_post {E : Ent} {D : Ends} {F F0 H H0 : Hp} {c c0 : Sg} {σ : L2.St} {i : Nat} {w : W} {v : V} (B0 : Bd T E F0 c0 σ H0) (st : Stp T σ F0 c0 H0 F c H) (hp : i ∉ E.pr) (r : RW T F H0 H w v) (q : PostS T Wx E F (setS c i w) D) : D.nx (σ.set i (some v)) H := by
  unfold setS at q
  split at q
  · rename_i hi
    refine q F _ H (fun _ _ h => h) ((B0.stp st).set hi hp r.1 fun o a e => ⟨B0.dom a (r.2 o a e), fun z => ?_⟩)
    obtain ⟨_, o', h'⟩ := B0.sim.own_at (st.osA z)
    rw [r.2 o a e] at h'; cases h'
  · exact q.elim
theorem s_set (G : Gd Γ T P nc k Wx N sc X) {i : Nat} {y : Str} {e : Ex} {x : Expr} {p p' : Pos} (h : AE T P nc k Wx X e x) (hy : N[i]? = some y) (hl : locB sc y = true) (hf : Fnx X sc) (hp : i ∉ pr) (hs : swapsWith x (some (.Name y p')) p.line X.env = pure false) :
    SOk T P nc k Wx pr X (.set i e) (.Assign [.Name y p'] x p) := by
  have lk : X.env.scope.names.lookup y = some .local ∨ X.env.scope.names.lookup y = some .cell := by
    rw [G.hs]
    unfold locB at hl
    split at hl
    · exact .inl (by assumption)
    · exact .inr (by assumption)
    · cases hl
  have hfn : X.fn y = true ∨ X.env.scope.names.lookup y = some .local := by
    rcases lk with z | z
    · exact .inr z
    · exact .inl (hf y (by rw [← G.hs]; exact z))
  refine (ps_set G.nd' (by rw [G.hN]; exact hy) lk h hs hfn).impC fun D σ H ⟨E, F, c, e', B, q⟩ => ⟨F, c, B.sim, ?_⟩
  simp only [runX, run] at q
  refine (q.ofR B).mono fun w F1 c1 H1 _ st ⟨q1, B1⟩ v r => ?_
  exact set_post B st (by rw [e']; exact hp) r q1
theorem s_ret {e : Ex} {x : Expr} {p : Pos} (h : AE T P nc k Wx X e x) (hv : ∀ i, e ≠ .var i) : SOk T P nc k Wx pr X (.ret e) (.Return (some x) p) := by
  refine (ps_ret h).impC fun D σ H ⟨E, F, c, _, B, q⟩ => ⟨F, c, B.sim, ?_⟩
  have he : runX P nc k (.ret e) c = .ofR (evX P nc k e c) fun w σ' => .rt w σ' := by
    cases e <;> first | rfl | exact absurd rfl (hv _)
  rw [he] at q
  refine (q.ofR B).mono fun w F1 c1 H1 _ st ⟨q1, B1⟩ v r => ?_
  exact q1 F1 σ H1 v (fun _ _ h => h) B1 (r.later fun a z => B.dom a z)
theorem s_retv (G : Gd Γ T P nc k Wx N sc X) {i : Nat} {x : Expr} {p : Pos} (h : varB N sc i x = true) (hp : i ∉ pr) : SOk T P nc k Wx pr X (.ret (.var i)) (.Return (some x) p) := by
  refine (ps_ret (var_ok G h)).impC fun D σ H ⟨E, F, c, e', B, q⟩ => ?_
  simp only [runX, run] at q
  split at q
  · rename_i w hw
    obtain ⟨v, h1, r⟩ := B.sim.at_ i w hw
    refine ⟨v, h1, q F σ H v (fun _ _ h => h) (B.drop i) ⟨r, fun o a e => ?_⟩⟩
    subst e
    rcases B.ow i w a hw o h1 with z | z
    · rw [e'] at z; exact absurd z hp
    · exact z
  · exact q.elim
theorem s_retn {p : Pos} : SOk T P nc k Wx pr X .retn (.Return none p) := ps_retN.impC fun D σ H ⟨E, F, c, _, B, q⟩ => q F σ H .non (fun _ _ h => h) B ⟨.non, fun z => nomatch z⟩
theorem s_ite {d : Ex} {a b : List St} {x : Expr} {xs ys : List Stmt} {p : Pos} (h : CT T P nc k Wx X d x) (ha : SsOk T P nc k Wx pr X a xs) (hb : SsOk T P nc k Wx pr X b ys) : SOk T P nc k Wx pr X (.ite d a b) (.If x xs ys p) := by
  refine (ps_if h ha hb).impC fun D σ H ⟨E, F, c, e, B, q⟩ => ⟨F, c, B.sim, ?_⟩
  simp only [runX, run] at q
  refine (q.ofR B).mono fun b' F1 c1 H1 _ st ⟨q1, B1⟩ => ?_
  cases b' with
  | true =>
    rw [if_pos rfl] at q1 ⊢
    exact ⟨E, F1, c1, e, B1, q1⟩
  | false =>
    rw [if_neg Bool.false_ne_true] at q1 ⊢
    exact ⟨E, F1, c1, e, B1, q1⟩
theorem s_whl {n : Nat} {d : Ex} {b : List St} {x : Expr} {xs : List Stmt} {p : Pos} (ho : PassesOwn (model X.prog X.w) X.A X.env X.xe) (h : CT T P nc k Wx X d x) (hb : SsOk T P nc k Wx pr X b xs) : SOk T P nc k Wx pr X (.whl n d b) (.While x xs [] p) := by
  refine (ps_while ho h hb).impC fun D σ H ⟨E, F, c, e, B, q⟩ => ?_
  refine ⟨fun m σ H => ∃ F c, Bd T E F c σ H ∧ PostS T Wx E F (whL (tst d (evX P nc k d)) (runsX P nc k b) m c) D, ⟨n, F, c, B, q⟩, ?_⟩
  rintro m σ H ⟨F, c, B, q⟩
  cases m with
  | zero => exact q.elim
  | succ m =>
    refine ⟨F, c, B.sim, ?_⟩
    rw [whL] at q
    cases hr : tst d (evX P nc k d) c with
    | bad => rw [hr] at q; exact q.elim
    | exc e ds c1 =>
      rw [hr] at q
      exact fun F1 cls dd H1 s xr => q F1 σ cls dd H1 s.gr (B.stp s) xr
    | ok b' c1 =>
      rw [hr] at q
      intro F1 H1 s
      cases b' with
      | false =>
        rw [if_neg Bool.false_ne_true]
        exact q F1 σ H1 s.gr (B.stp s)
      | true =>
        rw [if_pos rfl]
        refine ⟨fun σ' H' => ∃ F' c', Bd T E F' c' σ' H' ∧ PostS T Wx E F' (whL (tst d (evX P nc k d)) (runsX P nc k b) m c') D, fun σ' H' z => ⟨m, Nat.lt_succ_self m, z⟩, E, F1, c1, e, B.stp s, ?_⟩
        simp only at q
        have q := PostS.later q s.gr
        revert q
        cases runsX P nc k b c1 with
        | nx c' => exact fun q F' σ' H' g B' => ⟨F', c', B', PostS.later q g⟩
        | rt w c' => exact fun q => q
        | exc _ _ _ => exact fun q => q
        | bad => exact fun q => q
theorem s_fr {t : Tg} {it : Ex} {b : List St} {tg iter : Expr} {xs : List Stmt} {p : Pos} (hc : X.calm = true) (hK : X.K = T.K) (ho : PassesOwn (model X.prog X.w) X.A X.env X.xe) (hi : AIt T P nc k Wx X it tg iter) (hn : noSet iter = true) (hg : PG X tg (gOf T.K t)) (ht : ∀ i ∈ tgS t, i ∉ pr) (hb : SsOk T P nc k Wx pr X b xs) :
    SOk T P nc k Wx pr X (.fr t it b) (.For tg iter xs [] p) := by
  refine (ps_for ho hc hi hg hb (fun v => noSet_pure hn _ v)).impC fun D σ H ⟨E, F, c, e, B, q⟩ => ⟨F, c, B.sim, ?_⟩
  simp only [runX, run] at q
  refine (q.ofR B).mono fun w F1 c1 H1 _ st ⟨q1, B1⟩ => ?_
  cases hx : itemsD w.toD with
  | none => rw [hx] at q1; exact q1.elim
  | some ds =>
    rw [hx] at q1
    refine ⟨ds, rfl, fun J hJ => ?_⟩
    simp only at q1
    split at q1
    · generalize hf : (fun x σ => match asg t x σ with
        | some σ' => runs nc (callN P nc k) b σ'
        | none => Out.bad) = f at q1
      refine ⟨fun i m σ H => m = ds.length - i ∧ i ≤ ds.length ∧ ∃ F c, (∀ a o, F1 a = some o → F a = some o) ∧ Bd T E F c σ H ∧ PostS T Wx E F (frL f (ds.drop i) c) D,
        ⟨ds.length, by simp, Nat.zero_le _, F1, c1, fun _ _ h => h, B1, q1⟩, ?_⟩
      rintro i m σ H ⟨rfl, hi, F2, c2, g2, B2, q2⟩
      obtain ⟨stop, item⟩ := hJ F2 c2 σ H g2 B2.sim
      by_cases hlt : i < ds.length
      · right
        obtain ⟨go, yld⟩ := item i ds[i] (List.getElem?_eq_getElem hlt)
        refine ⟨go, fun σ' H' => i + 1 ≤ ds.length ∧ ∃ F c, (∀ a o, F1 a = some o → F a = some o) ∧ Bd T E F c σ' H' ∧ PostS T Wx E F (frL f (ds.drop (i + 1)) c) D, fun σ' H' z => ⟨ds.length - (i + 1), by omega, rfl, z⟩, fun x H' y => ?_⟩
        obtain ⟨F3, s3, r3⟩ := yld x H' y
        rw [drop_get hlt, frL] at q2
        have q3 := q2.later s3.gr
        have hfi : f ds[i] c2 = match asg t ds[i] c2 with
          | some σ' => runs nc (callN P nc k) b σ'
          | none => Out.bad := by rw [← hf]
        rw [hfi] at q3
        cases ha : asg t ds[i] c2 with
        | none => rw [ha] at q3; exact q3.elim
        | some c3 =>
          rw [ha] at q3
          simp only at q3
          refine gOf_ok t s3.sim r3 ha fun σ4 S4 a4 => ⟨E, F3, c3, e, (B2.stp s3).asg a4 S4 (fun i hi => by rw [e]; exact ht i hi), ?_⟩
          revert q3
          show PostS T Wx E F3 (match runsX P nc k b c3 with
            | .nx σ' => frL f (ds.drop (i + 1)) σ'
            | o => o) D → PostS T Wx E F3 (runsX P nc k b c3) _
          cases runsX P nc k b c3 with
          | nx c' => exact fun q F' σ' H' g B' => ⟨hlt, F', c', fun a o z => g a o (s3.gr a o (g2 a o z)), B', PostS.later q g⟩
          | rt w c' => exact fun q => q
          | exc _ _ _ => exact fun q => q
          | bad => exact fun q => q
      · left
        rw [itc_len hlt, frL] at q2
        exact ⟨stop i (Nat.le_of_not_lt hlt), q2 F2 σ H (fun _ _ h => h) B2⟩
    · exact q1.elim
end
end Cl

/-! Cl, part P: more statements. -/
namespace Cl
open PySem PySem.Spec PyProof.Rows L2
section
variable {Γ : Gt} {T : Tb} {P : Pg} {nc k : Nat} {Wx : WX} {N : List Str} {sc : Scope} {X : Cx} {pr : List Nat}

/-! ### o[i] = v -/
def rSetA : TSet := fun o i v H Q => rSetL o i v H Q ∨ rSetD o i v H Q
theorem set_any {X : Cx} (hu : X.A.units + 1 < cLine) : PSet X rSetA := by
  intro pins s σ H o i v ov iv u Q I ro ri rv h
  rcases h with h | h
  · exact set_list pins s σ H o i v ov iv u Q I ro ri rv h
  · exact set_dict hu pins s σ H o i v ov iv u Q I ro ri rv h
theorem setop_ok {F H : Hp} {c : Sg} {σ : L2.St} {i : Nat} {w0 w1 : W} {kd d : D} {o kv v : V} {Q : Hp → Prop} (S : Sim T F c σ H) (hi : c[i]? = some (some w0)) (ho : σ[i]? = some (some o)) (rk : DT T F H kd kv) (r : DR T F d v) (e : setop w0 kd d = some w1)
    (q : ∀ H', Stp T σ F c H F (c.set i (some w1)) H' → Q H') : rSetA o kv v H Q := by
  obtain ⟨o', h1, h2⟩ := S.at_ i w0 hi
  rw [ho] at h1
  cases h1
  unfold setop at e
  split at e
  · obtain ⟨a, us, rfl, fa, ha, rr⟩ := h2
    split at e
    · rename_i n
      obtain ⟨j, ej, rfl⟩ := Option.map_eq_some_iff.mp e
      cases rk.int
      rw [rr.length] at ej
      exact .inl ⟨a, us, n, j, rfl, rfl, ha, ej, q _ (S.write hi rfl ho rfl ⟨a, _, rfl, fa, upd_same, rr.set r j⟩)⟩
    · cases e
  · obtain ⟨a, kv', rfl, fa, ha, e1, rr⟩ := h2
    split at e
    · rename_i k0 hk
      split at e
      · rename_i hl
        cases e
        have hl' : kv'.length < sizeLine := by have := congrArg List.length e1; simp at this; omega
        exact .inr ⟨a, _, rfl, by rw [DT.key rk hk]; exact DPut.k ha hl', q _ (S.write hi rfl ho rfl ⟨a, _, rfl, fa, upd_same, drs_put r e1 rr⟩)⟩
      · cases e
    · cases e
  · obtain ⟨a, kv', rfl, fa, ha, e1, rr⟩ := h2
    split at e
    · rename_i k0 hk
      split at e
      · rename_i hl
        cases e
        have hl' : kv'.length < sizeLine := by have := congrArg List.length e1; simp at this; omega
        obtain ⟨b, rfl, hb⟩ := DT.tkey S rk hk
        exact .inr ⟨a, _, rfl, DPut.t ha hb hl', q _ (S.write hi rfl ho rfl ⟨a, _, rfl, fa, upd_same, drs_put r e1 rr⟩)⟩
      · cases e
    · cases e
  · cases e
theorem sw_sub (x a b : Expr) (q : Pos) (l : Nat) (env : Env) : swapsWithSole [.Subscript a b q] x l env = pure false := by cases x <;> rfl
theorem sw_tup (x : Expr) (es : List Expr) (j : Nat) (q : Pos) (l : Nat) (env : Env) : swapsWithSole [.Tuple es j q] x l env = pure false := by cases x <;> rfl
theorem s_six (G : Gd Γ T P nc k Wx N sc X) {i : Nat} {kx e : Ex} {o ix x : Expr} {p p' : Pos} (he : AE T P nc k Wx X e x) (ho : varB N sc i o = true) (hk : AO T P nc k Wx X kx ix) (hns : noSlice ix = true) :
    SOk T P nc k Wx pr X (.six i kx e) (.Assign [.Subscript o ix p'] x p) := by
  have ha : ∀ v, assign (.Subscript o ix p') X.env v = (do
      let ov ← holding [v] (eval o X.env)
      let iv ← holding [v, ov] (eval ix X.env)
      standAt p'
      holding [v, ov, iv] (setItem ov iv v)
      release [v, ov, iv] []) := by
    intro v
    cases ix <;> first | rfl | cases hns
  refine (ps_asg he (pg_sub (var_ok G ho) hk (set_any G.u1) ha) (sw_sub _ _ _ _ _ _) rfl rfl).impC fun D σ H ⟨E, F, c, e', B, q⟩ => ⟨F, c, B.sim, ?_⟩
  simp only [runX, run] at q
  split at q
  · rename_i w1 hw1
    obtain ⟨ov, h1, h2⟩ := B.sim.at_ i w1 hw1
    have q0 := q.ofR B
    refine q0.mono fun w F1 c1 H1 hr st ⟨q1, B1⟩ v r => ?_
    obtain ⟨F2, st2, r2, g2⟩ := st.freeze B.sim r
    have q2 : PostS T Wx E F2 (Out.ofR (opd kx (ev nc (callN P nc k) kx) c1) fun x σ2 => match rd σ2 x, σ2[i]? with
      | some kd, some (some w0) => match setop w0 kd w.toD with
        | some w1 => .nx (σ2.set i (some w1))
        | none => .bad
      | _, _ => .bad) D := q1.later g2
    have B2 := B.stp st2
    refine ⟨ov, h1, F2, c1, B2.sim, (q2.ofR B2).mono fun y F3 c3 H3 _ st3 ⟨q4, B3⟩ kv rk => ?_⟩
    split at q4
    · rename_i kd w2 hkd hw2
      split at q4
      · rename_i w3 hset
        refine setop_ok B3.sim hw2 h1 (rd_ok B3.sim rk hkd) (r2.grow st3.gr) hset fun H' s' => ?_
        exact q4 F3 σ H' (fun _ _ h => h) (B3.stp s')
      · exact q4.elim
    · exact q4.elim
  · exact q.elim
/-! ### name op= e -/
def augB : Bop → Bool
  | .add => true
  | .sub => true
  | _ => false
def rAug : Bop → TIp
  | .add => fun x y H Q => rI0 (fun i j => .int (i + j)) x y H Q ∨ ∃ i j, x = .str i ∧ y = .str j ∧ i.length + j.length ≤ sizeLine ∧ Q (.str (i ++ j)) H
  | .sub => rI0 fun i j => .int (i - j)
  | _ => fun _ _ _ _ => False
theorem ip_aug {X : Cx} : ∀ o : Bop, PIp X (bopO o) (rAug o)
  | .add => iop_add.or iop_add_str
  | .sub => iop_sub
  | .mul => fun _ _ _ _ _ _ _ _ _ _ _ _ h => h.elim
  | .fdiv => fun _ _ _ _ _ _ _ _ _ _ _ _ h => h.elim
  | .mod => fun _ _ _ _ _ _ _ _ _ _ _ _ h => h.elim
  | .pow => fun _ _ _ _ _ _ _ _ _ _ _ _ h => h.elim
theorem aug_ok {F H : Hp} {o : Bop} {x y r : D} {v u : V} {Q : VK} (hx : DR T F x v) (hy : DR T F y u) (e : augop o x y = some r) (q : ∀ z, DR T F r z → Q z H) : rAug o v u H Q := by
  unfold augop at e
  split at e
  · cases e; cases hx; cases hy
    exact .inl ⟨_, _, rfl, rfl, q _ (.int _)⟩
  · cases hx; cases hy
    split at e
    · cases e
      exact .inr ⟨_, _, rfl, rfl, ‹_›, q _ (.str _)⟩
    · cases e
  · cases e; cases hx; cases hy
    exact ⟨_, _, rfl, rfl, q _ (.int _)⟩
  · cases e
theorem lk_of (G : Gd Γ T P nc k Wx N sc X) (hf : Fnx X sc) {y : Str} (hl : locB sc y = true) : (X.env.scope.names.lookup y = some .local ∨ X.env.scope.names.lookup y = some .cell) ∧ (X.fn y = true ∨ X.env.scope.names.lookup y = some .local) := by
  have lk : X.env.scope.names.lookup y = some .local ∨ X.env.scope.names.lookup y = some .cell := by
    rw [G.hs]
    unfold locB at hl
    split at hl
    · exact .inl (by assumption)
    · exact .inr (by assumption)
    · cases hl
  refine ⟨lk, ?_⟩
  rcases lk with z | z
  · exact .inr z
  · exact .inl (hf y (by rw [← G.hs]; exact z))
theorem s_aug (G : Gd Γ T P nc k Wx N sc X) {i : Nat} {y : Str} {o : Bop} {e : Ex} {x : Expr} {p p' : Pos} (h : AE T P nc k Wx X e x) (hy : N[i]? = some y) (hl : locB sc y = true) (hf : Fnx X sc) (hp : i ∉ pr) :
    SOk T P nc k Wx pr X (.aug i o e) (.AugAssign (.Name y p') (bopO o) x p) := by
  obtain ⟨lk, hfn⟩ := lk_of G hf hl
  refine (ps_aug G.nd' (by rw [G.hN]; exact hy) lk h (ip_aug o) hfn).impC fun D σ H ⟨E, F, c, e', B, q⟩ => ?_
  simp only [runX, run] at q
  split at q
  · rename_i d hd
    obtain ⟨v, h1, h2⟩ := B.sim.at_ i _ hd
    refine ⟨v, h1, F, c, B.sim, (q.ofR B).mono fun w F1 c1 H1 hr st ⟨q1, B1⟩ u r => ?_⟩
    obtain ⟨F2, st2, r2, g2⟩ := st.freeze B.sim r
    have B2 := B.stp st2
    have q2 := q1.later g2
    split at q2
    · rename_i d2 hd2
      refine aug_ok (DR.grow st2.gr h2) r2 hd2 fun z rz => ?_
      exact set_post (w := .d d2) B2 (.refl B2.sim) (by rw [e']; exact hp) ⟨rz, fun o => nomatch o⟩ q2
    · exact q2.elim
  · exact q.elim

/-! ### targets of a tuple; several at once -/
theorem s_unp (G : Gd Γ T P nc k Wx N sc X) {t : Tg} {e : Ex} {x : Expr} {es : List Expr} {j : Nat} {p p' : Pos} (h : AE T P nc k Wx X e x) (hg : tgB N sc pr t (.Tuple es j p') = true) (ht : ∀ i ∈ tgS t, i ∉ pr) (hf : Fnx X sc) (hw : swappedStores [.Tuple es j p'] x X.env = pure none) :
    SOk T P nc k Wx pr X (.unp t e) (.Assign [.Tuple es j p'] x p) := by
  have g : PG X (.Tuple es j p') (gOf T.K t) := pg_of (sc := sc) (pr := pr) G.kT G.calm G.hN G.nd (fun y => by rw [G.hs]; exact ⟨fun z => z, fun z => z⟩) hf t _ hg
  refine (ps_asg h g (sw_tup _ _ _ _ _ _) hw rfl).impC fun D σ H ⟨E, F, c, e', B, q⟩ => ⟨F, c, B.sim, ?_⟩
  simp only [runX, run] at q
  refine (q.ofR B).mono fun w F1 c1 H1 hr st ⟨q1, B1⟩ v r => ?_
  obtain ⟨F2, st2, r2, g2⟩ := st.freeze B.sim r
  have q2 := q1.later g2
  split at q2
  · rename_i c2 ha
    exact gOf_ok t st2.sim r2 ha fun σ4 S4 a4 => q2 F2 σ4 H1 (fun _ _ h => h) ((B.stp st2).asg a4 S4 (fun i hi => by rw [e']; exact ht i hi))
  · exact q2.elim

/-- new values, each with its own place -/
inductive RWs (T : Tb) (F H0 H : Hp) : List W → List V → Prop
  | nil : RWs T F H0 H [] []
  | cons {w : W} {v : V} {ws : List W} {vs : List V} : RW T F H0 H w v → (∀ (n : Nat) (u : W) (b : Addr), ws[n]? = some u → u.own = true → vs[n]? = some (.ref b) → w.own = true → v ≠ .ref b) → RWs T F H0 H ws vs → RWs T F H0 H (w :: ws) (v :: vs)
theorem RWs.later {F H0 H1 H : Hp} (d : ∀ a, H1 a = none → H0 a = none) : ∀ {ws : List W} {vs : List V}, RWs T F H1 H ws vs → RWs T F H0 H ws vs
  | _, _, .nil => .nil
  | _, _, .cons r n t => .cons (r.later d) n (RWs.later d t)
theorem RWs.at_ {F H0 H : Hp} : ∀ {ws : List W} {vs : List V}, RWs T F H0 H ws vs → ∀ (n : Nat) (w : W) (v : V), ws[n]? = some w → vs[n]? = some v → RW T F H0 H w v
  | _, _, .nil, n, w, v, h, _ => by simp at h
  | _, _, .cons r _ t, 0, w, v, h, h' => by simp at h h'; subst h h'; exact r
  | _, _, .cons r _ t, n + 1, w, v, h, h' => RWs.at_ t n w v (by simpa using h) (by simpa using h')
theorem RWs.length {F H0 H : Hp} : ∀ {ws : List W} {vs : List V}, RWs T F H0 H ws vs → ws.length = vs.length
  | _, _, .nil => rfl
  | _, _, .cons _ _ t => by simp [RWs.length t]
def tWs (T : Tb) (Wx : WX) (f : Sg → R Sg (List W)) : TA := fun σ H Q => ∃ F c, Sim T F c σ H ∧ PostP T Wx σ F c H (f c) fun xs F' _ H' => ∀ vs, RWs T F' H H' xs vs → Q vs H'
abbrev AWs (T : Tb) (P : Pg) (nc k : Nat) (Wx : WX) (X : Cx) (es : List Ex) (xs : List Expr) : Prop := PA X xs (tWs T Wx (evWs nc (callN P nc k) es))
theorem aws_nil : AWs T P nc k Wx X [] [] := pa_nil.impC fun σ H Q ⟨F, c, S, q⟩ => q F H (.refl S) [] .nil
/-- a new value stays over a step -/
theorem RW.stp {F F1 F2 H H1 H2 : Hp} {c c1 c2 : Sg} {σ : L2.St} {w : W} {v : V} (S : Sim T F c σ H) (st : Stp T σ F c H F1 c1 H1) (r : RW T F1 H H1 w v) (st2 : Stp T σ F1 c1 H1 F2 c2 H2) : RW T F2 H H2 w v := by
  refine ⟨r.1.keep st2.gr (fun a o e => ?_) fun a x o e h => ?_, r.2⟩
  · have hn := r.2 o a e
    obtain ⟨b, e', f, x, hx⟩ := r.1.own_at o
    rw [e] at e'
    cases e'
    exact (Stp.keepN S hn st st2 f hx).1
  · have hn := r.2 o a e
    obtain ⟨b, e', f, y, hy⟩ := r.1.own_at o
    rw [e] at e'
    cases e'
    rw [hy] at h
    cases h
    exact (Stp.keepN S hn st st2 f hy).2
theorem aws_cons {e : Ex} {es : List Ex} {x : Expr} {xs : List Expr} (h : AE T P nc k Wx X e x) (hs : AWs T P nc k Wx X es xs) (hn : noStar x = true) : AWs T P nc k Wx X (e :: es) (x :: xs) := by
  refine (pa_cons h hs (star_each hn xs X.env)).impC fun σ H Q ⟨F, c, S, q⟩ => ⟨F, c, S, ?_⟩
  simp only [evWs] at q
  refine q.bind.mono fun w F1 c1 H1 he st1 q1 v1 r1 => ⟨F1, c1, st1.sim, q1.bind.mono fun ws F3 c3 H3 _ st3 q3 vs rs => ?_⟩
  refine q3 F3 H3 (.refl st3.sim) (v1 :: vs) (.cons (RW.stp S st1 r1 st3) (fun n u b hu ou hv ow e => ?_) (rs.later st1.dom))
  have hb := (rs.at_ n u _ hu hv).2 ou b rfl
  obtain ⟨a, e', f, x, hx⟩ := r1.1.own_at ow
  rw [e] at e'
  cases e'
  rw [hb] at hx
  cases hx
theorem aps_aws : ∀ {es : List Ex} {xs : List Expr}, APs T P nc k Wx X es xs → AWs T P nc k Wx X es xs
  | _, _, .nil => aws_nil
  | _, _, .cons r t => aws_cons r.1 (aps_aws t) r.2.2
theorem RWs.keepH {F H0 H H' : Hp} (m : ∀ a o, H a = some o → H' a = some o) : ∀ {ws : List W} {vs : List V}, RWs T F H0 H ws vs → RWs T F H0 H' ws vs
  | _, _, .nil => .nil
  | _, _, .cons r n t => .cons ⟨r.1.keep (fun _ _ h => h) (fun a o e => by
      obtain ⟨b, e', f, _⟩ := r.1.own_at o
      rw [e] at e'; cases e'; exact f) fun a x _ _ h => m a x h, r.2⟩ n (RWs.keepH m t)
theorem evWs_len {cl : Calls} : ∀ {es : List Ex} {c : Sg} {ds : List W} {c' : Sg}, evWs nc cl es c = .ok ds c' → ds.length = es.length
  | [], c, ds, c', h => by simp only [evWs] at h; cases h; rfl
  | e :: es, c, ds, c', h => by
    simp only [evWs] at h
    obtain ⟨x, s1, _, h2⟩ := R.bind_ok_iff h
    obtain ⟨y, s2, h3, h4⟩ := R.bind_ok_iff h2
    cases h4
    rw [List.length_cons, List.length_cons, evWs_len h3]
/-- slots set, one behind the other -/
def setsσ (σ : L2.St) : List Nat → List V → L2.St
  | i :: is, v :: vs => setsσ (σ.set i (some v)) is vs
  | _, _ => σ
theorem sets_ok {E : Ent} {D : Ends} {F H0 H : Hp} : ∀ {is : List Nat} {ws : List W} {vs : List V} {c : Sg} {σ : L2.St}, Bd T E F c σ H → (∀ i ∈ is, i ∉ E.pr) → RWs T F H0 H ws vs → (∀ a, H0 a = none → E.H0 a = none) →
    (∀ (n : Nat) (w : W) (a : Addr), ws[n]? = some w → w.own = true → vs[n]? = some (.ref a) → ¬ OwnA c σ a) → PostS T Wx E F (setSs is ws c) D → D.nx (setsσ σ is vs) H ∧ is.length = vs.length
  | [], _, _, c, σ, B, hp, .nil, d, fr, q => by
    simp only [setSs] at q
    exact ⟨q F σ H (fun _ _ h => h) B, rfl⟩
  | [], _, _, c, σ, B, hp, .cons _ _ _, d, fr, q => by simp only [setSs] at q; exact q.elim
  | i :: is, _, _, c, σ, B, hp, .nil, d, fr, q => by simp only [setSs] at q; exact q.elim
  | i :: is, w :: ws, v :: vs, c, σ, B, hp, .cons r n t, d, fr, q => by
    simp only [setSs] at q
    split at q
    · rename_i hi
      have B' := B.set hi (hp i List.mem_cons_self) r.1 fun o a e => ⟨d a (r.2 o a e), fr 0 w a rfl o (by rw [e]; rfl)⟩
      have := sets_ok (σ := σ.set i (some v)) B' (fun j hj => hp j (List.mem_cons_of_mem _ hj)) t d (fun m u a hu ou hv z => ?_) q
      · exact ⟨this.1, by simp [this.2]⟩
      · obtain ⟨j, x, h1, h2, h3⟩ := z
        by_cases e : i = j
        · subst e
          rw [List.getElem?_set_self hi] at h1
          rw [List.getElem?_set_self (by rw [← B.sim.len]; exact hi)] at h3
          cases h1
          exact n m u a hu ou hv h2 (by cases h3; rfl)
        · rw [List.getElem?_set_ne e] at h1 h3
          exact fr (m + 1) u a (by simpa using hu) ou (by simpa using hv) ⟨j, x, h1, h2, h3⟩
    · exact q.elim
theorem gs_names {K : PySem.W.Frag} {H : Hp} {Q : L2.St → Hp → Prop} : ∀ {is : List Nat} {vs : List V} {σ : L2.St}, is.length = vs.length → Q (setsσ σ is vs) H → gsOf K (is.map Tg.nm) vs σ H Q
  | [], [], σ, _, q => ⟨rfl, q⟩
  | [], _ :: _, _, h, _ => by simp at h
  | _ :: _, [], _, h, _ => by simp at h
  | i :: is, v :: vs, σ, h, q => ⟨v, vs, rfl, gs_names (is := is) (vs := vs) (σ := σ.set i (some v)) (by simpa using h) q⟩
def isStar : Expr → Bool
  | .Starred _ _ => true
  | _ => false
/-- which way several stores go -/
def swD (sc : Scope) (ts vs : List Expr) : Option (Option (List Str)) :=
  if !(ts.length == 2 || ts.length == 3) || vs.length != ts.length then some none
  else if vs.any isStar then some none
  else
    let line := (ts.head?.map (·.pos.line)).getD 0
    let names := ts.filterMap fun
      | .Name id pos => if sc.names.lookup id == some .local && pos.line == line then some id else none
      | _ => none
    if names.length != ts.length || names.eraseDups.length != names.length then some none
    else if vs.all (foldedForSure 8) then some none
    else if vs.all (constantsAlone 8) then none
    else some (some names)
theorem sw_dec (G : Gd Γ T P nc k Wx N sc X) {ts vs : List Expr} {k1 k2 : Nat} {p1 p2 : Pos} {r : Option (List Str)} (h : swD sc ts vs = some r) : swappedStores [.Tuple ts k1 p1] (.Tuple vs k2 p2) X.env = pure r := by
  have hb : X.env.blockKind = .function := by
    unfold Env.blockKind
    rw [G.hs, G.kind]; rfl
  have hk : ∀ id, X.env.kindOf id = sc.names.lookup id := fun id => by unfold Env.kindOf; rw [G.hs]
  unfold swD at h
  unfold swappedStores
  have hbb : (ScopeKind.function != ScopeKind.function) = false := by decide
  simp only [hb, hk, hbb, Bool.or_false]
  simp only at h
  split at h
  · rename_i c1
    cases h
    rw [if_pos c1]
  · rename_i c1
    rw [if_neg c1]
    split at h
    · rename_i c2
      cases h
      exact if_pos c2
    · rename_i c2
      refine (if_neg c2).trans ?_
      split at h
      · rename_i c3
        cases h
        exact if_pos c3
      · rename_i c3
        refine (if_neg c3).trans ?_
        split at h
        · rename_i c4
          cases h
          exact if_pos c4
        · rename_i c4
          refine (if_neg c4).trans ?_
          split at h
          · cases h
          · rename_i c5
            cases h
            exact if_neg c5
/-- names as a target, in a row -/
def nmB (N : List Str) (sc : Scope) (pr : List Nat) : List Nat → List Expr → Bool
  | [], [] => true
  | i :: is, .Name x _ :: es => decide (N[i]? = some x) && locB sc x && !pr.contains i && nmB N sc pr is es
  | _, _ => false
theorem nm_tgs {N : List Str} {sc : Scope} {pr : List Nat} : ∀ {is : List Nat} {es : List Expr}, nmB N sc pr is es = true → tgsB N sc pr (is.map Tg.nm) es = true ∧ (∀ i ∈ is, i ∉ pr)
  | [], [], _ => ⟨rfl, fun _ h => nomatch h⟩
  | [], _ :: _, h => by simp [nmB] at h
  | _ :: _, [], h => by simp [nmB] at h
  | i :: is, e :: es, h => by
    unfold nmB at h
    split at h
    · rename_i e1 _
      cases e1
    · rename_i i' is' x q es' e1 e2
      cases e1; cases e2
      simp only [Bool.and_eq_true] at h
      obtain ⟨h1, h2⟩ := nm_tgs h.2
      refine ⟨?_, fun j hj => ?_⟩
      · show (tgB N sc pr (.nm i) (.Name x q) && tgsB N sc pr (is.map Tg.nm) es) = true
        rw [h1, Bool.and_true]
        simp only [tgB, Bool.and_eq_true]
        exact h.1
      · rcases List.mem_cons.mp hj with rfl | hj
        · simpa using h.1.2
        · exact h2 j hj
    · cases h
theorem s_par (G : Gd Γ T P nc k Wx N sc X) {is : List Nat} {es : List Ex} {ts vs : List Expr} {k1 k2 : Nat} {p1 p2 p : Pos} (h : APs T P nc k Wx X es vs) (hl : vs.length ≤ 1000) (hg : nmB N sc pr is ts = true) (hf : Fnx X sc) (hw : swD sc ts vs = some none) :
    SOk T P nc k Wx pr X (.par is es) (.Assign [.Tuple ts k1 p1] (.Tuple vs k2 p2) p) := by
  obtain ⟨g1, g2⟩ := nm_tgs hg
  have g : PG X (.Tuple ts k1 p1) (gOf T.K (.tp (is.map Tg.nm))) := pg_of (sc := sc) (pr := pr) G.kT G.calm G.hN G.nd (fun y => by rw [G.hs]; exact ⟨fun z => z, fun z => z⟩) hf (.tp (is.map Tg.nm)) _ g1
  refine (ps_asg (pe_tup (aps_aws h)) g (sw_tup _ _ _ _ _ _) (sw_dec G hw) rfl).impC fun D σ H ⟨E, F, c, e', B, q⟩ => ⟨F, c, B.sim, ?_⟩
  simp only [runX, run] at q
  refine (q.ofR B).mono fun ws F1 c1 H1 he st ⟨q1, B1⟩ us r => ⟨?_, fun a ha => ?_⟩
  · have l1 := (Paired.at_ h).1
    have l2 := evWs_len he
    have l3 := r.length
    rw [← l3, l2, l1]
    exact small_line hl
  · split at q1
    · have s2 := B1.sim.newH (p := a) (o := .tup us) ha
      have B2 := B1.stp s2
      have fr : ∀ (n : Nat) (w : W) (b : Addr), ws[n]? = some w → w.own = true → us[n]? = some (.ref b) → ¬ OwnA c1 σ b := fun n w b hn o hu z => by
        obtain ⟨_, o', h'⟩ := B.sim.own_at (st.osA z)
        rw [(r.at_ n w _ hn hu).2 o b rfl] at h'; cases h'
      have r2 : RWs T F1 H (upd H1 a (.tup us)) ws us := r.keepH (upd_old ha)
      obtain ⟨d1, d2⟩ := sets_ok B2 (fun i hi => by rw [e']; exact g2 i hi) r2 B.dom fr q1
      exact ⟨a, us, rfl, .of upd_same, by simp [d2], gs_names d2 d1⟩
    · exact q1.elim
theorem par_imp {is : List Nat} {es : List Ex} (hp : ∀ i ∈ is, i ∉ pr) {D : Ends} {σ : L2.St} {H : Hp} (q : tS T Wx pr (runX P nc k (.par is es)) D σ H) : tWs T Wx (evWs nc (callN P nc k) es) σ H fun vs H1 => D.nx (setsσ σ is vs) H1 ∧ is.length = vs.length := by
  obtain ⟨E, F, c, e', B, q⟩ := q
  refine ⟨F, c, B.sim, ?_⟩
  simp only [runX, run] at q
  refine (q.ofR B).mono fun ws F1 c1 H1 he st ⟨q1, B1⟩ us r => ?_
  split at q1
  · have fr : ∀ (n : Nat) (w : W) (b : Addr), ws[n]? = some w → w.own = true → us[n]? = some (.ref b) → ¬ OwnA c1 σ b := fun n w b hn o hu z => by
      obtain ⟨_, o', h'⟩ := B.sim.own_at (st.osA z)
      rw [(r.at_ n w _ hn hu).2 o b rfl] at h'; cases h'
    exact sets_ok B1 (fun i hi => by rw [e']; exact hp i hi) r B.dom fr q1
  · exact q1.elim
theorem s_par2 (G : Gd Γ T P nc k Wx N sc X) {i j : Nat} {x y : Str} {es : List Ex} {a b : Expr} {k1 k2 : Nat} {px py p1 p2 p : Pos} (h : APs T P nc k Wx X es [a, b]) (hi : N[i]? = some x) (hj : N[j]? = some y) (hij : i ≠ j) (hx : sc.names.lookup x = some .local) (hy : sc.names.lookup y = some .local) (hpi : i ∉ pr) (hpj : j ∉ pr)
    (hw : swD sc [.Name x px, .Name y py] [a, b] = some (some [x, y])) : SOk T P nc k Wx pr X (.par [i, j] es) (.Assign [.Tuple [.Name x px, .Name y py] k1 p1] (.Tuple [a, b] k2 p2) p) := by
  refine (ps_par G.calm G.nd' (by rw [G.hN]; exact hi) (by rw [G.hN]; exact hj) hij (by rw [G.hs]; exact hx) (by rw [G.hs]; exact hy) (aps_aws h) (sw_dec G hw) (sw_tup _ _ _ _ _ _)).impC fun D σ H q => ?_
  have q' := par_imp (is := [i, j]) (pr := pr) (fun n hn => by
    rcases List.mem_cons.mp hn with rfl | hn
    · exact hpi
    · rw [List.mem_singleton.mp hn]; exact hpj) q
  obtain ⟨F, c, S, q'⟩ := q'
  refine ⟨F, c, S, q'.mono fun ws F1 c1 H1 _ st q2 vs r => ?_⟩
  obtain ⟨d1, d2⟩ := q2 vs r
  match vs, d2 with
  | [v, u], _ => exact ⟨v, u, rfl, d1⟩
theorem s_par3 (G : Gd Γ T P nc k Wx N sc X) {i j l : Nat} {x y z : Str} {es : List Ex} {a b c : Expr} {k1 k2 : Nat} {px py pz p1 p2 p : Pos} (h : APs T P nc k Wx X es [a, b, c]) (hi : N[i]? = some x) (hj : N[j]? = some y) (hl : N[l]? = some z) (hij : i ≠ j) (hil : i ≠ l) (hjl : j ≠ l)
    (hx : sc.names.lookup x = some .local) (hy : sc.names.lookup y = some .local) (hz : sc.names.lookup z = some .local) (hp : ∀ n ∈ [i, j, l], n ∉ pr)
    (hw : swD sc [.Name x px, .Name y py, .Name z pz] [a, b, c] = some (some [x, y, z])) : SOk T P nc k Wx pr X (.par [i, j, l] es) (.Assign [.Tuple [.Name x px, .Name y py, .Name z pz] k1 p1] (.Tuple [a, b, c] k2 p2) p) := by
  refine (ps_par3 G.calm G.nd' (by rw [G.hN]; exact hi) (by rw [G.hN]; exact hj) (by rw [G.hN]; exact hl) hij hil hjl (by rw [G.hs]; exact hx) (by rw [G.hs]; exact hy) (by rw [G.hs]; exact hz) (aps_aws h) (sw_dec G hw) (sw_tup _ _ _ _ _ _)).impC fun D σ H q => ?_
  obtain ⟨F, c, S, q'⟩ := par_imp (is := [i, j, l]) (pr := pr) hp q
  refine ⟨F, c, S, q'.mono fun ws F1 c1 H1 _ st q2 vs r => ?_⟩
  obtain ⟨d1, d2⟩ := q2 vs r
  match vs, d2 with
  | [v, u, w], _ => exact ⟨v, u, w, rfl, d1⟩

/-! ### name = [..] -/
def compSc : Expr → Option Scope
  | .ListComp _ _ s _ => some s
  | .SetComp _ _ s _ => some s
  | .DictComp _ _ _ s _ => some s
  | _ => none
/-- does the store go within -/
def swB (sc : Scope) (x : Expr) (y : Str) (p : Pos) : Bool := match compSc x with
  | none => false
  | some s => sc.names.lookup y == some .local && p.line == x.pos.line && !(s.names.any fun (n, k) => n == y && (k == .local || k == .cell))
theorem sw_set (G : Gd Γ T P nc k Wx N sc X) (x : Expr) (y : Str) (p' : Pos) (l : Nat) : swapsWith x (some (.Name y p')) l X.env = pure (swB sc x y p') := by
  have hb : X.env.blockKind = .function := by
    unfold Env.blockKind
    rw [G.hs, G.kind]; rfl
  have hk : X.env.kindOf y = sc.names.lookup y := by unfold Env.kindOf; rw [G.hs]
  have hbb : (ScopeKind.function == ScopeKind.function) = true := by decide
  unfold swapsWith swB
  cases x <;> first
    | rfl
    | (simp only [compSc, hb, hk, hbb, Bool.true_and]; done)
    | (simp only [compSc, hb, hk, hbb, Bool.true_and]; rfl)
/-- name = {..} on one line, the name a local -/
theorem ps_setDc {X : Cx} {i : Nat} {y : Str} {py : Pos} {kx vx tg iter : Expr} {ifs : List Expr} {scope : Scope} {own : List (Str × Nat)} {pos spos : Pos} {wi : TI} {g : TG} {tt : TT} {tk tv : TE} (hc : X.calm = true) (hN : X.N.Nodup) (hy : X.N[i]? = some y) (hyl : X.env.scope.names.lookup y = some .local)
    (hsw : swapsWith (.DictComp kx vx [⟨tg, iter, ifs, 0⟩] scope pos) (some (.Name y py)) spos.line X.env = pure true) (hi : PI X tg iter wi) (ok : BlkOk X.N X.env.scope scope own)
    (hg : ∀ (s : Shared) (H : Hp) (C : Addr) (cl : List (Str × Addr)) (fp : List Addr), PG (X.blk s H scope (compEnvC scope cl C X.env) fp) tg g) (ht : ∀ (s : Shared) (H : Hp) (C : Addr) (cl : List (Str × Addr)) (fp : List Addr), PTs (X.blk s H scope (compEnvC scope cl C X.env) fp) ifs tt)
    (hk : ∀ (s : Shared) (H : Hp) (C : Addr) (cl : List (Str × Addr)) (fp : List Addr), PE (X.blk s H scope (compEnvC scope cl C X.env) fp) kx tk)
    (he : ∀ (s : Shared) (H : Hp) (C : Addr) (cl : List (Str × Addr)) (fp : List Addr), PE (X.blk s H scope (compEnvC scope cl C X.env) fp) vx tv) (hs : ∀ x, foldedSetIterable iter X.env x = pure x) :
    PS X (.Assign [.Name y py] (.DictComp kx vx [⟨tg, iter, ifs, 0⟩] scope pos) spos) (tAsg (tDc wi g tt tk tv (own.map (·.2))) (gName i)) := by
  refine ⟨fun pins s σ H D I h => ?_⟩
  rw [exec_Assign_Name_used _ _ _ _ hsw]
  refine wpAny_bind (wpAny_standAt (wpAny_bind ?_))
  show wpAny _ X.A (do let _ ← comprehension (.DictComp kx vx [⟨tg, iter, ifs, 0⟩] scope pos) scope X.env (firstIterPos [⟨tg, iter, ifs, 0⟩] pos) newDict false (eval iter X.env) (some (assign (.Name y py) X.env))) _ _ s
  have q : tDc wi g tt tk tv (own.map (·.2)) σ H (fun x H1 => gName i x σ H1 D.nx) := h
  refine wpAny_bind (thn (dc_core (Qf := fun _ s' => SP X pins D .next s') hc hN I hi ok hg ht hk he hs q fun L C s' m H' I' q hn f => ?_) fun _ s' hq => wpAny_pure (wpAny_pure hq))
  show wpAny _ _ (assign (.Name y py) X.env (.ref L)) _ _ _
  refine wpAny_assign_Name (store_ok2 (v := V.ref L) I' hN hy (.inl hyl) rfl (fun s2 J ⟨a, sb, ha⟩ => ?_) (.inr hyl))
  obtain ⟨f0, f1, f2, f3, f4, f5⟩ := f
  have ne : C ≠ a := by
    rcases ha with z | z
    · rw [z]; exact f1
    · exact fun e => f4 y a z e.symm
  exact ⟨m, hn.sameBut sb ne, fun h3 sb3 => ⟨_, H', J.turned (t' := s2.toks) (fun b o hb e => (sb3.2 b hb).trans e) f0 f1 f3 f4 f5, q⟩⟩
section
variable {own : List Nat} {on : List (Str × Nat)} {t : Tg} {it e ek : Ex} {d : Option Ex} {tg iter elt kx vx : Expr} {ifs : List Expr} {scope : Scope} {p p' p2 : Pos} {i : Nat} {y : Str}
theorem set_imp {te : TE} (hp : i ∉ pr) {ex : Ex} (hi : ∀ σ H Q, tE T Wx (evX P nc k ex) σ H Q → te σ H Q) : ∀ D σ H, tS T Wx pr (runX P nc k (.set i ex)) D σ H → tAsg te (gName i) D σ H := fun D σ H ⟨E, F, c, e', B, q⟩ => by
  refine hi σ H _ ⟨F, c, B.sim, ?_⟩
  simp only [runX, run] at q
  refine (q.ofR B).mono fun w F1 c1 H1 _ st ⟨q1, B1⟩ v r => ?_
  exact set_post B st (by rw [e']; exact hp) r q1
theorem s_setlc (G : Gd Γ T P nc k Wx N sc X) (hy : N[i]? = some y) (hl : sc.names.lookup y = some .local) (hp : i ∉ pr) (hsw : swB sc (.ListComp elt [⟨tg, iter, ifs, 0⟩] scope p) y p' = true) (hi : AIt T P nc k Wx X it tg iter) (hn : noSet iter = true) (ho : ownNames N own = some on) (hb : blkC N sc scope on = true) (ht : tgB N scope [] t tg = true) (hw : tgOwn own t = true)
    (hd : ∀ Y, Gd Γ T P nc k W0 N (relS scope sc) Y → CTs T P nc k Y d ifs) (he : ∀ Y, Gd Γ T P nc k W0 N (relS scope sc) Y → AE T P nc k W0 Y e elt) :
    SOk T P nc k Wx pr X (.set i (.lc own t it d e)) (.Assign [.Name y p'] (.ListComp elt [⟨tg, iter, ifs, 0⟩] scope p) p2) := by
  have ok := blkOk_by hb
  have ok' : BlkOk X.N X.env.scope scope on := by rw [G.hN, G.hs]; exact ok
  refine (ps_setLc G.calm G.nd' (by rw [G.hN]; exact hy) (by rw [G.hs]; exact hl) (by rw [sw_set G, hsw]) hi ok' (fun s H C cl fp => lc_tg G ht s H C cl fp) (fun s H C cl fp => hd _ (G.blk ok.kind s H C cl fp)) (fun s H C cl fp => he _ (G.blk ok.kind s H C cl fp)) (fun x => noSet_pure hn _ x)).impC fun D σ H q => ?_
  rw [own_names ho]
  exact set_imp hp (fun σ H Q z => lc_imp hw z) D σ H q
theorem s_setdc (G : Gd Γ T P nc k Wx N sc X) (hy : N[i]? = some y) (hl : sc.names.lookup y = some .local) (hp : i ∉ pr) (hsw : swB sc (.DictComp kx vx [⟨tg, iter, ifs, 0⟩] scope p) y p' = true) (hi : AIt T P nc k Wx X it tg iter) (hn : noSet iter = true) (ho : ownNames N own = some on) (hb : blkC N sc scope on = true) (ht : tgB N scope [] t tg = true) (hw : tgOwn own t = true)
    (hd : ∀ Y, Gd Γ T P nc k W0 N (relS scope sc) Y → CTs T P nc k Y d ifs) (hk : ∀ Y, Gd Γ T P nc k W0 N (relS scope sc) Y → AE T P nc k W0 Y ek kx) (he : ∀ Y, Gd Γ T P nc k W0 N (relS scope sc) Y → AE T P nc k W0 Y e vx) :
    SOk T P nc k Wx pr X (.set i (.dc own t it d ek e)) (.Assign [.Name y p'] (.DictComp kx vx [⟨tg, iter, ifs, 0⟩] scope p) p2) := by
  have ok := blkOk_by hb
  have ok' : BlkOk X.N X.env.scope scope on := by rw [G.hN, G.hs]; exact ok
  refine (ps_setDc G.calm G.nd' (by rw [G.hN]; exact hy) (by rw [G.hs]; exact hl) (by rw [sw_set G, hsw]) hi ok' (fun s H C cl fp => lc_tg G ht s H C cl fp) (fun s H C cl fp => hd _ (G.blk ok.kind s H C cl fp)) (fun s H C cl fp => hk _ (G.blk ok.kind s H C cl fp)) (fun s H C cl fp => he _ (G.blk ok.kind s H C cl fp)) (fun x => noSet_pure hn _ x)).impC fun D σ H q => ?_
  rw [own_names ho]
  exact set_imp hp (fun σ H Q z => dc_imp hw z) D σ H q
end
end
end Cl

/-! Cl, part Q: the look at statements and defs; every def keeps its promise. -/
namespace Cl
open PySem PySem.Spec PyProof.Rows L2

/-- names swapped in a row of stores -/
def parB (N : List Str) (sc : Scope) (pr : List Nat) : List Nat → List Expr → List Str → Bool
  | [i, j], [.Name x _, .Name y _], [x', y'] => decide (x = x') && decide (y = y') && decide (N[i]? = some x) && decide (N[j]? = some y) && decide (i ≠ j) && decide (sc.names.lookup x = some .local) && decide (sc.names.lookup y = some .local) && !pr.contains i && !pr.contains j
  | [i, j, l], [.Name x _, .Name y _, .Name z _], [x', y', z'] => decide (x = x') && decide (y = y') && decide (z = z') && decide (N[i]? = some x) && decide (N[j]? = some y) && decide (N[l]? = some z) && decide (i ≠ j) && decide (i ≠ l) && decide (j ≠ l) &&
      decide (sc.names.lookup x = some .local) && decide (sc.names.lookup y = some .local) && decide (sc.names.lookup z = some .local) && !pr.contains i && !pr.contains j && !pr.contains l
  | _, _, _ => false
def isVar : Ex → Option Nat
  | .var i => some i
  | _ => none
def isCmp : Ex → Bool
  | .lc _ _ _ _ _ => true
  | .dc _ _ _ _ _ _ => true
  | _ => false
def noSwap (sc : Scope) (es : List Expr) : Expr → Bool
  | .Tuple vs _ _ => decide (swD sc es vs = some none)
  | _ => true
mutual
def chkS (Γ : Gt) (N : List Str) (pr : List Nat) (sc : Scope) : St → Stmt → Bool
  | .pas, x => match x with
    | .Pass _ => true
    | _ => false
  | .nev, _ => true
  | .expr e, x => match x with
    | .Expr y _ => noComp y && chk Γ N e sc 0 y y
    | _ => false
  | .set i e, x => match x with
    | .Assign [.Name y p'] v _ => decide (N[i]? = some y) && locB sc y && !pr.contains i && chk Γ N e sc 0 v v && (!swB sc v y p' || isCmp e)
    | _ => false
  | .par is es, x => match x with
    | .Assign [.Tuple ts _ _] (.Tuple vs _ _) _ => chks Γ N es sc vs && decide (vs.length ≤ 1000) && match swD sc ts vs with
      | some none => nmB N sc pr is ts
      | some (some ns) => parB N sc pr is ts ns
      | none => false
    | _ => false
  | .unp t e, x => match x with
    | .Assign [.Tuple es j q] v _ => chk Γ N e sc 0 v v && tgB N sc pr t (.Tuple es j q) && noSwap sc es v
    | _ => false
  | .six i kx e, x => match x with
    | .Assign [.Subscript o ix _] v _ => chk Γ N e sc 0 v v && varB N sc i o && chk Γ N kx sc 0 ix ix && noSlice ix
    | _ => false
  | .aug i o e, x => match x with
    | .AugAssign (.Name y _) op v _ => decide (op = bopO o) && decide (N[i]? = some y) && locB sc y && !pr.contains i && chk Γ N e sc 0 v v
    | _ => false
  | .aix _ _ _ _, _ => false
  | .ret e, x => match x with
    | .Return (some v) _ => match isVar e with
      | some i => varB N sc i v && !pr.contains i
      | none => chk Γ N e sc 0 v v
    | _ => false
  | .retn, x => match x with
    | .Return none _ => true
    | _ => false
  | .ite d a b, x => match x with
    | .If v xs ys _ => chk Γ N d sc 1 v v && chkSs Γ N pr sc a xs && chkSs Γ N pr sc b ys
    | _ => false
  | .whl _ d b, x => match x with
    | .While v xs [] _ => chk Γ N d sc 1 v v && chkSs Γ N pr sc b xs
    | _ => false
  | .fr t it b, x => match x with
    | .For tg iter xs [] _ => chk Γ N it sc 2 tg iter && tgB N sc pr t tg && chkSs Γ N pr sc b xs
    | _ => false
  | .rse _ _, _ => false
def chkSs (Γ : Gt) (N : List Str) (pr : List Nat) (sc : Scope) : List St → List Stmt → Bool
  | [], x => match x with
    | [] => true
    | _ => false
  | s :: ss, x => match x with
    | y :: ys => chkS Γ N pr sc s y && chkSs Γ N pr sc ss ys
    | [] => false
end
mutual
theorem tg_pins {N : List Str} {sc : Scope} {pr : List Nat} : ∀ {t : Tg} {e : Expr}, tgB N sc pr t e = true → ∀ i ∈ tgS t, i ∉ pr
  | .nm j, e, h, i, hi => by
    simp only [tgS, List.mem_singleton] at hi
    subst hi
    cases e with
    | Name x p =>
      simp only [tgB, Bool.and_eq_true] at h
      simpa using h.2
    | _ => simp [tgB] at h
  | .tp ts, e, h, i, hi => by
    cases e with
    | Tuple es n p =>
      simp only [tgB] at h
      simp only [tgS] at hi
      exact tgs_pins h i hi
    | _ => simp [tgB] at h
theorem tgs_pins {N : List Str} {sc : Scope} {pr : List Nat} : ∀ {ts : List Tg} {es : List Expr}, tgsB N sc pr ts es = true → ∀ i ∈ tgSs ts, i ∉ pr
  | [], _, _, i, hi => by simp [tgSs] at hi
  | _ :: _, [], h, _, _ => by simp [tgsB] at h
  | t :: ts, e :: es, h, i, hi => by
    have ns : noStar e = true := by
      cases e <;> first | rfl | (simp [tgsB] at h)
    have h' : tgB N sc pr t e = true ∧ tgsB N sc pr ts es = true := by
      cases e <;> first | (cases ns; done) | (simpa [tgsB] using h)
    rw [tgSs, List.mem_append] at hi
    rcases hi with hi | hi
    · exact tg_pins h'.1 i hi
    · exact tgs_pins h'.2 i hi
end
section
variable {Γ : Gt} {T : Tb} {P : Pg} {nc k : Nat} {Wx : WX} {N : List Str} {sc : Scope} {X : Cx} {pr : List Nat}
theorem s_set_ok (G : Gd Γ T P nc k Wx N sc X) (hf : Fnx X sc) {i : Nat} {y : Str} {e : Ex} {v : Expr} {p p' : Pos} (hy : N[i]? = some y) (hl : locB sc y = true) (hp : i ∉ pr) (h : chk Γ N e sc 0 v v = true) (hs : swB sc v y p' = false ∨ isCmp e = true) :
    SOk T P nc k Wx pr X (.set i e) (.Assign [.Name y p'] v p) := by
  cases q : swB sc v y p' with
  | false => exact s_set G (chk_ok e 0 _ _ G h).1 hy hl hf hp (by rw [sw_set G, q])
  | true =>
    have hc : isCmp e = true := by
      rcases hs with z | z
      · rw [q] at z; cases z
      · exact z
    have loc : sc.names.lookup y = some .local := by
      unfold swB at q
      split at q
      · cases q
      · simp only [Bool.and_eq_true] at q
        simpa using q.1.1
    cases e with
    | lc own t it d e =>
      simp only [chk, gen] at h
      split at h
      · simp only [Bool.and_eq_true] at h
        obtain ⟨⟨⟨⟨⟨h1, h2⟩, h3⟩, h4⟩, h5⟩, h6⟩ := h
        split at h2
        · rename_i on hon
          exact s_setlc G hy loc hp q (chk_ok it 2 _ _ G h1).1 (chk_ok it 2 _ _ G h1).2 hon h2 h3 h4 (fun Y G' => chkC_ok d _ G' h5) (fun Y G' => (chk_ok e 0 _ _ G' h6).1)
        · cases h2
      · cases h
    | dc own t it d ek e =>
      simp only [chk, gen] at h
      split at h
      · simp only [Bool.and_eq_true] at h
        obtain ⟨⟨⟨⟨⟨⟨h1, h2⟩, h3⟩, h4⟩, h5⟩, h6⟩, h7⟩ := h
        split at h2
        · rename_i on hon
          exact s_setdc G hy loc hp q (chk_ok it 2 _ _ G h1).1 (chk_ok it 2 _ _ G h1).2 hon h2 h3 h4 (fun Y G' => chkC_ok d _ G' h5) (fun Y G' => (chk_ok ek 0 _ _ G' h6).1) (fun Y G' => (chk_ok e 0 _ _ G' h7).1)
        · cases h2
      · cases h
    | _ => cases hc
theorem nc_of {pr : List Nat} {i : Nat} (h : (!pr.contains i) = true) : i ∉ pr := by simpa using h
theorem s_par_ok (G : Gd Γ T P nc k Wx N sc X) (hf : Fnx X sc) {is : List Nat} {es : List Ex} {ts vs : List Expr} {k1 k2 : Nat} {p1 p2 p : Pos} (h : APs T P nc k Wx X es vs) (hl : vs.length ≤ 1000) (hs : (match swD sc ts vs with
      | some none => nmB N sc pr is ts
      | some (some ns) => parB N sc pr is ts ns
      | none => false) = true) : SOk T P nc k Wx pr X (.par is es) (.Assign [.Tuple ts k1 p1] (.Tuple vs k2 p2) p) := by
  split at hs
  · rename_i hw
    exact s_par G h hl hs hf hw
  · rename_i ns hw
    unfold parB at hs
    split at hs
    · simp only [Bool.and_eq_true, decide_eq_true_eq] at hs
      obtain ⟨⟨⟨⟨⟨⟨⟨⟨rfl, rfl⟩, h3⟩, h4⟩, h5⟩, h6⟩, h7⟩, h8⟩, h9⟩ := hs
      have hlen : vs.length = 2 := by
        unfold swD at hw
        split at hw
        · cases hw
        · rename_i hc
          simp at hc
          exact hc
      match vs, hlen with
      | [a, b], _ => exact s_par2 G h h3 h4 h5 h6 h7 (nc_of h8) (nc_of h9) hw
    · simp only [Bool.and_eq_true, decide_eq_true_eq] at hs
      obtain ⟨⟨⟨⟨⟨⟨⟨⟨⟨⟨⟨⟨⟨⟨rfl, rfl⟩, rfl⟩, h4⟩, h5⟩, h6⟩, h7⟩, h8⟩, h9⟩, g1⟩, g2⟩, g3⟩, g4⟩, g5⟩, g6⟩ := hs
      have hlen : vs.length = 3 := by
        unfold swD at hw
        split at hw
        · cases hw
        · rename_i hc
          simp at hc
          exact hc
      match vs, hlen with
      | [a, b, c], _ => exact s_par3 G h h4 h5 h6 h7 h8 h9 g1 g2 g3 (fun n hn => by
          simp only [List.mem_cons, List.not_mem_nil, or_false] at hn
          rcases hn with rfl | rfl | rfl
          · exact nc_of g4
          · exact nc_of g5
          · exact nc_of g6) hw
    · cases hs
  · cases hs
theorem noSwap_ok (G : Gd Γ T P nc k Wx N sc X) {es : List Expr} {j : Nat} {q : Pos} {v : Expr} (h : noSwap sc es v = true) : swappedStores [.Tuple es j q] v X.env = pure none := by
  cases v with
  | Tuple vs _ _ => exact sw_dec G (of_decide_eq_true h)
  | _ => rfl
mutual
theorem chkS_ok (G : Gd Γ T P nc k Wx N sc X) (hf : Fnx X sc) (ho : PassesOwn (model X.prog X.w) X.A X.env X.xe) : ∀ (s : St) (x : Stmt), chkS Γ N pr sc s x = true → SOk T P nc k Wx pr X s x
  | .pas, x, h => by
    simp only [chkS] at h
    split at h
    · exact s_pas
    · cases h
  | .nev, x, h => s_nev
  | .expr e, x, h => by
    simp only [chkS] at h
    split at h
    · simp only [Bool.and_eq_true] at h
      exact s_expr (chk_ok e 0 _ _ G h.2).1 h.1
    · cases h
  | .set i e, x, h => by
    simp only [chkS] at h
    split at h
    · simp only [Bool.and_eq_true, decide_eq_true_eq, Bool.or_eq_true, Bool.not_eq_true'] at h
      obtain ⟨⟨⟨⟨h1, h2⟩, h3⟩, h4⟩, h5⟩ := h
      exact s_set_ok G hf h1 h2 (by simpa using h3) h4 h5
    · cases h
  | .par is es, x, h => by
    simp only [chkS] at h
    split at h
    · simp only [Bool.and_eq_true, decide_eq_true_eq] at h
      exact s_par_ok G hf (chks_ok es _ G h.1.1) h.1.2 h.2
    · cases h
  | .unp t e, x, h => by
    simp only [chkS] at h
    split at h
    · simp only [Bool.and_eq_true] at h
      exact s_unp G (chk_ok e 0 _ _ G h.1.1).1 h.1.2 (tg_pins h.1.2) hf (noSwap_ok G h.2)
    · cases h
  | .six i kx e, x, h => by
    simp only [chkS] at h
    split at h
    · simp only [Bool.and_eq_true] at h
      exact s_six G (chk_ok e 0 _ _ G h.1.1.1).1 h.1.1.2 (chk_ok kx 0 _ _ G h.1.2).2 h.2
    · cases h
  | .aug i o e, x, h => by
    simp only [chkS] at h
    split at h
    · simp only [Bool.and_eq_true, decide_eq_true_eq] at h
      obtain ⟨⟨⟨⟨rfl, h1⟩, h2⟩, h3⟩, h4⟩ := h
      exact s_aug G (chk_ok e 0 _ _ G h4).1 h1 h2 hf (nc_of h3)
    · cases h
  | .aix _ _ _ _, x, h => by simp [chkS] at h
  | .ret e, x, h => by
    simp only [chkS] at h
    split at h
    · split at h
      · rename_i i hi
        simp only [Bool.and_eq_true] at h
        have : e = .var i := by cases e <;> simp [isVar] at hi; rw [hi]
        subst this
        exact s_retv G h.1 (nc_of h.2)
      · rename_i hi
        exact s_ret (chk_ok e 0 _ _ G h).1 fun i z => by subst z; cases hi
    · cases h
  | .retn, x, h => by
    simp only [chkS] at h
    split at h
    · exact s_retn
    · cases h
  | .ite d a b, x, h => by
    simp only [chkS] at h
    split at h
    · simp only [Bool.and_eq_true] at h
      exact s_ite (chk_ok d 1 _ _ G h.1.1).1 (chkSs_ok G hf ho a _ h.1.2) (chkSs_ok G hf ho b _ h.2)
    · cases h
  | .whl n d b, x, h => by
    simp only [chkS] at h
    split at h
    · simp only [Bool.and_eq_true] at h
      exact s_whl ho (chk_ok d 1 _ _ G h.1).1 (chkSs_ok G hf ho b _ h.2)
    · cases h
  | .fr t it b, x, h => by
    simp only [chkS] at h
    split at h
    · simp only [Bool.and_eq_true] at h
      obtain ⟨⟨h1, h2⟩, h3⟩ := h
      exact s_fr G.calm G.kT ho (chk_ok it 2 _ _ G h1).1 (chk_ok it 2 _ _ G h1).2 (pg_of (sc := sc) (pr := pr) G.kT G.calm G.hN G.nd (fun y => by rw [G.hs]; exact ⟨fun z => z, fun z => z⟩) hf t _ h2) (tg_pins h2) (chkSs_ok G hf ho b _ h3)
    · cases h
  | .rse _ _, x, h => by simp [chkS] at h
theorem chkSs_ok (G : Gd Γ T P nc k Wx N sc X) (hf : Fnx X sc) (ho : PassesOwn (model X.prog X.w) X.A X.env X.xe) : ∀ (ss : List St) (xs : List Stmt), chkSs Γ N pr sc ss xs = true → SsOk T P nc k Wx pr X ss xs
  | [], x, h => by
    simp only [chkSs] at h
    split at h
    · exact ss_nil
    · cases h
  | s :: ss, x, h => by
    simp only [chkSs] at h
    split at h
    · simp only [Bool.and_eq_true] at h
      exact ss_cons (chkS_ok G hf ho s _ h.1) (chkSs_ok G hf ho ss _ h.2)
    · cases h
end
end
end Cl

/-! Cl, part R: every def keeps its promise. -/
namespace Cl
open PySem PySem.Spec PyProof.Rows L2

/-- a def: as it is written, and as it is run clean -/
structure Df where
  name : Str
  qual : Str
  st : Stmt
  ps : List Str
  N : List Str
  fd : Fd
def fnScB (N P : List Str) (sc : Scope) : Bool :=
  decide (sc.kind = .function) && !sc.isCoroutine && !sc.isGenerator && decide N.Nodup && decide (N.take P.length = P) && (P.all fun x => locB sc x) && sc.names.all fun y => decide (y.2 ≠ .free)
theorem fnSc_ok {N P : List Str} {sc : Scope} (h : fnScB N P sc = true) : FnScope N P sc := by
  unfold fnScB at h
  simp only [Bool.and_eq_true, decide_eq_true_eq, Bool.not_eq_true', List.all_eq_true] at h
  obtain ⟨⟨⟨⟨⟨⟨h1, h2⟩, h3⟩, h4⟩, h5⟩, h6⟩, h7⟩ := h
  refine ⟨h1, h2, h3, h4, h5, fun x hx => ?_, h7⟩
  have := h6 x hx
  unfold locB at this
  split at this
  · exact .inl (by assumption)
  · exact .inr (by assumption)
  · cases this
def chkD (Γ : Gt) (d : Df) : Bool :=
  fnScB d.N d.ps (defScope d.st) && decide (d.fd.np = d.ps.length) && decide (d.fd.nn = d.N.length) && (d.fd.io.all fun i => decide (i < d.fd.np)) && chkSs Γ d.N d.fd.io (defScope d.st) d.fd.body (defBody d.st)
/-- what the written part says -/
structure Tx (Γ : Gt) (T : Tb) (Ds : List Df) (nc : Nat) (mg : Str → Option Value) (fdo : Nat → FuncData) : Prop where
  blt : ∀ x ∈ bnames, mg x = none
  con : ∀ x d, Γ.con.lookup x = some d → ∃ u v, mg x = some u ∧ RelV v u ∧ ∀ F, DR T F d v
  cls : ∀ x c, Γ.cls.lookup x = some c → mg x = some (.ref (T.ca c)) ∧ c < nc
  fns : ∀ x f, Γ.fn.lookup x = some f → mg x = some (.ref (T.fa f)) ∧ ∃ d, Ds[f]? = some d
  fun_ : ∀ f d, Ds[f]? = some d → Fun T.K d.name d.qual d.st (T.fa f) (fdo f) ∧ Binds T.K (fdo f) d.ps []
  cok : ClsOk T nc
abbrev pgOf (Ds : List Df) : Pg := Ds.map (·.fd)
section
variable {Γ : Gt} {T : Tb} {Ds : List Df} {nc : Nat} {mg : Str → Option Value} {fdo : Nat → FuncData} {P : Program} {w : World} {base : Heap}
theorem get_map_some {α : Type} {l : List α} {n : Nat} {x : α} : (l.map some)[n]? = some (some x) ↔ l[n]? = some x := by
  rw [List.getElem?_map]
  cases l[n]? with
  | none => simp
  | some y => simp
theorem get_ext {α : Type} {l : List α} {m n : Nat} {x : α} : (l.map some ++ List.replicate m none)[n]? = some (some x) ↔ l[n]? = some x := by
  rw [List.getElem?_append]
  split
  · exact get_map_some
  · rename_i h
    rw [List.length_map] at h
    rw [List.getElem?_replicate, List.getElem?_eq_none (Nat.le_of_not_lt h)]
    split <;> simp
theorem ownA_ext {ws : List W} {vs : List V} {m n : Nat} {a : Addr} : OwnA (ws.map some ++ List.replicate m none) (vs.map some ++ List.replicate n none) a ↔ OwnA (ws.map some) (vs.map some) a := by
  constructor
  · rintro ⟨i, w, h1, h2, h3⟩
    exact ⟨i, w, get_map_some.mpr (get_ext.mp h1), h2, get_map_some.mpr (get_ext.mp h3)⟩
  · rintro ⟨i, w, h1, h2, h3⟩
    exact ⟨i, w, get_ext.mpr (get_map_some.mp h1), h2, get_ext.mpr (get_map_some.mp h3)⟩
theorem ownIx_at : ∀ {ws : List W} {b i : Nat}, i ∈ ownIx b ws → ∃ n w, i = b + n ∧ ws[n]? = some w ∧ w.own = true
  | [], b, i, h => by simp [ownIx] at h
  | w :: ws, b, i, h => by
    rw [ownIx] at h
    have tl : i ∈ ownIx (b + 1) ws → ∃ n w', i = b + n ∧ (w :: ws)[n]? = some w' ∧ w'.own = true := fun h => by
      obtain ⟨n, w', e1, e2, e3⟩ := ownIx_at h
      exact ⟨n + 1, w', by omega, by simpa using e2, e3⟩
    split at h
    · rename_i ow
      rcases List.mem_cons.mp h with rfl | h
      · exact ⟨0, w, rfl, rfl, ow⟩
      · exact tl h
    · exact tl h
theorem outs_pair {R : Nat → W → Prop} {c : Sg} : ∀ {is : List Nat} {os : List W}, outsOf c is = some os → (∀ i ∈ is, ∀ o : W, c[i]? = some (some o) → o.own = true → R i o) → Paired R is os
  | [], os, h, _ => by simp only [outsOf] at h; cases h; exact .nil
  | i :: is, os, h, k => by
    simp only [outsOf] at h
    split at h
    · rename_i o os' h1 h2
      split at h
      · rename_i ow
        cases h
        exact .cons (k i List.mem_cons_self o h1 ow) (outs_pair h2 fun j hj => k j (List.mem_cons_of_mem _ hj))
      · cases h
    · cases h
theorem all_fn (X : Tx Γ T Ds nc mg fdo) (hc : (Ds.all fun d => chkD Γ d) = true) : ∀ (k f : Nat) (d : Df), Ds[f]? = some d → FnOk P w T.K mg base (CX P w) k (T.fa f) (fdo f) d.ps (spR T (pgOf Ds) nc k f d.fd.np)
  | 0, f, d, hd => by
    refine ⟨fun vs H Q E h => ?_, fun A outer s H args us vs Q E _ _ _ _ h => ?_⟩
    · obtain ⟨F, ws, _, _, q⟩ := h
      exact q.elim
    · obtain ⟨F, ws, _, _, q⟩ := h
      exact q.elim
  | k + 1, f, d, hd => by
    have cd := List.all_eq_true.mp hc d (List.mem_of_getElem? hd)
    unfold chkD at cd
    simp only [Bool.and_eq_true, decide_eq_true_eq, List.all_eq_true] at cd
    obtain ⟨⟨⟨⟨sc, hnp⟩, hnn⟩, hio⟩, hb⟩ := cd
    have S := fnSc_ok sc
    obtain ⟨F, bi⟩ := X.fun_ f d hd
    obtain ⟨oc, od, kV, doc, pm, an, cdv, ct, osl, efd, lk, hcd⟩ := F.ex
    rw [efd] at lk ⊢
    refine fn_of lk hcd S (fun vs H Q E h => ?_) fun A outer s H vs Q E hr hsp => ?_
    · obtain ⟨F, ws, l, _⟩ := h
      rw [l, hnp]
    · obtain ⟨F0, ws, hlen, sim0, q⟩ := hsp
      have G : Gd Γ T (pgOf Ds) nc k (fun cls d _ H => E cls d H) d.N (defScope d.st) (cxOf (CX P w) P w T.K mg base d.N d.qual (defScope d.st) (T.fa f) cdv A outer s H E) := {
        kT := rfl
        hN := rfl
        nd := S.nd
        hs := rfl
        calm := rfl
        room := hr
        blt := X.blt
        con := X.con
        cls := X.cls
        fns := fun x g hg => by
          obtain ⟨h1, d', h2⟩ := X.fns x g hg
          obtain ⟨F', bi'⟩ := X.fun_ g d' h2
          exact ⟨d'.fd, fdo g, d'.ps, by rw [List.getElem?_map, h2]; rfl, all_fn X hc k g d' h2, h1, F'.kp, bi'⟩
        tk := takes_of rfl rfl rfl rfl
        cok := X.cok
        kind := S.kind }
      have body := chkSs_ok (pr := d.fd.io) G (fun _ _ => rfl) (passes_of (K := fun e s'' => CX P w outer H s E e s'') (E₁ := fun e s'' => CX P w outer H s E e s'') rfl) d.fd.body (defBody d.st) hb
      refine ⟨_, body, ?_⟩
      have hp : (pgOf Ds)[f]? = some d.fd := by rw [List.getElem?_map, hd]; rfl
      simp only [callN, hp] at q
      by_cases hcond : ws.length = d.fd.np ∧ d.fd.np ≤ d.fd.nn ∧ ioOk ws d.fd.io = true
      · rw [if_pos hcond] at q
        obtain ⟨c1, c2, c3⟩ := hcond
        have ioat : ∀ i w, ws[i]? = some w → w.own = d.fd.io.contains i := fun i w h => by
          have := List.all_eq_true.mp c3 i (List.mem_range.mpr (lt_of_get h))
          rw [h] at this
          simpa using this
        have e0 : start d.N vs = vs.map some ++ List.replicate (d.N.length - vs.length) none := rfl
        have oA : ∀ a, OwnA (ws.map some ++ List.replicate (d.fd.nn - d.fd.np) none) (start d.N vs) a ↔ OwnA (ws.map some) (vs.map some) a := fun a => by rw [e0]; exact ownA_ext
        have S0 : Sim T F0 (ws.map some ++ List.replicate (d.fd.nn - d.fd.np) none) (start d.N vs) H := by
          rw [e0]
          refine ⟨sim0.sub, ?_, fun i w h => ?_, fun i j w u a h1 o1 h2 o2 h3 h4 => ?_⟩
          · rw [List.length_append, List.length_append, List.length_map, List.length_map, List.length_replicate, List.length_replicate, hlen, c1, hnn]
          · obtain ⟨v, g1, g2⟩ := sim0.at_ i w (get_map_some.mpr (get_ext.mp h))
            exact ⟨v, get_ext.mpr (get_map_some.mp g1), g2⟩
          · exact sim0.inj i j w u a (get_map_some.mpr (get_ext.mp h1)) o1 (get_map_some.mpr (get_ext.mp h2)) o2 (get_map_some.mpr (get_ext.mp h3)) (get_map_some.mpr (get_ext.mp h4))
        have B0 : Bd T ⟨F0, ws.map some ++ List.replicate (d.fd.nn - d.fd.np) none, start d.N vs, H, d.fd.io⟩ F0 (ws.map some ++ List.replicate (d.fd.nn - d.fd.np) none) (start d.N vs) H := {
          gr := fun _ _ h => h
          sim := S0
          s0 := S0
          fr := fun _ _ h _ => h
          ow := fun i w a h o e => .inl (by
            have := ioat i w (get_ext.mp h)
            rw [o] at this
            simpa using this.symm)
          pw := fun i hi => by
            have hl := hio i hi
            have hl' : i < ws.length := by rw [c1]; exact hl
            refine ⟨ws[i], get_ext.mpr (List.getElem?_eq_getElem hl'), ?_⟩
            rw [ioat i _ (List.getElem?_eq_getElem hl')]
            simpa using hi
          dom := fun _ h => h
          nf := fun _ _ h => .inl h
          pin := fun _ _ => rfl }
        -- behind the body
        have outs : ∀ {F' : Hp} {c' : Sg} {σ' : L2.St} {H' : Hp} {os : List W}, Bd T ⟨F0, ws.map some ++ List.replicate (d.fd.nn - d.fd.np) none, start d.N vs, H, d.fd.io⟩ F' c' σ' H' → outsOf c' (ownIx 0 ws) = some os →
            Paired (fun i o => ∃ u, vs[i]? = some u ∧ RS T F' H' o u) (ownIx 0 ws) os := fun {F' c' σ' H' os} B ho => by
          refine outs_pair ho fun i hi o h1 ow => ?_
          obtain ⟨n, w, e1, e2, e3⟩ := ownIx_at hi
          have en : i = n := by omega
          subst en
          have hin : i ∈ d.fd.io := by
            have := ioat i w e2
            rw [e3] at this
            simpa using this.symm
          obtain ⟨v, g1, g2⟩ := B.sim.at_ i o h1
          rw [B.pin i hin] at g1
          exact ⟨v, get_ext.mp (by rw [← e0]; exact g1), g2⟩
        refine ⟨_, F0, _, rfl, B0, ?_⟩
        revert q
        generalize hrun : runs nc (callN (pgOf Ds) nc k) d.fd.body (ws.map some ++ List.replicate (d.fd.nn - d.fd.np) none) = r
        intro q
        show PostS T _ _ F0 (runs nc (callN (pgOf Ds) nc k) d.fd.body (ws.map some ++ List.replicate (d.fd.nn - d.fd.np) none)) _
        rw [hrun]
        have sub' : ∀ {F' : Hp} {c' : Sg} {σ' : L2.St} {H' : Hp}, Bd T ⟨F0, ws.map some ++ List.replicate (d.fd.nn - d.fd.np) none, start d.N vs, H, d.fd.io⟩ F' c' σ' H' →
            (∀ a o, F0 a = some o → F' a = some o) ∧ (∀ a o, F' a = some o → H' a = some o) ∧ (∀ a o, H a = some o → ¬ OwnA (ws.map some) (vs.map some) a → H' a = some o) ∧ (∀ a, H' a = none → H a = none) ∧ ∀ a o, F' a = some o → F0 a = some o ∨ H a = none ∨ OwnA (ws.map some) (vs.map some) a := fun {F' c' σ' H'} B =>
          ⟨B.gr, B.sim.sub, fun a o h n => B.fr a o h fun z => n ((oA a).mp z), B.dom, fun a o h => by
            rcases B.nf a o h with z | z | z
            · exact .inl z
            · exact .inr (.inl z)
            · exact .inr (.inr ((oA a).mp z))⟩
        cases r with
        | bad => exact q.elim
        | nx c' =>
          simp only at q
          intro F' σ' H' g B
          cases ho : outsOf c' (ownIx 0 ws) with
          | none => rw [ho] at q; exact q.elim
          | some os =>
            rw [ho] at q
            obtain ⟨s1, s2, s3, s4, s5⟩ := sub' B
            exact q F' .non H' s1 s2 s3 s4 s5 (outs B ho) ⟨.non, fun z => nomatch z⟩
        | rt w2 c' =>
          simp only at q
          intro F' σ' H' v g B rw'
          cases ho : outsOf c' (ownIx 0 ws) with
          | none => rw [ho] at q; exact q.elim
          | some os =>
            rw [ho] at q
            obtain ⟨s1, s2, s3, s4, s5⟩ := sub' B
            exact q F' v H' s1 s2 s3 s4 s5 (outs B ho) rw'
        | exc e ds c' =>
          simp only at q
          intro F' σ' cls dd H' g B xr
          cases ho : outsOf c' (ownIx 0 ws) with
          | none => rw [ho] at q; exact q.elim
          | some os =>
            rw [ho] at q
            obtain ⟨s1, s2, s3, s4, s5⟩ := sub' B
            exact q F' cls dd H' s1 s2 s3 s4 s5 (outs B ho) xr
      · rw [if_neg hcond] at q
        exact q.elim
end
end Cl

/-! Cl, part S: the text's things, the law. -/
namespace Cl
open PySem PySem.Spec PyProof.Rows L2

/-- the defs as they stand in the written part -/
inductive FunsAt (K : PySem.W.Frag) : List Df → List Addr → List FuncData → Prop
  | nil : FunsAt K [] [] []
  | cons {d : Df} {f : Addr} {fd : FuncData} {ds : List Df} {fs : List Addr} {fds : List FuncData} : PySem.W.nsIn K mainGlobals d.name = some (some (.ref f)) → Fun K d.name d.qual d.st f fd → Binds K fd d.ps [] → FunsAt K ds fs fds → FunsAt K (d :: ds) (f :: fs) (fd :: fds)
theorem FunsAt.get {K : PySem.W.Frag} : ∀ {ds : List Df} {fs : List Addr} {fds : List FuncData}, FunsAt K ds fs fds → ∀ (i : Nat) (d : Df), ds[i]? = some d → ∃ f fd, fs[i]? = some f ∧ fds[i]? = some fd ∧ PySem.W.nsIn K mainGlobals d.name = some (some (.ref f)) ∧ Fun K d.name d.qual d.st f fd ∧ Binds K fd d.ps []
  | _, _, _, .nil, i, d, h => by simp at h
  | _, _, _, .cons a b c t, 0, d, h => by simp at h; subst h; exact ⟨_, _, rfl, rfl, a, b, c⟩
  | _, _, _, .cons a b c t, i + 1, d, h => by simpa using FunsAt.get t i d (by simpa using h)
def fnTab : Nat → List Df → List (Str × Nat)
  | _, [] => []
  | n, d :: ds => (d.name, n) :: fnTab (n + 1) ds
theorem fnTab_at : ∀ {ds : List Df} {n i : Nat} {x : Str}, (fnTab n ds).lookup x = some i → ∃ j d, i = n + j ∧ ds[j]? = some d ∧ d.name = x
  | [], n, i, x, h => by simp [fnTab] at h
  | d :: ds, n, i, x, h => by
    rw [fnTab, List.lookup_cons] at h
    cases hx : x == d.name with
    | true =>
      rw [hx] at h
      cases h
      exact ⟨0, d, rfl, rfl, (by simpa using hx : x = d.name).symm⟩
    | false =>
      rw [hx] at h
      obtain ⟨j, d', e1, e2, e3⟩ := fnTab_at h
      exact ⟨j + 1, d', by omega, by simpa using e2, e3⟩
/-- the constants -/
inductive ConsAt (K : PySem.W.Frag) : List (Str × D) → Prop
  | nil : ConsAt K []
  | int {x : Str} {n : Int} {t : Tok} {r : List (Str × D)} : PySem.W.nsIn K mainGlobals x = some (some (.int n t)) → ConsAt K r → ConsAt K ((x, .int n) :: r)
  | str {x : Str} {n : Str} {t : Tok} {r : List (Str × D)} : PySem.W.nsIn K mainGlobals x = some (some (.str n t)) → ConsAt K r → ConsAt K ((x, .str n) :: r)
theorem ConsAt.get {K : PySem.W.Frag} : ∀ {cs : List (Str × D)}, ConsAt K cs → ∀ (x : Str) (d : D), cs.lookup x = some d → ∃ u v, PySem.W.nsIn K mainGlobals x = some (some u) ∧ RelV v u ∧ ∀ T F, DR T F d v
  | _, .nil, x, d, h => by simp at h
  | _, .int (x := y) (n := n) e t, x, d, h => by
    rw [List.lookup_cons] at h
    cases hx : x == y with
    | true =>
      rw [hx] at h
      cases h
      rw [(by simpa using hx : x = y)]
      exact ⟨_, .int n, e, ⟨_, rfl⟩, fun _ _ => .int n⟩
    | false =>
      rw [hx] at h
      exact ConsAt.get t x d h
  | _, .str (x := y) (n := n) e t, x, d, h => by
    rw [List.lookup_cons] at h
    cases hx : x == y with
    | true =>
      rw [hx] at h
      cases h
      rw [(by simpa using hx : x = y)]
      exact ⟨_, .str n, e, ⟨_, rfl⟩, fun _ _ => .str n⟩
    | false =>
      rw [hx] at h
      exact ConsAt.get t x d h
def NoBlt (K : PySem.W.Frag) : List Str → Prop
  | [] => True
  | x :: xs => PySem.W.nsIn K mainGlobals x = some none ∧ NoBlt K xs
theorem NoBlt.get {K : PySem.W.Frag} : ∀ {xs : List Str}, NoBlt K xs → ∀ x ∈ xs, PySem.W.nsIn K mainGlobals x = some none
  | [], _, x, h => nomatch h
  | y :: ys, h, x, hx => by
    rcases List.mem_cons.mp hx with rfl | hx
    · exact h.1
    · exact NoBlt.get h.2 x hx
def tbOf (K : PySem.W.Frag) (fs cs : List Addr) (cf : List (List Str)) : Tb := ⟨K, fun i => fs.getD i 0, fun i => cs.getD i 0, fun i => cf.getD i []⟩
def gtOf (Ds : List Df) (con : List (Str × D)) (cls : List (Str × Nat)) : Gt := ⟨fnTab 0 Ds, [], con, cls⟩
theorem tx_mk {K : PySem.W.Frag} {h : Heap} {mg : Str → Option Value} {Ds : List Df} {fs cs : List Addr} {cf : List (List Str)} {fds : List FuncData} {con : List (Str × D)} {cls : List (Str × Nat)} {nc : Nat} (dflt : FuncData) (X : K.In h) (G : h.Ns mainGlobals mg) (hF : FunsAt K Ds fs fds) (hC : ConsAt K con) (hB : NoBlt K bnames)
    (hcls : ∀ x c, cls.lookup x = some c → mg x = some (.ref (cs.getD c 0)) ∧ c < nc) (cok : ClsOk (tbOf K fs cs cf) nc) : Tx (gtOf Ds con cls) (tbOf K fs cs cf) Ds nc mg fun i => fds.getD i dflt where
  blt := fun x hx => PySem.W.mg_none_of X G (hB.get x hx)
  con := fun x d hx => by
    obtain ⟨u, v, e, r, q⟩ := hC.get x d hx
    exact ⟨u, v, PySem.W.mg_of X G e, r, fun F => q _ F⟩
  cls := hcls
  fns := fun x f hx => by
    obtain ⟨j, d, e1, e2, rfl⟩ := fnTab_at hx
    rw [Nat.zero_add] at e1
    subst e1
    obtain ⟨a, fd, h1, h2, h3, h4, h5⟩ := hF.get f d e2
    refine ⟨?_, d, e2⟩
    show mg d.name = some (.ref (fs.getD f 0))
    rw [PySem.W.mg_of X G h3, List.getD_eq_getElem?_getD, h1]; rfl
  fun_ := fun f d hd => by
    obtain ⟨a, fd, h1, h2, h3, h4, h5⟩ := hF.get f d hd
    have e1 : (tbOf K fs cs cf).fa f = a := by show fs.getD f 0 = a; rw [List.getD_eq_getElem?_getD, h1]; rfl
    have e2 : fds.getD f dflt = fd := by rw [List.getD_eq_getElem?_getD, h2]; rfl
    rw [e1, e2]
    exact ⟨h4, h5⟩
  cok := cok

/-- the promise of a law -/
def spLaw (K : PySem.W.Frag) : Sp := fun vs H Q _ => ∃ (a : Addr) (ns : List Int), vs = [.ref a] ∧ SqL K H a (ns.map V.int) ∧ ns.length ≤ 63 ∧ ∀ H', Q (.bl true) H'
theorem law_fn {Γ : Gt} {T : Tb} {Ds : List Df} {nc : Nat} {mg : Str → Option Value} {fdo : Nat → FuncData} {P : Program} {w : World} {base : Heap} (X : Tx Γ T Ds nc mg fdo) (hc : (Ds.all fun d => chkD Γ d) = true) {k f : Nat} {d : Df} (hd : Ds[f]? = some d) (hn : d.fd.np = 1)
    (hl : ∀ ns : List Int, ns.length ≤ 63 → callN (pgOf Ds) nc k f [.d (.scr ns)] = .ok (.d (.bl true)) []) : FnOk P w T.K mg base (CX P w) k (T.fa f) (fdo f) d.ps (spLaw T.K) := by
  refine (all_fn X hc k f d hd).imp fun vs H Q E h => ?_
  obtain ⟨a, ns, rfl, hS, hlen, q⟩ := h
  refine ⟨H, [.d (.scr ns)], by rw [hn]; rfl, ⟨fun _ _ h => h, rfl, fun i w h => ?_, fun i j w u a h1 o1 _ _ _ _ => ?_⟩, ?_⟩
  · match i, h with
    | 0, h => cases h; exact ⟨_, rfl, .scr hS⟩
  · match i, h1 with
    | 0, h1 => cases h1; cases o1
  · rw [hl ns hlen]
    intro F' v H' _ _ _ _ _ _ r
    cases r.1
    exact q H'
theorem walk_law {l : PySem.W.OpenLaw} {k : Nat} {q : Program} {loose : List Str} {XP : (Str → Option Value) → Heap → Prop} {YP : World → Heap → Prop} {d : DefRec} {K : Params → PySem.W.Frag} (hn : l.most = some 63) (hdf : d.params.defaults = []) (hr : Room k callerA)
    (hY : ∀ (w : World) (h : Heap), YP w h → (K w.params).In h)
    (F : ∀ (w : World) (mg : Str → Option Value) (fa : Addr) (h : Heap), (K w.params).In h → h.Ns mainGlobals mg → mg d.name = some (.ref fa) →
      ∃ fd : FuncData, (∀ (s : Shared) (u : Value), BindsTo s fd ⟨[u], []⟩ [("script", u)]) ∧ ∀ base : Heap, (K w.params).In base → base.Ns mainGlobals mg → FnOk l.prog w (K w.params) mg base (CX l.prog w) k fa fd ["script"] (spLaw (K w.params))) :
    PySem.W.WalkO q loose XP YP l.row.toRowW d [] (fun f vs => PySem.call f vs) :=
  L2.walk_of (n := 63) (k := k) (x := "script") (CX := fun w => CX l.prog w) (sp := fun w => spLaw (K w.params)) hn (by decide) hdf hr hY F (fun _ _ a ns hl _ hS => ⟨a, ns, rfl, hS, hl, fun _ => rfl⟩) fun _ _ _ _ _ z => by
    obtain ⟨_, _, _, _, _, _, _, _, _, _, _, _, z⟩ := z
    exact z
end Cl

/-! Cl, part T: for the plain laws. -/
namespace Cl
open L2
section
variable {P : Pg} {nc k f : Nat} {ws : List W} {fd : Fd} {w : W} {σ : Sg} {os : List W} {cl : Calls}
theorem call_rt (hp : P[f]? = some fd) (hw : ws.length = fd.np ∧ fd.np ≤ fd.nn ∧ ioOk ws fd.io = true) (hr : runs nc (callN P nc k) fd.body (ws.map some ++ List.replicate (fd.nn - fd.np) none) = .rt w σ) (ho : outsOf σ (ownIx 0 ws) = some os) :
    callN P nc (k + 1) f ws = .ok w os := by
  rw [callN]
  simp only [hp, if_pos hw, hr, ho]
theorem call_nx (hp : P[f]? = some fd) (hw : ws.length = fd.np ∧ fd.np ≤ fd.nn ∧ ioOk ws fd.io = true) (hr : runs nc (callN P nc k) fd.body (ws.map some ++ List.replicate (fd.nn - fd.np) none) = .nx σ) (ho : outsOf σ (ownIx 0 ws) = some os) :
    callN P nc (k + 1) f ws = .ok (.d .non) os := by
  rw [callN]
  simp only [hp, if_pos hw, hr, ho]
theorem runs_cons (a : Cl.St) (ss : List Cl.St) (σ : Sg) : runs nc cl (a :: ss) σ = (run nc cl a σ).seq (fun σ' => runs nc cl ss σ') := rfl
theorem runs_app : ∀ (xs ys : List Cl.St) (σ : Sg), runs nc cl (xs ++ ys) σ = (runs nc cl xs σ).seq (fun σ' => runs nc cl ys σ')
  | [], ys, σ => rfl
  | x :: xs, ys, σ => by
    show (run nc cl x σ).seq (fun σ' => runs nc cl (xs ++ ys) σ') = ((run nc cl x σ).seq (fun σ' => runs nc cl xs σ')).seq _
    cases run nc cl x σ with
    | nx σ1 => exact runs_app xs ys σ1
    | rt _ _ => rfl
    | exc _ _ _ => rfl
    | bad => rfl
theorem runs_one {a : Cl.St} {σ' : Sg} (h : run nc cl a σ = .nx σ') : runs nc cl [a] σ = .nx σ' := by rw [runs_cons, h]; rfl
/-- a text in two parts -/
theorem runs_at {n : Nat} {ss : List Cl.St} {σ' : Sg} (h : runs nc cl (ss.take n) σ = .nx σ') : runs nc cl ss σ = runs nc cl (ss.drop n) σ' := by
  conv => lhs; rw [← List.take_append_drop n ss]
  rw [runs_app, h]; rfl
/-- the same, the body and the slots told -/
theorem call_rtE {body : List Cl.St} {st : Sg} (hp : P[f]? = some fd) (hw : ws.length = fd.np ∧ fd.np ≤ fd.nn ∧ ioOk ws fd.io = true) (hb : fd.body = body) (hs : ws.map some ++ List.replicate (fd.nn - fd.np) none = st) (hr : runs nc (callN P nc k) body st = .rt w σ) (ho : outsOf σ (ownIx 0 ws) = some os) :
    callN P nc (k + 1) f ws = .ok w os := by
  subst hb hs
  exact call_rt hp hw hr ho
theorem run_whl (n : Nat) (c : Ex) (b : List Cl.St) (σ : Sg) : run nc cl (.whl n c b) σ = whL (tst c (ev nc cl c)) (runs nc cl b) n σ := rfl
theorem run_fr (t : Tg) (it : Ex) (b : List Cl.St) (σ : Sg) : run nc cl (.fr t it b) σ = .ofR (ev nc cl it σ) fun w σ1 => match itemsD w.toD with
    | some xs => if xs.length ≤ PySem.sizeLine then frL (fun x σ => match asg t x σ with
        | some σ' => runs nc cl b σ'
        | none => .bad) xs σ1 else .bad
    | none => .bad := rfl
theorem run_ite (c : Ex) (a b : List Cl.St) (σ : Sg) : run nc cl (.ite c a b) σ = .ofR (tst c (ev nc cl c) σ) fun k σ1 => if k then runs nc cl a σ1 else runs nc cl b σ1 := rfl
theorem run_set (i : Nat) (e : Ex) (σ : Sg) : run nc cl (.set i e) σ = .ofR (ev nc cl e σ) fun w σ' => setS σ' i w := rfl
/-- comparing plain results -/
def sameT : D → D → Bool
  | .tup xs, .tup ys => sameI xs ys
  | .int a, .int b => decide (a = b)
  | .bl a, .bl b => a == b
  | _, _ => false
where sameI : List D → List D → Bool
  | [], [] => true
  | .int a :: xs, .int b :: ys => decide (a = b) && sameI xs ys
  | _, _ => false
theorem sameI_eq : ∀ {xs ys : List D}, sameT.sameI xs ys = true → xs = ys := by
  intro xs
  induction xs with
  | nil =>
    intro ys h
    cases ys with
    | nil => rfl
    | cons y ys => simp [sameT.sameI] at h
  | cons x xs ih =>
    intro ys h
    cases ys with
    | nil => cases x <;> simp [sameT.sameI] at h
    | cons y ys =>
      cases x with
      | int a =>
        cases y with
        | int b =>
          simp only [sameT.sameI, Bool.and_eq_true, decide_eq_true_eq] at h
          rw [h.1, ih h.2]
        | _ => simp [sameT.sameI] at h
      | _ => simp [sameT.sameI] at h
theorem sameT_eq {x y : D} (h : sameT x y = true) : x = y := by
  unfold sameT at h
  split at h
  · rw [sameI_eq h]
  · rw [of_decide_eq_true h]
  · rw [eq_of_beq h]
  · cases h
def resIs (r : R (List W) W) (v : D) : Bool := match r with
  | .ok (.d x) [] => sameT x v
  | _ => false
theorem resIs_eq {r : R (List W) W} {v : D} (h : resIs r v = true) : r = .ok (.d v) [] := by
  unfold resIs at h
  split at h
  · rw [sameT_eq h]
  · cases h
def tIn (l : List Int) : D := .tup (l.map D.int)
end
end Cl
namespace Cl
section
variable {nc : Nat} {cl : Calls}
/-- a comprehension that leaves the slots as they are -/
theorem lcL_map {f : D → Sg → R Sg (Option D)} {g : D → D} {σ : Sg} : ∀ {xs acc : List D}, (∀ x ∈ xs, f x σ = .ok (some (g x)) σ) → lcL f xs acc σ = .ok (acc ++ xs.map g) σ
  | [], acc, _ => by rw [lcL]; simp
  | x :: xs, acc, h => by
    rw [lcL, h x List.mem_cons_self]
    simp only
    rw [lcL_map fun y hy => h y (List.mem_cons_of_mem _ hy)]
    simp
/-- one under which something stays -/
theorem lcL_inv {f : D → Sg → R Sg (Option D)} {I : Sg → Prop} {G : D → D → Prop} : ∀ {xs acc : List D} {σ : Sg}, (∀ x ∈ xs, ∀ σ, I σ → ∃ y σ', f x σ = .ok (some y) σ' ∧ I σ' ∧ G x y) → I σ →
    ∃ ys σ', lcL f xs acc σ = .ok (acc ++ ys) σ' ∧ I σ' ∧ (∀ y ∈ ys, ∃ x ∈ xs, G x y) ∧ ys.length = xs.length
  | [], acc, σ, _, i => ⟨[], σ, by rw [lcL]; simp, i, fun y hy => absurd hy (by simp), rfl⟩
  | x :: xs, acc, σ, h, i => by
    obtain ⟨y, σ', e, i', g⟩ := h x List.mem_cons_self σ i
    obtain ⟨ys, σ2, e2, i2, g2, l2⟩ := lcL_inv (acc := acc ++ [y]) (fun z hz => h z (List.mem_cons_of_mem _ hz)) i'
    refine ⟨y :: ys, σ2, ?_, i2, fun z hz => ?_, by simp [l2]⟩
    rotate_left
    · rcases List.mem_cons.mp hz with rfl | hz
      · exact ⟨x, List.mem_cons_self, g⟩
      · obtain ⟨a, ha, hg⟩ := g2 z hz
        exact ⟨a, List.mem_cons_of_mem _ ha, hg⟩
    rw [lcL, e]
    simp only
    rw [e2]
    simp
/-- a loop -/
theorem frL_inv {f : D → Sg → Out} {I : List D → Sg → Prop} : ∀ {xs : List D} {σ : Sg}, (∀ x r σ, I (x :: r) σ → ∃ σ', f x σ = .nx σ' ∧ I r σ') → I xs σ → ∃ σ', frL f xs σ = .nx σ' ∧ I [] σ'
  | [], σ, _, i => ⟨σ, rfl, i⟩
  | x :: xs, σ, h, i => by
    obtain ⟨σ', e, i'⟩ := h x xs σ i
    obtain ⟨σ2, e2, i2⟩ := frL_inv h i'
    exact ⟨σ2, by rw [frL, e]; exact e2, i2⟩
end
end Cl

/-! Cl, part U: for the plain laws, on. -/
namespace Cl
section
variable {nc : Nat} {cl : Calls}
theorem ev_lc (own : List Nat) (t : Tg) (it : Ex) (c : Option Ex) (e : Ex) (σ : Sg) : ev nc cl (.lc own t it c e) σ = (ev nc cl it σ).bind fun w σ1 => match itemsD w.toD with
    | some xs => if own.all (plainAt σ1) ∧ xs.length ≤ PySem.sizeLine then
        (lcL (lcTurn own t (evC nc cl c) (ev nc cl e)) xs [] (wipeS σ1 own)).bind fun ys σ2 => .ok (.fl ys) (backS σ1 σ2 own)
      else .bad
    | none => .bad := rfl
theorem lc_ok {own : List Nat} {t : Tg} {it : Ex} {c : Option Ex} {e : Ex} {σ σ1 σ2 : Sg} {w : W} {xs ys : List D} (hi : ev nc cl it σ = .ok w σ1) (hx : itemsD w.toD = some xs) (hp : own.all (plainAt σ1) = true) (hl : xs.length ≤ 1000)
    (h : lcL (lcTurn own t (evC nc cl c) (ev nc cl e)) xs [] (wipeS σ1 own) = .ok ys σ2) : ev nc cl (.lc own t it c e) σ = .ok (.fl ys) (backS σ1 σ2 own) := by
  rw [ev_lc, hi, R.bind_ok, hx]
  simp only
  rw [if_pos ⟨hp, by rw [PySem.sizeLine_eq]; omega⟩, h, R.bind_ok]
theorem blt1_ok {b : Blt} {e : Ex} {σ σ1 : Sg} {w r : W} (hv : ∀ i, e ≠ .var i) (h : ev nc cl e σ = .ok w σ1) (hb : bltop b [w.toD] = some r) : ev nc cl (.blt b [e]) σ = .ok r σ1 := by
  have ho : opd e (ev nc cl e) σ = .ok (.val w.toD) σ1 := by
    have : opd e (ev nc cl e) σ = (ev nc cl e σ).bind fun w σ' => .ok (.val w.toD) σ' := by
      cases e <;> first | rfl | exact absurd rfl (hv _)
    rw [this, h]; rfl
  have h1 : evOs nc cl [e] σ = .ok [.val w.toD] σ1 := by
    show R.bind (opd e (ev nc cl e) σ) _ = _
    rw [ho]; rfl
  show R.bind (evOs nc cl [e] σ) _ = _
  rw [h1, R.bind_ok]
  show ofO (bltop b [w.toD]) σ1 = _
  rw [hb]; rfl
theorem all_true : ∀ {ys : List D}, (∀ y ∈ ys, y = .bl true) → bltop .all [.lst ys] = some (.d (.bl true)) := by
  intro ys h
  have : blsD ys = some (List.replicate ys.length true) := by
    induction ys with
    | nil => rfl
    | cons y ys ih =>
      rw [h y List.mem_cons_self, blsD, ih fun z hz => h z (List.mem_cons_of_mem _ hz)]
      rfl
  show (blsD ys).map (fun bs => W.d (.bl (bs.all id))) = _
  rw [this]
  simp
theorem run_setE {i : Nat} {e : Ex} {σ σ1 : Sg} {w : W} (h : ev nc cl e σ = .ok w σ1) (hi : i < σ1.length) : run nc cl (.set i e) σ = .nx (σ1.set i (some w)) := by
  rw [run_set, h]
  show setS σ1 i w = _
  rw [setS, if_pos hi]
end
end Cl

namespace Lw
open PySem PySem.Spec PyProof.Rows L2 Cl
def top (i : Nat) : Stmt := PySem.Challenge.pw_stripturns_k81_whole_swaps_of_neighbours.main.body.getD i (.Pass ⟨0, 0, 0, 0⟩)
/-- is_integer -/
def b0 : List Cl.St := [.ret (.and (.isi (.var 0) false [.int]) (.not (.isi (.var 0) false [.bool])))]
def d0 : Df := { name := "is_integer", qual := "is_integer", st := top 7, ps := ["thing"], N := ["thing"], fd := { np := 1, io := [], nn := 1, body := b0 } }
/-- is_within -/
def b1 : List Cl.St := [.ret (.and (.call 0 [.var 0]) (.chn .le .le (.var 1) (.var 0) (.var 2)))]
def d1 : Df := { name := "is_within", qual := "is_within", st := top 8, ps := ["thing", "low", "high"], N := ["thing", "low", "high"], fd := { np := 3, io := [], nn := 3, body := b1 } }
/-- is_order -/
def b2 : List Cl.St := [.ite (.or (.not (.isi (.var 0) false [.tuple])) (.not (.chn .le .le (.con (.int 1)) (.blt .len [.var 0]) (.con (.int 6))))) [.ret (.con (.bl false))] [], .ite (.not (.blt .all [.lc [1] (.nm 1) (.var 0) none (.call 1 [.var 1, .con (.int 0), .bin .sub (.blt .len [.var 0]) (.con (.int 1))])])) [.ret (.con (.bl false))] [], .ret (.cmp .eq (.blt .len [.dc [1] (.nm 1) (.var 0) none (.var 1) (.con (.bl true))]) (.blt .len [.var 0]))]
def d2 : Df := { name := "is_order", qual := "is_order", st := top 9, ps := ["thing"], N := ["thing", "one"], fd := { np := 1, io := [], nn := 2, body := b2 } }
/-- check_order -/
def b3 : List Cl.St := [.ite (.not (.call 2 [.var 0])) [.nev] []]
def d3 : Df := { name := "check_order", qual := "check_order", st := top 11, ps := ["thing"], N := ["thing"], fd := { np := 1, io := [], nn := 1, body := b3 } }
/-- swapped -/
def b4 : List Cl.St := [.ret (.bin .add (.bin .add (.sl (.var 0) none (some (.var 1))) (.tup [.ix (.var 0) (.bin .add (.var 1) (.con (.int 1))), .ix (.var 0) (.var 1)])) (.sl (.var 0) (some (.bin .add (.var 1) (.con (.int 2)))) none))]
def d4 : Df := { name := "swapped", qual := "swapped", st := top 14, ps := ["row", "at"], N := ["row", "at"], fd := { np := 2, io := [], nn := 2, body := b4 } }
/-- raw_swaps -/
def b5 : List Cl.St := [.par [1, 2] [.lst [], .lrg true [.blt .len [.var 0]]], .set 3 (.dc [4, 5] (.tp [.nm 4, .nm 5]) (.enm (.var 0)) none (.var 5) (.var 4)), .whl 1000000 (.cmp .ne (.var 2) (.var 0)) [.set 4 (.ix (.lc [6] (.nm 6) (.rng [.bin .sub (.blt .len [.var 2]) (.con (.int 1))]) (some (.cmp .gt (.ix (.var 3) (.ix (.var 2) (.var 6))) (.ix (.var 3) (.ix (.var 2) (.bin .add (.var 6) (.con (.int 1))))))) (.var 6)) (.con (.int 0))), .expr (.mut .append 1 [.var 4]), .set 2 (.call 4 [.var 2, .var 4])], .ret (.blt .tuple [.var 1])]
def d5 : Df := { name := "raw_swaps", qual := "raw_swaps", st := top 15, ps := ["order"], N := ["order", "found", "here", "goal", "at", "piece", "place"], fd := { np := 1, io := [], nn := 7, body := b5 } }
/-- swaps_of -/
def b6 : List Cl.St := [.expr (.call 3 [.var 0]), .ret (.call 5 [.var 0])]
def d6 : Df := { name := "swaps_of", qual := "swaps_of", st := top 16, ps := ["order"], N := ["order"], fd := { np := 1, io := [], nn := 1, body := b6 } }
/-- are_swaps -/
def b7 : List Cl.St := [.ite (.or (.not (.isi (.var 1) false [.tuple])) (.cmp .gt (.blt .len [.var 1]) (.con (.int 40)))) [.ret (.con (.bl false))] [], .ret (.blt .all [.lc [2] (.nm 2) (.var 1) none (.call 1 [.var 2, .con (.int 0), .bin .sub (.var 0) (.con (.int 2))])])]
def d7 : Df := { name := "are_swaps", qual := "are_swaps", st := top 17, ps := ["many", "thing"], N := ["many", "thing", "at"], fd := { np := 2, io := [], nn := 3, body := b7 } }
/-- by_swaps -/
def b8 : List Cl.St := [.ite (.not (.call 1 [.var 0, .con (.int 1), .con (.int 6)])) [.nev] [], .ite (.not (.call 7 [.var 0, .var 1])) [.nev] [], .set 2 (.lrg true [.var 0]), .fr (.nm 3) (.var 1) [.set 2 (.call 4 [.var 2, .var 3])], .ret (.var 2)]
def d8 : Df := { name := "by_swaps", qual := "by_swaps", st := top 18, ps := ["many", "row"], N := ["many", "row", "found", "at"], fd := { np := 2, io := [], nn := 4, body := b8 } }
/-- _law_draw -/
def b9 : List Cl.St := [.ite (.and (.cmp .eq (.ix (.var 0) (.con (.int 2))) (.con (.int 0))) (.cmp .lt (.ix (.var 0) (.con (.int 1))) (.blt .len [.ix (.var 0) (.con (.int 0))]))) [.set 2 (.ix (.ix (.var 0) (.con (.int 0))) (.ix (.var 0) (.con (.int 1)))), .six 0 (.con (.int 1)) (.bin .add (.ix (.var 0) (.con (.int 1))) (.con (.int 1))), .six 0 (.con (.int 3)) (.bin .mod (.blt .int [.bin .add (.bin .add (.bin .mul (.ix (.var 0) (.con (.int 3))) (.con (.int 69621))) (.var 2)) (.con (.int 43))]) (.con (.int 2147483629))), .ite (.cmp .ge (.var 2) (.bin .pow (.con (.int 10)) (.con (.int 18)))) [.six 0 (.con (.int 2)) (.var 2)] []] [], .ite (.cmp .gt (.ix (.var 0) (.con (.int 2))) (.con (.int 0))) [.set 3 (.bin .mod (.blt .int [.ix (.var 0) (.con (.int 2))]) (.var 1)), .six 0 (.con (.int 2)) (.bin .fdiv (.ix (.var 0) (.con (.int 2))) (.var 1)), .ret (.var 3)] [], .six 0 (.con (.int 4)) (.bin .add (.ix (.var 0) (.con (.int 4))) (.con (.int 1))), .set 4 (.bin .mod (.blt .int [.bin .mul (.blt .int [.bin .add (.ix (.var 0) (.con (.int 3))) (.bin .mul (.con (.int 7919)) (.ix (.var 0) (.con (.int 4))))]) (.con (.int 48271))]) (.con (.int 2147483647))), .set 4 (.bin .mod (.blt .int [.bin .mul (.var 4) (.bin .add (.bin .fdiv (.var 4) (.con (.int 1009))) (.con (.int 69621)))]) (.con (.int 2147483647))), .set 4 (.bin .mod (.blt .int [.bin .mul (.var 4) (.bin .add (.bin .fdiv (.var 4) (.con (.int 2003))) (.con (.int 40692)))]) (.con (.int 2147483399))), .ret (.bin .mod (.blt .int [.bin .fdiv (.var 4) (.con (.int 16))]) (.var 1))]
def d9 : Df := { name := "_law_draw", qual := "_law_draw", st := top 20, ps := ["hand", "span"], N := ["hand", "span", "cell", "digit", "number"], fd := { np := 2, io := [0], nn := 5, body := b9 } }
/-- _law_mixed -/
def b10 : List Cl.St := [.par [2, 3] [.blt .list [.var 1], .lst []], .whl 1000000 (.cmp .gt (.blt .len [.var 2]) (.con (.int 0))) [.expr (.mut .append 3 [.mut .popAt 2 [.call 9 [.io 0, .blt .len [.var 2]]]])], .ret (.var 3)]
def d10 : Df := { name := "_law_mixed", qual := "_law_mixed", st := top 21, ps := ["hand", "things"], N := ["hand", "things", "left", "found"], fd := { np := 2, io := [0], nn := 4, body := b10 } }
/-- _law_is -/
def b11 : List Cl.St := [.ite (.isi (.var 1) true [.tuple, .list]) [.ite (.or (.cmp .ne (.isi (.var 0) false [.tuple]) (.isi (.var 1) false [.tuple])) (.cmp .ne (.isi (.var 0) false [.list]) (.isi (.var 1) false [.list]))) [.ret (.con (.bl false))] [], .ret (.and (.cmp .eq (.blt .len [.var 0]) (.blt .len [.var 1])) (.blt .all [.lc [2, 3] (.tp [.nm 2, .nm 3]) (.zip (.var 0) (.var 1)) none (.call 11 [.var 2, .var 3])]))] [], .ite (.or (.cmp .isN (.var 1) (.con .non)) (.cmp .isN (.var 0) (.con .non))) [.ret (.and (.cmp .isN (.var 1) (.con .non)) (.cmp .isN (.var 0) (.con .non)))] [], .ite (.or (.cmp .ne (.isi (.var 0) false [.bool]) (.isi (.var 1) false [.bool])) (.cmp .ne (.isi (.var 0) false [.int]) (.isi (.var 1) false [.int]))) [.ret (.con (.bl false))] [], .ret (.and (.cmp .eq (.isi (.var 0) false [.str]) (.isi (.var 1) false [.str])) (.cmp .eq (.var 0) (.var 1)))]
def d11 : Df := { name := "_law_is", qual := "_law_is", st := top 22, ps := ["thing", "due"], N := ["thing", "due", "one", "other"], fd := { np := 2, io := [], nn := 4, body := b11 } }
/-- _law_hand -/
def b12 : List Cl.St := [.set 1 (.lc [2] (.nm 2) (.sl (.var 0) none (some (.con (.int 63)))) none (.blt .abs [.blt .int [.var 2]])), .ret (.lst [.var 1, .con (.int 0), .con (.int 0), .bin .add (.con (.int 383)) (.bin .mul (.con (.int 3)) (.blt .len [.var 1])), .con (.int 0)])]
def d12 : Df := { name := "_law_hand", qual := "_law_hand", st := top 23, ps := ["script"], N := ["script", "cells", "cell"], fd := { np := 1, io := [], nn := 3, body := b12 } }
/-- _law_order -/
def b13 : List Cl.St := [.ret (.blt .tuple [.call 10 [.io 0, .lrg false [.var 1]]])]
def d13 : Df := { name := "_law_order", qual := "_law_order", st := top 24, ps := ["hand", "many"], N := ["hand", "many"], fd := { np := 2, io := [0], nn := 2, body := b13 } }
/-- _law_swapped -/
def b14 : List Cl.St := [.ret (.bin .add (.bin .add (.sl (.var 0) none (some (.var 1))) (.tup [.ix (.var 0) (.bin .add (.var 1) (.con (.int 1))), .ix (.var 0) (.var 1)])) (.sl (.var 0) (some (.bin .add (.var 1) (.con (.int 2)))) none))]
def d14 : Df := { name := "_law_swapped", qual := "_law_swapped", st := top 25, ps := ["order", "at"], N := ["order", "at"], fd := { np := 2, io := [], nn := 2, body := b14 } }
/-- _law_by -/
def b15 : List Cl.St := [.set 2 (.lrg true [.var 0]), .fr (.nm 3) (.var 1) [.set 2 (.call 14 [.var 2, .var 3])], .ret (.var 2)]
def d15 : Df := { name := "_law_by", qual := "_law_by", st := top 26, ps := ["many", "row"], N := ["many", "row", "found", "at"], fd := { np := 2, io := [], nn := 4, body := b15 } }
/-- _law_least -/
def b16 : List Cl.St := [.set 2 (.lrg true [.var 0]), .par [3, 4] [.dt [.var 2, .tup []], .lst [.var 2]], .whl 1000000 (.cmp .notin (.var 1) (.var 3)) [.set 5 (.lst []), .fr (.nm 6) (.var 4) [.fr (.nm 7) (.rng [.bin .sub (.var 0) (.con (.int 1))]) [.set 8 (.call 14 [.var 6, .var 7]), .ite (.cmp .notin (.var 8) (.var 3)) [.six 3 (.var 8) (.bin .add (.ix (.var 3) (.var 6)) (.tup [.var 7])), .expr (.mut .append 5 [.var 8])] []]], .set 4 (.var 5)], .ret (.ix (.var 3) (.var 1))]
def d16 : Df := { name := "_law_least", qual := "_law_least", st := top 27, ps := ["many", "order"], N := ["many", "order", "begin", "known", "front", "later", "here", "at", "there"], fd := { np := 2, io := [], nn := 9, body := b16 } }
/-- _law_is_told_right -/
def b17 : List Cl.St := [.set 2 (.call 13 [.io 0, .var 1]), .set 3 (.call 6 [.var 2]), .set 4 (.con (.int 0)), .fr (.tp [.nm 5, .nm 6]) (.enm (.var 2)) [.set 4 (.bin .add (.var 4) (.blt .len [.lc [9] (.nm 9) (.sl (.var 2) none (some (.var 5))) (some (.cmp .gt (.var 9) (.var 6))) (.var 9)]))], .ite (.not (.call 11 [.lst [.var 3, .call 8 [.var 1, .var 3], .blt .len [.var 3]], .lst [.call 16 [.var 1, .var 2], .var 2, .var 4]])) [.ret (.con (.bl false))] [], .set 7 (.ite (.cmp .gt (.var 1) (.con (.int 1))) (.call 9 [.io 0, .con (.int 41)]) (.con (.int 0))), .set 8 (.blt .tuple [.lc [10] (.nm 10) (.rng [.var 7]) none (.call 9 [.io 0, .bin .sub (.var 1) (.con (.int 1))])]), .ite (.not (.call 11 [.call 8 [.var 1, .var 8], .call 15 [.var 1, .var 8]])) [.ret (.con (.bl false))] [], .ret (.or (.cmp .gt (.blt .len [.var 8]) (.con (.int 20))) (.cmp .eq (.call 8 [.var 1, .bin .add (.var 8) (.rev (.var 8))]) (.lrg true [.var 1])))]
def d17 : Df := { name := "_law_is_told_right", qual := "_law_is_told_right", st := top 28, ps := ["hand", "many"], N := ["hand", "many", "order", "came", "crossed", "at", "piece", "size", "row", "other", "step"], fd := { np := 2, io := [0], nn := 11, body := b17 } }
/-- law -/
def b18 : List Cl.St := [.set 1 (.call 12 [.var 0]), .set 2 (.lst [.call 6 [.tup [.con (.int 2), .con (.int 1), .con (.int 0)]], .call 8 [.con (.int 3), .tup [.con (.int 0), .con (.int 1)]], .call 6 [.tup [.con (.int 0)]], .call 8 [.con (.int 4), .tup []]]), .ite (.not (.call 11 [.var 2, .lst [.tup [.con (.int 0), .con (.int 1), .con (.int 0)], .tup [.con (.int 1), .con (.int 2), .con (.int 0)], .tup [], .tup [.con (.int 0), .con (.int 1), .con (.int 2), .con (.int 3)]]])) [.ret (.con (.bl false))] [], .ret (.blt .all [.lc [3] (.nm 3) (.rng [.con (.int 3)]) none (.blt .all [.lc [4] (.nm 4) (.tup [.con (.int 1), .con (.int 2), .con (.int 3), .con (.int 4), .con (.int 5)]) none (.call 17 [.io 1, .var 4])])])]
def d18 : Df := { name := "law", qual := "law", st := top 29, ps := ["script"], N := ["script", "hand", "known", "step", "many"], fd := { np := 1, io := [], nn := 5, body := b18 } }
def Ds : List Df := [d0, d1, d2, d3, d4, d5, d6, d7, d8, d9, d10, d11, d12, d13, d14, d15, d16, d17, d18]
def cons : List (Str × D) := [("MOST_PIECES", (.int 6)), ("MOST_SWAPS", (.int 40))]
abbrev Γ : Gt := gtOf Ds cons []
end Lw

namespace Lw
open Cl
open PySem (Str)
abbrev P := pgOf Ds
theorem p9 : P[9]? = some d9.fd := rfl
abbrev hnd (cs : List Int) (i v s c : Int) : W := .fl [.lst (cs.map D.int), .int i, .int v, .int s, .int c]
theorem at0 (a b c d e : D) : L2.atI [a, b, c, d, e] 0 = some a := rfl
theorem at1 (a b c d e : D) : L2.atI [a, b, c, d, e] 1 = some b := rfl
theorem at2 (a b c d e : D) : L2.atI [a, b, c, d, e] 2 = some c := rfl
theorem at3 (a b c d e : D) : L2.atI [a, b, c, d, e] 3 = some d := rfl
theorem at4 (a b c d e : D) : L2.atI [a, b, c, d, e] 4 = some e := rfl
theorem ixn1 : L2.ixN 5 1 = some 1 := rfl
theorem ixn2 : L2.ixN 5 2 = some 2 := rfl
theorem ixn3 : L2.ixN 5 3 = some 3 := rfl
theorem ixn4 : L2.ixN 5 4 = some 4 := rfl
theorem eqI (a b : Int) : cmpop .eq (.int a) (.int b) = some (decide (a = b)) := rfl
theorem step (cl : Calls) (h sp x y : Option W) (n k a m : Int) (h0 : 0 ≤ n) (h1 : n < 2147483648) (hk : 0 < k) (hk' : k < 1073741824) (hm : 0 < m) :
    run 0 cl (.set 4 (.bin .mod (.blt .int [.bin .mul (.var 4) (.bin .add (.bin .fdiv (.var 4) (.con (.int k))) (.con (.int a)))]) (.con (.int m)))) [h, sp, x, y, some (.d (.int n))] = .nx [h, sp, x, y, some (.d (.int (n * (n / k + a) % m)))] := by
  have e1 : -18446744073709551616 < n := by omega
  have e2 : n < 18446744073709551616 := by omega
  simp [run, ev, evOs, opd, rd, rds, bltop, binop, Out.ofR, setS, hk, hk', hm, e1, e2]
theorem draw_a (cl : Calls) (cs : List Int) (i v s c : Int) (sp x y z : Option W) :
    runs 0 cl ((b9.drop 2).take 2) [some (hnd cs i v s c), sp, x, y, z] = .nx [some (hnd cs i v s (c + 1)), sp, x, y, some (.d (.int ((s + 7919 * (c + 1)) * 48271 % 2147483647)))] := by
  simp [b9, runs, run, ev, evOs, opd, rd, rds, bltop, ixD, binop, at0, at1, at2, at3, at4, setop, ixn1, ixn2, ixn3, ixn4, Out.ofR, setS]
theorem draw_z (cl : Calls) (h x y : Option W) (n span : Int) (h1 : 0 < span) :
    runs 0 cl (b9.drop 6) [h, some (.d (.int span)), x, y, some (.d (.int n))] = .rt (.d (.int (n / 16 % span))) [h, some (.d (.int span)), x, y, some (.d (.int n))] := by
  simp [b9, runs, run, ev, evOs, opd, rd, rds, bltop, binop, Out.ofR, h1]
/-- the last part of a draw -/
theorem draw_end (cl : Calls) (cs : List Int) (i v s c span : Int) (x y z : Option W) (h1 : 0 < span) :
    ∃ r z', runs 0 cl (b9.drop 2) [some (hnd cs i v s c), some (.d (.int span)), x, y, z] = .rt (.d (.int r)) [some (hnd cs i v s (c + 1)), some (.d (.int span)), x, y, z'] ∧ 0 ≤ r ∧ r < span := by
  have e : b9.drop 2 = (b9.drop 2).take 2 ++ ((b9.drop 4).take 1 ++ ((b9.drop 5).take 1 ++ b9.drop 6)) := rfl
  generalize hn1 : (s + 7919 * (c + 1)) * 48271 % 2147483647 = n1
  have b1 : 0 ≤ n1 ∧ n1 < 2147483648 := by omega
  generalize hn2 : n1 * (n1 / 1009 + 69621) % 2147483647 = n2
  have b2 : 0 ≤ n2 ∧ n2 < 2147483648 := by omega
  generalize hn3 : n2 * (n2 / 2003 + 40692) % 2147483399 = n3
  refine ⟨n3 / 16 % span, some (.d (.int n3)), ?_, Int.emod_nonneg _ (by omega), Int.emod_lt_of_pos _ h1⟩
  rw [e, runs_app, draw_a, Out.seq_nx, runs_app, hn1]
  have s1 := step cl (some (hnd cs i v s (c + 1))) (some (.d (.int span))) x y n1 1009 69621 2147483647 b1.1 b1.2 (by decide) (by decide) (by decide)
  have s2 := step cl (some (hnd cs i v s (c + 1))) (some (.d (.int span))) x y n2 2003 40692 2147483399 b2.1 b2.2 (by decide) (by decide) (by decide)
  rw [hn2] at s1
  rw [hn3] at s2
  have t1 : runs 0 cl ((b9.drop 4).take 1) [some (hnd cs i v s (c + 1)), some (.d (.int span)), x, y, some (.d (.int n1))] = .nx [some (hnd cs i v s (c + 1)), some (.d (.int span)), x, y, some (.d (.int n2))] := by
    show (run 0 cl _ _).seq _ = _
    rw [s1]; rfl
  have t2 : runs 0 cl ((b9.drop 5).take 1) [some (hnd cs i v s (c + 1)), some (.d (.int span)), x, y, some (.d (.int n2))] = .nx [some (hnd cs i v s (c + 1)), some (.d (.int span)), x, y, some (.d (.int n3))] := by
    show (run 0 cl _ _).seq _ = _
    rw [s2]; rfl
  rw [t1, Out.seq_nx, runs_app, t2, Out.seq_nx]
  exact draw_z cl _ x y n3 span h1
theorem draw_0 (cl : Calls) (cs : List Int) (i v s c : Int) (sp x y z : Option W) (hi : 0 ≤ i) :
    ∃ i' v' s' x', runs 0 cl (b9.take 1) [some (hnd cs i v s c), sp, x, y, z] = .nx [some (hnd cs i' v' s' c), sp, x', y, z] ∧ 0 ≤ i' := by
  by_cases hv : v = 0
  · by_cases hl : i < cs.length
    · obtain ⟨cell, hc⟩ : ∃ cell, L2.atI cs i = some cell := by
        have h2 : i.toNat < cs.length := by omega
        refine ⟨cs[i.toNat], ?_⟩
        unfold L2.atI L2.ixN
        rw [if_pos hi, if_pos hl]
        exact List.getElem?_eq_getElem h2
      have hc' : L2.atI (cs.map D.int) i = some (.int cell) := by rw [atI_map, hc]; rfl
      by_cases hb : 1000000000000000000 ≤ cell
      · refine ⟨i + 1, cell, (s * 69621 + cell + 43) % 2147483629, some (.d (.int cell)), ?_, by omega⟩
        simp [b9, runs, run, ev, evOs, opd, tst, rd, rds, bltop, ixD, binop, cmpop, at0, at1, at2, at3, at4, setop, ixn1, ixn2, ixn3, ixn4, Out.ofR, setS, hv, hl, hc', hb, lenD, truth, eqD, D.ok, D.okN, D.eqb]
      · refine ⟨i + 1, v, (s * 69621 + cell + 43) % 2147483629, some (.d (.int cell)), ?_, by omega⟩
        simp [b9, runs, run, ev, evOs, opd, tst, rd, rds, bltop, ixD, binop, cmpop, at0, at1, at2, at3, at4, setop, ixn1, ixn2, ixn3, ixn4, Out.ofR, setS, hv, hl, hc', hb, lenD, truth, eqD, D.ok, D.okN, D.eqb]
    · refine ⟨i, v, s, x, ?_, hi⟩
      simp [b9, runs, run, ev, evOs, opd, tst, rd, rds, bltop, ixD, binop, cmpop, at0, at1, at2, at3, at4, Out.ofR, hv, hl, lenD, truth, eqD, D.ok, D.okN, D.eqb]
  · refine ⟨i, v, s, x, ?_, hi⟩
    simp [b9, runs, run, ev, evOs, opd, tst, rd, rds, bltop, ixD, binop, cmpop, at0, at1, at2, at3, at4, Out.ofR, hv, lenD, truth, eqD, D.ok, D.okN, D.eqb]
theorem draw_1 (cl : Calls) (cs : List Int) (i v s c span : Int) (x y z : Option W) (h1 : 0 < span) (h2 : span < 1073741824) :
    (0 < v ∧ runs 0 cl ((b9.drop 1).take 1) [some (hnd cs i v s c), some (.d (.int span)), x, y, z] = .rt (.d (.int (v % span))) [some (hnd cs i (v / span) s c), some (.d (.int span)), x, none, z]) ∨
    runs 0 cl ((b9.drop 1).take 1) [some (hnd cs i v s c), some (.d (.int span)), x, y, z] = .nx [some (hnd cs i v s c), some (.d (.int span)), x, y, z] := by
  by_cases hv : 0 < v
  · refine .inl ⟨hv, ?_⟩
    simp [b9, runs, run, ev, evOs, opd, tst, rd, rds, bltop, ixD, binop, cmpop, at0, at1, at2, at3, at4, setop, ixn1, ixn2, ixn3, ixn4, Out.ofR, setS, hv, h1, h2, truth]
  · refine .inr ?_
    simp [b9, runs, run, ev, evOs, opd, tst, rd, rds, bltop, ixD, binop, cmpop, at0, at1, at2, at3, at4, Out.ofR, hv, truth]
def Hand (w : W) : Prop := ∃ (cs : List Int) (i v s c : Int), w = hnd cs i v s c ∧ 0 ≤ i
theorem draw_ok (k : Nat) (h : W) (span : Int) (hh : Hand h) (h1 : 0 < span) (h2 : span < 1073741824) :
    ∃ r h', callN P 0 (k + 1) 9 [h, .d (.int span)] = .ok (.d (.int r)) [h'] ∧ Hand h' ∧ 0 ≤ r ∧ r < span := by
  obtain ⟨cs, i, v, s, c, rfl, hi⟩ := hh
  obtain ⟨i', v', s', x', e0, hi'⟩ := draw_0 (callN P 0 k) cs i v s c (some (.d (.int span))) none none none hi
  have eb : b9 = b9.take 1 ++ ((b9.drop 1).take 1 ++ b9.drop 2) := rfl
  have hrun : ∃ r h' sp x y z, runs 0 (callN P 0 k) b9 [some (hnd cs i v s c), some (.d (.int span)), none, none, none] = .rt (.d (.int r)) [some h', sp, x, y, z] ∧ Hand h' ∧ 0 ≤ r ∧ r < span := by
    rw [eb, runs_app, e0, Out.seq_nx, runs_app]
    rcases draw_1 (callN P 0 k) cs i' v' s' c span x' none none h1 h2 with ⟨hv, e1⟩ | e1
    · rw [e1]
      exact ⟨_, _, _, _, _, _, rfl, ⟨cs, i', _, s', c, rfl, hi'⟩, Int.emod_nonneg _ (by omega), Int.emod_lt_of_pos _ h1⟩
    · rw [e1, Out.seq_nx]
      obtain ⟨r, z', e2, b1, b2⟩ := draw_end (callN P 0 k) cs i' v' s' c span x' none none h1
      rw [e2]
      exact ⟨_, _, _, _, _, _, rfl, ⟨cs, i', v', s', _, rfl, hi'⟩, b1, b2⟩
  obtain ⟨r, h', sp, x, y, z, er, hh', b1, b2⟩ := hrun
  refine ⟨r, h', ?_, hh', b1, b2⟩
  obtain ⟨cs', i2, v2, s2, c2, rfl, _⟩ := hh'
  show (match runs 0 (callN P 0 k) b9 [some (hnd cs i v s c), some (.d (.int span)), none, none, none] with
    | .nx σ => _
    | .rt w σ => _
    | .exc c ds σ => _
    | .bad => _) = _
  rw [er]
  rfl

/-! ### an order is drawn -/
def dr : Nat → List Int → List Int → List (List Int)
  | 0, _, acc => [acc]
  | n + 1, l, acc => if l.isEmpty then [acc] else (List.range l.length).flatMap fun r => dr n (l.eraseIdx r) (acc ++ [l.getD r 0])
theorem seqIx {r : Int} {n : Nat} (h0 : 0 ≤ r) (h1 : r < n) : PySem.seqIndex? r n = some r.toNat := by
  unfold PySem.seqIndex?
  simp [h0]
  omega
theorem own_hnd (cs : List Int) (i v s c : Int) : (hnd cs i v s c).own = true := rfl
theorem er_map (ls : List Int) (n : Nat) : (ls.map D.int).eraseIdx n = (ls.eraseIdx n).map D.int := by
  induction ls generalizing n with
  | nil => rfl
  | cons a l ih => cases n with
    | zero => rfl
    | succ n => simp [List.eraseIdx, ih]
theorem mixed_turn (k : Nat) (h : W) (th : Option W) (ls fs : List Int) (hh : Hand h) (hl : ls ≠ []) (hs : ls.length < 1000) (hf : fs.length < 1000) :
    ∃ r h', r < ls.length ∧ Hand h' ∧ runs 0 (callN P 0 (k + 1)) [.expr (.mut .append 3 [.mut .popAt 2 [.call 9 [.io 0, .blt .len [.var 2]]]])] [some h, th, some (.fl (ls.map D.int)), some (.fl (fs.map D.int))] =
      .nx [some h', th, some (.fl ((ls.eraseIdx r).map D.int)), some (.fl ((fs ++ [ls.getD r 0]).map D.int))] := by
  have hpos : 0 < ls.length := List.length_pos_iff.mpr hl
  obtain ⟨r, h', e, hh', b1, b2⟩ := draw_ok k h ls.length hh (by omega) (by omega)
  have hr : r.toNat < ls.length := by omega
  refine ⟨r.toNat, h', hr, hh', ?_⟩
  obtain ⟨cs, i, v, s, c, rfl, _⟩ := hh
  obtain ⟨cs', i', v', s', c', rfl, _⟩ := hh'
  have z1 : fs.length < PySem.sizeLine := by rw [PySem.sizeLine_eq]; omega
  have z2 : -9223372036854775808 ≤ r := by omega
  have z3 : r < 9223372036854775808 := by omega
  have z4 : PySem.seqIndex? r ls.length = some r.toNat := seqIx b1 b2
  have z5 : ls[r.toNat]? = some (ls[r.toNat]) := List.getElem?_eq_getElem hr
  simp [runs, run, ev, evDs, evAs, evOs, opd, rds, rd, bltop, lenD, callS, ioS, agWs, agW, putBack, mutop, Out.ofR, e, z1, z2, z3, z4, z5, own_hnd, er_map]
def wtest : Sg → R Sg Bool := fun σ => tst (.cmp .gt (.blt .len [.var 2]) (.con (.int 0))) (ev 0 (callN P 0 0) (.cmp .gt (.blt .len [.var 2]) (.con (.int 0)))) σ
theorem mixed_test (cl : Calls) (h th f : Option W) (ls : List Int) : tst (.cmp .gt (.blt .len [.var 2]) (.con (.int 0))) (ev 0 cl (.cmp .gt (.blt .len [.var 2]) (.con (.int 0)))) [h, th, some (.fl (ls.map D.int)), f] = .ok (decide (0 < ls.length)) [h, th, some (.fl (ls.map D.int)), f] := by
  simp [tst, opd, ev, evOs, rds, rd, bltop, lenD, cmpop, truth]
theorem mixed_loop (k : Nat) (th : Option W) : ∀ (n : Nat) (h : W) (ls fs : List Int), Hand h → ls.length ≤ n → ls.length + fs.length < 1000 → ∀ m, n < m → ∃ h' o, Hand h' ∧ o ∈ dr n ls fs ∧
    whL (tst (.cmp .gt (.blt .len [.var 2]) (.con (.int 0))) (ev 0 (callN P 0 (k + 1)) (.cmp .gt (.blt .len [.var 2]) (.con (.int 0))))) (runs 0 (callN P 0 (k + 1)) [.expr (.mut .append 3 [.mut .popAt 2 [.call 9 [.io 0, .blt .len [.var 2]]]])]) m [some h, th, some (.fl (ls.map D.int)), some (.fl (fs.map D.int))] =
      .nx [some h', th, some (.fl []), some (.fl (o.map D.int))]
  | n, h, [], fs, hh, _, _, m, hm => by
    obtain ⟨m, rfl⟩ : ∃ j, m = j + 1 := ⟨m - 1, by omega⟩
    refine ⟨h, fs, hh, by cases n <;> simp [dr], ?_⟩
    rw [whL, mixed_test]
    rfl
  | 0, h, a :: ls, fs, hh, hl, _, m, hm => by simp at hl
  | n + 1, h, a :: ls, fs, hh, hl, hz, m, hm => by
    obtain ⟨m, rfl⟩ : ∃ j, m = j + 1 := ⟨m - 1, by omega⟩
    have l1 : (a :: ls).length < 1000 := by omega
    have l2 : fs.length < 1000 := by omega
    obtain ⟨r, h1, hr, hh1, e⟩ := mixed_turn k h th (a :: ls) fs hh (by simp) l1 l2
    have el : ((a :: ls).eraseIdx r).length = ls.length := by rw [List.length_eraseIdx, if_pos hr]; simp
    obtain ⟨h2, o, hh2, ho, e2⟩ := mixed_loop k th n h1 ((a :: ls).eraseIdx r) (fs ++ [(a :: ls).getD r 0]) hh1 (by rw [el]; simp at hl; omega) (by rw [el, List.length_append]; simp at hz ⊢; omega) m (by omega)
    refine ⟨h2, o, hh2, ?_, ?_⟩
    · rw [dr]
      simp only [List.isEmpty_cons, Bool.false_eq_true, if_false, List.mem_flatMap, List.mem_range]
      exact ⟨r, hr, ho⟩
    · rw [whL, mixed_test]
      have : decide (0 < (a :: ls).length) = true := by simp
      rw [this]
      simp only
      rw [e]
      exact e2
theorem p10 : P[10]? = some d10.fd := rfl
theorem p13 : P[13]? = some d13.fd := rfl
theorem mixed_ok (k : Nat) (h : W) (ls : List Int) (hh : Hand h) (hl : ls.length < 1000) : ∃ h' o, Hand h' ∧ o ∈ dr ls.length ls [] ∧ callN P 0 (k + 2) 10 [h, .d (.lst (ls.map D.int))] = .ok (.fl (o.map D.int)) [h'] := by
  obtain ⟨h', o, hh', ho, e⟩ := mixed_loop k (some (.d (.lst (ls.map D.int)))) ls.length h ls [] hh (Nat.le_refl _) (by simpa using hl) 1000000 (by omega)
  refine ⟨h', o, hh', ho, ?_⟩
  have e1 : runs 0 (callN P 0 (k + 1)) (b10.take 1) [some h, some (.d (.lst (ls.map D.int))), none, none] = .nx [some h, some (.d (.lst (ls.map D.int))), some (.fl (ls.map D.int)), some (.fl [])] := rfl
  have er : runs 0 (callN P 0 (k + 1)) b10 [some h, some (.d (.lst (ls.map D.int))), none, none] = .rt (.fl (o.map D.int)) [some h', some (.d (.lst (ls.map D.int))), some (.fl []), none] := by
    rw [runs_at e1]
    have eb : b10.drop 1 = [.whl 1000000 (.cmp .gt (.blt .len [.var 2]) (.con (.int 0))) [.expr (.mut .append 3 [.mut .popAt 2 [.call 9 [.io 0, .blt .len [.var 2]]]])], .ret (.var 3)] := rfl
    simp only [List.map_nil] at e
    rw [eb, runs_cons, run_whl, e]
    rfl
  obtain ⟨cs, i, v, s, c, rfl, _⟩ := hh
  obtain ⟨cs', i', v', s', c', rfl, _⟩ := hh'
  exact call_rtE (fd := d10.fd) p10 ⟨rfl, by decide, rfl⟩ rfl rfl er rfl
theorem rng_nat (n : Nat) (h : n < 1000) : rngD [.int n] = some ((List.range n).map fun (i : Nat) => D.int i) := by
  unfold rngD
  simp only
  rw [if_pos ⟨by omega, by omega⟩]
  rfl
theorem order_run (cl : Calls) (cs cs' o : List Int) (i v s c i' v' s' c' : Int) (n : Nat) (hn : n < 1000) (e : cl 10 [hnd cs i v s c, .d (.lst ((List.range n).map fun (i : Nat) => D.int i))] = .ok (.fl (o.map D.int)) [hnd cs' i' v' s' c']) :
    runs 0 cl b13 [some (hnd cs i v s c), some (.d (.int n))] = .rt (.d (.tup (o.map D.int))) [some (hnd cs' i' v' s' c'), some (.d (.int n))] := by
  have a1 : ev 0 cl (.lrg false [.var 1]) [some (hnd cs i v s c), some (.d (.int n))] = .ok (.fl ((List.range n).map fun (i : Nat) => D.int i)) [some (hnd cs i v s c), some (.d (.int n))] := by
    have : ev 0 cl (.lrg false [.var 1]) [some (hnd cs i v s c), some (.d (.int n))] = ofO ((rngD [.int n]).map fun ys => if false = true then W.d (.tup ys) else W.fl ys) [some (hnd cs i v s c), some (.d (.int n))] := rfl
    rw [this, rng_nat n hn]
    rfl
  have a2 : ev 0 cl (.call 10 [.io 0, .lrg false [.var 1]]) [some (hnd cs i v s c), some (.d (.int n))] = .ok (.fl (o.map D.int)) [some (hnd cs' i' v' s' c'), some (.d (.int n))] := by
    have h1 : evAs 0 cl [.io 0, .lrg false [.var 1]] [some (hnd cs i v s c), some (.d (.int n))] = .ok [.io 0, .d (.lst ((List.range n).map fun (i : Nat) => D.int i))] [some (hnd cs i v s c), some (.d (.int n))] := by
      show R.bind (R.bind (ev 0 cl (.lrg false [.var 1]) _) _) _ = _
      rw [a1]; rfl
    show R.bind (evAs 0 cl [.io 0, .lrg false [.var 1]] _) _ = _
    rw [h1, R.bind_ok]
    have h2 : agWs [some (hnd cs i v s c), some (.d (.int n))] [.io 0, .d (.lst ((List.range n).map fun (i : Nat) => D.int i))] = some [hnd cs i v s c, .d (.lst ((List.range n).map fun (i : Nat) => D.int i))] := rfl
    have h3 : (ioS [.io 0, .d (.lst ((List.range n).map fun (i : Nat) => D.int i))]).Nodup := by simp [ioS]
    rw [callS, if_pos h3]
    simp only [h2, e]
    rfl
  show Out.seq (Out.ofR (R.bind (R.bind (R.bind (ev 0 cl (.call 10 [.io 0, .lrg false [.var 1]]) _) _) _) _) _) _ = _
  rw [a2]
  rfl
theorem order_ok (k : Nat) (h : W) (n : Nat) (hh : Hand h) (hn : n < 1000) : ∃ h' o, Hand h' ∧ o ∈ dr n ((List.range n).map Int.ofNat) [] ∧ callN P 0 (k + 3) 13 [h, .d (.int n)] = .ok (.d (.tup (o.map D.int))) [h'] := by
  obtain ⟨h', o, hh', ho, e⟩ := mixed_ok k h ((List.range n).map Int.ofNat) hh (by simpa using hn)
  refine ⟨h', o, hh', ?_, ?_⟩
  · rw [List.length_map, List.length_range] at ho
    exact ho
  obtain ⟨cs, i, v, s, c, rfl, _⟩ := hh
  obtain ⟨cs', i', v', s', c', rfl, _⟩ := hh'
  have eL : ((List.range n).map Int.ofNat).map D.int = (List.range n).map fun (i : Nat) => D.int i := by rw [List.map_map]; rfl
  rw [eL] at e
  exact call_rtE (fd := d13.fd) p13 ⟨rfl, by decide, rfl⟩ rfl rfl (order_run _ cs cs' o i v s c i' v' s' c' n hn e) rfl
end Lw

namespace Lw
open Cl
/-! the rounds of the own search for the shortest row, five pieces -/
def wb : List Cl.St := [.set 5 (.lst []), .fr (.nm 6) (.var 4) [.fr (.nm 7) (.rng [.bin .sub (.var 0) (.con (.int 1))]) [.set 8 (.call 14 [.var 6, .var 7]), .ite (.cmp .notin (.var 8) (.var 3)) [.six 3 (.var 8) (.bin .add (.ix (.var 3) (.var 6)) (.tup [.var 7])), .expr (.mut .append 5 [.var 8])] []]], .set 4 (.var 5)]
def c5_0 (x : D) : Sg := [some (.d (.int 5)), some (.d x), some (.d (.tup [(.int 0), (.int 1), (.int 2), (.int 3), (.int 4)])), some (.ft [([.inl 0, .inl 1, .inl 2, .inl 3, .inl 4], (.tup []))]), some (.fl [(.tup [(.int 0), (.int 1), (.int 2), (.int 3), (.int 4)])]), none, none, none, none]
def c5_1 (x : D) : Sg := [some (.d (.int 5)), some (.d x), some (.d (.tup [(.int 0), (.int 1), (.int 2), (.int 3), (.int 4)])), some (.ft [([.inl 0, .inl 1, .inl 2, .inl 3, .inl 4], (.tup [])), ([.inl 1, .inl 0, .inl 2, .inl 3, .inl 4], (.tup [(.int 0)])), ([.inl 0, .inl 2, .inl 1, .inl 3, .inl 4], (.tup [(.int 1)])), ([.inl 0, .inl 1, .inl 3, .inl 2, .inl 4], (.tup [(.int 2)])), ([.inl 0, .inl 1, .inl 2, .inl 4, .inl 3], (.tup [(.int 3)]))]), some (.d (.lst [(.tup [(.int 1), (.int 0), (.int 2), (.int 3), (.int 4)]), (.tup [(.int 0), (.int 2), (.int 1), (.int 3), (.int 4)]), (.tup [(.int 0), (.int 1), (.int 3), (.int 2), (.int 4)]), (.tup [(.int 0), (.int 1), (.int 2), (.int 4), (.int 3)])])), some (.d (.lst [(.tup [(.int 1), (.int 0), (.int 2), (.int 3), (.int 4)]), (.tup [(.int 0), (.int 2), (.int 1), (.int 3), (.int 4)]), (.tup [(.int 0), (.int 1), (.int 3), (.int 2), (.int 4)]), (.tup [(.int 0), (.int 1), (.int 2), (.int 4), (.int 3)])])), some (.d (.tup [(.int 0), (.int 1), (.int 2), (.int 3), (.int 4)])), some (.d (.int 3)), some (.d (.tup [(.int 0), (.int 1), (.int 2), (.int 4), (.int 3)]))]
def c5_2 (x : D) : Sg := [some (.d (.int 5)), some (.d x), some (.d (.tup [(.int 0), (.int 1), (.int 2), (.int 3), (.int 4)])), some (.ft [([.inl 0, .inl 1, .inl 2, .inl 3, .inl 4], (.tup [])), ([.inl 1, .inl 0, .inl 2, .inl 3, .inl 4], (.tup [(.int 0)])), ([.inl 0, .inl 2, .inl 1, .inl 3, .inl 4], (.tup [(.int 1)])), ([.inl 0, .inl 1, .inl 3, .inl 2, .inl 4], (.tup [(.int 2)])), ([.inl 0, .inl 1, .inl 2, .inl 4, .inl 3], (.tup [(.int 3)])), ([.inl 1, .inl 2, .inl 0, .inl 3, .inl 4], (.tup [(.int 0), (.int 1)])), ([.inl 1, .inl 0, .inl 3, .inl 2, .inl 4], (.tup [(.int 0), (.int 2)])), ([.inl 1, .inl 0, .inl 2, .inl 4, .inl 3], (.tup [(.int 0), (.int 3)])), ([.inl 2, .inl 0, .inl 1, .inl 3, .inl 4], (.tup [(.int 1), (.int 0)])), ([.inl 0, .inl 2, .inl 3, .inl 1, .inl 4], (.tup [(.int 1), (.int 2)])), ([.inl 0, .inl 2, .inl 1, .inl 4, .inl 3], (.tup [(.int 1), (.int 3)])), ([.inl 0, .inl 3, .inl 1, .inl 2, .inl 4], (.tup [(.int 2), (.int 1)])), ([.inl 0, .inl 1, .inl 3, .inl 4, .inl 2], (.tup [(.int 2), (.int 3)])), ([.inl 0, .inl 1, .inl 4, .inl 2, .inl 3], (.tup [(.int 3), (.int 2)]))]), some (.d (.lst [(.tup [(.int 1), (.int 2), (.int 0), (.int 3), (.int 4)]), (.tup [(.int 1), (.int 0), (.int 3), (.int 2), (.int 4)]), (.tup [(.int 1), (.int 0), (.int 2), (.int 4), (.int 3)]), (.tup [(.int 2), (.int 0), (.int 1), (.int 3), (.int 4)]), (.tup [(.int 0), (.int 2), (.int 3), (.int 1), (.int 4)]), (.tup [(.int 0), (.int 2), (.int 1), (.int 4), (.int 3)]), (.tup [(.int 0), (.int 3), (.int 1), (.int 2), (.int 4)]), (.tup [(.int 0), (.int 1), (.int 3), (.int 4), (.int 2)]), (.tup [(.int 0), (.int 1), (.int 4), (.int 2), (.int 3)])])), some (.d (.lst [(.tup [(.int 1), (.int 2), (.int 0), (.int 3), (.int 4)]), (.tup [(.int 1), (.int 0), (.int 3), (.int 2), (.int 4)]), (.tup [(.int 1), (.int 0), (.int 2), (.int 4), (.int 3)]), (.tup [(.int 2), (.int 0), (.int 1), (.int 3), (.int 4)]), (.tup [(.int 0), (.int 2), (.int 3), (.int 1), (.int 4)]), (.tup [(.int 0), (.int 2), (.int 1), (.int 4), (.int 3)]), (.tup [(.int 0), (.int 3), (.int 1), (.int 2), (.int 4)]), (.tup [(.int 0), (.int 1), (.int 3), (.int 4), (.int 2)]), (.tup [(.int 0), (.int 1), (.int 4), (.int 2), (.int 3)])])), some (.d (.tup [(.int 0), (.int 1), (.int 2), (.int 4), (.int 3)])), some (.d (.int 3)), some (.d (.tup [(.int 0), (.int 1), (.int 2), (.int 3), (.int 4)]))]
def c5_3 (x : D) : Sg := [some (.d (.int 5)), some (.d x), some (.d (.tup [(.int 0), (.int 1), (.int 2), (.int 3), (.int 4)])), some (.ft [([.inl 0, .inl 1, .inl 2, .inl 3, .inl 4], (.tup [])), ([.inl 1, .inl 0, .inl 2, .inl 3, .inl 4], (.tup [(.int 0)])), ([.inl 0, .inl 2, .inl 1, .inl 3, .inl 4], (.tup [(.int 1)])), ([.inl 0, .inl 1, .inl 3, .inl 2, .inl 4], (.tup [(.int 2)])), ([.inl 0, .inl 1, .inl 2, .inl 4, .inl 3], (.tup [(.int 3)])), ([.inl 1, .inl 2, .inl 0, .inl 3, .inl 4], (.tup [(.int 0), (.int 1)])), ([.inl 1, .inl 0, .inl 3, .inl 2, .inl 4], (.tup [(.int 0), (.int 2)])), ([.inl 1, .inl 0, .inl 2, .inl 4, .inl 3], (.tup [(.int 0), (.int 3)])), ([.inl 2, .inl 0, .inl 1, .inl 3, .inl 4], (.tup [(.int 1), (.int 0)])), ([.inl 0, .inl 2, .inl 3, .inl 1, .inl 4], (.tup [(.int 1), (.int 2)])), ([.inl 0, .inl 2, .inl 1, .inl 4, .inl 3], (.tup [(.int 1), (.int 3)])), ([.inl 0, .inl 3, .inl 1, .inl 2, .inl 4], (.tup [(.int 2), (.int 1)])), ([.inl 0, .inl 1, .inl 3, .inl 4, .inl 2], (.tup [(.int 2), (.int 3)])), ([.inl 0, .inl 1, .inl 4, .inl 2, .inl 3], (.tup [(.int 3), (.int 2)])), ([.inl 2, .inl 1, .inl 0, .inl 3, .inl 4], (.tup [(.int 0), (.int 1), (.int 0)])), ([.inl 1, .inl 2, .inl 3, .inl 0, .inl 4], (.tup [(.int 0), (.int 1), (.int 2)])), ([.inl 1, .inl 2, .inl 0, .inl 4, .inl 3], (.tup [(.int 0), (.int 1), (.int 3)])), ([.inl 1, .inl 3, .inl 0, .inl 2, .inl 4], (.tup [(.int 0), (.int 2), (.int 1)])), ([.inl 1, .inl 0, .inl 3, .inl 4, .inl 2], (.tup [(.int 0), (.int 2), (.int 3)])), ([.inl 1, .inl 0, .inl 4, .inl 2, .inl 3], (.tup [(.int 0), (.int 3), (.int 2)])), ([.inl 2, .inl 0, .inl 3, .inl 1, .inl 4], (.tup [(.int 1), (.int 0), (.int 2)])), ([.inl 2, .inl 0, .inl 1, .inl 4, .inl 3], (.tup [(.int 1), (.int 0), (.int 3)])), ([.inl 0, .inl 3, .inl 2, .inl 1, .inl 4], (.tup [(.int 1), (.int 2), (.int 1)])), ([.inl 0, .inl 2, .inl 3, .inl 4, .inl 1], (.tup [(.int 1), (.int 2), (.int 3)])), ([.inl 0, .inl 2, .inl 4, .inl 1, .inl 3], (.tup [(.int 1), (.int 3), (.int 2)])), ([.inl 3, .inl 0, .inl 1, .inl 2, .inl 4], (.tup [(.int 2), (.int 1), (.int 0)])), ([.inl 0, .inl 3, .inl 1, .inl 4, .inl 2], (.tup [(.int 2), (.int 1), (.int 3)])), ([.inl 0, .inl 1, .inl 4, .inl 3, .inl 2], (.tup [(.int 2), (.int 3), (.int 2)])), ([.inl 0, .inl 4, .inl 1, .inl 2, .inl 3], (.tup [(.int 3), (.int 2), (.int 1)]))]), some (.d (.lst [(.tup [(.int 2), (.int 1), (.int 0), (.int 3), (.int 4)]), (.tup [(.int 1), (.int 2), (.int 3), (.int 0), (.int 4)]), (.tup [(.int 1), (.int 2), (.int 0), (.int 4), (.int 3)]), (.tup [(.int 1), (.int 3), (.int 0), (.int 2), (.int 4)]), (.tup [(.int 1), (.int 0), (.int 3), (.int 4), (.int 2)]), (.tup [(.int 1), (.int 0), (.int 4), (.int 2), (.int 3)]), (.tup [(.int 2), (.int 0), (.int 3), (.int 1), (.int 4)]), (.tup [(.int 2), (.int 0), (.int 1), (.int 4), (.int 3)]), (.tup [(.int 0), (.int 3), (.int 2), (.int 1), (.int 4)]), (.tup [(.int 0), (.int 2), (.int 3), (.int 4), (.int 1)]), (.tup [(.int 0), (.int 2), (.int 4), (.int 1), (.int 3)]), (.tup [(.int 3), (.int 0), (.int 1), (.int 2), (.int 4)]), (.tup [(.int 0), (.int 3), (.int 1), (.int 4), (.int 2)]), (.tup [(.int 0), (.int 1), (.int 4), (.int 3), (.int 2)]), (.tup [(.int 0), (.int 4), (.int 1), (.int 2), (.int 3)])])), some (.d (.lst [(.tup [(.int 2), (.int 1), (.int 0), (.int 3), (.int 4)]), (.tup [(.int 1), (.int 2), (.int 3), (.int 0), (.int 4)]), (.tup [(.int 1), (.int 2), (.int 0), (.int 4), (.int 3)]), (.tup [(.int 1), (.int 3), (.int 0), (.int 2), (.int 4)]), (.tup [(.int 1), (.int 0), (.int 3), (.int 4), (.int 2)]), (.tup [(.int 1), (.int 0), (.int 4), (.int 2), (.int 3)]), (.tup [(.int 2), (.int 0), (.int 3), (.int 1), (.int 4)]), (.tup [(.int 2), (.int 0), (.int 1), (.int 4), (.int 3)]), (.tup [(.int 0), (.int 3), (.int 2), (.int 1), (.int 4)]), (.tup [(.int 0), (.int 2), (.int 3), (.int 4), (.int 1)]), (.tup [(.int 0), (.int 2), (.int 4), (.int 1), (.int 3)]), (.tup [(.int 3), (.int 0), (.int 1), (.int 2), (.int 4)]), (.tup [(.int 0), (.int 3), (.int 1), (.int 4), (.int 2)]), (.tup [(.int 0), (.int 1), (.int 4), (.int 3), (.int 2)]), (.tup [(.int 0), (.int 4), (.int 1), (.int 2), (.int 3)])])), some (.d (.tup [(.int 0), (.int 1), (.int 4), (.int 2), (.int 3)])), some (.d (.int 3)), some (.d (.tup [(.int 0), (.int 1), (.int 4), (.int 3), (.int 2)]))]
def c5_4 (x : D) : Sg := [some (.d (.int 5)), some (.d x), some (.d (.tup [(.int 0), (.int 1), (.int 2), (.int 3), (.int 4)])), some (.ft [([.inl 0, .inl 1, .inl 2, .inl 3, .inl 4], (.tup [])), ([.inl 1, .inl 0, .inl 2, .inl 3, .inl 4], (.tup [(.int 0)])), ([.inl 0, .inl 2, .inl 1, .inl 3, .inl 4], (.tup [(.int 1)])), ([.inl 0, .inl 1, .inl 3, .inl 2, .inl 4], (.tup [(.int 2)])), ([.inl 0, .inl 1, .inl 2, .inl 4, .inl 3], (.tup [(.int 3)])), ([.inl 1, .inl 2, .inl 0, .inl 3, .inl 4], (.tup [(.int 0), (.int 1)])), ([.inl 1, .inl 0, .inl 3, .inl 2, .inl 4], (.tup [(.int 0), (.int 2)])), ([.inl 1, .inl 0, .inl 2, .inl 4, .inl 3], (.tup [(.int 0), (.int 3)])), ([.inl 2, .inl 0, .inl 1, .inl 3, .inl 4], (.tup [(.int 1), (.int 0)])), ([.inl 0, .inl 2, .inl 3, .inl 1, .inl 4], (.tup [(.int 1), (.int 2)])), ([.inl 0, .inl 2, .inl 1, .inl 4, .inl 3], (.tup [(.int 1), (.int 3)])), ([.inl 0, .inl 3, .inl 1, .inl 2, .inl 4], (.tup [(.int 2), (.int 1)])), ([.inl 0, .inl 1, .inl 3, .inl 4, .inl 2], (.tup [(.int 2), (.int 3)])), ([.inl 0, .inl 1, .inl 4, .inl 2, .inl 3], (.tup [(.int 3), (.int 2)])), ([.inl 2, .inl 1, .inl 0, .inl 3, .inl 4], (.tup [(.int 0), (.int 1), (.int 0)])), ([.inl 1, .inl 2, .inl 3, .inl 0, .inl 4], (.tup [(.int 0), (.int 1), (.int 2)])), ([.inl 1, .inl 2, .inl 0, .inl 4, .inl 3], (.tup [(.int 0), (.int 1), (.int 3)])), ([.inl 1, .inl 3, .inl 0, .inl 2, .inl 4], (.tup [(.int 0), (.int 2), (.int 1)])), ([.inl 1, .inl 0, .inl 3, .inl 4, .inl 2], (.tup [(.int 0), (.int 2), (.int 3)])), ([.inl 1, .inl 0, .inl 4, .inl 2, .inl 3], (.tup [(.int 0), (.int 3), (.int 2)])), ([.inl 2, .inl 0, .inl 3, .inl 1, .inl 4], (.tup [(.int 1), (.int 0), (.int 2)])), ([.inl 2, .inl 0, .inl 1, .inl 4, .inl 3], (.tup [(.int 1), (.int 0), (.int 3)])), ([.inl 0, .inl 3, .inl 2, .inl 1, .inl 4], (.tup [(.int 1), (.int 2), (.int 1)])), ([.inl 0, .inl 2, .inl 3, .inl 4, .inl 1], (.tup [(.int 1), (.int 2), (.int 3)])), ([.inl 0, .inl 2, .inl 4, .inl 1, .inl 3], (.tup [(.int 1), (.int 3), (.int 2)])), ([.inl 3, .inl 0, .inl 1, .inl 2, .inl 4], (.tup [(.int 2), (.int 1), (.int 0)])), ([.inl 0, .inl 3, .inl 1, .inl 4, .inl 2], (.tup [(.int 2), (.int 1), (.int 3)])), ([.inl 0, .inl 1, .inl 4, .inl 3, .inl 2], (.tup [(.int 2), (.int 3), (.int 2)])), ([.inl 0, .inl 4, .inl 1, .inl 2, .inl 3], (.tup [(.int 3), (.int 2), (.int 1)])), ([.inl 2, .inl 1, .inl 3, .inl 0, .inl 4], (.tup [(.int 0), (.int 1), (.int 0), (.int 2)])), ([.inl 2, .inl 1, .inl 0, .inl 4, .inl 3], (.tup [(.int 0), (.int 1), (.int 0), (.int 3)])), ([.inl 1, .inl 3, .inl 2, .inl 0, .inl 4], (.tup [(.int 0), (.int 1), (.int 2), (.int 1)])), ([.inl 1, .inl 2, .inl 3, .inl 4, .inl 0], (.tup [(.int 0), (.int 1), (.int 2), (.int 3)])), ([.inl 1, .inl 2, .inl 4, .inl 0, .inl 3], (.tup [(.int 0), (.int 1), (.int 3), (.int 2)])), ([.inl 3, .inl 1, .inl 0, .inl 2, .inl 4], (.tup [(.int 0), (.int 2), (.int 1), (.int 0)])), ([.inl 1, .inl 3, .inl 0, .inl 4, .inl 2], (.tup [(.int 0), (.int 2), (.int 1), (.int 3)])), ([.inl 1, .inl 0, .inl 4, .inl 3, .inl 2], (.tup [(.int 0), (.int 2), (.int 3), (.int 2)])), ([.inl 1, .inl 4, .inl 0, .inl 2, .inl 3], (.tup [(.int 0), (.int 3), (.int 2), (.int 1)])), ([.inl 2, .inl 3, .inl 0, .inl 1, .inl 4], (.tup [(.int 1), (.int 0), (.int 2), (.int 1)])), ([.inl 2, .inl 0, .inl 3, .inl 4, .inl 1], (.tup [(.int 1), (.int 0), (.int 2), (.int 3)])), ([.inl 2, .inl 0, .inl 4, .inl 1, .inl 3], (.tup [(.int 1), (.int 0), (.int 3), (.int 2)])), ([.inl 3, .inl 0, .inl 2, .inl 1, .inl 4], (.tup [(.int 1), (.int 2), (.int 1), (.int 0)])), ([.inl 0, .inl 3, .inl 2, .inl 4, .inl 1], (.tup [(.int 1), (.int 2), (.int 1), (.int 3)])), ([.inl 0, .inl 2, .inl 4, .inl 3, .inl 1], (.tup [(.int 1), (.int 2), (.int 3), (.int 2)])), ([.inl 0, .inl 4, .inl 2, .inl 1, .inl 3], (.tup [(.int 1), (.int 3), (.int 2), (.int 1)])), ([.inl 3, .inl 0, .inl 1, .inl 4, .inl 2], (.tup [(.int 2), (.int 1), (.int 0), (.int 3)])), ([.inl 0, .inl 3, .inl 4, .inl 1, .inl 2], (.tup [(.int 2), (.int 1), (.int 3), (.int 2)])), ([.inl 0, .inl 4, .inl 1, .inl 3, .inl 2], (.tup [(.int 2), (.int 3), (.int 2), (.int 1)])), ([.inl 4, .inl 0, .inl 1, .inl 2, .inl 3], (.tup [(.int 3), (.int 2), (.int 1), (.int 0)]))]), some (.d (.lst [(.tup [(.int 2), (.int 1), (.int 3), (.int 0), (.int 4)]), (.tup [(.int 2), (.int 1), (.int 0), (.int 4), (.int 3)]), (.tup [(.int 1), (.int 3), (.int 2), (.int 0), (.int 4)]), (.tup [(.int 1), (.int 2), (.int 3), (.int 4), (.int 0)]), (.tup [(.int 1), (.int 2), (.int 4), (.int 0), (.int 3)]), (.tup [(.int 3), (.int 1), (.int 0), (.int 2), (.int 4)]), (.tup [(.int 1), (.int 3), (.int 0), (.int 4), (.int 2)]), (.tup [(.int 1), (.int 0), (.int 4), (.int 3), (.int 2)]), (.tup [(.int 1), (.int 4), (.int 0), (.int 2), (.int 3)]), (.tup [(.int 2), (.int 3), (.int 0), (.int 1), (.int 4)]), (.tup [(.int 2), (.int 0), (.int 3), (.int 4), (.int 1)]), (.tup [(.int 2), (.int 0), (.int 4), (.int 1), (.int 3)]), (.tup [(.int 3), (.int 0), (.int 2), (.int 1), (.int 4)]), (.tup [(.int 0), (.int 3), (.int 2), (.int 4), (.int 1)]), (.tup [(.int 0), (.int 2), (.int 4), (.int 3), (.int 1)]), (.tup [(.int 0), (.int 4), (.int 2), (.int 1), (.int 3)]), (.tup [(.int 3), (.int 0), (.int 1), (.int 4), (.int 2)]), (.tup [(.int 0), (.int 3), (.int 4), (.int 1), (.int 2)]), (.tup [(.int 0), (.int 4), (.int 1), (.int 3), (.int 2)]), (.tup [(.int 4), (.int 0), (.int 1), (.int 2), (.int 3)])])), some (.d (.lst [(.tup [(.int 2), (.int 1), (.int 3), (.int 0), (.int 4)]), (.tup [(.int 2), (.int 1), (.int 0), (.int 4), (.int 3)]), (.tup [(.int 1), (.int 3), (.int 2), (.int 0), (.int 4)]), (.tup [(.int 1), (.int 2), (.int 3), (.int 4), (.int 0)]), (.tup [(.int 1), (.int 2), (.int 4), (.int 0), (.int 3)]), (.tup [(.int 3), (.int 1), (.int 0), (.int 2), (.int 4)]), (.tup [(.int 1), (.int 3), (.int 0), (.int 4), (.int 2)]), (.tup [(.int 1), (.int 0), (.int 4), (.int 3), (.int 2)]), (.tup [(.int 1), (.int 4), (.int 0), (.int 2), (.int 3)]), (.tup [(.int 2), (.int 3), (.int 0), (.int 1), (.int 4)]), (.tup [(.int 2), (.int 0), (.int 3), (.int 4), (.int 1)]), (.tup [(.int 2), (.int 0), (.int 4), (.int 1), (.int 3)]), (.tup [(.int 3), (.int 0), (.int 2), (.int 1), (.int 4)]), (.tup [(.int 0), (.int 3), (.int 2), (.int 4), (.int 1)]), (.tup [(.int 0), (.int 2), (.int 4), (.int 3), (.int 1)]), (.tup [(.int 0), (.int 4), (.int 2), (.int 1), (.int 3)]), (.tup [(.int 3), (.int 0), (.int 1), (.int 4), (.int 2)]), (.tup [(.int 0), (.int 3), (.int 4), (.int 1), (.int 2)]), (.tup [(.int 0), (.int 4), (.int 1), (.int 3), (.int 2)]), (.tup [(.int 4), (.int 0), (.int 1), (.int 2), (.int 3)])])), some (.d (.tup [(.int 0), (.int 4), (.int 1), (.int 2), (.int 3)])), some (.d (.int 3)), some (.d (.tup [(.int 0), (.int 4), (.int 1), (.int 3), (.int 2)]))]
def c5_5 (x : D) : Sg := [some (.d (.int 5)), some (.d x), some (.d (.tup [(.int 0), (.int 1), (.int 2), (.int 3), (.int 4)])), some (.ft [([.inl 0, .inl 1, .inl 2, .inl 3, .inl 4], (.tup [])), ([.inl 1, .inl 0, .inl 2, .inl 3, .inl 4], (.tup [(.int 0)])), ([.inl 0, .inl 2, .inl 1, .inl 3, .inl 4], (.tup [(.int 1)])), ([.inl 0, .inl 1, .inl 3, .inl 2, .inl 4], (.tup [(.int 2)])), ([.inl 0, .inl 1, .inl 2, .inl 4, .inl 3], (.tup [(.int 3)])), ([.inl 1, .inl 2, .inl 0, .inl 3, .inl 4], (.tup [(.int 0), (.int 1)])), ([.inl 1, .inl 0, .inl 3, .inl 2, .inl 4], (.tup [(.int 0), (.int 2)])), ([.inl 1, .inl 0, .inl 2, .inl 4, .inl 3], (.tup [(.int 0), (.int 3)])), ([.inl 2, .inl 0, .inl 1, .inl 3, .inl 4], (.tup [(.int 1), (.int 0)])), ([.inl 0, .inl 2, .inl 3, .inl 1, .inl 4], (.tup [(.int 1), (.int 2)])), ([.inl 0, .inl 2, .inl 1, .inl 4, .inl 3], (.tup [(.int 1), (.int 3)])), ([.inl 0, .inl 3, .inl 1, .inl 2, .inl 4], (.tup [(.int 2), (.int 1)])), ([.inl 0, .inl 1, .inl 3, .inl 4, .inl 2], (.tup [(.int 2), (.int 3)])), ([.inl 0, .inl 1, .inl 4, .inl 2, .inl 3], (.tup [(.int 3), (.int 2)])), ([.inl 2, .inl 1, .inl 0, .inl 3, .inl 4], (.tup [(.int 0), (.int 1), (.int 0)])), ([.inl 1, .inl 2, .inl 3, .inl 0, .inl 4], (.tup [(.int 0), (.int 1), (.int 2)])), ([.inl 1, .inl 2, .inl 0, .inl 4, .inl 3], (.tup [(.int 0), (.int 1), (.int 3)])), ([.inl 1, .inl 3, .inl 0, .inl 2, .inl 4], (.tup [(.int 0), (.int 2), (.int 1)])), ([.inl 1, .inl 0, .inl 3, .inl 4, .inl 2], (.tup [(.int 0), (.int 2), (.int 3)])), ([.inl 1, .inl 0, .inl 4, .inl 2, .inl 3], (.tup [(.int 0), (.int 3), (.int 2)])), ([.inl 2, .inl 0, .inl 3, .inl 1, .inl 4], (.tup [(.int 1), (.int 0), (.int 2)])), ([.inl 2, .inl 0, .inl 1, .inl 4, .inl 3], (.tup [(.int 1), (.int 0), (.int 3)])), ([.inl 0, .inl 3, .inl 2, .inl 1, .inl 4], (.tup [(.int 1), (.int 2), (.int 1)])), ([.inl 0, .inl 2, .inl 3, .inl 4, .inl 1], (.tup [(.int 1), (.int 2), (.int 3)])), ([.inl 0, .inl 2, .inl 4, .inl 1, .inl 3], (.tup [(.int 1), (.int 3), (.int 2)])), ([.inl 3, .inl 0, .inl 1, .inl 2, .inl 4], (.tup [(.int 2), (.int 1), (.int 0)])), ([.inl 0, .inl 3, .inl 1, .inl 4, .inl 2], (.tup [(.int 2), (.int 1), (.int 3)])), ([.inl 0, .inl 1, .inl 4, .inl 3, .inl 2], (.tup [(.int 2), (.int 3), (.int 2)])), ([.inl 0, .inl 4, .inl 1, .inl 2, .inl 3], (.tup [(.int 3), (.int 2), (.int 1)])), ([.inl 2, .inl 1, .inl 3, .inl 0, .inl 4], (.tup [(.int 0), (.int 1), (.int 0), (.int 2)])), ([.inl 2, .inl 1, .inl 0, .inl 4, .inl 3], (.tup [(.int 0), (.int 1), (.int 0), (.int 3)])), ([.inl 1, .inl 3, .inl 2, .inl 0, .inl 4], (.tup [(.int 0), (.int 1), (.int 2), (.int 1)])), ([.inl 1, .inl 2, .inl 3, .inl 4, .inl 0], (.tup [(.int 0), (.int 1), (.int 2), (.int 3)])), ([.inl 1, .inl 2, .inl 4, .inl 0, .inl 3], (.tup [(.int 0), (.int 1), (.int 3), (.int 2)])), ([.inl 3, .inl 1, .inl 0, .inl 2, .inl 4], (.tup [(.int 0), (.int 2), (.int 1), (.int 0)])), ([.inl 1, .inl 3, .inl 0, .inl 4, .inl 2], (.tup [(.int 0), (.int 2), (.int 1), (.int 3)])), ([.inl 1, .inl 0, .inl 4, .inl 3, .inl 2], (.tup [(.int 0), (.int 2), (.int 3), (.int 2)])), ([.inl 1, .inl 4, .inl 0, .inl 2, .inl 3], (.tup [(.int 0), (.int 3), (.int 2), (.int 1)])), ([.inl 2, .inl 3, .inl 0, .inl 1, .inl 4], (.tup [(.int 1), (.int 0), (.int 2), (.int 1)])), ([.inl 2, .inl 0, .inl 3, .inl 4, .inl 1], (.tup [(.int 1), (.int 0), (.int 2), (.int 3)])), ([.inl 2, .inl 0, .inl 4, .inl 1, .inl 3], (.tup [(.int 1), (.int 0), (.int 3), (.int 2)])), ([.inl 3, .inl 0, .inl 2, .inl 1, .inl 4], (.tup [(.int 1), (.int 2), (.int 1), (.int 0)])), ([.inl 0, .inl 3, .inl 2, .inl 4, .inl 1], (.tup [(.int 1), (.int 2), (.int 1), (.int 3)])), ([.inl 0, .inl 2, .inl 4, .inl 3, .inl 1], (.tup [(.int 1), (.int 2), (.int 3), (.int 2)])), ([.inl 0, .inl 4, .inl 2, .inl 1, .inl 3], (.tup [(.int 1), (.int 3), (.int 2), (.int 1)])), ([.inl 3, .inl 0, .inl 1, .inl 4, .inl 2], (.tup [(.int 2), (.int 1), (.int 0), (.int 3)])), ([.inl 0, .inl 3, .inl 4, .inl 1, .inl 2], (.tup [(.int 2), (.int 1), (.int 3), (.int 2)])), ([.inl 0, .inl 4, .inl 1, .inl 3, .inl 2], (.tup [(.int 2), (.int 3), (.int 2), (.int 1)])), ([.inl 4, .inl 0, .inl 1, .inl 2, .inl 3], (.tup [(.int 3), (.int 2), (.int 1), (.int 0)])), ([.inl 2, .inl 3, .inl 1, .inl 0, .inl 4], (.tup [(.int 0), (.int 1), (.int 0), (.int 2), (.int 1)])), ([.inl 2, .inl 1, .inl 3, .inl 4, .inl 0], (.tup [(.int 0), (.int 1), (.int 0), (.int 2), (.int 3)])), ([.inl 2, .inl 1, .inl 4, .inl 0, .inl 3], (.tup [(.int 0), (.int 1), (.int 0), (.int 3), (.int 2)])), ([.inl 3, .inl 1, .inl 2, .inl 0, .inl 4], (.tup [(.int 0), (.int 1), (.int 2), (.int 1), (.int 0)])), ([.inl 1, .inl 3, .inl 2, .inl 4, .inl 0], (.tup [(.int 0), (.int 1), (.int 2), (.int 1), (.int 3)])), ([.inl 1, .inl 2, .inl 4, .inl 3, .inl 0], (.tup [(.int 0), (.int 1), (.int 2), (.int 3), (.int 2)])), ([.inl 1, .inl 4, .inl 2, .inl 0, .inl 3], (.tup [(.int 0), (.int 1), (.int 3), (.int 2), (.int 1)])), ([.inl 3, .inl 1, .inl 0, .inl 4, .inl 2], (.tup [(.int 0), (.int 2), (.int 1), (.int 0), (.int 3)])), ([.inl 1, .inl 3, .inl 4, .inl 0, .inl 2], (.tup [(.int 0), (.int 2), (.int 1), (.int 3), (.int 2)])), ([.inl 1, .inl 4, .inl 0, .inl 3, .inl 2], (.tup [(.int 0), (.int 2), (.int 3), (.int 2), (.int 1)])), ([.inl 4, .inl 1, .inl 0, .inl 2, .inl 3], (.tup [(.int 0), (.int 3), (.int 2), (.int 1), (.int 0)])), ([.inl 3, .inl 2, .inl 0, .inl 1, .inl 4], (.tup [(.int 1), (.int 0), (.int 2), (.int 1), (.int 0)])), ([.inl 2, .inl 3, .inl 0, .inl 4, .inl 1], (.tup [(.int 1), (.int 0), (.int 2), (.int 1), (.int 3)])), ([.inl 2, .inl 0, .inl 4, .inl 3, .inl 1], (.tup [(.int 1), (.int 0), (.int 2), (.int 3), (.int 2)])), ([.inl 2, .inl 4, .inl 0, .inl 1, .inl 3], (.tup [(.int 1), (.int 0), (.int 3), (.int 2), (.int 1)])), ([.inl 3, .inl 0, .inl 2, .inl 4, .inl 1], (.tup [(.int 1), (.int 2), (.int 1), (.int 0), (.int 3)])), ([.inl 0, .inl 3, .inl 4, .inl 2, .inl 1], (.tup [(.int 1), (.int 2), (.int 1), (.int 3), (.int 2)])), ([.inl 0, .inl 4, .inl 2, .inl 3, .inl 1], (.tup [(.int 1), (.int 2), (.int 3), (.int 2), (.int 1)])), ([.inl 4, .inl 0, .inl 2, .inl 1, .inl 3], (.tup [(.int 1), (.int 3), (.int 2), (.int 1), (.int 0)])), ([.inl 3, .inl 0, .inl 4, .inl 1, .inl 2], (.tup [(.int 2), (.int 1), (.int 0), (.int 3), (.int 2)])), ([.inl 0, .inl 4, .inl 3, .inl 1, .inl 2], (.tup [(.int 2), (.int 1), (.int 3), (.int 2), (.int 1)])), ([.inl 4, .inl 0, .inl 1, .inl 3, .inl 2], (.tup [(.int 2), (.int 3), (.int 2), (.int 1), (.int 0)]))]), some (.d (.lst [(.tup [(.int 2), (.int 3), (.int 1), (.int 0), (.int 4)]), (.tup [(.int 2), (.int 1), (.int 3), (.int 4), (.int 0)]), (.tup [(.int 2), (.int 1), (.int 4), (.int 0), (.int 3)]), (.tup [(.int 3), (.int 1), (.int 2), (.int 0), (.int 4)]), (.tup [(.int 1), (.int 3), (.int 2), (.int 4), (.int 0)]), (.tup [(.int 1), (.int 2), (.int 4), (.int 3), (.int 0)]), (.tup [(.int 1), (.int 4), (.int 2), (.int 0), (.int 3)]), (.tup [(.int 3), (.int 1), (.int 0), (.int 4), (.int 2)]), (.tup [(.int 1), (.int 3), (.int 4), (.int 0), (.int 2)]), (.tup [(.int 1), (.int 4), (.int 0), (.int 3), (.int 2)]), (.tup [(.int 4), (.int 1), (.int 0), (.int 2), (.int 3)]), (.tup [(.int 3), (.int 2), (.int 0), (.int 1), (.int 4)]), (.tup [(.int 2), (.int 3), (.int 0), (.int 4), (.int 1)]), (.tup [(.int 2), (.int 0), (.int 4), (.int 3), (.int 1)]), (.tup [(.int 2), (.int 4), (.int 0), (.int 1), (.int 3)]), (.tup [(.int 3), (.int 0), (.int 2), (.int 4), (.int 1)]), (.tup [(.int 0), (.int 3), (.int 4), (.int 2), (.int 1)]), (.tup [(.int 0), (.int 4), (.int 2), (.int 3), (.int 1)]), (.tup [(.int 4), (.int 0), (.int 2), (.int 1), (.int 3)]), (.tup [(.int 3), (.int 0), (.int 4), (.int 1), (.int 2)]), (.tup [(.int 0), (.int 4), (.int 3), (.int 1), (.int 2)]), (.tup [(.int 4), (.int 0), (.int 1), (.int 3), (.int 2)])])), some (.d (.lst [(.tup [(.int 2), (.int 3), (.int 1), (.int 0), (.int 4)]), (.tup [(.int 2), (.int 1), (.int 3), (.int 4), (.int 0)]), (.tup [(.int 2), (.int 1), (.int 4), (.int 0), (.int 3)]), (.tup [(.int 3), (.int 1), (.int 2), (.int 0), (.int 4)]), (.tup [(.int 1), (.int 3), (.int 2), (.int 4), (.int 0)]), (.tup [(.int 1), (.int 2), (.int 4), (.int 3), (.int 0)]), (.tup [(.int 1), (.int 4), (.int 2), (.int 0), (.int 3)]), (.tup [(.int 3), (.int 1), (.int 0), (.int 4), (.int 2)]), (.tup [(.int 1), (.int 3), (.int 4), (.int 0), (.int 2)]), (.tup [(.int 1), (.int 4), (.int 0), (.int 3), (.int 2)]), (.tup [(.int 4), (.int 1), (.int 0), (.int 2), (.int 3)]), (.tup [(.int 3), (.int 2), (.int 0), (.int 1), (.int 4)]), (.tup [(.int 2), (.int 3), (.int 0), (.int 4), (.int 1)]), (.tup [(.int 2), (.int 0), (.int 4), (.int 3), (.int 1)]), (.tup [(.int 2), (.int 4), (.int 0), (.int 1), (.int 3)]), (.tup [(.int 3), (.int 0), (.int 2), (.int 4), (.int 1)]), (.tup [(.int 0), (.int 3), (.int 4), (.int 2), (.int 1)]), (.tup [(.int 0), (.int 4), (.int 2), (.int 3), (.int 1)]), (.tup [(.int 4), (.int 0), (.int 2), (.int 1), (.int 3)]), (.tup [(.int 3), (.int 0), (.int 4), (.int 1), (.int 2)]), (.tup [(.int 0), (.int 4), (.int 3), (.int 1), (.int 2)]), (.tup [(.int 4), (.int 0), (.int 1), (.int 3), (.int 2)])])), some (.d (.tup [(.int 4), (.int 0), (.int 1), (.int 2), (.int 3)])), some (.d (.int 3)), some (.d (.tup [(.int 4), (.int 0), (.int 1), (.int 3), (.int 2)]))]
def c5_6 (x : D) : Sg := [some (.d (.int 5)), some (.d x), some (.d (.tup [(.int 0), (.int 1), (.int 2), (.int 3), (.int 4)])), some (.ft [([.inl 0, .inl 1, .inl 2, .inl 3, .inl 4], (.tup [])), ([.inl 1, .inl 0, .inl 2, .inl 3, .inl 4], (.tup [(.int 0)])), ([.inl 0, .inl 2, .inl 1, .inl 3, .inl 4], (.tup [(.int 1)])), ([.inl 0, .inl 1, .inl 3, .inl 2, .inl 4], (.tup [(.int 2)])), ([.inl 0, .inl 1, .inl 2, .inl 4, .inl 3], (.tup [(.int 3)])), ([.inl 1, .inl 2, .inl 0, .inl 3, .inl 4], (.tup [(.int 0), (.int 1)])), ([.inl 1, .inl 0, .inl 3, .inl 2, .inl 4], (.tup [(.int 0), (.int 2)])), ([.inl 1, .inl 0, .inl 2, .inl 4, .inl 3], (.tup [(.int 0), (.int 3)])), ([.inl 2, .inl 0, .inl 1, .inl 3, .inl 4], (.tup [(.int 1), (.int 0)])), ([.inl 0, .inl 2, .inl 3, .inl 1, .inl 4], (.tup [(.int 1), (.int 2)])), ([.inl 0, .inl 2, .inl 1, .inl 4, .inl 3], (.tup [(.int 1), (.int 3)])), ([.inl 0, .inl 3, .inl 1, .inl 2, .inl 4], (.tup [(.int 2), (.int 1)])), ([.inl 0, .inl 1, .inl 3, .inl 4, .inl 2], (.tup [(.int 2), (.int 3)])), ([.inl 0, .inl 1, .inl 4, .inl 2, .inl 3], (.tup [(.int 3), (.int 2)])), ([.inl 2, .inl 1, .inl 0, .inl 3, .inl 4], (.tup [(.int 0), (.int 1), (.int 0)])), ([.inl 1, .inl 2, .inl 3, .inl 0, .inl 4], (.tup [(.int 0), (.int 1), (.int 2)])), ([.inl 1, .inl 2, .inl 0, .inl 4, .inl 3], (.tup [(.int 0), (.int 1), (.int 3)])), ([.inl 1, .inl 3, .inl 0, .inl 2, .inl 4], (.tup [(.int 0), (.int 2), (.int 1)])), ([.inl 1, .inl 0, .inl 3, .inl 4, .inl 2], (.tup [(.int 0), (.int 2), (.int 3)])), ([.inl 1, .inl 0, .inl 4, .inl 2, .inl 3], (.tup [(.int 0), (.int 3), (.int 2)])), ([.inl 2, .inl 0, .inl 3, .inl 1, .inl 4], (.tup [(.int 1), (.int 0), (.int 2)])), ([.inl 2, .inl 0, .inl 1, .inl 4, .inl 3], (.tup [(.int 1), (.int 0), (.int 3)])), ([.inl 0, .inl 3, .inl 2, .inl 1, .inl 4], (.tup [(.int 1), (.int 2), (.int 1)])), ([.inl 0, .inl 2, .inl 3, .inl 4, .inl 1], (.tup [(.int 1), (.int 2), (.int 3)])), ([.inl 0, .inl 2, .inl 4, .inl 1, .inl 3], (.tup [(.int 1), (.int 3), (.int 2)])), ([.inl 3, .inl 0, .inl 1, .inl 2, .inl 4], (.tup [(.int 2), (.int 1), (.int 0)])), ([.inl 0, .inl 3, .inl 1, .inl 4, .inl 2], (.tup [(.int 2), (.int 1), (.int 3)])), ([.inl 0, .inl 1, .inl 4, .inl 3, .inl 2], (.tup [(.int 2), (.int 3), (.int 2)])), ([.inl 0, .inl 4, .inl 1, .inl 2, .inl 3], (.tup [(.int 3), (.int 2), (.int 1)])), ([.inl 2, .inl 1, .inl 3, .inl 0, .inl 4], (.tup [(.int 0), (.int 1), (.int 0), (.int 2)])), ([.inl 2, .inl 1, .inl 0, .inl 4, .inl 3], (.tup [(.int 0), (.int 1), (.int 0), (.int 3)])), ([.inl 1, .inl 3, .inl 2, .inl 0, .inl 4], (.tup [(.int 0), (.int 1), (.int 2), (.int 1)])), ([.inl 1, .inl 2, .inl 3, .inl 4, .inl 0], (.tup [(.int 0), (.int 1), (.int 2), (.int 3)])), ([.inl 1, .inl 2, .inl 4, .inl 0, .inl 3], (.tup [(.int 0), (.int 1), (.int 3), (.int 2)])), ([.inl 3, .inl 1, .inl 0, .inl 2, .inl 4], (.tup [(.int 0), (.int 2), (.int 1), (.int 0)])), ([.inl 1, .inl 3, .inl 0, .inl 4, .inl 2], (.tup [(.int 0), (.int 2), (.int 1), (.int 3)])), ([.inl 1, .inl 0, .inl 4, .inl 3, .inl 2], (.tup [(.int 0), (.int 2), (.int 3), (.int 2)])), ([.inl 1, .inl 4, .inl 0, .inl 2, .inl 3], (.tup [(.int 0), (.int 3), (.int 2), (.int 1)])), ([.inl 2, .inl 3, .inl 0, .inl 1, .inl 4], (.tup [(.int 1), (.int 0), (.int 2), (.int 1)])), ([.inl 2, .inl 0, .inl 3, .inl 4, .inl 1], (.tup [(.int 1), (.int 0), (.int 2), (.int 3)])), ([.inl 2, .inl 0, .inl 4, .inl 1, .inl 3], (.tup [(.int 1), (.int 0), (.int 3), (.int 2)])), ([.inl 3, .inl 0, .inl 2, .inl 1, .inl 4], (.tup [(.int 1), (.int 2), (.int 1), (.int 0)])), ([.inl 0, .inl 3, .inl 2, .inl 4, .inl 1], (.tup [(.int 1), (.int 2), (.int 1), (.int 3)])), ([.inl 0, .inl 2, .inl 4, .inl 3, .inl 1], (.tup [(.int 1), (.int 2), (.int 3), (.int 2)])), ([.inl 0, .inl 4, .inl 2, .inl 1, .inl 3], (.tup [(.int 1), (.int 3), (.int 2), (.int 1)])), ([.inl 3, .inl 0, .inl 1, .inl 4, .inl 2], (.tup [(.int 2), (.int 1), (.int 0), (.int 3)])), ([.inl 0, .inl 3, .inl 4, .inl 1, .inl 2], (.tup [(.int 2), (.int 1), (.int 3), (.int 2)])), ([.inl 0, .inl 4, .inl 1, .inl 3, .inl 2], (.tup [(.int 2), (.int 3), (.int 2), (.int 1)])), ([.inl 4, .inl 0, .inl 1, .inl 2, .inl 3], (.tup [(.int 3), (.int 2), (.int 1), (.int 0)])), ([.inl 2, .inl 3, .inl 1, .inl 0, .inl 4], (.tup [(.int 0), (.int 1), (.int 0), (.int 2), (.int 1)])), ([.inl 2, .inl 1, .inl 3, .inl 4, .inl 0], (.tup [(.int 0), (.int 1), (.int 0), (.int 2), (.int 3)])), ([.inl 2, .inl 1, .inl 4, .inl 0, .inl 3], (.tup [(.int 0), (.int 1), (.int 0), (.int 3), (.int 2)])), ([.inl 3, .inl 1, .inl 2, .inl 0, .inl 4], (.tup [(.int 0), (.int 1), (.int 2), (.int 1), (.int 0)])), ([.inl 1, .inl 3, .inl 2, .inl 4, .inl 0], (.tup [(.int 0), (.int 1), (.int 2), (.int 1), (.int 3)])), ([.inl 1, .inl 2, .inl 4, .inl 3, .inl 0], (.tup [(.int 0), (.int 1), (.int 2), (.int 3), (.int 2)])), ([.inl 1, .inl 4, .inl 2, .inl 0, .inl 3], (.tup [(.int 0), (.int 1), (.int 3), (.int 2), (.int 1)])), ([.inl 3, .inl 1, .inl 0, .inl 4, .inl 2], (.tup [(.int 0), (.int 2), (.int 1), (.int 0), (.int 3)])), ([.inl 1, .inl 3, .inl 4, .inl 0, .inl 2], (.tup [(.int 0), (.int 2), (.int 1), (.int 3), (.int 2)])), ([.inl 1, .inl 4, .inl 0, .inl 3, .inl 2], (.tup [(.int 0), (.int 2), (.int 3), (.int 2), (.int 1)])), ([.inl 4, .inl 1, .inl 0, .inl 2, .inl 3], (.tup [(.int 0), (.int 3), (.int 2), (.int 1), (.int 0)])), ([.inl 3, .inl 2, .inl 0, .inl 1, .inl 4], (.tup [(.int 1), (.int 0), (.int 2), (.int 1), (.int 0)])), ([.inl 2, .inl 3, .inl 0, .inl 4, .inl 1], (.tup [(.int 1), (.int 0), (.int 2), (.int 1), (.int 3)])), ([.inl 2, .inl 0, .inl 4, .inl 3, .inl 1], (.tup [(.int 1), (.int 0), (.int 2), (.int 3), (.int 2)])), ([.inl 2, .inl 4, .inl 0, .inl 1, .inl 3], (.tup [(.int 1), (.int 0), (.int 3), (.int 2), (.int 1)])), ([.inl 3, .inl 0, .inl 2, .inl 4, .inl 1], (.tup [(.int 1), (.int 2), (.int 1), (.int 0), (.int 3)])), ([.inl 0, .inl 3, .inl 4, .inl 2, .inl 1], (.tup [(.int 1), (.int 2), (.int 1), (.int 3), (.int 2)])), ([.inl 0, .inl 4, .inl 2, .inl 3, .inl 1], (.tup [(.int 1), (.int 2), (.int 3), (.int 2), (.int 1)])), ([.inl 4, .inl 0, .inl 2, .inl 1, .inl 3], (.tup [(.int 1), (.int 3), (.int 2), (.int 1), (.int 0)])), ([.inl 3, .inl 0, .inl 4, .inl 1, .inl 2], (.tup [(.int 2), (.int 1), (.int 0), (.int 3), (.int 2)])), ([.inl 0, .inl 4, .inl 3, .inl 1, .inl 2], (.tup [(.int 2), (.int 1), (.int 3), (.int 2), (.int 1)])), ([.inl 4, .inl 0, .inl 1, .inl 3, .inl 2], (.tup [(.int 2), (.int 3), (.int 2), (.int 1), (.int 0)])), ([.inl 3, .inl 2, .inl 1, .inl 0, .inl 4], (.tup [(.int 0), (.int 1), (.int 0), (.int 2), (.int 1), (.int 0)])), ([.inl 2, .inl 3, .inl 1, .inl 4, .inl 0], (.tup [(.int 0), (.int 1), (.int 0), (.int 2), (.int 1), (.int 3)])), ([.inl 2, .inl 1, .inl 4, .inl 3, .inl 0], (.tup [(.int 0), (.int 1), (.int 0), (.int 2), (.int 3), (.int 2)])), ([.inl 2, .inl 4, .inl 1, .inl 0, .inl 3], (.tup [(.int 0), (.int 1), (.int 0), (.int 3), (.int 2), (.int 1)])), ([.inl 3, .inl 1, .inl 2, .inl 4, .inl 0], (.tup [(.int 0), (.int 1), (.int 2), (.int 1), (.int 0), (.int 3)])), ([.inl 1, .inl 3, .inl 4, .inl 2, .inl 0], (.tup [(.int 0), (.int 1), (.int 2), (.int 1), (.int 3), (.int 2)])), ([.inl 1, .inl 4, .inl 2, .inl 3, .inl 0], (.tup [(.int 0), (.int 1), (.int 2), (.int 3), (.int 2), (.int 1)])), ([.inl 4, .inl 1, .inl 2, .inl 0, .inl 3], (.tup [(.int 0), (.int 1), (.int 3), (.int 2), (.int 1), (.int 0)])), ([.inl 3, .inl 1, .inl 4, .inl 0, .inl 2], (.tup [(.int 0), (.int 2), (.int 1), (.int 0), (.int 3), (.int 2)])), ([.inl 1, .inl 4, .inl 3, .inl 0, .inl 2], (.tup [(.int 0), (.int 2), (.int 1), (.int 3), (.int 2), (.int 1)])), ([.inl 4, .inl 1, .inl 0, .inl 3, .inl 2], (.tup [(.int 0), (.int 2), (.int 3), (.int 2), (.int 1), (.int 0)])), ([.inl 3, .inl 2, .inl 0, .inl 4, .inl 1], (.tup [(.int 1), (.int 0), (.int 2), (.int 1), (.int 0), (.int 3)])), ([.inl 2, .inl 3, .inl 4, .inl 0, .inl 1], (.tup [(.int 1), (.int 0), (.int 2), (.int 1), (.int 3), (.int 2)])), ([.inl 2, .inl 4, .inl 0, .inl 3, .inl 1], (.tup [(.int 1), (.int 0), (.int 2), (.int 3), (.int 2), (.int 1)])), ([.inl 4, .inl 2, .inl 0, .inl 1, .inl 3], (.tup [(.int 1), (.int 0), (.int 3), (.int 2), (.int 1), (.int 0)])), ([.inl 3, .inl 0, .inl 4, .inl 2, .inl 1], (.tup [(.int 1), (.int 2), (.int 1), (.int 0), (.int 3), (.int 2)])), ([.inl 0, .inl 4, .inl 3, .inl 2, .inl 1], (.tup [(.int 1), (.int 2), (.int 1), (.int 3), (.int 2), (.int 1)])), ([.inl 4, .inl 0, .inl 2, .inl 3, .inl 1], (.tup [(.int 1), (.int 2), (.int 3), (.int 2), (.int 1), (.int 0)])), ([.inl 3, .inl 4, .inl 0, .inl 1, .inl 2], (.tup [(.int 2), (.int 1), (.int 0), (.int 3), (.int 2), (.int 1)])), ([.inl 4, .inl 0, .inl 3, .inl 1, .inl 2], (.tup [(.int 2), (.int 1), (.int 3), (.int 2), (.int 1), (.int 0)]))]), some (.d (.lst [(.tup [(.int 3), (.int 2), (.int 1), (.int 0), (.int 4)]), (.tup [(.int 2), (.int 3), (.int 1), (.int 4), (.int 0)]), (.tup [(.int 2), (.int 1), (.int 4), (.int 3), (.int 0)]), (.tup [(.int 2), (.int 4), (.int 1), (.int 0), (.int 3)]), (.tup [(.int 3), (.int 1), (.int 2), (.int 4), (.int 0)]), (.tup [(.int 1), (.int 3), (.int 4), (.int 2), (.int 0)]), (.tup [(.int 1), (.int 4), (.int 2), (.int 3), (.int 0)]), (.tup [(.int 4), (.int 1), (.int 2), (.int 0), (.int 3)]), (.tup [(.int 3), (.int 1), (.int 4), (.int 0), (.int 2)]), (.tup [(.int 1), (.int 4), (.int 3), (.int 0), (.int 2)]), (.tup [(.int 4), (.int 1), (.int 0), (.int 3), (.int 2)]), (.tup [(.int 3), (.int 2), (.int 0), (.int 4), (.int 1)]), (.tup [(.int 2), (.int 3), (.int 4), (.int 0), (.int 1)]), (.tup [(.int 2), (.int 4), (.int 0), (.int 3), (.int 1)]), (.tup [(.int 4), (.int 2), (.int 0), (.int 1), (.int 3)]), (.tup [(.int 3), (.int 0), (.int 4), (.int 2), (.int 1)]), (.tup [(.int 0), (.int 4), (.int 3), (.int 2), (.int 1)]), (.tup [(.int 4), (.int 0), (.int 2), (.int 3), (.int 1)]), (.tup [(.int 3), (.int 4), (.int 0), (.int 1), (.int 2)]), (.tup [(.int 4), (.int 0), (.int 3), (.int 1), (.int 2)])])), some (.d (.lst [(.tup [(.int 3), (.int 2), (.int 1), (.int 0), (.int 4)]), (.tup [(.int 2), (.int 3), (.int 1), (.int 4), (.int 0)]), (.tup [(.int 2), (.int 1), (.int 4), (.int 3), (.int 0)]), (.tup [(.int 2), (.int 4), (.int 1), (.int 0), (.int 3)]), (.tup [(.int 3), (.int 1), (.int 2), (.int 4), (.int 0)]), (.tup [(.int 1), (.int 3), (.int 4), (.int 2), (.int 0)]), (.tup [(.int 1), (.int 4), (.int 2), (.int 3), (.int 0)]), (.tup [(.int 4), (.int 1), (.int 2), (.int 0), (.int 3)]), (.tup [(.int 3), (.int 1), (.int 4), (.int 0), (.int 2)]), (.tup [(.int 1), (.int 4), (.int 3), (.int 0), (.int 2)]), (.tup [(.int 4), (.int 1), (.int 0), (.int 3), (.int 2)]), (.tup [(.int 3), (.int 2), (.int 0), (.int 4), (.int 1)]), (.tup [(.int 2), (.int 3), (.int 4), (.int 0), (.int 1)]), (.tup [(.int 2), (.int 4), (.int 0), (.int 3), (.int 1)]), (.tup [(.int 4), (.int 2), (.int 0), (.int 1), (.int 3)]), (.tup [(.int 3), (.int 0), (.int 4), (.int 2), (.int 1)]), (.tup [(.int 0), (.int 4), (.int 3), (.int 2), (.int 1)]), (.tup [(.int 4), (.int 0), (.int 2), (.int 3), (.int 1)]), (.tup [(.int 3), (.int 4), (.int 0), (.int 1), (.int 2)]), (.tup [(.int 4), (.int 0), (.int 3), (.int 1), (.int 2)])])), some (.d (.tup [(.int 4), (.int 0), (.int 1), (.int 3), (.int 2)])), some (.d (.int 3)), some (.d (.tup [(.int 4), (.int 0), (.int 1), (.int 2), (.int 3)]))]
def c5_7 (x : D) : Sg := [some (.d (.int 5)), some (.d x), some (.d (.tup [(.int 0), (.int 1), (.int 2), (.int 3), (.int 4)])), some (.ft [([.inl 0, .inl 1, .inl 2, .inl 3, .inl 4], (.tup [])), ([.inl 1, .inl 0, .inl 2, .inl 3, .inl 4], (.tup [(.int 0)])), ([.inl 0, .inl 2, .inl 1, .inl 3, .inl 4], (.tup [(.int 1)])), ([.inl 0, .inl 1, .inl 3, .inl 2, .inl 4], (.tup [(.int 2)])), ([.inl 0, .inl 1, .inl 2, .inl 4, .inl 3], (.tup [(.int 3)])), ([.inl 1, .inl 2, .inl 0, .inl 3, .inl 4], (.tup [(.int 0), (.int 1)])), ([.inl 1, .inl 0, .inl 3, .inl 2, .inl 4], (.tup [(.int 0), (.int 2)])), ([.inl 1, .inl 0, .inl 2, .inl 4, .inl 3], (.tup [(.int 0), (.int 3)])), ([.inl 2, .inl 0, .inl 1, .inl 3, .inl 4], (.tup [(.int 1), (.int 0)])), ([.inl 0, .inl 2, .inl 3, .inl 1, .inl 4], (.tup [(.int 1), (.int 2)])), ([.inl 0, .inl 2, .inl 1, .inl 4, .inl 3], (.tup [(.int 1), (.int 3)])), ([.inl 0, .inl 3, .inl 1, .inl 2, .inl 4], (.tup [(.int 2), (.int 1)])), ([.inl 0, .inl 1, .inl 3, .inl 4, .inl 2], (.tup [(.int 2), (.int 3)])), ([.inl 0, .inl 1, .inl 4, .inl 2, .inl 3], (.tup [(.int 3), (.int 2)])), ([.inl 2, .inl 1, .inl 0, .inl 3, .inl 4], (.tup [(.int 0), (.int 1), (.int 0)])), ([.inl 1, .inl 2, .inl 3, .inl 0, .inl 4], (.tup [(.int 0), (.int 1), (.int 2)])), ([.inl 1, .inl 2, .inl 0, .inl 4, .inl 3], (.tup [(.int 0), (.int 1), (.int 3)])), ([.inl 1, .inl 3, .inl 0, .inl 2, .inl 4], (.tup [(.int 0), (.int 2), (.int 1)])), ([.inl 1, .inl 0, .inl 3, .inl 4, .inl 2], (.tup [(.int 0), (.int 2), (.int 3)])), ([.inl 1, .inl 0, .inl 4, .inl 2, .inl 3], (.tup [(.int 0), (.int 3), (.int 2)])), ([.inl 2, .inl 0, .inl 3, .inl 1, .inl 4], (.tup [(.int 1), (.int 0), (.int 2)])), ([.inl 2, .inl 0, .inl 1, .inl 4, .inl 3], (.tup [(.int 1), (.int 0), (.int 3)])), ([.inl 0, .inl 3, .inl 2, .inl 1, .inl 4], (.tup [(.int 1), (.int 2), (.int 1)])), ([.inl 0, .inl 2, .inl 3, .inl 4, .inl 1], (.tup [(.int 1), (.int 2), (.int 3)])), ([.inl 0, .inl 2, .inl 4, .inl 1, .inl 3], (.tup [(.int 1), (.int 3), (.int 2)])), ([.inl 3, .inl 0, .inl 1, .inl 2, .inl 4], (.tup [(.int 2), (.int 1), (.int 0)])), ([.inl 0, .inl 3, .inl 1, .inl 4, .inl 2], (.tup [(.int 2), (.int 1), (.int 3)])), ([.inl 0, .inl 1, .inl 4, .inl 3, .inl 2], (.tup [(.int 2), (.int 3), (.int 2)])), ([.inl 0, .inl 4, .inl 1, .inl 2, .inl 3], (.tup [(.int 3), (.int 2), (.int 1)])), ([.inl 2, .inl 1, .inl 3, .inl 0, .inl 4], (.tup [(.int 0), (.int 1), (.int 0), (.int 2)])), ([.inl 2, .inl 1, .inl 0, .inl 4, .inl 3], (.tup [(.int 0), (.int 1), (.int 0), (.int 3)])), ([.inl 1, .inl 3, .inl 2, .inl 0, .inl 4], (.tup [(.int 0), (.int 1), (.int 2), (.int 1)])), ([.inl 1, .inl 2, .inl 3, .inl 4, .inl 0], (.tup [(.int 0), (.int 1), (.int 2), (.int 3)])), ([.inl 1, .inl 2, .inl 4, .inl 0, .inl 3], (.tup [(.int 0), (.int 1), (.int 3), (.int 2)])), ([.inl 3, .inl 1, .inl 0, .inl 2, .inl 4], (.tup [(.int 0), (.int 2), (.int 1), (.int 0)])), ([.inl 1, .inl 3, .inl 0, .inl 4, .inl 2], (.tup [(.int 0), (.int 2), (.int 1), (.int 3)])), ([.inl 1, .inl 0, .inl 4, .inl 3, .inl 2], (.tup [(.int 0), (.int 2), (.int 3), (.int 2)])), ([.inl 1, .inl 4, .inl 0, .inl 2, .inl 3], (.tup [(.int 0), (.int 3), (.int 2), (.int 1)])), ([.inl 2, .inl 3, .inl 0, .inl 1, .inl 4], (.tup [(.int 1), (.int 0), (.int 2), (.int 1)])), ([.inl 2, .inl 0, .inl 3, .inl 4, .inl 1], (.tup [(.int 1), (.int 0), (.int 2), (.int 3)])), ([.inl 2, .inl 0, .inl 4, .inl 1, .inl 3], (.tup [(.int 1), (.int 0), (.int 3), (.int 2)])), ([.inl 3, .inl 0, .inl 2, .inl 1, .inl 4], (.tup [(.int 1), (.int 2), (.int 1), (.int 0)])), ([.inl 0, .inl 3, .inl 2, .inl 4, .inl 1], (.tup [(.int 1), (.int 2), (.int 1), (.int 3)])), ([.inl 0, .inl 2, .inl 4, .inl 3, .inl 1], (.tup [(.int 1), (.int 2), (.int 3), (.int 2)])), ([.inl 0, .inl 4, .inl 2, .inl 1, .inl 3], (.tup [(.int 1), (.int 3), (.int 2), (.int 1)])), ([.inl 3, .inl 0, .inl 1, .inl 4, .inl 2], (.tup [(.int 2), (.int 1), (.int 0), (.int 3)])), ([.inl 0, .inl 3, .inl 4, .inl 1, .inl 2], (.tup [(.int 2), (.int 1), (.int 3), (.int 2)])), ([.inl 0, .inl 4, .inl 1, .inl 3, .inl 2], (.tup [(.int 2), (.int 3), (.int 2), (.int 1)])), ([.inl 4, .inl 0, .inl 1, .inl 2, .inl 3], (.tup [(.int 3), (.int 2), (.int 1), (.int 0)])), ([.inl 2, .inl 3, .inl 1, .inl 0, .inl 4], (.tup [(.int 0), (.int 1), (.int 0), (.int 2), (.int 1)])), ([.inl 2, .inl 1, .inl 3, .inl 4, .inl 0], (.tup [(.int 0), (.int 1), (.int 0), (.int 2), (.int 3)])), ([.inl 2, .inl 1, .inl 4, .inl 0, .inl 3], (.tup [(.int 0), (.int 1), (.int 0), (.int 3), (.int 2)])), ([.inl 3, .inl 1, .inl 2, .inl 0, .inl 4], (.tup [(.int 0), (.int 1), (.int 2), (.int 1), (.int 0)])), ([.inl 1, .inl 3, .inl 2, .inl 4, .inl 0], (.tup [(.int 0), (.int 1), (.int 2), (.int 1), (.int 3)])), ([.inl 1, .inl 2, .inl 4, .inl 3, .inl 0], (.tup [(.int 0), (.int 1), (.int 2), (.int 3), (.int 2)])), ([.inl 1, .inl 4, .inl 2, .inl 0, .inl 3], (.tup [(.int 0), (.int 1), (.int 3), (.int 2), (.int 1)])), ([.inl 3, .inl 1, .inl 0, .inl 4, .inl 2], (.tup [(.int 0), (.int 2), (.int 1), (.int 0), (.int 3)])), ([.inl 1, .inl 3, .inl 4, .inl 0, .inl 2], (.tup [(.int 0), (.int 2), (.int 1), (.int 3), (.int 2)])), ([.inl 1, .inl 4, .inl 0, .inl 3, .inl 2], (.tup [(.int 0), (.int 2), (.int 3), (.int 2), (.int 1)])), ([.inl 4, .inl 1, .inl 0, .inl 2, .inl 3], (.tup [(.int 0), (.int 3), (.int 2), (.int 1), (.int 0)])), ([.inl 3, .inl 2, .inl 0, .inl 1, .inl 4], (.tup [(.int 1), (.int 0), (.int 2), (.int 1), (.int 0)])), ([.inl 2, .inl 3, .inl 0, .inl 4, .inl 1], (.tup [(.int 1), (.int 0), (.int 2), (.int 1), (.int 3)])), ([.inl 2, .inl 0, .inl 4, .inl 3, .inl 1], (.tup [(.int 1), (.int 0), (.int 2), (.int 3), (.int 2)])), ([.inl 2, .inl 4, .inl 0, .inl 1, .inl 3], (.tup [(.int 1), (.int 0), (.int 3), (.int 2), (.int 1)])), ([.inl 3, .inl 0, .inl 2, .inl 4, .inl 1], (.tup [(.int 1), (.int 2), (.int 1), (.int 0), (.int 3)])), ([.inl 0, .inl 3, .inl 4, .inl 2, .inl 1], (.tup [(.int 1), (.int 2), (.int 1), (.int 3), (.int 2)])), ([.inl 0, .inl 4, .inl 2, .inl 3, .inl 1], (.tup [(.int 1), (.int 2), (.int 3), (.int 2), (.int 1)])), ([.inl 4, .inl 0, .inl 2, .inl 1, .inl 3], (.tup [(.int 1), (.int 3), (.int 2), (.int 1), (.int 0)])), ([.inl 3, .inl 0, .inl 4, .inl 1, .inl 2], (.tup [(.int 2), (.int 1), (.int 0), (.int 3), (.int 2)])), ([.inl 0, .inl 4, .inl 3, .inl 1, .inl 2], (.tup [(.int 2), (.int 1), (.int 3), (.int 2), (.int 1)])), ([.inl 4, .inl 0, .inl 1, .inl 3, .inl 2], (.tup [(.int 2), (.int 3), (.int 2), (.int 1), (.int 0)])), ([.inl 3, .inl 2, .inl 1, .inl 0, .inl 4], (.tup [(.int 0), (.int 1), (.int 0), (.int 2), (.int 1), (.int 0)])), ([.inl 2, .inl 3, .inl 1, .inl 4, .inl 0], (.tup [(.int 0), (.int 1), (.int 0), (.int 2), (.int 1), (.int 3)])), ([.inl 2, .inl 1, .inl 4, .inl 3, .inl 0], (.tup [(.int 0), (.int 1), (.int 0), (.int 2), (.int 3), (.int 2)])), ([.inl 2, .inl 4, .inl 1, .inl 0, .inl 3], (.tup [(.int 0), (.int 1), (.int 0), (.int 3), (.int 2), (.int 1)])), ([.inl 3, .inl 1, .inl 2, .inl 4, .inl 0], (.tup [(.int 0), (.int 1), (.int 2), (.int 1), (.int 0), (.int 3)])), ([.inl 1, .inl 3, .inl 4, .inl 2, .inl 0], (.tup [(.int 0), (.int 1), (.int 2), (.int 1), (.int 3), (.int 2)])), ([.inl 1, .inl 4, .inl 2, .inl 3, .inl 0], (.tup [(.int 0), (.int 1), (.int 2), (.int 3), (.int 2), (.int 1)])), ([.inl 4, .inl 1, .inl 2, .inl 0, .inl 3], (.tup [(.int 0), (.int 1), (.int 3), (.int 2), (.int 1), (.int 0)])), ([.inl 3, .inl 1, .inl 4, .inl 0, .inl 2], (.tup [(.int 0), (.int 2), (.int 1), (.int 0), (.int 3), (.int 2)])), ([.inl 1, .inl 4, .inl 3, .inl 0, .inl 2], (.tup [(.int 0), (.int 2), (.int 1), (.int 3), (.int 2), (.int 1)])), ([.inl 4, .inl 1, .inl 0, .inl 3, .inl 2], (.tup [(.int 0), (.int 2), (.int 3), (.int 2), (.int 1), (.int 0)])), ([.inl 3, .inl 2, .inl 0, .inl 4, .inl 1], (.tup [(.int 1), (.int 0), (.int 2), (.int 1), (.int 0), (.int 3)])), ([.inl 2, .inl 3, .inl 4, .inl 0, .inl 1], (.tup [(.int 1), (.int 0), (.int 2), (.int 1), (.int 3), (.int 2)])), ([.inl 2, .inl 4, .inl 0, .inl 3, .inl 1], (.tup [(.int 1), (.int 0), (.int 2), (.int 3), (.int 2), (.int 1)])), ([.inl 4, .inl 2, .inl 0, .inl 1, .inl 3], (.tup [(.int 1), (.int 0), (.int 3), (.int 2), (.int 1), (.int 0)])), ([.inl 3, .inl 0, .inl 4, .inl 2, .inl 1], (.tup [(.int 1), (.int 2), (.int 1), (.int 0), (.int 3), (.int 2)])), ([.inl 0, .inl 4, .inl 3, .inl 2, .inl 1], (.tup [(.int 1), (.int 2), (.int 1), (.int 3), (.int 2), (.int 1)])), ([.inl 4, .inl 0, .inl 2, .inl 3, .inl 1], (.tup [(.int 1), (.int 2), (.int 3), (.int 2), (.int 1), (.int 0)])), ([.inl 3, .inl 4, .inl 0, .inl 1, .inl 2], (.tup [(.int 2), (.int 1), (.int 0), (.int 3), (.int 2), (.int 1)])), ([.inl 4, .inl 0, .inl 3, .inl 1, .inl 2], (.tup [(.int 2), (.int 1), (.int 3), (.int 2), (.int 1), (.int 0)])), ([.inl 3, .inl 2, .inl 1, .inl 4, .inl 0], (.tup [(.int 0), (.int 1), (.int 0), (.int 2), (.int 1), (.int 0), (.int 3)])), ([.inl 2, .inl 3, .inl 4, .inl 1, .inl 0], (.tup [(.int 0), (.int 1), (.int 0), (.int 2), (.int 1), (.int 3), (.int 2)])), ([.inl 2, .inl 4, .inl 1, .inl 3, .inl 0], (.tup [(.int 0), (.int 1), (.int 0), (.int 2), (.int 3), (.int 2), (.int 1)])), ([.inl 4, .inl 2, .inl 1, .inl 0, .inl 3], (.tup [(.int 0), (.int 1), (.int 0), (.int 3), (.int 2), (.int 1), (.int 0)])), ([.inl 3, .inl 1, .inl 4, .inl 2, .inl 0], (.tup [(.int 0), (.int 1), (.int 2), (.int 1), (.int 0), (.int 3), (.int 2)])), ([.inl 1, .inl 4, .inl 3, .inl 2, .inl 0], (.tup [(.int 0), (.int 1), (.int 2), (.int 1), (.int 3), (.int 2), (.int 1)])), ([.inl 4, .inl 1, .inl 2, .inl 3, .inl 0], (.tup [(.int 0), (.int 1), (.int 2), (.int 3), (.int 2), (.int 1), (.int 0)])), ([.inl 3, .inl 4, .inl 1, .inl 0, .inl 2], (.tup [(.int 0), (.int 2), (.int 1), (.int 0), (.int 3), (.int 2), (.int 1)])), ([.inl 4, .inl 1, .inl 3, .inl 0, .inl 2], (.tup [(.int 0), (.int 2), (.int 1), (.int 3), (.int 2), (.int 1), (.int 0)])), ([.inl 3, .inl 2, .inl 4, .inl 0, .inl 1], (.tup [(.int 1), (.int 0), (.int 2), (.int 1), (.int 0), (.int 3), (.int 2)])), ([.inl 2, .inl 4, .inl 3, .inl 0, .inl 1], (.tup [(.int 1), (.int 0), (.int 2), (.int 1), (.int 3), (.int 2), (.int 1)])), ([.inl 4, .inl 2, .inl 0, .inl 3, .inl 1], (.tup [(.int 1), (.int 0), (.int 2), (.int 3), (.int 2), (.int 1), (.int 0)])), ([.inl 3, .inl 4, .inl 0, .inl 2, .inl 1], (.tup [(.int 1), (.int 2), (.int 1), (.int 0), (.int 3), (.int 2), (.int 1)])), ([.inl 4, .inl 0, .inl 3, .inl 2, .inl 1], (.tup [(.int 1), (.int 2), (.int 1), (.int 3), (.int 2), (.int 1), (.int 0)])), ([.inl 4, .inl 3, .inl 0, .inl 1, .inl 2], (.tup [(.int 2), (.int 1), (.int 0), (.int 3), (.int 2), (.int 1), (.int 0)]))]), some (.d (.lst [(.tup [(.int 3), (.int 2), (.int 1), (.int 4), (.int 0)]), (.tup [(.int 2), (.int 3), (.int 4), (.int 1), (.int 0)]), (.tup [(.int 2), (.int 4), (.int 1), (.int 3), (.int 0)]), (.tup [(.int 4), (.int 2), (.int 1), (.int 0), (.int 3)]), (.tup [(.int 3), (.int 1), (.int 4), (.int 2), (.int 0)]), (.tup [(.int 1), (.int 4), (.int 3), (.int 2), (.int 0)]), (.tup [(.int 4), (.int 1), (.int 2), (.int 3), (.int 0)]), (.tup [(.int 3), (.int 4), (.int 1), (.int 0), (.int 2)]), (.tup [(.int 4), (.int 1), (.int 3), (.int 0), (.int 2)]), (.tup [(.int 3), (.int 2), (.int 4), (.int 0), (.int 1)]), (.tup [(.int 2), (.int 4), (.int 3), (.int 0), (.int 1)]), (.tup [(.int 4), (.int 2), (.int 0), (.int 3), (.int 1)]), (.tup [(.int 3), (.int 4), (.int 0), (.int 2), (.int 1)]), (.tup [(.int 4), (.int 0), (.int 3), (.int 2), (.int 1)]), (.tup [(.int 4), (.int 3), (.int 0), (.int 1), (.int 2)])])), some (.d (.lst [(.tup [(.int 3), (.int 2), (.int 1), (.int 4), (.int 0)]), (.tup [(.int 2), (.int 3), (.int 4), (.int 1), (.int 0)]), (.tup [(.int 2), (.int 4), (.int 1), (.int 3), (.int 0)]), (.tup [(.int 4), (.int 2), (.int 1), (.int 0), (.int 3)]), (.tup [(.int 3), (.int 1), (.int 4), (.int 2), (.int 0)]), (.tup [(.int 1), (.int 4), (.int 3), (.int 2), (.int 0)]), (.tup [(.int 4), (.int 1), (.int 2), (.int 3), (.int 0)]), (.tup [(.int 3), (.int 4), (.int 1), (.int 0), (.int 2)]), (.tup [(.int 4), (.int 1), (.int 3), (.int 0), (.int 2)]), (.tup [(.int 3), (.int 2), (.int 4), (.int 0), (.int 1)]), (.tup [(.int 2), (.int 4), (.int 3), (.int 0), (.int 1)]), (.tup [(.int 4), (.int 2), (.int 0), (.int 3), (.int 1)]), (.tup [(.int 3), (.int 4), (.int 0), (.int 2), (.int 1)]), (.tup [(.int 4), (.int 0), (.int 3), (.int 2), (.int 1)]), (.tup [(.int 4), (.int 3), (.int 0), (.int 1), (.int 2)])])), some (.d (.tup [(.int 4), (.int 0), (.int 3), (.int 1), (.int 2)])), some (.d (.int 3)), some (.d (.tup [(.int 4), (.int 0), (.int 3), (.int 2), (.int 1)]))]
def c5_8 (x : D) : Sg := [some (.d (.int 5)), some (.d x), some (.d (.tup [(.int 0), (.int 1), (.int 2), (.int 3), (.int 4)])), some (.ft [([.inl 0, .inl 1, .inl 2, .inl 3, .inl 4], (.tup [])), ([.inl 1, .inl 0, .inl 2, .inl 3, .inl 4], (.tup [(.int 0)])), ([.inl 0, .inl 2, .inl 1, .inl 3, .inl 4], (.tup [(.int 1)])), ([.inl 0, .inl 1, .inl 3, .inl 2, .inl 4], (.tup [(.int 2)])), ([.inl 0, .inl 1, .inl 2, .inl 4, .inl 3], (.tup [(.int 3)])), ([.inl 1, .inl 2, .inl 0, .inl 3, .inl 4], (.tup [(.int 0), (.int 1)])), ([.inl 1, .inl 0, .inl 3, .inl 2, .inl 4], (.tup [(.int 0), (.int 2)])), ([.inl 1, .inl 0, .inl 2, .inl 4, .inl 3], (.tup [(.int 0), (.int 3)])), ([.inl 2, .inl 0, .inl 1, .inl 3, .inl 4], (.tup [(.int 1), (.int 0)])), ([.inl 0, .inl 2, .inl 3, .inl 1, .inl 4], (.tup [(.int 1), (.int 2)])), ([.inl 0, .inl 2, .inl 1, .inl 4, .inl 3], (.tup [(.int 1), (.int 3)])), ([.inl 0, .inl 3, .inl 1, .inl 2, .inl 4], (.tup [(.int 2), (.int 1)])), ([.inl 0, .inl 1, .inl 3, .inl 4, .inl 2], (.tup [(.int 2), (.int 3)])), ([.inl 0, .inl 1, .inl 4, .inl 2, .inl 3], (.tup [(.int 3), (.int 2)])), ([.inl 2, .inl 1, .inl 0, .inl 3, .inl 4], (.tup [(.int 0), (.int 1), (.int 0)])), ([.inl 1, .inl 2, .inl 3, .inl 0, .inl 4], (.tup [(.int 0), (.int 1), (.int 2)])), ([.inl 1, .inl 2, .inl 0, .inl 4, .inl 3], (.tup [(.int 0), (.int 1), (.int 3)])), ([.inl 1, .inl 3, .inl 0, .inl 2, .inl 4], (.tup [(.int 0), (.int 2), (.int 1)])), ([.inl 1, .inl 0, .inl 3, .inl 4, .inl 2], (.tup [(.int 0), (.int 2), (.int 3)])), ([.inl 1, .inl 0, .inl 4, .inl 2, .inl 3], (.tup [(.int 0), (.int 3), (.int 2)])), ([.inl 2, .inl 0, .inl 3, .inl 1, .inl 4], (.tup [(.int 1), (.int 0), (.int 2)])), ([.inl 2, .inl 0, .inl 1, .inl 4, .inl 3], (.tup [(.int 1), (.int 0), (.int 3)])), ([.inl 0, .inl 3, .inl 2, .inl 1, .inl 4], (.tup [(.int 1), (.int 2), (.int 1)])), ([.inl 0, .inl 2, .inl 3, .inl 4, .inl 1], (.tup [(.int 1), (.int 2), (.int 3)])), ([.inl 0, .inl 2, .inl 4, .inl 1, .inl 3], (.tup [(.int 1), (.int 3), (.int 2)])), ([.inl 3, .inl 0, .inl 1, .inl 2, .inl 4], (.tup [(.int 2), (.int 1), (.int 0)])), ([.inl 0, .inl 3, .inl 1, .inl 4, .inl 2], (.tup [(.int 2), (.int 1), (.int 3)])), ([.inl 0, .inl 1, .inl 4, .inl 3, .inl 2], (.tup [(.int 2), (.int 3), (.int 2)])), ([.inl 0, .inl 4, .inl 1, .inl 2, .inl 3], (.tup [(.int 3), (.int 2), (.int 1)])), ([.inl 2, .inl 1, .inl 3, .inl 0, .inl 4], (.tup [(.int 0), (.int 1), (.int 0), (.int 2)])), ([.inl 2, .inl 1, .inl 0, .inl 4, .inl 3], (.tup [(.int 0), (.int 1), (.int 0), (.int 3)])), ([.inl 1, .inl 3, .inl 2, .inl 0, .inl 4], (.tup [(.int 0), (.int 1), (.int 2), (.int 1)])), ([.inl 1, .inl 2, .inl 3, .inl 4, .inl 0], (.tup [(.int 0), (.int 1), (.int 2), (.int 3)])), ([.inl 1, .inl 2, .inl 4, .inl 0, .inl 3], (.tup [(.int 0), (.int 1), (.int 3), (.int 2)])), ([.inl 3, .inl 1, .inl 0, .inl 2, .inl 4], (.tup [(.int 0), (.int 2), (.int 1), (.int 0)])), ([.inl 1, .inl 3, .inl 0, .inl 4, .inl 2], (.tup [(.int 0), (.int 2), (.int 1), (.int 3)])), ([.inl 1, .inl 0, .inl 4, .inl 3, .inl 2], (.tup [(.int 0), (.int 2), (.int 3), (.int 2)])), ([.inl 1, .inl 4, .inl 0, .inl 2, .inl 3], (.tup [(.int 0), (.int 3), (.int 2), (.int 1)])), ([.inl 2, .inl 3, .inl 0, .inl 1, .inl 4], (.tup [(.int 1), (.int 0), (.int 2), (.int 1)])), ([.inl 2, .inl 0, .inl 3, .inl 4, .inl 1], (.tup [(.int 1), (.int 0), (.int 2), (.int 3)])), ([.inl 2, .inl 0, .inl 4, .inl 1, .inl 3], (.tup [(.int 1), (.int 0), (.int 3), (.int 2)])), ([.inl 3, .inl 0, .inl 2, .inl 1, .inl 4], (.tup [(.int 1), (.int 2), (.int 1), (.int 0)])), ([.inl 0, .inl 3, .inl 2, .inl 4, .inl 1], (.tup [(.int 1), (.int 2), (.int 1), (.int 3)])), ([.inl 0, .inl 2, .inl 4, .inl 3, .inl 1], (.tup [(.int 1), (.int 2), (.int 3), (.int 2)])), ([.inl 0, .inl 4, .inl 2, .inl 1, .inl 3], (.tup [(.int 1), (.int 3), (.int 2), (.int 1)])), ([.inl 3, .inl 0, .inl 1, .inl 4, .inl 2], (.tup [(.int 2), (.int 1), (.int 0), (.int 3)])), ([.inl 0, .inl 3, .inl 4, .inl 1, .inl 2], (.tup [(.int 2), (.int 1), (.int 3), (.int 2)])), ([.inl 0, .inl 4, .inl 1, .inl 3, .inl 2], (.tup [(.int 2), (.int 3), (.int 2), (.int 1)])), ([.inl 4, .inl 0, .inl 1, .inl 2, .inl 3], (.tup [(.int 3), (.int 2), (.int 1), (.int 0)])), ([.inl 2, .inl 3, .inl 1, .inl 0, .inl 4], (.tup [(.int 0), (.int 1), (.int 0), (.int 2), (.int 1)])), ([.inl 2, .inl 1, .inl 3, .inl 4, .inl 0], (.tup [(.int 0), (.int 1), (.int 0), (.int 2), (.int 3)])), ([.inl 2, .inl 1, .inl 4, .inl 0, .inl 3], (.tup [(.int 0), (.int 1), (.int 0), (.int 3), (.int 2)])), ([.inl 3, .inl 1, .inl 2, .inl 0, .inl 4], (.tup [(.int 0), (.int 1), (.int 2), (.int 1), (.int 0)])), ([.inl 1, .inl 3, .inl 2, .inl 4, .inl 0], (.tup [(.int 0), (.int 1), (.int 2), (.int 1), (.int 3)])), ([.inl 1, .inl 2, .inl 4, .inl 3, .inl 0], (.tup [(.int 0), (.int 1), (.int 2), (.int 3), (.int 2)])), ([.inl 1, .inl 4, .inl 2, .inl 0, .inl 3], (.tup [(.int 0), (.int 1), (.int 3), (.int 2), (.int 1)])), ([.inl 3, .inl 1, .inl 0, .inl 4, .inl 2], (.tup [(.int 0), (.int 2), (.int 1), (.int 0), (.int 3)])), ([.inl 1, .inl 3, .inl 4, .inl 0, .inl 2], (.tup [(.int 0), (.int 2), (.int 1), (.int 3), (.int 2)])), ([.inl 1, .inl 4, .inl 0, .inl 3, .inl 2], (.tup [(.int 0), (.int 2), (.int 3), (.int 2), (.int 1)])), ([.inl 4, .inl 1, .inl 0, .inl 2, .inl 3], (.tup [(.int 0), (.int 3), (.int 2), (.int 1), (.int 0)])), ([.inl 3, .inl 2, .inl 0, .inl 1, .inl 4], (.tup [(.int 1), (.int 0), (.int 2), (.int 1), (.int 0)])), ([.inl 2, .inl 3, .inl 0, .inl 4, .inl 1], (.tup [(.int 1), (.int 0), (.int 2), (.int 1), (.int 3)])), ([.inl 2, .inl 0, .inl 4, .inl 3, .inl 1], (.tup [(.int 1), (.int 0), (.int 2), (.int 3), (.int 2)])), ([.inl 2, .inl 4, .inl 0, .inl 1, .inl 3], (.tup [(.int 1), (.int 0), (.int 3), (.int 2), (.int 1)])), ([.inl 3, .inl 0, .inl 2, .inl 4, .inl 1], (.tup [(.int 1), (.int 2), (.int 1), (.int 0), (.int 3)])), ([.inl 0, .inl 3, .inl 4, .inl 2, .inl 1], (.tup [(.int 1), (.int 2), (.int 1), (.int 3), (.int 2)])), ([.inl 0, .inl 4, .inl 2, .inl 3, .inl 1], (.tup [(.int 1), (.int 2), (.int 3), (.int 2), (.int 1)])), ([.inl 4, .inl 0, .inl 2, .inl 1, .inl 3], (.tup [(.int 1), (.int 3), (.int 2), (.int 1), (.int 0)])), ([.inl 3, .inl 0, .inl 4, .inl 1, .inl 2], (.tup [(.int 2), (.int 1), (.int 0), (.int 3), (.int 2)])), ([.inl 0, .inl 4, .inl 3, .inl 1, .inl 2], (.tup [(.int 2), (.int 1), (.int 3), (.int 2), (.int 1)])), ([.inl 4, .inl 0, .inl 1, .inl 3, .inl 2], (.tup [(.int 2), (.int 3), (.int 2), (.int 1), (.int 0)])), ([.inl 3, .inl 2, .inl 1, .inl 0, .inl 4], (.tup [(.int 0), (.int 1), (.int 0), (.int 2), (.int 1), (.int 0)])), ([.inl 2, .inl 3, .inl 1, .inl 4, .inl 0], (.tup [(.int 0), (.int 1), (.int 0), (.int 2), (.int 1), (.int 3)])), ([.inl 2, .inl 1, .inl 4, .inl 3, .inl 0], (.tup [(.int 0), (.int 1), (.int 0), (.int 2), (.int 3), (.int 2)])), ([.inl 2, .inl 4, .inl 1, .inl 0, .inl 3], (.tup [(.int 0), (.int 1), (.int 0), (.int 3), (.int 2), (.int 1)])), ([.inl 3, .inl 1, .inl 2, .inl 4, .inl 0], (.tup [(.int 0), (.int 1), (.int 2), (.int 1), (.int 0), (.int 3)])), ([.inl 1, .inl 3, .inl 4, .inl 2, .inl 0], (.tup [(.int 0), (.int 1), (.int 2), (.int 1), (.int 3), (.int 2)])), ([.inl 1, .inl 4, .inl 2, .inl 3, .inl 0], (.tup [(.int 0), (.int 1), (.int 2), (.int 3), (.int 2), (.int 1)])), ([.inl 4, .inl 1, .inl 2, .inl 0, .inl 3], (.tup [(.int 0), (.int 1), (.int 3), (.int 2), (.int 1), (.int 0)])), ([.inl 3, .inl 1, .inl 4, .inl 0, .inl 2], (.tup [(.int 0), (.int 2), (.int 1), (.int 0), (.int 3), (.int 2)])), ([.inl 1, .inl 4, .inl 3, .inl 0, .inl 2], (.tup [(.int 0), (.int 2), (.int 1), (.int 3), (.int 2), (.int 1)])), ([.inl 4, .inl 1, .inl 0, .inl 3, .inl 2], (.tup [(.int 0), (.int 2), (.int 3), (.int 2), (.int 1), (.int 0)])), ([.inl 3, .inl 2, .inl 0, .inl 4, .inl 1], (.tup [(.int 1), (.int 0), (.int 2), (.int 1), (.int 0), (.int 3)])), ([.inl 2, .inl 3, .inl 4, .inl 0, .inl 1], (.tup [(.int 1), (.int 0), (.int 2), (.int 1), (.int 3), (.int 2)])), ([.inl 2, .inl 4, .inl 0, .inl 3, .inl 1], (.tup [(.int 1), (.int 0), (.int 2), (.int 3), (.int 2), (.int 1)])), ([.inl 4, .inl 2, .inl 0, .inl 1, .inl 3], (.tup [(.int 1), (.int 0), (.int 3), (.int 2), (.int 1), (.int 0)])), ([.inl 3, .inl 0, .inl 4, .inl 2, .inl 1], (.tup [(.int 1), (.int 2), (.int 1), (.int 0), (.int 3), (.int 2)])), ([.inl 0, .inl 4, .inl 3, .inl 2, .inl 1], (.tup [(.int 1), (.int 2), (.int 1), (.int 3), (.int 2), (.int 1)])), ([.inl 4, .inl 0, .inl 2, .inl 3, .inl 1], (.tup [(.int 1), (.int 2), (.int 3), (.int 2), (.int 1), (.int 0)])), ([.inl 3, .inl 4, .inl 0, .inl 1, .inl 2], (.tup [(.int 2), (.int 1), (.int 0), (.int 3), (.int 2), (.int 1)])), ([.inl 4, .inl 0, .inl 3, .inl 1, .inl 2], (.tup [(.int 2), (.int 1), (.int 3), (.int 2), (.int 1), (.int 0)])), ([.inl 3, .inl 2, .inl 1, .inl 4, .inl 0], (.tup [(.int 0), (.int 1), (.int 0), (.int 2), (.int 1), (.int 0), (.int 3)])), ([.inl 2, .inl 3, .inl 4, .inl 1, .inl 0], (.tup [(.int 0), (.int 1), (.int 0), (.int 2), (.int 1), (.int 3), (.int 2)])), ([.inl 2, .inl 4, .inl 1, .inl 3, .inl 0], (.tup [(.int 0), (.int 1), (.int 0), (.int 2), (.int 3), (.int 2), (.int 1)])), ([.inl 4, .inl 2, .inl 1, .inl 0, .inl 3], (.tup [(.int 0), (.int 1), (.int 0), (.int 3), (.int 2), (.int 1), (.int 0)])), ([.inl 3, .inl 1, .inl 4, .inl 2, .inl 0], (.tup [(.int 0), (.int 1), (.int 2), (.int 1), (.int 0), (.int 3), (.int 2)])), ([.inl 1, .inl 4, .inl 3, .inl 2, .inl 0], (.tup [(.int 0), (.int 1), (.int 2), (.int 1), (.int 3), (.int 2), (.int 1)])), ([.inl 4, .inl 1, .inl 2, .inl 3, .inl 0], (.tup [(.int 0), (.int 1), (.int 2), (.int 3), (.int 2), (.int 1), (.int 0)])), ([.inl 3, .inl 4, .inl 1, .inl 0, .inl 2], (.tup [(.int 0), (.int 2), (.int 1), (.int 0), (.int 3), (.int 2), (.int 1)])), ([.inl 4, .inl 1, .inl 3, .inl 0, .inl 2], (.tup [(.int 0), (.int 2), (.int 1), (.int 3), (.int 2), (.int 1), (.int 0)])), ([.inl 3, .inl 2, .inl 4, .inl 0, .inl 1], (.tup [(.int 1), (.int 0), (.int 2), (.int 1), (.int 0), (.int 3), (.int 2)])), ([.inl 2, .inl 4, .inl 3, .inl 0, .inl 1], (.tup [(.int 1), (.int 0), (.int 2), (.int 1), (.int 3), (.int 2), (.int 1)])), ([.inl 4, .inl 2, .inl 0, .inl 3, .inl 1], (.tup [(.int 1), (.int 0), (.int 2), (.int 3), (.int 2), (.int 1), (.int 0)])), ([.inl 3, .inl 4, .inl 0, .inl 2, .inl 1], (.tup [(.int 1), (.int 2), (.int 1), (.int 0), (.int 3), (.int 2), (.int 1)])), ([.inl 4, .inl 0, .inl 3, .inl 2, .inl 1], (.tup [(.int 1), (.int 2), (.int 1), (.int 3), (.int 2), (.int 1), (.int 0)])), ([.inl 4, .inl 3, .inl 0, .inl 1, .inl 2], (.tup [(.int 2), (.int 1), (.int 0), (.int 3), (.int 2), (.int 1), (.int 0)])), ([.inl 3, .inl 2, .inl 4, .inl 1, .inl 0], (.tup [(.int 0), (.int 1), (.int 0), (.int 2), (.int 1), (.int 0), (.int 3), (.int 2)])), ([.inl 2, .inl 4, .inl 3, .inl 1, .inl 0], (.tup [(.int 0), (.int 1), (.int 0), (.int 2), (.int 1), (.int 3), (.int 2), (.int 1)])), ([.inl 4, .inl 2, .inl 1, .inl 3, .inl 0], (.tup [(.int 0), (.int 1), (.int 0), (.int 2), (.int 3), (.int 2), (.int 1), (.int 0)])), ([.inl 3, .inl 4, .inl 1, .inl 2, .inl 0], (.tup [(.int 0), (.int 1), (.int 2), (.int 1), (.int 0), (.int 3), (.int 2), (.int 1)])), ([.inl 4, .inl 1, .inl 3, .inl 2, .inl 0], (.tup [(.int 0), (.int 1), (.int 2), (.int 1), (.int 3), (.int 2), (.int 1), (.int 0)])), ([.inl 4, .inl 3, .inl 1, .inl 0, .inl 2], (.tup [(.int 0), (.int 2), (.int 1), (.int 0), (.int 3), (.int 2), (.int 1), (.int 0)])), ([.inl 3, .inl 4, .inl 2, .inl 0, .inl 1], (.tup [(.int 1), (.int 0), (.int 2), (.int 1), (.int 0), (.int 3), (.int 2), (.int 1)])), ([.inl 4, .inl 2, .inl 3, .inl 0, .inl 1], (.tup [(.int 1), (.int 0), (.int 2), (.int 1), (.int 3), (.int 2), (.int 1), (.int 0)])), ([.inl 4, .inl 3, .inl 0, .inl 2, .inl 1], (.tup [(.int 1), (.int 2), (.int 1), (.int 0), (.int 3), (.int 2), (.int 1), (.int 0)]))]), some (.d (.lst [(.tup [(.int 3), (.int 2), (.int 4), (.int 1), (.int 0)]), (.tup [(.int 2), (.int 4), (.int 3), (.int 1), (.int 0)]), (.tup [(.int 4), (.int 2), (.int 1), (.int 3), (.int 0)]), (.tup [(.int 3), (.int 4), (.int 1), (.int 2), (.int 0)]), (.tup [(.int 4), (.int 1), (.int 3), (.int 2), (.int 0)]), (.tup [(.int 4), (.int 3), (.int 1), (.int 0), (.int 2)]), (.tup [(.int 3), (.int 4), (.int 2), (.int 0), (.int 1)]), (.tup [(.int 4), (.int 2), (.int 3), (.int 0), (.int 1)]), (.tup [(.int 4), (.int 3), (.int 0), (.int 2), (.int 1)])])), some (.d (.lst [(.tup [(.int 3), (.int 2), (.int 4), (.int 1), (.int 0)]), (.tup [(.int 2), (.int 4), (.int 3), (.int 1), (.int 0)]), (.tup [(.int 4), (.int 2), (.int 1), (.int 3), (.int 0)]), (.tup [(.int 3), (.int 4), (.int 1), (.int 2), (.int 0)]), (.tup [(.int 4), (.int 1), (.int 3), (.int 2), (.int 0)]), (.tup [(.int 4), (.int 3), (.int 1), (.int 0), (.int 2)]), (.tup [(.int 3), (.int 4), (.int 2), (.int 0), (.int 1)]), (.tup [(.int 4), (.int 2), (.int 3), (.int 0), (.int 1)]), (.tup [(.int 4), (.int 3), (.int 0), (.int 2), (.int 1)])])), some (.d (.tup [(.int 4), (.int 3), (.int 0), (.int 1), (.int 2)])), some (.d (.int 3)), some (.d (.tup [(.int 4), (.int 3), (.int 0), (.int 2), (.int 1)]))]
def c5_9 (x : D) : Sg := [some (.d (.int 5)), some (.d x), some (.d (.tup [(.int 0), (.int 1), (.int 2), (.int 3), (.int 4)])), some (.ft [([.inl 0, .inl 1, .inl 2, .inl 3, .inl 4], (.tup [])), ([.inl 1, .inl 0, .inl 2, .inl 3, .inl 4], (.tup [(.int 0)])), ([.inl 0, .inl 2, .inl 1, .inl 3, .inl 4], (.tup [(.int 1)])), ([.inl 0, .inl 1, .inl 3, .inl 2, .inl 4], (.tup [(.int 2)])), ([.inl 0, .inl 1, .inl 2, .inl 4, .inl 3], (.tup [(.int 3)])), ([.inl 1, .inl 2, .inl 0, .inl 3, .inl 4], (.tup [(.int 0), (.int 1)])), ([.inl 1, .inl 0, .inl 3, .inl 2, .inl 4], (.tup [(.int 0), (.int 2)])), ([.inl 1, .inl 0, .inl 2, .inl 4, .inl 3], (.tup [(.int 0), (.int 3)])), ([.inl 2, .inl 0, .inl 1, .inl 3, .inl 4], (.tup [(.int 1), (.int 0)])), ([.inl 0, .inl 2, .inl 3, .inl 1, .inl 4], (.tup [(.int 1), (.int 2)])), ([.inl 0, .inl 2, .inl 1, .inl 4, .inl 3], (.tup [(.int 1), (.int 3)])), ([.inl 0, .inl 3, .inl 1, .inl 2, .inl 4], (.tup [(.int 2), (.int 1)])), ([.inl 0, .inl 1, .inl 3, .inl 4, .inl 2], (.tup [(.int 2), (.int 3)])), ([.inl 0, .inl 1, .inl 4, .inl 2, .inl 3], (.tup [(.int 3), (.int 2)])), ([.inl 2, .inl 1, .inl 0, .inl 3, .inl 4], (.tup [(.int 0), (.int 1), (.int 0)])), ([.inl 1, .inl 2, .inl 3, .inl 0, .inl 4], (.tup [(.int 0), (.int 1), (.int 2)])), ([.inl 1, .inl 2, .inl 0, .inl 4, .inl 3], (.tup [(.int 0), (.int 1), (.int 3)])), ([.inl 1, .inl 3, .inl 0, .inl 2, .inl 4], (.tup [(.int 0), (.int 2), (.int 1)])), ([.inl 1, .inl 0, .inl 3, .inl 4, .inl 2], (.tup [(.int 0), (.int 2), (.int 3)])), ([.inl 1, .inl 0, .inl 4, .inl 2, .inl 3], (.tup [(.int 0), (.int 3), (.int 2)])), ([.inl 2, .inl 0, .inl 3, .inl 1, .inl 4], (.tup [(.int 1), (.int 0), (.int 2)])), ([.inl 2, .inl 0, .inl 1, .inl 4, .inl 3], (.tup [(.int 1), (.int 0), (.int 3)])), ([.inl 0, .inl 3, .inl 2, .inl 1, .inl 4], (.tup [(.int 1), (.int 2), (.int 1)])), ([.inl 0, .inl 2, .inl 3, .inl 4, .inl 1], (.tup [(.int 1), (.int 2), (.int 3)])), ([.inl 0, .inl 2, .inl 4, .inl 1, .inl 3], (.tup [(.int 1), (.int 3), (.int 2)])), ([.inl 3, .inl 0, .inl 1, .inl 2, .inl 4], (.tup [(.int 2), (.int 1), (.int 0)])), ([.inl 0, .inl 3, .inl 1, .inl 4, .inl 2], (.tup [(.int 2), (.int 1), (.int 3)])), ([.inl 0, .inl 1, .inl 4, .inl 3, .inl 2], (.tup [(.int 2), (.int 3), (.int 2)])), ([.inl 0, .inl 4, .inl 1, .inl 2, .inl 3], (.tup [(.int 3), (.int 2), (.int 1)])), ([.inl 2, .inl 1, .inl 3, .inl 0, .inl 4], (.tup [(.int 0), (.int 1), (.int 0), (.int 2)])), ([.inl 2, .inl 1, .inl 0, .inl 4, .inl 3], (.tup [(.int 0), (.int 1), (.int 0), (.int 3)])), ([.inl 1, .inl 3, .inl 2, .inl 0, .inl 4], (.tup [(.int 0), (.int 1), (.int 2), (.int 1)])), ([.inl 1, .inl 2, .inl 3, .inl 4, .inl 0], (.tup [(.int 0), (.int 1), (.int 2), (.int 3)])), ([.inl 1, .inl 2, .inl 4, .inl 0, .inl 3], (.tup [(.int 0), (.int 1), (.int 3), (.int 2)])), ([.inl 3, .inl 1, .inl 0, .inl 2, .inl 4], (.tup [(.int 0), (.int 2), (.int 1), (.int 0)])), ([.inl 1, .inl 3, .inl 0, .inl 4, .inl 2], (.tup [(.int 0), (.int 2), (.int 1), (.int 3)])), ([.inl 1, .inl 0, .inl 4, .inl 3, .inl 2], (.tup [(.int 0), (.int 2), (.int 3), (.int 2)])), ([.inl 1, .inl 4, .inl 0, .inl 2, .inl 3], (.tup [(.int 0), (.int 3), (.int 2), (.int 1)])), ([.inl 2, .inl 3, .inl 0, .inl 1, .inl 4], (.tup [(.int 1), (.int 0), (.int 2), (.int 1)])), ([.inl 2, .inl 0, .inl 3, .inl 4, .inl 1], (.tup [(.int 1), (.int 0), (.int 2), (.int 3)])), ([.inl 2, .inl 0, .inl 4, .inl 1, .inl 3], (.tup [(.int 1), (.int 0), (.int 3), (.int 2)])), ([.inl 3, .inl 0, .inl 2, .inl 1, .inl 4], (.tup [(.int 1), (.int 2), (.int 1), (.int 0)])), ([.inl 0, .inl 3, .inl 2, .inl 4, .inl 1], (.tup [(.int 1), (.int 2), (.int 1), (.int 3)])), ([.inl 0, .inl 2, .inl 4, .inl 3, .inl 1], (.tup [(.int 1), (.int 2), (.int 3), (.int 2)])), ([.inl 0, .inl 4, .inl 2, .inl 1, .inl 3], (.tup [(.int 1), (.int 3), (.int 2), (.int 1)])), ([.inl 3, .inl 0, .inl 1, .inl 4, .inl 2], (.tup [(.int 2), (.int 1), (.int 0), (.int 3)])), ([.inl 0, .inl 3, .inl 4, .inl 1, .inl 2], (.tup [(.int 2), (.int 1), (.int 3), (.int 2)])), ([.inl 0, .inl 4, .inl 1, .inl 3, .inl 2], (.tup [(.int 2), (.int 3), (.int 2), (.int 1)])), ([.inl 4, .inl 0, .inl 1, .inl 2, .inl 3], (.tup [(.int 3), (.int 2), (.int 1), (.int 0)])), ([.inl 2, .inl 3, .inl 1, .inl 0, .inl 4], (.tup [(.int 0), (.int 1), (.int 0), (.int 2), (.int 1)])), ([.inl 2, .inl 1, .inl 3, .inl 4, .inl 0], (.tup [(.int 0), (.int 1), (.int 0), (.int 2), (.int 3)])), ([.inl 2, .inl 1, .inl 4, .inl 0, .inl 3], (.tup [(.int 0), (.int 1), (.int 0), (.int 3), (.int 2)])), ([.inl 3, .inl 1, .inl 2, .inl 0, .inl 4], (.tup [(.int 0), (.int 1), (.int 2), (.int 1), (.int 0)])), ([.inl 1, .inl 3, .inl 2, .inl 4, .inl 0], (.tup [(.int 0), (.int 1), (.int 2), (.int 1), (.int 3)])), ([.inl 1, .inl 2, .inl 4, .inl 3, .inl 0], (.tup [(.int 0), (.int 1), (.int 2), (.int 3), (.int 2)])), ([.inl 1, .inl 4, .inl 2, .inl 0, .inl 3], (.tup [(.int 0), (.int 1), (.int 3), (.int 2), (.int 1)])), ([.inl 3, .inl 1, .inl 0, .inl 4, .inl 2], (.tup [(.int 0), (.int 2), (.int 1), (.int 0), (.int 3)])), ([.inl 1, .inl 3, .inl 4, .inl 0, .inl 2], (.tup [(.int 0), (.int 2), (.int 1), (.int 3), (.int 2)])), ([.inl 1, .inl 4, .inl 0, .inl 3, .inl 2], (.tup [(.int 0), (.int 2), (.int 3), (.int 2), (.int 1)])), ([.inl 4, .inl 1, .inl 0, .inl 2, .inl 3], (.tup [(.int 0), (.int 3), (.int 2), (.int 1), (.int 0)])), ([.inl 3, .inl 2, .inl 0, .inl 1, .inl 4], (.tup [(.int 1), (.int 0), (.int 2), (.int 1), (.int 0)])), ([.inl 2, .inl 3, .inl 0, .inl 4, .inl 1], (.tup [(.int 1), (.int 0), (.int 2), (.int 1), (.int 3)])), ([.inl 2, .inl 0, .inl 4, .inl 3, .inl 1], (.tup [(.int 1), (.int 0), (.int 2), (.int 3), (.int 2)])), ([.inl 2, .inl 4, .inl 0, .inl 1, .inl 3], (.tup [(.int 1), (.int 0), (.int 3), (.int 2), (.int 1)])), ([.inl 3, .inl 0, .inl 2, .inl 4, .inl 1], (.tup [(.int 1), (.int 2), (.int 1), (.int 0), (.int 3)])), ([.inl 0, .inl 3, .inl 4, .inl 2, .inl 1], (.tup [(.int 1), (.int 2), (.int 1), (.int 3), (.int 2)])), ([.inl 0, .inl 4, .inl 2, .inl 3, .inl 1], (.tup [(.int 1), (.int 2), (.int 3), (.int 2), (.int 1)])), ([.inl 4, .inl 0, .inl 2, .inl 1, .inl 3], (.tup [(.int 1), (.int 3), (.int 2), (.int 1), (.int 0)])), ([.inl 3, .inl 0, .inl 4, .inl 1, .inl 2], (.tup [(.int 2), (.int 1), (.int 0), (.int 3), (.int 2)])), ([.inl 0, .inl 4, .inl 3, .inl 1, .inl 2], (.tup [(.int 2), (.int 1), (.int 3), (.int 2), (.int 1)])), ([.inl 4, .inl 0, .inl 1, .inl 3, .inl 2], (.tup [(.int 2), (.int 3), (.int 2), (.int 1), (.int 0)])), ([.inl 3, .inl 2, .inl 1, .inl 0, .inl 4], (.tup [(.int 0), (.int 1), (.int 0), (.int 2), (.int 1), (.int 0)])), ([.inl 2, .inl 3, .inl 1, .inl 4, .inl 0], (.tup [(.int 0), (.int 1), (.int 0), (.int 2), (.int 1), (.int 3)])), ([.inl 2, .inl 1, .inl 4, .inl 3, .inl 0], (.tup [(.int 0), (.int 1), (.int 0), (.int 2), (.int 3), (.int 2)])), ([.inl 2, .inl 4, .inl 1, .inl 0, .inl 3], (.tup [(.int 0), (.int 1), (.int 0), (.int 3), (.int 2), (.int 1)])), ([.inl 3, .inl 1, .inl 2, .inl 4, .inl 0], (.tup [(.int 0), (.int 1), (.int 2), (.int 1), (.int 0), (.int 3)])), ([.inl 1, .inl 3, .inl 4, .inl 2, .inl 0], (.tup [(.int 0), (.int 1), (.int 2), (.int 1), (.int 3), (.int 2)])), ([.inl 1, .inl 4, .inl 2, .inl 3, .inl 0], (.tup [(.int 0), (.int 1), (.int 2), (.int 3), (.int 2), (.int 1)])), ([.inl 4, .inl 1, .inl 2, .inl 0, .inl 3], (.tup [(.int 0), (.int 1), (.int 3), (.int 2), (.int 1), (.int 0)])), ([.inl 3, .inl 1, .inl 4, .inl 0, .inl 2], (.tup [(.int 0), (.int 2), (.int 1), (.int 0), (.int 3), (.int 2)])), ([.inl 1, .inl 4, .inl 3, .inl 0, .inl 2], (.tup [(.int 0), (.int 2), (.int 1), (.int 3), (.int 2), (.int 1)])), ([.inl 4, .inl 1, .inl 0, .inl 3, .inl 2], (.tup [(.int 0), (.int 2), (.int 3), (.int 2), (.int 1), (.int 0)])), ([.inl 3, .inl 2, .inl 0, .inl 4, .inl 1], (.tup [(.int 1), (.int 0), (.int 2), (.int 1), (.int 0), (.int 3)])), ([.inl 2, .inl 3, .inl 4, .inl 0, .inl 1], (.tup [(.int 1), (.int 0), (.int 2), (.int 1), (.int 3), (.int 2)])), ([.inl 2, .inl 4, .inl 0, .inl 3, .inl 1], (.tup [(.int 1), (.int 0), (.int 2), (.int 3), (.int 2), (.int 1)])), ([.inl 4, .inl 2, .inl 0, .inl 1, .inl 3], (.tup [(.int 1), (.int 0), (.int 3), (.int 2), (.int 1), (.int 0)])), ([.inl 3, .inl 0, .inl 4, .inl 2, .inl 1], (.tup [(.int 1), (.int 2), (.int 1), (.int 0), (.int 3), (.int 2)])), ([.inl 0, .inl 4, .inl 3, .inl 2, .inl 1], (.tup [(.int 1), (.int 2), (.int 1), (.int 3), (.int 2), (.int 1)])), ([.inl 4, .inl 0, .inl 2, .inl 3, .inl 1], (.tup [(.int 1), (.int 2), (.int 3), (.int 2), (.int 1), (.int 0)])), ([.inl 3, .inl 4, .inl 0, .inl 1, .inl 2], (.tup [(.int 2), (.int 1), (.int 0), (.int 3), (.int 2), (.int 1)])), ([.inl 4, .inl 0, .inl 3, .inl 1, .inl 2], (.tup [(.int 2), (.int 1), (.int 3), (.int 2), (.int 1), (.int 0)])), ([.inl 3, .inl 2, .inl 1, .inl 4, .inl 0], (.tup [(.int 0), (.int 1), (.int 0), (.int 2), (.int 1), (.int 0), (.int 3)])), ([.inl 2, .inl 3, .inl 4, .inl 1, .inl 0], (.tup [(.int 0), (.int 1), (.int 0), (.int 2), (.int 1), (.int 3), (.int 2)])), ([.inl 2, .inl 4, .inl 1, .inl 3, .inl 0], (.tup [(.int 0), (.int 1), (.int 0), (.int 2), (.int 3), (.int 2), (.int 1)])), ([.inl 4, .inl 2, .inl 1, .inl 0, .inl 3], (.tup [(.int 0), (.int 1), (.int 0), (.int 3), (.int 2), (.int 1), (.int 0)])), ([.inl 3, .inl 1, .inl 4, .inl 2, .inl 0], (.tup [(.int 0), (.int 1), (.int 2), (.int 1), (.int 0), (.int 3), (.int 2)])), ([.inl 1, .inl 4, .inl 3, .inl 2, .inl 0], (.tup [(.int 0), (.int 1), (.int 2), (.int 1), (.int 3), (.int 2), (.int 1)])), ([.inl 4, .inl 1, .inl 2, .inl 3, .inl 0], (.tup [(.int 0), (.int 1), (.int 2), (.int 3), (.int 2), (.int 1), (.int 0)])), ([.inl 3, .inl 4, .inl 1, .inl 0, .inl 2], (.tup [(.int 0), (.int 2), (.int 1), (.int 0), (.int 3), (.int 2), (.int 1)])), ([.inl 4, .inl 1, .inl 3, .inl 0, .inl 2], (.tup [(.int 0), (.int 2), (.int 1), (.int 3), (.int 2), (.int 1), (.int 0)])), ([.inl 3, .inl 2, .inl 4, .inl 0, .inl 1], (.tup [(.int 1), (.int 0), (.int 2), (.int 1), (.int 0), (.int 3), (.int 2)])), ([.inl 2, .inl 4, .inl 3, .inl 0, .inl 1], (.tup [(.int 1), (.int 0), (.int 2), (.int 1), (.int 3), (.int 2), (.int 1)])), ([.inl 4, .inl 2, .inl 0, .inl 3, .inl 1], (.tup [(.int 1), (.int 0), (.int 2), (.int 3), (.int 2), (.int 1), (.int 0)])), ([.inl 3, .inl 4, .inl 0, .inl 2, .inl 1], (.tup [(.int 1), (.int 2), (.int 1), (.int 0), (.int 3), (.int 2), (.int 1)])), ([.inl 4, .inl 0, .inl 3, .inl 2, .inl 1], (.tup [(.int 1), (.int 2), (.int 1), (.int 3), (.int 2), (.int 1), (.int 0)])), ([.inl 4, .inl 3, .inl 0, .inl 1, .inl 2], (.tup [(.int 2), (.int 1), (.int 0), (.int 3), (.int 2), (.int 1), (.int 0)])), ([.inl 3, .inl 2, .inl 4, .inl 1, .inl 0], (.tup [(.int 0), (.int 1), (.int 0), (.int 2), (.int 1), (.int 0), (.int 3), (.int 2)])), ([.inl 2, .inl 4, .inl 3, .inl 1, .inl 0], (.tup [(.int 0), (.int 1), (.int 0), (.int 2), (.int 1), (.int 3), (.int 2), (.int 1)])), ([.inl 4, .inl 2, .inl 1, .inl 3, .inl 0], (.tup [(.int 0), (.int 1), (.int 0), (.int 2), (.int 3), (.int 2), (.int 1), (.int 0)])), ([.inl 3, .inl 4, .inl 1, .inl 2, .inl 0], (.tup [(.int 0), (.int 1), (.int 2), (.int 1), (.int 0), (.int 3), (.int 2), (.int 1)])), ([.inl 4, .inl 1, .inl 3, .inl 2, .inl 0], (.tup [(.int 0), (.int 1), (.int 2), (.int 1), (.int 3), (.int 2), (.int 1), (.int 0)])), ([.inl 4, .inl 3, .inl 1, .inl 0, .inl 2], (.tup [(.int 0), (.int 2), (.int 1), (.int 0), (.int 3), (.int 2), (.int 1), (.int 0)])), ([.inl 3, .inl 4, .inl 2, .inl 0, .inl 1], (.tup [(.int 1), (.int 0), (.int 2), (.int 1), (.int 0), (.int 3), (.int 2), (.int 1)])), ([.inl 4, .inl 2, .inl 3, .inl 0, .inl 1], (.tup [(.int 1), (.int 0), (.int 2), (.int 1), (.int 3), (.int 2), (.int 1), (.int 0)])), ([.inl 4, .inl 3, .inl 0, .inl 2, .inl 1], (.tup [(.int 1), (.int 2), (.int 1), (.int 0), (.int 3), (.int 2), (.int 1), (.int 0)])), ([.inl 3, .inl 4, .inl 2, .inl 1, .inl 0], (.tup [(.int 0), (.int 1), (.int 0), (.int 2), (.int 1), (.int 0), (.int 3), (.int 2), (.int 1)])), ([.inl 4, .inl 2, .inl 3, .inl 1, .inl 0], (.tup [(.int 0), (.int 1), (.int 0), (.int 2), (.int 1), (.int 3), (.int 2), (.int 1), (.int 0)])), ([.inl 4, .inl 3, .inl 1, .inl 2, .inl 0], (.tup [(.int 0), (.int 1), (.int 2), (.int 1), (.int 0), (.int 3), (.int 2), (.int 1), (.int 0)])), ([.inl 4, .inl 3, .inl 2, .inl 0, .inl 1], (.tup [(.int 1), (.int 0), (.int 2), (.int 1), (.int 0), (.int 3), (.int 2), (.int 1), (.int 0)]))]), some (.d (.lst [(.tup [(.int 3), (.int 4), (.int 2), (.int 1), (.int 0)]), (.tup [(.int 4), (.int 2), (.int 3), (.int 1), (.int 0)]), (.tup [(.int 4), (.int 3), (.int 1), (.int 2), (.int 0)]), (.tup [(.int 4), (.int 3), (.int 2), (.int 0), (.int 1)])])), some (.d (.lst [(.tup [(.int 3), (.int 4), (.int 2), (.int 1), (.int 0)]), (.tup [(.int 4), (.int 2), (.int 3), (.int 1), (.int 0)]), (.tup [(.int 4), (.int 3), (.int 1), (.int 2), (.int 0)]), (.tup [(.int 4), (.int 3), (.int 2), (.int 0), (.int 1)])])), some (.d (.tup [(.int 4), (.int 3), (.int 0), (.int 2), (.int 1)])), some (.d (.int 3)), some (.d (.tup [(.int 4), (.int 3), (.int 0), (.int 1), (.int 2)]))]
def c5_10 (x : D) : Sg := [some (.d (.int 5)), some (.d x), some (.d (.tup [(.int 0), (.int 1), (.int 2), (.int 3), (.int 4)])), some (.ft [([.inl 0, .inl 1, .inl 2, .inl 3, .inl 4], (.tup [])), ([.inl 1, .inl 0, .inl 2, .inl 3, .inl 4], (.tup [(.int 0)])), ([.inl 0, .inl 2, .inl 1, .inl 3, .inl 4], (.tup [(.int 1)])), ([.inl 0, .inl 1, .inl 3, .inl 2, .inl 4], (.tup [(.int 2)])), ([.inl 0, .inl 1, .inl 2, .inl 4, .inl 3], (.tup [(.int 3)])), ([.inl 1, .inl 2, .inl 0, .inl 3, .inl 4], (.tup [(.int 0), (.int 1)])), ([.inl 1, .inl 0, .inl 3, .inl 2, .inl 4], (.tup [(.int 0), (.int 2)])), ([.inl 1, .inl 0, .inl 2, .inl 4, .inl 3], (.tup [(.int 0), (.int 3)])), ([.inl 2, .inl 0, .inl 1, .inl 3, .inl 4], (.tup [(.int 1), (.int 0)])), ([.inl 0, .inl 2, .inl 3, .inl 1, .inl 4], (.tup [(.int 1), (.int 2)])), ([.inl 0, .inl 2, .inl 1, .inl 4, .inl 3], (.tup [(.int 1), (.int 3)])), ([.inl 0, .inl 3, .inl 1, .inl 2, .inl 4], (.tup [(.int 2), (.int 1)])), ([.inl 0, .inl 1, .inl 3, .inl 4, .inl 2], (.tup [(.int 2), (.int 3)])), ([.inl 0, .inl 1, .inl 4, .inl 2, .inl 3], (.tup [(.int 3), (.int 2)])), ([.inl 2, .inl 1, .inl 0, .inl 3, .inl 4], (.tup [(.int 0), (.int 1), (.int 0)])), ([.inl 1, .inl 2, .inl 3, .inl 0, .inl 4], (.tup [(.int 0), (.int 1), (.int 2)])), ([.inl 1, .inl 2, .inl 0, .inl 4, .inl 3], (.tup [(.int 0), (.int 1), (.int 3)])), ([.inl 1, .inl 3, .inl 0, .inl 2, .inl 4], (.tup [(.int 0), (.int 2), (.int 1)])), ([.inl 1, .inl 0, .inl 3, .inl 4, .inl 2], (.tup [(.int 0), (.int 2), (.int 3)])), ([.inl 1, .inl 0, .inl 4, .inl 2, .inl 3], (.tup [(.int 0), (.int 3), (.int 2)])), ([.inl 2, .inl 0, .inl 3, .inl 1, .inl 4], (.tup [(.int 1), (.int 0), (.int 2)])), ([.inl 2, .inl 0, .inl 1, .inl 4, .inl 3], (.tup [(.int 1), (.int 0), (.int 3)])), ([.inl 0, .inl 3, .inl 2, .inl 1, .inl 4], (.tup [(.int 1), (.int 2), (.int 1)])), ([.inl 0, .inl 2, .inl 3, .inl 4, .inl 1], (.tup [(.int 1), (.int 2), (.int 3)])), ([.inl 0, .inl 2, .inl 4, .inl 1, .inl 3], (.tup [(.int 1), (.int 3), (.int 2)])), ([.inl 3, .inl 0, .inl 1, .inl 2, .inl 4], (.tup [(.int 2), (.int 1), (.int 0)])), ([.inl 0, .inl 3, .inl 1, .inl 4, .inl 2], (.tup [(.int 2), (.int 1), (.int 3)])), ([.inl 0, .inl 1, .inl 4, .inl 3, .inl 2], (.tup [(.int 2), (.int 3), (.int 2)])), ([.inl 0, .inl 4, .inl 1, .inl 2, .inl 3], (.tup [(.int 3), (.int 2), (.int 1)])), ([.inl 2, .inl 1, .inl 3, .inl 0, .inl 4], (.tup [(.int 0), (.int 1), (.int 0), (.int 2)])), ([.inl 2, .inl 1, .inl 0, .inl 4, .inl 3], (.tup [(.int 0), (.int 1), (.int 0), (.int 3)])), ([.inl 1, .inl 3, .inl 2, .inl 0, .inl 4], (.tup [(.int 0), (.int 1), (.int 2), (.int 1)])), ([.inl 1, .inl 2, .inl 3, .inl 4, .inl 0], (.tup [(.int 0), (.int 1), (.int 2), (.int 3)])), ([.inl 1, .inl 2, .inl 4, .inl 0, .inl 3], (.tup [(.int 0), (.int 1), (.int 3), (.int 2)])), ([.inl 3, .inl 1, .inl 0, .inl 2, .inl 4], (.tup [(.int 0), (.int 2), (.int 1), (.int 0)])), ([.inl 1, .inl 3, .inl 0, .inl 4, .inl 2], (.tup [(.int 0), (.int 2), (.int 1), (.int 3)])), ([.inl 1, .inl 0, .inl 4, .inl 3, .inl 2], (.tup [(.int 0), (.int 2), (.int 3), (.int 2)])), ([.inl 1, .inl 4, .inl 0, .inl 2, .inl 3], (.tup [(.int 0), (.int 3), (.int 2), (.int 1)])), ([.inl 2, .inl 3, .inl 0, .inl 1, .inl 4], (.tup [(.int 1), (.int 0), (.int 2), (.int 1)])), ([.inl 2, .inl 0, .inl 3, .inl 4, .inl 1], (.tup [(.int 1), (.int 0), (.int 2), (.int 3)])), ([.inl 2, .inl 0, .inl 4, .inl 1, .inl 3], (.tup [(.int 1), (.int 0), (.int 3), (.int 2)])), ([.inl 3, .inl 0, .inl 2, .inl 1, .inl 4], (.tup [(.int 1), (.int 2), (.int 1), (.int 0)])), ([.inl 0, .inl 3, .inl 2, .inl 4, .inl 1], (.tup [(.int 1), (.int 2), (.int 1), (.int 3)])), ([.inl 0, .inl 2, .inl 4, .inl 3, .inl 1], (.tup [(.int 1), (.int 2), (.int 3), (.int 2)])), ([.inl 0, .inl 4, .inl 2, .inl 1, .inl 3], (.tup [(.int 1), (.int 3), (.int 2), (.int 1)])), ([.inl 3, .inl 0, .inl 1, .inl 4, .inl 2], (.tup [(.int 2), (.int 1), (.int 0), (.int 3)])), ([.inl 0, .inl 3, .inl 4, .inl 1, .inl 2], (.tup [(.int 2), (.int 1), (.int 3), (.int 2)])), ([.inl 0, .inl 4, .inl 1, .inl 3, .inl 2], (.tup [(.int 2), (.int 3), (.int 2), (.int 1)])), ([.inl 4, .inl 0, .inl 1, .inl 2, .inl 3], (.tup [(.int 3), (.int 2), (.int 1), (.int 0)])), ([.inl 2, .inl 3, .inl 1, .inl 0, .inl 4], (.tup [(.int 0), (.int 1), (.int 0), (.int 2), (.int 1)])), ([.inl 2, .inl 1, .inl 3, .inl 4, .inl 0], (.tup [(.int 0), (.int 1), (.int 0), (.int 2), (.int 3)])), ([.inl 2, .inl 1, .inl 4, .inl 0, .inl 3], (.tup [(.int 0), (.int 1), (.int 0), (.int 3), (.int 2)])), ([.inl 3, .inl 1, .inl 2, .inl 0, .inl 4], (.tup [(.int 0), (.int 1), (.int 2), (.int 1), (.int 0)])), ([.inl 1, .inl 3, .inl 2, .inl 4, .inl 0], (.tup [(.int 0), (.int 1), (.int 2), (.int 1), (.int 3)])), ([.inl 1, .inl 2, .inl 4, .inl 3, .inl 0], (.tup [(.int 0), (.int 1), (.int 2), (.int 3), (.int 2)])), ([.inl 1, .inl 4, .inl 2, .inl 0, .inl 3], (.tup [(.int 0), (.int 1), (.int 3), (.int 2), (.int 1)])), ([.inl 3, .inl 1, .inl 0, .inl 4, .inl 2], (.tup [(.int 0), (.int 2), (.int 1), (.int 0), (.int 3)])), ([.inl 1, .inl 3, .inl 4, .inl 0, .inl 2], (.tup [(.int 0), (.int 2), (.int 1), (.int 3), (.int 2)])), ([.inl 1, .inl 4, .inl 0, .inl 3, .inl 2], (.tup [(.int 0), (.int 2), (.int 3), (.int 2), (.int 1)])), ([.inl 4, .inl 1, .inl 0, .inl 2, .inl 3], (.tup [(.int 0), (.int 3), (.int 2), (.int 1), (.int 0)])), ([.inl 3, .inl 2, .inl 0, .inl 1, .inl 4], (.tup [(.int 1), (.int 0), (.int 2), (.int 1), (.int 0)])), ([.inl 2, .inl 3, .inl 0, .inl 4, .inl 1], (.tup [(.int 1), (.int 0), (.int 2), (.int 1), (.int 3)])), ([.inl 2, .inl 0, .inl 4, .inl 3, .inl 1], (.tup [(.int 1), (.int 0), (.int 2), (.int 3), (.int 2)])), ([.inl 2, .inl 4, .inl 0, .inl 1, .inl 3], (.tup [(.int 1), (.int 0), (.int 3), (.int 2), (.int 1)])), ([.inl 3, .inl 0, .inl 2, .inl 4, .inl 1], (.tup [(.int 1), (.int 2), (.int 1), (.int 0), (.int 3)])), ([.inl 0, .inl 3, .inl 4, .inl 2, .inl 1], (.tup [(.int 1), (.int 2), (.int 1), (.int 3), (.int 2)])), ([.inl 0, .inl 4, .inl 2, .inl 3, .inl 1], (.tup [(.int 1), (.int 2), (.int 3), (.int 2), (.int 1)])), ([.inl 4, .inl 0, .inl 2, .inl 1, .inl 3], (.tup [(.int 1), (.int 3), (.int 2), (.int 1), (.int 0)])), ([.inl 3, .inl 0, .inl 4, .inl 1, .inl 2], (.tup [(.int 2), (.int 1), (.int 0), (.int 3), (.int 2)])), ([.inl 0, .inl 4, .inl 3, .inl 1, .inl 2], (.tup [(.int 2), (.int 1), (.int 3), (.int 2), (.int 1)])), ([.inl 4, .inl 0, .inl 1, .inl 3, .inl 2], (.tup [(.int 2), (.int 3), (.int 2), (.int 1), (.int 0)])), ([.inl 3, .inl 2, .inl 1, .inl 0, .inl 4], (.tup [(.int 0), (.int 1), (.int 0), (.int 2), (.int 1), (.int 0)])), ([.inl 2, .inl 3, .inl 1, .inl 4, .inl 0], (.tup [(.int 0), (.int 1), (.int 0), (.int 2), (.int 1), (.int 3)])), ([.inl 2, .inl 1, .inl 4, .inl 3, .inl 0], (.tup [(.int 0), (.int 1), (.int 0), (.int 2), (.int 3), (.int 2)])), ([.inl 2, .inl 4, .inl 1, .inl 0, .inl 3], (.tup [(.int 0), (.int 1), (.int 0), (.int 3), (.int 2), (.int 1)])), ([.inl 3, .inl 1, .inl 2, .inl 4, .inl 0], (.tup [(.int 0), (.int 1), (.int 2), (.int 1), (.int 0), (.int 3)])), ([.inl 1, .inl 3, .inl 4, .inl 2, .inl 0], (.tup [(.int 0), (.int 1), (.int 2), (.int 1), (.int 3), (.int 2)])), ([.inl 1, .inl 4, .inl 2, .inl 3, .inl 0], (.tup [(.int 0), (.int 1), (.int 2), (.int 3), (.int 2), (.int 1)])), ([.inl 4, .inl 1, .inl 2, .inl 0, .inl 3], (.tup [(.int 0), (.int 1), (.int 3), (.int 2), (.int 1), (.int 0)])), ([.inl 3, .inl 1, .inl 4, .inl 0, .inl 2], (.tup [(.int 0), (.int 2), (.int 1), (.int 0), (.int 3), (.int 2)])), ([.inl 1, .inl 4, .inl 3, .inl 0, .inl 2], (.tup [(.int 0), (.int 2), (.int 1), (.int 3), (.int 2), (.int 1)])), ([.inl 4, .inl 1, .inl 0, .inl 3, .inl 2], (.tup [(.int 0), (.int 2), (.int 3), (.int 2), (.int 1), (.int 0)])), ([.inl 3, .inl 2, .inl 0, .inl 4, .inl 1], (.tup [(.int 1), (.int 0), (.int 2), (.int 1), (.int 0), (.int 3)])), ([.inl 2, .inl 3, .inl 4, .inl 0, .inl 1], (.tup [(.int 1), (.int 0), (.int 2), (.int 1), (.int 3), (.int 2)])), ([.inl 2, .inl 4, .inl 0, .inl 3, .inl 1], (.tup [(.int 1), (.int 0), (.int 2), (.int 3), (.int 2), (.int 1)])), ([.inl 4, .inl 2, .inl 0, .inl 1, .inl 3], (.tup [(.int 1), (.int 0), (.int 3), (.int 2), (.int 1), (.int 0)])), ([.inl 3, .inl 0, .inl 4, .inl 2, .inl 1], (.tup [(.int 1), (.int 2), (.int 1), (.int 0), (.int 3), (.int 2)])), ([.inl 0, .inl 4, .inl 3, .inl 2, .inl 1], (.tup [(.int 1), (.int 2), (.int 1), (.int 3), (.int 2), (.int 1)])), ([.inl 4, .inl 0, .inl 2, .inl 3, .inl 1], (.tup [(.int 1), (.int 2), (.int 3), (.int 2), (.int 1), (.int 0)])), ([.inl 3, .inl 4, .inl 0, .inl 1, .inl 2], (.tup [(.int 2), (.int 1), (.int 0), (.int 3), (.int 2), (.int 1)])), ([.inl 4, .inl 0, .inl 3, .inl 1, .inl 2], (.tup [(.int 2), (.int 1), (.int 3), (.int 2), (.int 1), (.int 0)])), ([.inl 3, .inl 2, .inl 1, .inl 4, .inl 0], (.tup [(.int 0), (.int 1), (.int 0), (.int 2), (.int 1), (.int 0), (.int 3)])), ([.inl 2, .inl 3, .inl 4, .inl 1, .inl 0], (.tup [(.int 0), (.int 1), (.int 0), (.int 2), (.int 1), (.int 3), (.int 2)])), ([.inl 2, .inl 4, .inl 1, .inl 3, .inl 0], (.tup [(.int 0), (.int 1), (.int 0), (.int 2), (.int 3), (.int 2), (.int 1)])), ([.inl 4, .inl 2, .inl 1, .inl 0, .inl 3], (.tup [(.int 0), (.int 1), (.int 0), (.int 3), (.int 2), (.int 1), (.int 0)])), ([.inl 3, .inl 1, .inl 4, .inl 2, .inl 0], (.tup [(.int 0), (.int 1), (.int 2), (.int 1), (.int 0), (.int 3), (.int 2)])), ([.inl 1, .inl 4, .inl 3, .inl 2, .inl 0], (.tup [(.int 0), (.int 1), (.int 2), (.int 1), (.int 3), (.int 2), (.int 1)])), ([.inl 4, .inl 1, .inl 2, .inl 3, .inl 0], (.tup [(.int 0), (.int 1), (.int 2), (.int 3), (.int 2), (.int 1), (.int 0)])), ([.inl 3, .inl 4, .inl 1, .inl 0, .inl 2], (.tup [(.int 0), (.int 2), (.int 1), (.int 0), (.int 3), (.int 2), (.int 1)])), ([.inl 4, .inl 1, .inl 3, .inl 0, .inl 2], (.tup [(.int 0), (.int 2), (.int 1), (.int 3), (.int 2), (.int 1), (.int 0)])), ([.inl 3, .inl 2, .inl 4, .inl 0, .inl 1], (.tup [(.int 1), (.int 0), (.int 2), (.int 1), (.int 0), (.int 3), (.int 2)])), ([.inl 2, .inl 4, .inl 3, .inl 0, .inl 1], (.tup [(.int 1), (.int 0), (.int 2), (.int 1), (.int 3), (.int 2), (.int 1)])), ([.inl 4, .inl 2, .inl 0, .inl 3, .inl 1], (.tup [(.int 1), (.int 0), (.int 2), (.int 3), (.int 2), (.int 1), (.int 0)])), ([.inl 3, .inl 4, .inl 0, .inl 2, .inl 1], (.tup [(.int 1), (.int 2), (.int 1), (.int 0), (.int 3), (.int 2), (.int 1)])), ([.inl 4, .inl 0, .inl 3, .inl 2, .inl 1], (.tup [(.int 1), (.int 2), (.int 1), (.int 3), (.int 2), (.int 1), (.int 0)])), ([.inl 4, .inl 3, .inl 0, .inl 1, .inl 2], (.tup [(.int 2), (.int 1), (.int 0), (.int 3), (.int 2), (.int 1), (.int 0)])), ([.inl 3, .inl 2, .inl 4, .inl 1, .inl 0], (.tup [(.int 0), (.int 1), (.int 0), (.int 2), (.int 1), (.int 0), (.int 3), (.int 2)])), ([.inl 2, .inl 4, .inl 3, .inl 1, .inl 0], (.tup [(.int 0), (.int 1), (.int 0), (.int 2), (.int 1), (.int 3), (.int 2), (.int 1)])), ([.inl 4, .inl 2, .inl 1, .inl 3, .inl 0], (.tup [(.int 0), (.int 1), (.int 0), (.int 2), (.int 3), (.int 2), (.int 1), (.int 0)])), ([.inl 3, .inl 4, .inl 1, .inl 2, .inl 0], (.tup [(.int 0), (.int 1), (.int 2), (.int 1), (.int 0), (.int 3), (.int 2), (.int 1)])), ([.inl 4, .inl 1, .inl 3, .inl 2, .inl 0], (.tup [(.int 0), (.int 1), (.int 2), (.int 1), (.int 3), (.int 2), (.int 1), (.int 0)])), ([.inl 4, .inl 3, .inl 1, .inl 0, .inl 2], (.tup [(.int 0), (.int 2), (.int 1), (.int 0), (.int 3), (.int 2), (.int 1), (.int 0)])), ([.inl 3, .inl 4, .inl 2, .inl 0, .inl 1], (.tup [(.int 1), (.int 0), (.int 2), (.int 1), (.int 0), (.int 3), (.int 2), (.int 1)])), ([.inl 4, .inl 2, .inl 3, .inl 0, .inl 1], (.tup [(.int 1), (.int 0), (.int 2), (.int 1), (.int 3), (.int 2), (.int 1), (.int 0)])), ([.inl 4, .inl 3, .inl 0, .inl 2, .inl 1], (.tup [(.int 1), (.int 2), (.int 1), (.int 0), (.int 3), (.int 2), (.int 1), (.int 0)])), ([.inl 3, .inl 4, .inl 2, .inl 1, .inl 0], (.tup [(.int 0), (.int 1), (.int 0), (.int 2), (.int 1), (.int 0), (.int 3), (.int 2), (.int 1)])), ([.inl 4, .inl 2, .inl 3, .inl 1, .inl 0], (.tup [(.int 0), (.int 1), (.int 0), (.int 2), (.int 1), (.int 3), (.int 2), (.int 1), (.int 0)])), ([.inl 4, .inl 3, .inl 1, .inl 2, .inl 0], (.tup [(.int 0), (.int 1), (.int 2), (.int 1), (.int 0), (.int 3), (.int 2), (.int 1), (.int 0)])), ([.inl 4, .inl 3, .inl 2, .inl 0, .inl 1], (.tup [(.int 1), (.int 0), (.int 2), (.int 1), (.int 0), (.int 3), (.int 2), (.int 1), (.int 0)])), ([.inl 4, .inl 3, .inl 2, .inl 1, .inl 0], (.tup [(.int 0), (.int 1), (.int 0), (.int 2), (.int 1), (.int 0), (.int 3), (.int 2), (.int 1), (.int 0)]))]), some (.d (.lst [(.tup [(.int 4), (.int 3), (.int 2), (.int 1), (.int 0)])])), some (.d (.lst [(.tup [(.int 4), (.int 3), (.int 2), (.int 1), (.int 0)])])), some (.d (.tup [(.int 4), (.int 3), (.int 2), (.int 0), (.int 1)])), some (.d (.int 3)), some (.d (.tup [(.int 4), (.int 3), (.int 2), (.int 1), (.int 0)]))]
theorem r5_0 (x : D) : runs 0 (callN P 0 5) wb (c5_0 x) = .nx (c5_1 x) := by kernel_rfl
theorem r5_1 (x : D) : runs 0 (callN P 0 5) wb (c5_1 x) = .nx (c5_2 x) := by kernel_rfl
theorem r5_2 (x : D) : runs 0 (callN P 0 5) wb (c5_2 x) = .nx (c5_3 x) := by kernel_rfl
theorem r5_3 (x : D) : runs 0 (callN P 0 5) wb (c5_3 x) = .nx (c5_4 x) := by kernel_rfl
theorem r5_4 (x : D) : runs 0 (callN P 0 5) wb (c5_4 x) = .nx (c5_5 x) := by kernel_rfl
theorem r5_5 (x : D) : runs 0 (callN P 0 5) wb (c5_5 x) = .nx (c5_6 x) := by kernel_rfl
theorem r5_6 (x : D) : runs 0 (callN P 0 5) wb (c5_6 x) = .nx (c5_7 x) := by kernel_rfl
theorem r5_7 (x : D) : runs 0 (callN P 0 5) wb (c5_7 x) = .nx (c5_8 x) := by kernel_rfl
theorem r5_8 (x : D) : runs 0 (callN P 0 5) wb (c5_8 x) = .nx (c5_9 x) := by kernel_rfl
theorem r5_9 (x : D) : runs 0 (callN P 0 5) wb (c5_9 x) = .nx (c5_10 x) := by kernel_rfl
def cc (x : D) : Nat → Sg
  | 0 => c5_0 x
  | 1 => c5_1 x
  | 2 => c5_2 x
  | 3 => c5_3 x
  | 4 => c5_4 x
  | 5 => c5_5 x
  | 6 => c5_6 x
  | 7 => c5_7 x
  | 8 => c5_8 x
  | 9 => c5_9 x
  | _ => c5_10 x
theorem r5 (x : D) : ∀ t, t < 10 → runs 0 (callN P 0 5) wb (cc x t) = .nx (cc x (t + 1))
  | 0, _ => r5_0 x
  | 1, _ => r5_1 x
  | 2, _ => r5_2 x
  | 3, _ => r5_3 x
  | 4, _ => r5_4 x
  | 5, _ => r5_5 x
  | 6, _ => r5_6 x
  | 7, _ => r5_7 x
  | 8, _ => r5_8 x
  | 9, _ => r5_9 x
  | n + 10, h => absurd h (by omega)
def kn (s : Sg) : List (List L2.Key × D) := match s[3]? with
  | some (some (W.ft k)) => k
  | _ => []
def ky (o : List Int) : List L2.Key := o.map Sum.inl
theorem tkey_in (o : List Int) : tkeyD (tIn o) = some (ky o) := by
  show keysD (o.map D.int) = some (o.map Sum.inl)
  induction o with
  | nil => rfl
  | cons a l ih =>
    show (match keyD (.int a), keysD (l.map D.int) with
      | some k, some ks => some (k :: ks)
      | _, _ => none) = _
    rw [ih]; rfl
def wc : Ex := .cmp .notin (.var 1) (.var 3)
theorem tst_in (cl : Calls) (σ : Sg) (o : List Int) (k : List (List L2.Key × D)) (h1 : σ[1]? = some (some (.d (tIn o)))) (h3 : σ[3]? = some (some (.ft k))) : tst wc (ev 0 cl wc) σ = .ok (!(dget k (ky o)).isSome) σ := by
  have a1 : opd (.var 1) (ev 0 cl (.var 1)) σ = .ok (.ref 1) σ := by simp only [opd, h1]
  have a3 : opd (.var 3) (ev 0 cl (.var 3)) σ = .ok (.ref 3) σ := by simp only [opd, h3]
  have r1 : rd σ (.ref 1) = some (tIn o) := by simp only [rd, h1, W.toD]
  have r3 : rd σ (.ref 3) = some (.dt k) := by simp only [rd, h3, W.toD]
  have e : ev 0 cl wc σ = .ok (.d (.bl (!(dget k (ky o)).isSome))) σ := by
    show R.bind (opd (.var 1) (ev 0 cl (.var 1)) σ) _ = _
    rw [a1, R.bind_ok, a3, R.bind_ok, r1, r3]
    show ofO (((tkeyD (tIn o)).map fun k' => (dget k k').isSome).map (!·) |>.map fun b => W.d (D.bl b)) σ = _
    rw [tkey_in]; rfl
  show R.bind (R.bind (ev 0 cl wc σ) _) _ = _
  rw [e]; rfl
theorem c5_1' (x : D) : ∀ t, (cc x t)[1]? = some (some (.d x))
  | 0 => rfl
  | 1 => rfl
  | 2 => rfl
  | 3 => rfl
  | 4 => rfl
  | 5 => rfl
  | 6 => rfl
  | 7 => rfl
  | 8 => rfl
  | 9 => rfl
  | _ + 10 => rfl
theorem c5_3' (x : D) : ∀ t, (cc x t)[3]? = some (some (.ft (kn (cc .non t))))
  | 0 => rfl
  | 1 => rfl
  | 2 => rfl
  | 3 => rfl
  | 4 => rfl
  | 5 => rfl
  | 6 => rfl
  | 7 => rfl
  | 8 => rfl
  | 9 => rfl
  | _ + 10 => rfl
def inAt (o : List Int) (t : Nat) : Bool := (dget (kn (cc .non t)) (ky o)).isSome
theorem loop5 (o : List Int) : ∀ (d t m : Nat), t + d ≤ 10 → (∀ s, t ≤ s → s < t + d → inAt o s = false) → inAt o (t + d) = true → d < m → whL (tst wc (ev 0 (callN P 0 5) wc)) (runs 0 (callN P 0 5) wb) m (cc (tIn o) t) = .nx (cc (tIn o) (t + d))
  | 0, t, m, _, _, h1, hm => by
    obtain ⟨m, rfl⟩ : ∃ j, m = j + 1 := ⟨m - 1, by omega⟩
    rw [whL, tst_in _ _ o _ (c5_1' _ t) (c5_3' _ t)]
    have : (dget (kn (cc .non t)) (ky o)).isSome = true := h1
    rw [this]; rfl
  | d + 1, t, m, hd, h0, h1, hm => by
    obtain ⟨m, rfl⟩ : ∃ j, m = j + 1 := ⟨m - 1, by omega⟩
    rw [whL, tst_in _ _ o _ (c5_1' _ t) (c5_3' _ t)]
    have : (dget (kn (cc .non t)) (ky o)).isSome = false := h0 t (Nat.le_refl _) (by omega)
    rw [this]
    simp only [Bool.not_false]
    rw [r5 _ t (by omega)]
    have e : t + (d + 1) = (t + 1) + d := by omega
    rw [e]
    exact loop5 o d (t + 1) m (by omega) (fun s h1 h2 => h0 s (by omega) (by omega)) (by rw [← e]; exact h1) (by omega)
end Lw
namespace Lw
open Cl
/-! all orders of one to five pieces, one by one -/
def ORD (n : Nat) : List (List Int) := dr n ((List.range n).map Int.ofNat) []
def swp (o : List Int) (a : Nat) : List Int := o.take a ++ ([o.getD (a + 1) 0, o.getD a 0] ++ o.drop (a + 2))
def pos (o : List Int) (x : Int) : Nat := o.findIdx (· == x)
def swF (o : List Int) : Nat → List Int → List Int → List Int
  | 0, _, f => f
  | k + 1, here, f => if here == o then f else match (List.range (here.length - 1)).find? (fun p => decide (pos o (here.getD p 0) > pos o (here.getD (p + 1) 0))) with
    | some a => swF o k (swp here a) (f ++ [(a : Int)])
    | none => f
def begin_ (n : Nat) : List Int := (List.range n).map Int.ofNat
def sw (n : Nat) (o : List Int) : List Int := swF o 12 (begin_ n) []
def sizes : List Nat := [1, 2, 3, 4, 5]
theorem len5 : (ORD 5).length = 120 := by decide +kernel
/-- the parts of w, from part i on, c parts -/
def Parts (f : List Int → Bool) (L : List (List Int)) (w : Nat) : Nat → Nat → Prop
  | _, 0 => True
  | i, c + 1 => (((L.drop (w * i)).take w).all f) = true ∧ Parts f L w (i + 1) c
theorem parts_all {f : List Int → Bool} {L : List (List Int)} {w : Nat} : ∀ {c i : Nat}, Parts f L w i c → L.length ≤ w * (i + c) → ((L.drop (w * i)).all f) = true
  | 0, i, _, h => by
    rw [List.drop_eq_nil_of_le (by simpa using h)]; rfl
  | c + 1, i, h, hl => by
    have ih := parts_all (c := c) (i := i + 1) h.2 (by rw [show i + 1 + c = i + (c + 1) by omega]; exact hl)
    rw [← List.take_append_drop w (L.drop (w * i)), List.all_append, h.1, List.drop_drop, show w * i + w = w * (i + 1) by rw [Nat.mul_add, Nat.mul_one], ih]
    rfl
theorem all_sizes {F : Nat → List Int → Bool} (hs : (([1, 2, 3] : List Nat).all fun n => (ORD n).all fun o => F n o) = true) (h4 : ((ORD 4).all fun o => F 4 o) = true) (h5 : ((ORD 5).all fun o => F 5 o) = true) : (sizes.all fun n => (ORD n).all fun o => F n o) = true := by
  simp only [sizes, List.all_cons, List.all_nil, Bool.and_true] at hs ⊢
  rw [h4, h5]
  simpa using hs
theorem all_parts (w c : Nat) {F : List Int → Bool} (h : Parts F (ORD 5) w 0 c) (hl : 120 ≤ w * c := by decide) : ((ORD 5).all F) = true := by
  have := parts_all h (by rw [len5, Nat.zero_add]; exact hl)
  simpa using this
def kAF (n : Nat) (o : List Int) : Bool := resIs (callN P 0 6 6 [.d (tIn o)]) (tIn (sw n o))
theorem kA_s : (([1, 2, 3] : List Nat).all fun n => (ORD n).all fun o => kAF n o) = true := by decide +kernel
theorem kA_4 : ((ORD 4).all fun o => kAF 4 o) = true := by decide +kernel
theorem kA_5_0 : ((((ORD 5).drop 0).take 24).all fun o => kAF 5 o) = true := by decide +kernel
theorem kA_5_1 : ((((ORD 5).drop 24).take 24).all fun o => kAF 5 o) = true := by decide +kernel
theorem kA_5_2 : ((((ORD 5).drop 48).take 24).all fun o => kAF 5 o) = true := by decide +kernel
theorem kA_5_3 : ((((ORD 5).drop 72).take 24).all fun o => kAF 5 o) = true := by decide +kernel
theorem kA_5_4 : ((((ORD 5).drop 96).take 24).all fun o => kAF 5 o) = true := by decide +kernel
theorem kA : (sizes.all fun n => (ORD n).all fun o => kAF n o) = true := all_sizes kA_s kA_4 (all_parts 24 5 ⟨kA_5_0, kA_5_1, kA_5_2, kA_5_3, kA_5_4, trivial⟩)
def kCF (n : Nat) (o : List Int) : Bool := resIs (callN P 0 6 8 [.d (.int n), .d (tIn (sw n o))]) (tIn o)
theorem kC_s : (([1, 2, 3] : List Nat).all fun n => (ORD n).all fun o => kCF n o) = true := by decide +kernel
theorem kC_4 : ((ORD 4).all fun o => kCF 4 o) = true := by decide +kernel
theorem kC_5_0 : ((((ORD 5).drop 0).take 24).all fun o => kCF 5 o) = true := by decide +kernel
theorem kC_5_1 : ((((ORD 5).drop 24).take 24).all fun o => kCF 5 o) = true := by decide +kernel
theorem kC_5_2 : ((((ORD 5).drop 48).take 24).all fun o => kCF 5 o) = true := by decide +kernel
theorem kC_5_3 : ((((ORD 5).drop 72).take 24).all fun o => kCF 5 o) = true := by decide +kernel
theorem kC_5_4 : ((((ORD 5).drop 96).take 24).all fun o => kCF 5 o) = true := by decide +kernel
theorem kC : (sizes.all fun n => (ORD n).all fun o => kCF n o) = true := all_sizes kC_s kC_4 (all_parts 24 5 ⟨kC_5_0, kC_5_1, kC_5_2, kC_5_3, kC_5_4, trivial⟩)
def kEF (n : Nat) (o : List Int) : Bool := resIs (callN P 0 6 11 [.d (.lst [tIn (sw n o), tIn o, .int (sw n o).length]), .d (.lst [tIn (sw n o), tIn o, .int (sw n o).length])]) (.bl true)
theorem kE_s : (([1, 2, 3] : List Nat).all fun n => (ORD n).all fun o => kEF n o) = true := by decide +kernel
theorem kE_4 : ((ORD 4).all fun o => kEF 4 o) = true := by decide +kernel
theorem kE_5_0 : ((((ORD 5).drop 0).take 24).all fun o => kEF 5 o) = true := by decide +kernel
theorem kE_5_1 : ((((ORD 5).drop 24).take 24).all fun o => kEF 5 o) = true := by decide +kernel
theorem kE_5_2 : ((((ORD 5).drop 48).take 24).all fun o => kEF 5 o) = true := by decide +kernel
theorem kE_5_3 : ((((ORD 5).drop 72).take 24).all fun o => kEF 5 o) = true := by decide +kernel
theorem kE_5_4 : ((((ORD 5).drop 96).take 24).all fun o => kEF 5 o) = true := by decide +kernel
theorem kE : (sizes.all fun n => (ORD n).all fun o => kEF n o) = true := all_sizes kE_s kE_4 (all_parts 24 5 ⟨kE_5_0, kE_5_1, kE_5_2, kE_5_3, kE_5_4, trivial⟩)
def kHF (n : Nat) (o : List Int) : Bool := resIs (callN P 0 6 11 [.d (tIn o), .d (tIn o)]) (.bl true)
theorem kH_s : (([1, 2, 3] : List Nat).all fun n => (ORD n).all fun o => kHF n o) = true := by decide +kernel
theorem kH_4 : ((ORD 4).all fun o => kHF 4 o) = true := by decide +kernel
theorem kH_5_0 : ((((ORD 5).drop 0).take 24).all fun o => kHF 5 o) = true := by decide +kernel
theorem kH_5_1 : ((((ORD 5).drop 24).take 24).all fun o => kHF 5 o) = true := by decide +kernel
theorem kH_5_2 : ((((ORD 5).drop 48).take 24).all fun o => kHF 5 o) = true := by decide +kernel
theorem kH_5_3 : ((((ORD 5).drop 72).take 24).all fun o => kHF 5 o) = true := by decide +kernel
theorem kH_5_4 : ((((ORD 5).drop 96).take 24).all fun o => kHF 5 o) = true := by decide +kernel
theorem kH : (sizes.all fun n => (ORD n).all fun o => kHF n o) = true := all_sizes kH_s kH_4 (all_parts 24 5 ⟨kH_5_0, kH_5_1, kH_5_2, kH_5_3, kH_5_4, trivial⟩)
end Lw

namespace Lw
open Cl
theorem kB : (([1, 2, 3, 4] : List Nat).all fun n => (ORD n).all fun o => resIs (callN P 0 6 16 [.d (.int n), .d (tIn o)]) (tIn (sw n o))) = true := by decide +kernel
theorem kF : (sizes.all fun n => (ORD n).all fun o => (List.range (n - 1)).all fun a => resIs (callN P 0 5 4 [.d (tIn o), .d (.int a)]) (tIn (swp o a))) = true := by decide +kernel
theorem kF' : (sizes.all fun n => (ORD n).all fun o => (List.range (n - 1)).all fun a => resIs (callN P 0 5 14 [.d (tIn o), .d (.int a)]) (tIn (swp o a))) = true := by decide +kernel
theorem kG : (sizes.all fun n => (ORD n).all fun o => (List.range (n - 1)).all fun a => (ORD n).contains (swp o a) && (swp (swp o a) a == o)) = true := by decide +kernel
theorem kI : (sizes.all fun n => (ORD n).contains (begin_ n) && (sw n (begin_ n)).isEmpty) = true := by decide +kernel
end Lw

namespace Lw
open Cl
def chkL (o : List Int) : Bool := match (List.range 11).find? (inAt o) with
  | some t => (List.range t).all (fun s => !inAt o s) && (match dget (kn (cc .non t)) (ky o) with
    | some d => sameT d (tIn (sw 5 o))
    | none => false)
  | none => false
theorem kL : ((ORD 5).all chkL) = true := by decide +kernel
end Lw

namespace Lw
open Cl
theorem p16 : P[16]? = some d16.fd := rfl
theorem p17 : P[17]? = some d17.fd := rfl
theorem p8 : P[8]? = some d8.fd := rfl
theorem p15 : P[15]? = some d15.fd := rfl
theorem all_of {n : Nat} (hn : n ∈ sizes) {f : Nat → List Int → Bool} (h : (sizes.all fun n => (ORD n).all fun o => f n o) = true) {o : List Int} (ho : o ∈ ORD n) : f n o = true :=
  List.all_eq_true.mp (List.all_eq_true.mp h n hn) o ho
theorem least_ret (cl : Calls) (σ : Sg) (o : List Int) (k : List (List L2.Key × D)) (d : D) (h1 : σ[1]? = some (some (.d (tIn o)))) (h3 : σ[3]? = some (some (.ft k))) (hd : dget k (ky o) = some d) : runs 0 cl [.ret (.ix (.var 3) (.var 1))] σ = .rt (.d d) σ := by
  have a1 : opd (.var 1) (ev 0 cl (.var 1)) σ = .ok (.ref 1) σ := by simp only [opd, h1]
  have a3 : opd (.var 3) (ev 0 cl (.var 3)) σ = .ok (.ref 3) σ := by simp only [opd, h3]
  have r1 : rd σ (.ref 1) = some (tIn o) := by simp only [rd, h1, W.toD]
  have r3 : rd σ (.ref 3) = some (.dt k) := by simp only [rd, h3, W.toD]
  have e : ev 0 cl (.ix (.var 3) (.var 1)) σ = .ok (.d d) σ := by
    show R.bind (opd (.var 3) (ev 0 cl (.var 3)) σ) _ = _
    rw [a3, R.bind_ok, a1, R.bind_ok, r1, r3]
    show ofO (((tkeyD (tIn o)).bind fun k' => dget k k').map W.d) σ = _
    rw [tkey_in]
    show ofO ((dget k (ky o)).map W.d) σ = _
    rw [hd]; rfl
  show Out.seq (Out.ofR (ev 0 cl (.ix (.var 3) (.var 1)) σ) _) _ = _
  rw [e]; rfl
theorem least_0 (x : D) : runs 0 (callN P 0 5) (b16.take 2) [some (.d (.int 5)), some (.d x), none, none, none, none, none, none, none] = .nx (cc x 0) := by kernel_rfl
theorem least_5 {o : List Int} (ho : o ∈ ORD 5) : callN P 0 6 16 [.d (.int 5), .d (tIn o)] = .ok (.d (tIn (sw 5 o))) [] := by
  have h := List.all_eq_true.mp kL o ho
  unfold chkL at h
  split at h
  · rename_i t ht
    rw [Bool.and_eq_true] at h
    obtain ⟨h1, h2⟩ := h
    split at h2
    · rename_i d hd
      rw [sameT_eq h2] at hd
      have hin : inAt o t = true := List.find?_some ht
      have hlt : t < 11 := List.mem_range.mp (List.mem_of_find?_eq_some ht)
      have hl := loop5 o t 0 1000000 (by omega) (fun s _ hs => by
        have := List.all_eq_true.mp h1 s (List.mem_range.mpr (by omega))
        simpa using this) (by rw [Nat.zero_add]; exact hin) (by omega)
      rw [Nat.zero_add] at hl
      have er : runs 0 (callN P 0 5) b16 [some (.d (.int 5)), some (.d (tIn o)), none, none, none, none, none, none, none] = .rt (.d (tIn (sw 5 o))) (cc (tIn o) t) := by
        rw [runs_at (least_0 (tIn o))]
        have eb : b16.drop 2 = [.whl 1000000 wc wb, .ret (.ix (.var 3) (.var 1))] := rfl
        rw [eb, runs_cons, run_whl, hl]
        exact least_ret _ _ o _ _ (c5_1' _ t) (c5_3' _ t) hd
      exact call_rtE (fd := d16.fd) p16 ⟨rfl, by decide, rfl⟩ rfl rfl er rfl
    · cases h2
  · cases h
theorem least_ok {n : Nat} (hn : n ∈ sizes) {o : List Int} (ho : o ∈ ORD n) : callN P 0 6 16 [.d (.int n), .d (tIn o)] = .ok (.d (tIn (sw n o))) [] := by
  by_cases h5 : n = 5
  · subst h5; exact least_5 ho
  · have hn' : n ∈ ([1, 2, 3, 4] : List Nat) := by
      simp only [sizes, List.mem_cons, List.not_mem_nil, or_false] at hn ⊢
      omega
    exact resIs_eq (List.all_eq_true.mp (List.all_eq_true.mp kB n hn') o ho)
end Lw

namespace Lw
open Cl
abbrev tst0 (h : W) (n : Nat) : Sg := [some h, some (.d (.int n)), none, none, none, none, none, none, none, none, none]
theorem st_0 (cl : Calls) (cs cs' : List Int) (i v s c i' v' s' c' : Int) (n x : D) (e : cl 13 [hnd cs i v s c, .d n] = .ok (.d x) [hnd cs' i' v' s' c']) :
    runs 0 cl (b17.take 1) [some (hnd cs i v s c), some (.d n), none, none, none, none, none, none, none, none, none] = .nx [some (hnd cs' i' v' s' c'), some (.d n), some (.d x), none, none, none, none, none, none, none, none] := by
  simp [b17, runs, run, ev, evAs, callS, ioS, agWs, agW, putBack, Out.ofR, e, own_hnd, setS, W.own]
theorem st_1 (cl : Calls) (h : W) (n x y : D) (e : cl 6 [.d x] = .ok (.d y) []) :
    runs 0 cl ((b17.drop 1).take 2) [some h, some (.d n), some (.d x), none, none, none, none, none, none, none, none] = .nx [some h, some (.d n), some (.d x), some (.d y), some (.d (.int 0)), none, none, none, none, none, none] := by
  simp [b17, runs, run, ev, evAs, callS, ioS, agWs, agW, putBack, Out.ofR, e, setS, W.own]
theorem kD (n : Nat) (hn : n ∈ sizes) : (ORD n).map (fun o => fun (h : W) => runs 0 (callN P 0 6) ((b17.drop 3).take 1) [some h, some (.d (.int n)), some (.d (tIn o)), some (.d (tIn (sw n o))), some (.d (.int 0)), none, none, none, none, none, none]) =
    (ORD n).map fun o => fun h => .nx [some h, some (.d (.int n)), some (.d (tIn o)), some (.d (tIn (sw n o))), some (.d (.int (sw n o).length)), some (.d (.int (n - 1 : Nat))), some (.d (.int (o.getD (n - 1) 0))), none, none, none, none] := by
  simp only [sizes, List.mem_cons, List.not_mem_nil, or_false] at hn
  rcases hn with rfl | rfl | rfl | rfl | rfl <;> kernel_rfl
theorem st_3 {n : Nat} (hn : n ∈ sizes) {o : List Int} (ho : o ∈ ORD n) (h : W) : runs 0 (callN P 0 6) ((b17.drop 3).take 1) [some h, some (.d (.int n)), some (.d (tIn o)), some (.d (tIn (sw n o))), some (.d (.int 0)), none, none, none, none, none, none] =
    .nx [some h, some (.d (.int n)), some (.d (tIn o)), some (.d (tIn (sw n o))), some (.d (.int (sw n o).length)), some (.d (.int (n - 1 : Nat))), some (.d (.int (o.getD (n - 1) 0))), none, none, none, none] :=
  congrFun (List.map_inj_left.mp (kD n hn) o ho) h
theorem len_t (l : List Int) : lenD (tIn l) = some l.length := by simp [lenD, tIn]
theorem st_4 (cl : Calls) (h : W) (n : D) (o s : List Int) (c a p : D) (e8 : cl 8 [.d n, .d (tIn s)] = .ok (.d (tIn o)) []) (e16 : cl 16 [.d n, .d (tIn o)] = .ok (.d (tIn s)) [])
    (e11 : cl 11 [.d (.lst [tIn s, tIn o, .int s.length]), .d (.lst [tIn s, tIn o, .int s.length])] = .ok (.d (.bl true)) []) :
    runs 0 cl ((b17.drop 4).take 1) [some h, some (.d n), some (.d (tIn o)), some (.d (tIn s)), some (.d (.int s.length)), some (.d a), some (.d p), none, none, none, none] = .nx [some h, some (.d n), some (.d (tIn o)), some (.d (tIn s)), some (.d (.int s.length)), some (.d a), some (.d p), none, none, none, none] := by
  simp [b17, runs, run, ev, evAs, evDs, evOs, opd, rds, rd, bltop, len_t, tst, truth, callS, ioS, agWs, agW, putBack, Out.ofR, e8, e16, e11, setS, W.own]
end Lw

namespace Lw
open Cl
theorem p7 : P[7]? = some d7.fd := rfl
theorem p1 : P[1]? = some d1.fd := rfl
/-! ### swaps -/
theorem within_run (cl : Calls) (x lo hi : Int) (h1 : lo ≤ x) (h2 : x ≤ hi) (e : cl 0 [.d (.int x)] = .ok (.d (.bl true)) []) : runs 0 cl b1 [some (.d (.int x)), some (.d (.int lo)), some (.d (.int hi))] = .rt (.d (.bl true)) [some (.d (.int x)), some (.d (.int lo)), some (.d (.int hi))] := by
  simp [b1, runs, run, ev, evAs, opd, rd, callS, ioS, agWs, agW, putBack, Out.ofR, cmpop, e, h1, h2]
theorem isint_ok (k : Nat) (x : Int) : callN P 0 (k + 1) 0 [.d (.int x)] = .ok (.d (.bl true)) [] := rfl
theorem within_ok (k : Nat) (x lo hi : Int) (h1 : lo ≤ x) (h2 : x ≤ hi) : callN P 0 (k + 2) 1 [.d (.int x), .d (.int lo), .d (.int hi)] = .ok (.d (.bl true)) [] :=
  call_rtE (fd := d1.fd) p1 ⟨rfl, by decide, rfl⟩ rfl rfl (within_run _ x lo hi h1 h2 (isint_ok k x)) rfl
theorem are_turn (cl : Calls) (n r : Int) (z : D) (e : cl 1 [.d (.int r), .d (.int 0), .d (.int (n - 2))] = .ok (.d (.bl true)) []) : lcTurn [2] (.nm 2) none (ev 0 cl (.call 1 [.var 2, .con (.int 0), .bin .sub (.var 0) (.con (.int 2))])) (.int r) [some (.d (.int n)), some (.d z), none] = .ok (some (.bl true)) [some (.d (.int n)), some (.d z), none] := by
  simp [lcTurn, asg, wipeS, ev, evAs, opd, rd, callS, ioS, agWs, agW, putBack, binop, e]
theorem are_0 (cl : Calls) (n : Int) (rs : List Int) (h : rs.length ≤ 40) : runs 0 cl (b7.take 1) [some (.d (.int n)), some (.d (tIn rs)), none] = .nx [some (.d (.int n)), some (.d (tIn rs)), none] := by
  have h' : ¬ (40 : Int) < rs.length := by omega
  simp [b7, runs, run, ev, evOs, opd, rds, rd, tst, truth, Out.ofR, cmpop, bltop, lenD, tIn, isiOk, objBelow, isiD, h']
theorem are_ok (k : Nat) (n : Int) (rs : List Int) (h : rs.length ≤ 40) (hr : ∀ r ∈ rs, 0 ≤ r ∧ r ≤ n - 2) : callN P 0 (k + 3) 7 [.d (.int n), .d (tIn rs)] = .ok (.d (.bl true)) [] := by
  have hl := lcL_map (f := lcTurn [2] (.nm 2) (evC 0 (callN P 0 (k + 2)) none) (ev 0 (callN P 0 (k + 2)) (.call 1 [.var 2, .con (.int 0), .bin .sub (.var 0) (.con (.int 2))]))) (g := fun _ => .bl true) (σ := [some (.d (.int n)), some (.d (tIn rs)), none]) (xs := rs.map D.int) (acc := []) (fun x hx => by
    obtain ⟨r, hr', rfl⟩ := List.mem_map.mp hx
    exact are_turn _ n r _ (within_ok k r 0 (n - 2) (hr r hr').1 (hr r hr').2))
  have el := lc_ok (own := [2]) (t := .nm 2) (it := .var 1) (c := none) (e := .call 1 [.var 2, .con (.int 0), .bin .sub (.var 0) (.con (.int 2))]) (nc := 0) (cl := callN P 0 (k + 2)) (σ := [some (.d (.int n)), some (.d (tIn rs)), none]) (σ1 := [some (.d (.int n)), some (.d (tIn rs)), none]) (w := .d (tIn rs)) (xs := rs.map D.int) rfl rfl rfl (by simpa using (by omega : rs.length ≤ 1000)) hl
  have ea := blt1_ok (r := .d (.bl true)) (b := .all) (fun i z => by cases z) el (all_true (ys := [] ++ (rs.map D.int).map fun _ => D.bl true) (fun y hy => by
    rw [List.nil_append] at hy
    obtain ⟨_, _, rfl⟩ := List.mem_map.mp hy
    rfl))
  have er : runs 0 (callN P 0 (k + 2)) b7 [some (.d (.int n)), some (.d (tIn rs)), none] = .rt (.d (.bl true)) [some (.d (.int n)), some (.d (tIn rs)), none] := by
    rw [runs_at (are_0 _ n rs h)]
    show Out.seq (Out.ofR (ev 0 (callN P 0 (k + 2)) (.blt .all [.lc [2] (.nm 2) (.var 1) none (.call 1 [.var 2, .con (.int 0), .bin .sub (.var 0) (.con (.int 2))])]) _) _) _ = _
    rw [ea]; rfl
  exact call_rtE (fd := d7.fd) p7 ⟨rfl, by decide, rfl⟩ rfl rfl er rfl
end Lw

namespace Lw
open Cl
def stp (o : List Int) (r : Int) : List Int := swp o r.toNat
theorem by_turn (cl : Calls) (f : Nat) (n row : Option W) (x y r : D) (e : cl f [.d x, .d r] = .ok (.d y) []) : runs 0 cl [.set 2 (.call f [.var 2, .var 3])] [n, row, some (.d x), some (.d r)] = .nx [n, row, some (.d y), some (.d r)] := by
  simp [runs, run, ev, evAs, callS, ioS, agWs, agW, putBack, Out.ofR, e, setS, W.own]
theorem by_fr (cl : Calls) (f n : Nat) (he : ∀ o ∈ ORD n, ∀ r : Int, 0 ≤ r → r ≤ (n : Int) - 2 → cl f [.d (tIn o), .d (.int r)] = .ok (.d (tIn (stp o r))) []) (hg : ∀ o ∈ ORD n, ∀ r : Int, 0 ≤ r → r ≤ (n : Int) - 2 → stp o r ∈ ORD n)
    (a z : Option W) (rs : List Int) (hl : rs.length ≤ 1000) (hr : ∀ r ∈ rs, 0 ≤ r ∧ r ≤ (n : Int) - 2) (o : List Int) (ho : o ∈ ORD n) :
    ∃ z', run 0 cl (.fr (.nm 3) (.var 1) [.set 2 (.call f [.var 2, .var 3])]) [a, some (.d (tIn rs)), some (.d (tIn o)), z] = .nx [a, some (.d (tIn rs)), some (.d (tIn (rs.foldl stp o))), z'] := by
  obtain ⟨σ', e, rest, o', z', e1, rfl, _, _, e2⟩ := frL_inv (f := fun x σ => match asg (.nm 3) x σ with
      | some σ' => runs 0 cl [.set 2 (.call f [.var 2, .var 3])] σ'
      | none => Out.bad) (I := fun ds σ => ∃ (rest o' : List Int) (z' : Option W), ds = rest.map D.int ∧ σ = [a, some (.d (tIn rs)), some (.d (tIn o')), z'] ∧ o' ∈ ORD n ∧ (∀ r ∈ rest, 0 ≤ r ∧ r ≤ (n : Int) - 2) ∧ rest.foldl stp o' = rs.foldl stp o)
    (xs := rs.map D.int) (σ := [a, some (.d (tIn rs)), some (.d (tIn o)), z]) (fun x r σ ⟨rest, o', z', e1, e2, h1, h2, h3⟩ => by
      cases rest with
      | nil => cases e1
      | cons b rest =>
        simp only [List.map_cons, List.cons.injEq] at e1
        obtain ⟨rfl, rfl⟩ := e1
        subst e2
        obtain ⟨b1, b2⟩ := h2 b List.mem_cons_self
        refine ⟨_, by_turn cl f a _ _ _ _ (he o' h1 b b1 b2), rest, stp o' b, some (.d (.int b)), rfl, rfl, hg o' h1 b b1 b2, fun r hr => h2 r (List.mem_cons_of_mem _ hr), h3⟩) ⟨rs, o, z, rfl, rfl, ho, hr, rfl⟩
  have e3 : rest = [] := by cases rest with
    | nil => rfl
    | cons _ _ => cases e1
  subst e3
  refine ⟨z', ?_⟩
  rw [run_fr]
  have hv : ev 0 cl (.var 1) [a, some (.d (tIn rs)), some (.d (tIn o)), z] = .ok (.d (tIn rs)) [a, some (.d (tIn rs)), some (.d (tIn o)), z] := rfl
  rw [hv, Out.ofR_ok]
  show (if (rs.map D.int).length ≤ PySem.sizeLine then _ else _) = _
  rw [if_pos (by rw [List.length_map, PySem.sizeLine_eq]; omega)]
  refine Eq.trans e ?_
  show Out.nx [a, some (.d (tIn rs)), some (.d (tIn o')), z'] = _
  rw [show o' = rs.foldl stp o from e2]
theorem rng_t (cl : Calls) (n : Nat) (hn : n < 1000) (σ : Sg) {j : Nat} (h0 : σ[j]? = some (some (.d (.int n)))) : ev 0 cl (.lrg true [.var j]) σ = .ok (.d (tIn (begin_ n))) σ := by
  have a0 : opd (.var j) (ev 0 cl (.var j)) σ = .ok (.ref j) σ := by simp only [opd, h0]
  have r0 : rds σ [.ref j] = some [.int n] := by simp only [rds, rd, h0, W.toD]
  have h1 : evOs 0 cl [.var j] σ = .ok [.ref j] σ := by
    show R.bind (opd (.var j) (ev 0 cl (.var j)) σ) _ = _
    rw [a0]; rfl
  show R.bind (evOs 0 cl [.var j] σ) _ = _
  rw [h1, R.bind_ok, r0]
  show ofO ((rngD [.int n]).map fun ys => if true = true then W.d (.tup ys) else W.fl ys) σ = _
  rw [rng_nat n hn]
  show R.ok (W.d (.tup ((List.range n).map fun (i : Nat) => D.int i))) σ = R.ok (W.d (.tup (((List.range n).map Int.ofNat).map D.int))) σ
  rw [List.map_map]; rfl
theorem range_mem {n : Nat} {r : Int} (h0 : 0 ≤ r) (h1 : r ≤ (n : Int) - 2) : r.toNat ∈ List.range (n - 1) ∧ ((r.toNat : Nat) : Int) = r := by
  constructor
  · rw [List.mem_range]; omega
  · omega
theorem sz_lt {n : Nat} (hn : n ∈ sizes) : n < 1000 ∧ 1 ≤ n ∧ n ≤ 5 := by
  simp only [sizes, List.mem_cons, List.not_mem_nil, or_false] at hn
  omega
theorem begin_in {n : Nat} (hn : n ∈ sizes) : begin_ n ∈ ORD n := by
  have := List.all_eq_true.mp kI n hn
  rw [Bool.and_eq_true] at this
  simpa using this.1
theorem swp_in {n : Nat} (hn : n ∈ sizes) {o : List Int} (ho : o ∈ ORD n) {r : Int} (h0 : 0 ≤ r) (h1 : r ≤ (n : Int) - 2) : stp o r ∈ ORD n ∧ stp (stp o r) r = o := by
  have := List.all_eq_true.mp (all_of hn kG ho) r.toNat (range_mem h0 h1).1
  rw [Bool.and_eq_true] at this
  exact ⟨by simpa [stp] using this.1, by simpa [stp] using this.2⟩
theorem by_0 (cl : Calls) (n : Int) (x : D) (e1 : cl 1 [.d (.int n), .d (.int 1), .d (.int 6)] = .ok (.d (.bl true)) []) (e7 : cl 7 [.d (.int n), .d x] = .ok (.d (.bl true)) []) : runs 0 cl (b8.take 2) [some (.d (.int n)), some (.d x), none, none] = .nx [some (.d (.int n)), some (.d x), none, none] := by
  simp [b8, runs, run, ev, evAs, opd, rd, tst, truth, callS, ioS, agWs, agW, putBack, Out.ofR, e1, e7, W.own]
theorem by_ok {n : Nat} (hn : n ∈ sizes) {rs : List Int} (hl : rs.length ≤ 40) (hr : ∀ r ∈ rs, 0 ≤ r ∧ r ≤ (n : Int) - 2) : callN P 0 6 8 [.d (.int n), .d (tIn rs)] = .ok (.d (tIn (rs.foldl stp (begin_ n)))) [] := by
  obtain ⟨b1, b2, b3⟩ := sz_lt hn
  have h0 := by_0 (callN P 0 5) n (tIn rs) (within_ok 3 n 1 6 (by omega) (by omega)) (are_ok 2 n rs hl hr)
  obtain ⟨z', hf⟩ := by_fr (callN P 0 5) 4 n (fun o ho r r0 r1 => by
    have := List.all_eq_true.mp (all_of hn kF ho) r.toNat (range_mem r0 r1).1
    have e := resIs_eq this
    rw [(range_mem r0 r1).2] at e
    exact e) (fun o ho r r0 r1 => (swp_in hn ho r0 r1).1) (some (.d (.int n))) none rs (by omega) hr (begin_ n) (begin_in hn)
  have er : runs 0 (callN P 0 5) b8 [some (.d (.int n)), some (.d (tIn rs)), none, none] = .rt (.d (tIn (rs.foldl stp (begin_ n)))) [some (.d (.int n)), some (.d (tIn rs)), none, z'] := by
    rw [runs_at h0]
    have eb : b8.drop 2 = [.set 2 (.lrg true [.var 0]), .fr (.nm 3) (.var 1) [.set 2 (.call 4 [.var 2, .var 3])], .ret (.var 2)] := rfl
    rw [eb, runs_cons, run_setE (rng_t _ n b1 _ rfl) (by show 2 < 4; decide), Out.seq_nx, runs_cons]
    show Out.seq (run 0 _ _ [some (.d (.int n)), some (.d (tIn rs)), some (.d (tIn (begin_ n))), none]) _ = _
    rw [hf]
    rfl
  exact call_rtE (fd := d8.fd) p8 ⟨rfl, by decide, rfl⟩ rfl rfl er rfl
theorem lby_ok {n : Nat} (hn : n ∈ sizes) {rs : List Int} (hl : rs.length ≤ 40) (hr : ∀ r ∈ rs, 0 ≤ r ∧ r ≤ (n : Int) - 2) : callN P 0 6 15 [.d (.int n), .d (tIn rs)] = .ok (.d (tIn (rs.foldl stp (begin_ n)))) [] := by
  obtain ⟨b1, b2, b3⟩ := sz_lt hn
  obtain ⟨z', hf⟩ := by_fr (callN P 0 5) 14 n (fun o ho r r0 r1 => by
    have := List.all_eq_true.mp (all_of hn kF' ho) r.toNat (range_mem r0 r1).1
    have e := resIs_eq this
    rw [(range_mem r0 r1).2] at e
    exact e) (fun o ho r r0 r1 => (swp_in hn ho r0 r1).1) (some (.d (.int n))) none rs (by omega) hr (begin_ n) (begin_in hn)
  have er : runs 0 (callN P 0 5) b15 [some (.d (.int n)), some (.d (tIn rs)), none, none] = .rt (.d (tIn (rs.foldl stp (begin_ n)))) [some (.d (.int n)), some (.d (tIn rs)), none, z'] := by
    have eb : b15 = [.set 2 (.lrg true [.var 0]), .fr (.nm 3) (.var 1) [.set 2 (.call 14 [.var 2, .var 3])], .ret (.var 2)] := rfl
    rw [eb, runs_cons, run_setE (rng_t _ n b1 _ rfl) (by show 2 < 4; decide), Out.seq_nx, runs_cons]
    show Out.seq (run 0 _ _ [some (.d (.int n)), some (.d (tIn rs)), some (.d (tIn (begin_ n))), none]) _ = _
    rw [hf]
    rfl
  exact call_rtE (fd := d15.fd) p15 ⟨rfl, by decide, rfl⟩ rfl rfl er rfl
theorem fold_in {n : Nat} (hn : n ∈ sizes) : ∀ {rs : List Int} {o : List Int}, (∀ r ∈ rs, 0 ≤ r ∧ r ≤ (n : Int) - 2) → o ∈ ORD n → rs.foldl stp o ∈ ORD n
  | [], o, _, ho => ho
  | r :: rs, o, h, ho => fold_in hn (rs := rs) (o := stp o r) (fun x hx => h x (List.mem_cons_of_mem _ hx)) (swp_in hn ho (h r List.mem_cons_self).1 (h r List.mem_cons_self).2).1
/-- a row and it from behind -/
theorem fold_back {n : Nat} (hn : n ∈ sizes) : ∀ {rs : List Int} {o : List Int}, (∀ r ∈ rs, 0 ≤ r ∧ r ≤ (n : Int) - 2) → o ∈ ORD n → (rs ++ rs.reverse).foldl stp o = o
  | [], o, _, ho => rfl
  | r :: rs, o, h, ho => by
    have hr := swp_in hn ho (h r List.mem_cons_self).1 (h r List.mem_cons_self).2
    have ih := fold_back hn (rs := rs) (o := stp o r) (fun x hx => h x (List.mem_cons_of_mem _ hx)) hr.1
    rw [List.reverse_cons, List.cons_append, List.foldl_cons, ← List.append_assoc, List.foldl_append, ih]
    exact hr.2
end Lw

namespace Lw
open Cl
theorem st_5a (cl : Calls) (h : W) (n : Int) (b c d e f : Option W) (hn : n ≤ 1) : runs 0 cl ((b17.drop 5).take 1) [some h, some (.d (.int n)), b, c, d, e, f, none, none, none, none] = .nx [some h, some (.d (.int n)), b, c, d, e, f, some (.d (.int 0)), none, none, none] := by
  have hn' : ¬ 1 < n := by omega
  simp [b17, runs, run, ev, tst, opd, rd, truth, cmpop, Out.ofR, setS, hn']
theorem st_5b (cl : Calls) (cs cs' : List Int) (i v s c i' v' s' c' : Int) (n r : Int) (b q d e f : Option W) (hn : 1 < n) (e9 : cl 9 [hnd cs i v s c, .d (.int 41)] = .ok (.d (.int r)) [hnd cs' i' v' s' c']) :
    runs 0 cl ((b17.drop 5).take 1) [some (hnd cs i v s c), some (.d (.int n)), b, q, d, e, f, none, none, none, none] = .nx [some (hnd cs' i' v' s' c'), some (.d (.int n)), b, q, d, e, f, some (.d (.int r)), none, none, none] := by
  simp [b17, runs, run, ev, evAs, tst, opd, rd, truth, cmpop, callS, ioS, agWs, agW, putBack, Out.ofR, setS, hn, e9, own_hnd, W.own]
theorem st_5 {h : W} (hh : Hand h) {n : Nat} (hn : n ∈ sizes) (b c d e f : Option W) : ∃ h' z, Hand h' ∧ z ≤ 40 ∧ (n ≤ 1 → z = 0) ∧
    runs 0 (callN P 0 6) ((b17.drop 5).take 1) [some h, some (.d (.int n)), b, c, d, e, f, none, none, none, none] = .nx [some h', some (.d (.int n)), b, c, d, e, f, some (.d (.int (z : Nat))), none, none, none] := by
  by_cases h1 : n ≤ 1
  · exact ⟨h, 0, hh, by omega, fun _ => rfl, st_5a _ h n b c d e f (by omega)⟩
  · obtain ⟨r, h', e9, hh', r0, r1⟩ := draw_ok 5 h 41 hh (by decide) (by decide)
    refine ⟨h', r.toNat, hh', by omega, fun z => absurd z h1, ?_⟩
    obtain ⟨cs, i, v, s, c', rfl, _⟩ := hh
    obtain ⟨cs', i', v', s', c2, rfl, _⟩ := hh'
    have := st_5b (callN P 0 6) cs cs' i v s c' i' v' s' c2 n r b c d e f (by omega) e9
    rw [this, show ((r.toNat : Nat) : Int) = r by omega]
theorem row_turn (cl : Calls) (cs cs' : List Int) (i v s c i' v' s' c' : Int) (n r : Int) (b q d e f g : Option W) (x : D) (e9 : cl 9 [hnd cs i v s c, .d (.int (n - 1))] = .ok (.d (.int r)) [hnd cs' i' v' s' c']) :
    lcTurn [10] (.nm 10) none (ev 0 cl (.call 9 [.io 0, .bin .sub (.var 1) (.con (.int 1))])) x [some (hnd cs i v s c), some (.d (.int n)), b, q, d, e, f, g, none, none, none] = .ok (some (.int r)) [some (hnd cs' i' v' s' c'), some (.d (.int n)), b, q, d, e, f, g, none, none, none] := by
  simp [lcTurn, asg, wipeS, ev, evAs, opd, rd, binop, callS, ioS, agWs, agW, putBack, e9, own_hnd]
theorem ev_rng7 (cl : Calls) (z : Nat) (hz : z ≤ 40) (σ : Sg) (h7 : σ[7]? = some (some (.d (.int z)))) : ev 0 cl (.rng [.var 7]) σ = .ok (.fl ((List.range z).map fun (i : Nat) => D.int i)) σ := by
  have a0 : opd (.var 7) (ev 0 cl (.var 7)) σ = .ok (.ref 7) σ := by simp only [opd, h7]
  have r0 : rds σ [.ref 7] = some [.int z] := by simp only [rds, rd, h7, W.toD]
  have h1 : evOs 0 cl [.var 7] σ = .ok [.ref 7] σ := by
    show R.bind (opd (.var 7) (ev 0 cl (.var 7)) σ) _ = _
    rw [a0]; rfl
  show R.bind (evOs 0 cl [.var 7] σ) _ = _
  rw [h1, R.bind_ok, r0]
  show ofO ((rngD [.int z]).map W.fl) σ = _
  rw [rng_nat z (by omega)]; rfl
theorem ints_of : ∀ {ys : List D} {Q : Int → Prop}, (∀ y ∈ ys, ∃ r, y = .int r ∧ Q r) → ∃ rs : List Int, ys = rs.map D.int ∧ ∀ r ∈ rs, Q r
  | [], Q, _ => ⟨[], rfl, fun _ h => nomatch h⟩
  | y :: ys, Q, h => by
    obtain ⟨r, rfl, q⟩ := h y List.mem_cons_self
    obtain ⟨rs, e, qs⟩ := ints_of (ys := ys) (Q := Q) fun z hz => h z (List.mem_cons_of_mem _ hz)
    refine ⟨r :: rs, by rw [e]; rfl, fun x hx => ?_⟩
    rcases List.mem_cons.mp hx with rfl | hx
    · exact q
    · exact qs x hx
theorem st_6 {h : W} (hh : Hand h) {n : Nat} (hn : n ∈ sizes) (b c d e f : Option W) {z : Nat} (hz : z ≤ 40) (h1 : n ≤ 1 → z = 0) : ∃ h' rs, Hand h' ∧ rs.length = z ∧ (∀ r ∈ rs, (0 : Int) ≤ r ∧ r ≤ (n : Int) - 2) ∧
    runs 0 (callN P 0 6) ((b17.drop 6).take 1) [some h, some (.d (.int n)), b, c, d, e, f, some (.d (.int z)), none, none, none] = .nx [some h', some (.d (.int n)), b, c, d, e, f, some (.d (.int z)), some (.d (tIn rs)), none, none] := by
  obtain ⟨ys, σ', el, ⟨h', hh', rfl⟩, hy, hlen⟩ := lcL_inv (f := lcTurn [10] (.nm 10) (evC 0 (callN P 0 6) none) (ev 0 (callN P 0 6) (.call 9 [.io 0, .bin .sub (.var 1) (.con (.int 1))]))) (I := fun σ => ∃ h, Hand h ∧ σ = [some h, some (.d (.int n)), b, c, d, e, f, some (.d (.int z)), none, none, none])
    (G := fun _ y => ∃ r, y = .int r ∧ 0 ≤ r ∧ r ≤ (n : Int) - 2) (xs := (List.range z).map fun (i : Nat) => D.int i) (acc := []) (σ := [some h, some (.d (.int n)), b, c, d, e, f, some (.d (.int z)), none, none, none]) (fun x hx σ ⟨h, hh, eσ⟩ => by
      subst eσ
      have hz0 : 0 < z := by
        rcases Nat.eq_zero_or_pos z with q | q
        · subst q; simp at hx
        · exact q
      have hn2 : 2 ≤ n := by
        by_cases q : n ≤ 1
        · have := h1 q; omega
        · omega
      obtain ⟨r, h', e9, hh', r0, r1⟩ := draw_ok 5 h ((n : Int) - 1) hh (by omega) (by have := (sz_lt hn).2.2; omega)
      refine ⟨.int r, _, ?_, ⟨h', hh', rfl⟩, r, rfl, r0, by omega⟩
      obtain ⟨cs, i, v, s, c', rfl, _⟩ := hh
      obtain ⟨cs', i', v', s', c2, rfl, _⟩ := hh'
      exact row_turn _ cs cs' i v s c' i' v' s' c2 n r b c d e f _ x e9) ⟨h, hh, rfl⟩
  obtain ⟨rs, ers, hrs⟩ := ints_of (ys := ys) (Q := fun r => 0 ≤ r ∧ r ≤ (n : Int) - 2) fun y hys => by
    obtain ⟨_, _, r, e, q⟩ := hy y hys
    exact ⟨r, e, q⟩
  have hlr : rs.length = z := by
    rw [ers] at hlen
    simpa using hlen
  have e2 := lc_ok (own := [10]) (t := .nm 10) (it := .rng [.var 7]) (c := none) (e := .call 9 [.io 0, .bin .sub (.var 1) (.con (.int 1))]) (nc := 0) (cl := callN P 0 6) (ev_rng7 (callN P 0 6) z hz [some h, some (.d (.int n)), b, c, d, e, f, some (.d (.int z)), none, none, none] rfl) (xs := (List.range z).map fun (i : Nat) => D.int i) rfl rfl (by simp; omega) el
  have e3 := blt1_ok (r := .d (tIn rs)) (b := .tuple) (fun i z => by cases z) e2 (by rw [List.nil_append, ers]; rfl)
  refine ⟨h', rs, hh', hlr, hrs, ?_⟩
  have eb : (b17.drop 6).take 1 = [.set 8 (.blt .tuple [.lc [10] (.nm 10) (.rng [.var 7]) none (.call 9 [.io 0, .bin .sub (.var 1) (.con (.int 1))])])] := rfl
  rw [eb]
  exact runs_one (run_setE e3 (by show 8 < 11; decide))
theorem st_7 (cl : Calls) (h : W) (n x y : D) (b c d e f g : Option W) (e8 : cl 8 [.d n, .d x] = .ok (.d y) []) (e15 : cl 15 [.d n, .d x] = .ok (.d y) []) (e11 : cl 11 [.d y, .d y] = .ok (.d (.bl true)) []) :
    runs 0 cl ((b17.drop 7).take 1) [some h, some (.d n), b, c, d, e, f, g, some (.d x), none, none] = .nx [some h, some (.d n), b, c, d, e, f, g, some (.d x), none, none] := by
  simp [b17, runs, run, ev, evAs, tst, opd, rd, truth, callS, ioS, agWs, agW, putBack, Out.ofR, e8, e15, e11, W.own]
theorem st_8a (cl : Calls) (σ : Sg) (rs : List Int) (h8 : σ[8]? = some (some (.d (tIn rs)))) (hl : 20 < rs.length) : runs 0 cl (b17.drop 8) σ = .rt (.d (.bl true)) σ := by
  have h' : (20 : Int) < rs.length := by omega
  simp [b17, runs, run, ev, evOs, opd, rds, rd, bltop, len_t, cmpop, Out.ofR, h8, h']
theorem eq_begin {n : Nat} (hn : n ∈ sizes) : cmpop .eq (tIn (begin_ n)) (tIn (begin_ n)) = some true := by
  simp only [sizes, List.mem_cons, List.not_mem_nil, or_false] at hn
  rcases hn with rfl | rfl | rfl | rfl | rfl <;> rfl
theorem st_8b (cl : Calls) {n : Nat} (hn : n ∈ sizes) (a : Option W) (b c d e f g : Option W) (rs : List Int) (hl : rs.length ≤ 20) (e8 : cl 8 [.d (.int n), .d (tIn (rs ++ rs.reverse))] = .ok (.d (tIn (begin_ n))) []) :
    runs 0 cl (b17.drop 8) [a, some (.d (.int n)), b, c, d, e, f, g, some (.d (tIn rs)), none, none] = .rt (.d (.bl true)) [a, some (.d (.int n)), b, c, d, e, f, g, some (.d (tIn rs)), none, none] := by
  have h' : ¬ (20 : Int) < rs.length := by omega
  have hz : rs.length + rs.length ≤ PySem.sizeLine := by rw [PySem.sizeLine_eq]; omega
  have l2 := eq_begin hn
  generalize hσ : ([a, some (.d (.int n)), b, c, d, e, f, g, some (.d (tIn rs)), none, none] : Sg) = σ
  have h8 : σ[8]? = some (some (.d (tIn rs))) := by rw [← hσ]; rfl
  have h1 : σ[1]? = some (some (.d (.int n))) := by rw [← hσ]; rfl
  have eA : ev 0 cl (.cmp .gt (.blt .len [.var 8]) (.con (.int 20))) σ = .ok (.d (.bl false)) σ := by
    simp [ev, evOs, opd, rds, rd, bltop, len_t, cmpop, h8, h']
  have eX : ev 0 cl (.bin .add (.var 8) (.rev (.var 8))) σ = .ok (.d (tIn (rs ++ rs.reverse))) σ := by
    simp [ev, opd, rd, tIn, binop, h8, hz]
  have ev1 : ev 0 cl (.var 1) σ = .ok (.d (.int n)) σ := by simp [ev, h1, W.own]
  have eC : ev 0 cl (.call 8 [.var 1, .bin .add (.var 8) (.rev (.var 8))]) σ = .ok (.d (tIn (begin_ n))) σ := by
    have ea : evAs 0 cl [.var 1, .bin .add (.var 8) (.rev (.var 8))] σ = .ok [.d (.int n), .d (tIn (rs ++ rs.reverse))] σ := by
      show R.bind (ev 0 cl (.var 1) σ) (fun w σ1 => R.bind (R.bind (ev 0 cl (.bin .add (.var 8) (.rev (.var 8))) σ1) _) _) = _
      rw [ev1, R.bind_ok, eX]; rfl
    show R.bind (evAs 0 cl [.var 1, .bin .add (.var 8) (.rev (.var 8))] σ) _ = _
    rw [ea, R.bind_ok]
    simp [callS, ioS, agWs, agW, e8, putBack]
  have eB : ev 0 cl (.cmp .eq (.call 8 [.var 1, .bin .add (.var 8) (.rev (.var 8))]) (.lrg true [.var 1])) σ = .ok (.d (.bl true)) σ := by
    show R.bind (R.bind (ev 0 cl (.call 8 [.var 1, .bin .add (.var 8) (.rev (.var 8))]) σ) _) (fun x σ1 => R.bind (R.bind (ev 0 cl (.lrg true [.var 1]) σ1) _) _) = _
    rw [eC, R.bind_ok, R.bind_ok, rng_t cl n (sz_lt hn).1 σ h1, R.bind_ok, R.bind_ok]
    show ofO ((cmpop .eq (tIn (begin_ n)) (tIn (begin_ n))).map fun b => W.d (.bl b)) σ = _
    rw [l2]; rfl
  have eO : ev 0 cl (.or (.cmp .gt (.blt .len [.var 8]) (.con (.int 20))) (.cmp .eq (.call 8 [.var 1, .bin .add (.var 8) (.rev (.var 8))]) (.lrg true [.var 1]))) σ = .ok (.d (.bl true)) σ := by
    show R.bind (ev 0 cl (.cmp .gt (.blt .len [.var 8]) (.con (.int 20))) σ) _ = _
    rw [eA, R.bind_ok]
    show R.bind (ev 0 cl (.cmp .eq (.call 8 [.var 1, .bin .add (.var 8) (.rev (.var 8))]) (.lrg true [.var 1])) σ) _ = _
    rw [eB]; rfl
  show Out.seq (Out.ofR (ev 0 cl (.or (.cmp .gt (.blt .len [.var 8]) (.con (.int 20))) (.cmp .eq (.call 8 [.var 1, .bin .add (.var 8) (.rev (.var 8))]) (.lrg true [.var 1]))) σ) _) _ = _
  rw [eO]; rfl
theorem told_ok {h : W} (hh : Hand h) {n : Nat} (hn : n ∈ sizes) : ∃ h', Hand h' ∧ callN P 0 7 17 [h, .d (.int n)] = .ok (.d (.bl true)) [h'] := by
  obtain ⟨h1, o, hh1, ho, e13⟩ := order_ok 3 h n hh (sz_lt hn).1
  have e0 : runs 0 (callN P 0 6) (b17.take 1) [some h, some (.d (.int n)), none, none, none, none, none, none, none, none, none] = .nx [some h1, some (.d (.int n)), some (.d (tIn o)), none, none, none, none, none, none, none, none] := by
    obtain ⟨cs, i, v, s, c, rfl, _⟩ := hh
    obtain ⟨cs', i', v', s', c', rfl, _⟩ := hh1
    exact st_0 _ cs cs' i v s c i' v' s' c' _ _ e13
  have e6 : callN P 0 6 6 [.d (tIn o)] = .ok (.d (tIn (sw n o))) [] := resIs_eq (all_of hn kA ho)
  have s1 := st_1 (callN P 0 6) h1 (.int n) _ _ e6
  have s3 := st_3 hn ho h1
  have s4 := st_4 (callN P 0 6) h1 (.int n) o (sw n o) (.int 0) (.int (n - 1 : Nat)) (.int (o.getD (n - 1) 0)) (resIs_eq (all_of hn kC ho)) (least_ok hn ho) (resIs_eq (all_of hn kE ho))
  obtain ⟨h5, z, hh5, hz, hz1, s5⟩ := st_5 hh1 hn (some (.d (tIn o))) (some (.d (tIn (sw n o)))) (some (.d (.int (sw n o).length))) (some (.d (.int (n - 1 : Nat)))) (some (.d (.int (o.getD (n - 1) 0))))
  obtain ⟨h6, rs, hh6, hlr, hrs, s6⟩ := st_6 hh5 hn (some (.d (tIn o))) (some (.d (tIn (sw n o)))) (some (.d (.int (sw n o).length))) (some (.d (.int (n - 1 : Nat)))) (some (.d (.int (o.getD (n - 1) 0)))) hz hz1
  have hfi := fold_in hn hrs (begin_in hn)
  have s7 := st_7 (callN P 0 6) h6 (.int n) (tIn rs) (tIn (rs.foldl stp (begin_ n))) (some (.d (tIn o))) (some (.d (tIn (sw n o)))) (some (.d (.int (sw n o).length))) (some (.d (.int (n - 1 : Nat)))) (some (.d (.int (o.getD (n - 1) 0)))) (some (.d (.int z)))
    (by_ok hn (by omega) hrs) (lby_ok hn (by omega) hrs) (resIs_eq (all_of hn kH hfi))
  refine ⟨h6, hh6, ?_⟩
  have er : runs 0 (callN P 0 6) b17 [some h, some (.d (.int n)), none, none, none, none, none, none, none, none, none] = .rt (.d (.bl true)) [some h6, some (.d (.int n)), some (.d (tIn o)), some (.d (tIn (sw n o))), some (.d (.int (sw n o).length)), some (.d (.int (n - 1 : Nat))), some (.d (.int (o.getD (n - 1) 0))), some (.d (.int z)), some (.d (tIn rs)), none, none] := by
    rw [runs_at e0]
    have g : ∀ (k m : Nat) (σ σ' : Sg), runs 0 (callN P 0 6) ((b17.drop k).take m) σ = .nx σ' → runs 0 (callN P 0 6) (b17.drop k) σ = runs 0 (callN P 0 6) (b17.drop (k + m)) σ' := fun k m σ σ' h => by
      rw [runs_at h, List.drop_drop]
    rw [g 1 2 _ _ s1, g 3 1 _ _ s3, g 4 1 _ _ s4, g 5 1 _ _ s5, g 6 1 _ _ s6, g 7 1 _ _ s7]
    by_cases h20 : 20 < rs.length
    · exact st_8a _ _ rs rfl h20
    · refine st_8b _ hn _ _ _ _ _ _ _ rs (by omega) ?_
      have hb : ∀ r ∈ rs ++ rs.reverse, (0 : Int) ≤ r ∧ r ≤ (n : Int) - 2 := fun r hr => by
        rcases List.mem_append.mp hr with q | q
        · exact hrs r q
        · exact hrs r (List.mem_reverse.mp q)
      have := by_ok hn (rs := rs ++ rs.reverse) (by rw [List.length_append, List.length_reverse]; omega) hb
      rw [fold_back hn hrs (begin_in hn)] at this
      exact this
  obtain ⟨cs, i, v, s, c, rfl, _⟩ := hh
  obtain ⟨cs', i', v', s', c', rfl, _⟩ := hh6
  exact call_rtE (fd := d17.fd) p17 ⟨rfl, by decide, rfl⟩ rfl rfl er rfl
end Lw

namespace Lw
open Cl
theorem p12 : P[12]? = some d12.fd := rfl
theorem p18 : P[18]? = some d18.fd := rfl
def absD : D → D
  | .int x => .int (if x < 0 then -x else x)
  | d => d
theorem hand_turn (cl : Calls) (x : Int) (a b : Option W) : lcTurn [2] (.nm 2) none (ev 0 cl (.blt .abs [.blt .int [.var 2]])) (.int x) [a, b, none] = .ok (some (absD (.int x))) [a, b, none] := by
  simp [lcTurn, asg, wipeS, ev, evOs, opd, rds, rd, bltop, absD]
theorem hand_ret (cl : Calls) (a z : Option W) (cs : List Int) : runs 0 cl (b12.drop 1) [a, some (.fl (cs.map D.int)), z] = .rt (hnd cs 0 0 (383 + 3 * cs.length) 0) [a, some (.d (.lst (cs.map D.int))), z] := by
  simp [b12, runs, run, ev, evDs, evOs, opd, rds, rd, bltop, lenD, binop, Out.ofR, W.own]
theorem hand_ok (k : Nat) (ns : List Int) (hl : ns.length ≤ 63) : ∃ h, Hand h ∧ callN P 0 (k + 1) 12 [.d (.scr ns)] = .ok h [] := by
  have hcut : (cutI ns none (some 63)).length ≤ ns.length := by
    unfold cutI
    rw [List.length_take, List.length_drop]
    omega
  have hs : ev 0 (callN P 0 k) (.sl (.var 0) none (some (.con (.int 63)))) [some (.d (.scr ns)), none, none] = .ok (.fl ((cutI ns none (some 63)).map D.int)) [some (.d (.scr ns)), none, none] := rfl
  have hl2 := lcL_map (f := lcTurn [2] (.nm 2) (evC 0 (callN P 0 k) none) (ev 0 (callN P 0 k) (.blt .abs [.blt .int [.var 2]]))) (g := absD) (σ := [some (.d (.scr ns)), none, none]) (xs := (cutI ns none (some 63)).map D.int) (acc := []) (fun x hx => by
    obtain ⟨r, _, rfl⟩ := List.mem_map.mp hx
    exact hand_turn _ r _ _)
  have el := lc_ok (own := [2]) (t := .nm 2) (c := none) (e := .blt .abs [.blt .int [.var 2]]) (nc := 0) (cl := callN P 0 k) hs (xs := (cutI ns none (some 63)).map D.int) rfl rfl (by rw [List.length_map]; omega) hl2
  have ee : ([] ++ ((cutI ns none (some 63)).map D.int).map absD) = ((cutI ns none (some 63)).map fun x => if x < 0 then -x else x).map D.int := by
    rw [List.nil_append, List.map_map, List.map_map]; rfl
  rw [ee] at el
  generalize (cutI ns none (some 63)).map (fun x => if x < 0 then -x else x) = cs at el
  refine ⟨hnd cs 0 0 (383 + 3 * cs.length) 0, ⟨cs, 0, 0, 383 + 3 * cs.length, 0, rfl, Int.le_refl 0⟩, ?_⟩
  have e1 : runs 0 (callN P 0 k) (b12.take 1) [some (.d (.scr ns)), none, none] = .nx [some (.d (.scr ns)), some (.fl (cs.map D.int)), none] := by
    have eb : b12.take 1 = [.set 1 (.lc [2] (.nm 2) (.sl (.var 0) none (some (.con (.int 63)))) none (.blt .abs [.blt .int [.var 2]]))] := rfl
    rw [eb]
    exact runs_one (run_setE el (by show 1 < 3; decide))
  have er : runs 0 (callN P 0 k) b12 [some (.d (.scr ns)), none, none] = .rt (hnd cs 0 0 (383 + 3 * cs.length) 0) [some (.d (.scr ns)), some (.d (.lst (cs.map D.int))), none] := by
    rw [runs_at e1]
    exact hand_ret _ _ _ cs
  exact call_rtE (fd := d12.fd) p12 ⟨rfl, by decide, rfl⟩ rfl rfl er rfl
theorem law_0 (cl : Calls) (x : D) (cs : List Int) (i v s c : Int) (e : cl 12 [.d x] = .ok (hnd cs i v s c) []) : runs 0 cl (b18.take 1) [some (.d x), none, none, none, none] = .nx [some (.d x), some (hnd cs i v s c), none, none, none] := by
  simp [b18, runs, run, ev, evAs, callS, ioS, agWs, agW, putBack, Out.ofR, e, setS, W.own]
def knownD : D := .lst [tIn [0, 1, 0], tIn [1, 2, 0], tIn [], tIn [0, 1, 2, 3]]
theorem law_1 (x : D) (h : W) : runs 0 (callN P 0 7) ((b18.drop 1).take 2) [some (.d x), some h, none, none, none] = .nx [some (.d x), some h, some (.d knownD), none, none] := by kernel_rfl
theorem in_turn (cl : Calls) (cs cs' : List Int) (i v s c i' v' s' c' : Int) (n : D) (a b d : Option W) (e : cl 17 [hnd cs i v s c, .d n] = .ok (.d (.bl true)) [hnd cs' i' v' s' c']) :
    lcTurn [4] (.nm 4) none (ev 0 cl (.call 17 [.io 1, .var 4])) n [a, some (hnd cs i v s c), b, d, none] = .ok (some (.bl true)) [a, some (hnd cs' i' v' s' c'), b, d, none] := by
  simp [lcTurn, asg, wipeS, ev, evAs, callS, ioS, agWs, agW, putBack, e, own_hnd, W.own]
abbrev inner : Ex := .lc [4] (.nm 4) (.tup [.con (.int 1), .con (.int 2), .con (.int 3), .con (.int 4), .con (.int 5)]) none (.call 17 [.io 1, .var 4])
theorem in_ok {h : W} (hh : Hand h) (a b d : Option W) : ∃ h', Hand h' ∧ ev 0 (callN P 0 7) (.blt .all [inner]) [a, some h, b, d, none] = .ok (.d (.bl true)) [a, some h', b, d, none] := by
  obtain ⟨ys, σ', el, ⟨h', hh', rfl⟩, hy, _⟩ := lcL_inv (f := lcTurn [4] (.nm 4) (evC 0 (callN P 0 7) none) (ev 0 (callN P 0 7) (.call 17 [.io 1, .var 4]))) (I := fun σ => ∃ h, Hand h ∧ σ = [a, some h, b, d, none])
    (G := fun _ y => y = .bl true) (xs := [.int 1, .int 2, .int 3, .int 4, .int 5]) (acc := []) (σ := [a, some h, b, d, none]) (fun x hx σ ⟨h, hh, eσ⟩ => by
      subst eσ
      have : ∃ n ∈ sizes, x = .int (n : Nat) := by
        simp only [List.mem_cons, List.not_mem_nil, or_false] at hx
        rcases hx with rfl | rfl | rfl | rfl | rfl
        · exact ⟨1, by decide, rfl⟩
        · exact ⟨2, by decide, rfl⟩
        · exact ⟨3, by decide, rfl⟩
        · exact ⟨4, by decide, rfl⟩
        · exact ⟨5, by decide, rfl⟩
      obtain ⟨n, hn, rfl⟩ := this
      obtain ⟨h', hh', e⟩ := told_ok hh hn
      refine ⟨.bl true, _, ?_, ⟨h', hh', rfl⟩, rfl⟩
      obtain ⟨cs, i, v, s, c', rfl, _⟩ := hh
      obtain ⟨cs', i', v', s', c2, rfl, _⟩ := hh'
      exact in_turn _ cs cs' i v s c' i' v' s' c2 _ a b d e) ⟨h, hh, rfl⟩
  have e2 := lc_ok (own := [4]) (t := .nm 4) (it := .tup [.con (.int 1), .con (.int 2), .con (.int 3), .con (.int 4), .con (.int 5)]) (c := none) (e := .call 17 [.io 1, .var 4]) (nc := 0) (cl := callN P 0 7) (σ := [a, some h, b, d, none]) (σ1 := [a, some h, b, d, none]) (w := .d (.tup [.int 1, .int 2, .int 3, .int 4, .int 5])) (xs := [.int 1, .int 2, .int 3, .int 4, .int 5]) rfl rfl rfl (by decide) el
  refine ⟨h', hh', ?_⟩
  exact blt1_ok (r := .d (.bl true)) (b := .all) (fun i z => by cases z) e2 (all_true (ys := [] ++ ys) fun y hys => by
    rw [List.nil_append] at hys
    obtain ⟨_, _, q⟩ := hy y hys
    exact q)
theorem out_turn {h : W} (hh : Hand h) (a b : Option W) (x : D) : ∃ h', Hand h' ∧ lcTurn [3] (.nm 3) (evC 0 (callN P 0 7) none) (ev 0 (callN P 0 7) (.blt .all [inner])) x [a, some h, b, none, none] = .ok (some (.bl true)) [a, some h', b, none, none] := by
  obtain ⟨h', hh', e⟩ := in_ok hh a b (some (.d x))
  refine ⟨h', hh', ?_⟩
  show R.bind (ev 0 (callN P 0 7) (.blt .all [inner]) [a, some h, b, some (.d x), none]) _ = _
  rw [e]; rfl
theorem law_holds : ∀ ns : List Int, ns.length ≤ 63 → callN (pgOf Ds) 0 8 18 [.d (.scr ns)] = .ok (.d (.bl true)) [] := by
  intro ns hl
  obtain ⟨h, hh, e12⟩ := hand_ok 6 ns hl
  have e0 : runs 0 (callN P 0 7) (b18.take 1) [some (.d (.scr ns)), none, none, none, none] = .nx [some (.d (.scr ns)), some h, none, none, none] := by
    obtain ⟨cs, i, v, s, c, rfl, _⟩ := hh
    exact law_0 _ _ cs i v s c e12
  obtain ⟨ys, σ', el, ⟨h', hh', rfl⟩, hy, _⟩ := lcL_inv (f := lcTurn [3] (.nm 3) (evC 0 (callN P 0 7) none) (ev 0 (callN P 0 7) (.blt .all [inner]))) (I := fun σ => ∃ h, Hand h ∧ σ = [some (.d (.scr ns)), some h, some (.d knownD), none, none])
    (G := fun _ y => y = .bl true) (xs := [.int 0, .int 1, .int 2]) (acc := []) (σ := [some (.d (.scr ns)), some h, some (.d knownD), none, none]) (fun x hx σ ⟨h, hh, eσ⟩ => by
      subst eσ
      obtain ⟨h', hh', e⟩ := out_turn hh (some (.d (.scr ns))) (some (.d knownD)) x
      exact ⟨.bl true, _, e, ⟨h', hh', rfl⟩, rfl⟩) ⟨h, hh, rfl⟩
  have e2 := lc_ok (own := [3]) (t := .nm 3) (it := .rng [.con (.int 3)]) (c := none) (e := .blt .all [inner]) (nc := 0) (cl := callN P 0 7) (σ := [some (.d (.scr ns)), some h, some (.d knownD), none, none]) (σ1 := [some (.d (.scr ns)), some h, some (.d knownD), none, none]) (w := .fl [.int 0, .int 1, .int 2]) (xs := [.int 0, .int 1, .int 2]) rfl rfl rfl (by decide) el
  have e3 := blt1_ok (r := .d (.bl true)) (b := .all) (fun i z => by cases z) e2 (all_true (ys := [] ++ ys) fun y hys => by
    rw [List.nil_append] at hys
    obtain ⟨_, _, q⟩ := hy y hys
    exact q)
  have er : runs 0 (callN P 0 7) b18 [some (.d (.scr ns)), none, none, none, none] = .rt (.d (.bl true)) (backS [some (.d (.scr ns)), some h, some (.d knownD), none, none] [some (.d (.scr ns)), some h', some (.d knownD), none, none] [3]) := by
    rw [runs_at e0]
    have e1 : runs 0 (callN P 0 7) (b18.drop 1) [some (.d (.scr ns)), some h, none, none, none] = runs 0 (callN P 0 7) (b18.drop 3) [some (.d (.scr ns)), some h, some (.d knownD), none, none] := by
      rw [runs_at (law_1 (.scr ns) h), List.drop_drop]
    rw [e1]
    show Out.seq (Out.ofR (ev 0 (callN P 0 7) (.blt .all [.lc [3] (.nm 3) (.rng [.con (.int 3)]) none (.blt .all [inner])]) _) _) _ = _
    rw [e3]; rfl
  exact call_rtE (fd := d18.fd) p18 ⟨rfl, by decide, rfl⟩ rfl rfl er rfl
end Lw

namespace Lw
open PySem PySem.Spec PyProof.Rows L2 Cl
theorem Ds_ok : (Ds.all fun d => chkD Γ d) = true := by decide +kernel
theorem all_mk {l : PySem.W.OpenLaw} {w : World} {K : PySem.W.Frag} {h : Heap} {mg : Str → Option Value} {fa : Addr} (X : K.In h) (G : h.Ns mainGlobals mg) (hfa : mg "law" = some (.ref fa))
    {f0 f1 f2 f3 f4 f5 f6 f7 f8 f9 f10 f11 f12 f13 f14 f15 f16 f17 f18 : Addr} {od0 an0 od1 an1 od2 an2 od3 an3 od4 an4 od5 an5 od6 an6 od7 an7 od8 an8 od9 an9 od10 an10 od11 an11 od12 an12 od13 an13 od14 an14 od15 an15 od16 an16 od17 an17 od18 an18 : Option Addr} {sl0 sl1 sl2 sl3 sl4 sl5 sl6 sl7 sl8 sl9 sl10 sl11 sl12 sl13 sl14 sl15 sl16 sl17 sl18 : Array (Option Value)} {oc0 kV0 dc0 pm0 cd0 ct0 oc1 kV1 dc1 pm1 cd1 ct1 oc2 kV2 dc2 pm2 cd2 ct2 oc3 kV3 dc3 pm3 cd3 ct3 oc4 kV4 dc4 pm4 cd4 ct4 oc5 kV5 dc5 pm5 cd5 ct5 oc6 kV6 dc6 pm6 cd6 ct6 oc7 kV7 dc7 pm7 cd7 ct7 oc8 kV8 dc8 pm8 cd8 ct8 oc9 kV9 dc9 pm9 cd9 ct9 oc10 kV10 dc10 pm10 cd10 ct10 oc11 kV11 dc11 pm11 cd11 ct11 oc12 kV12 dc12 pm12 cd12 ct12 oc13 kV13 dc13 pm13 cd13 ct13 oc14 kV14 dc14 pm14 cd14 ct14 oc15 kV15 dc15 pm15 cd15 ct15 oc16 kV16 dc16 pm16 cd16 ct16 oc17 kV17 dc17 pm17 cd17 ct17 oc18 kV18 dc18 pm18 cd18 ct18 : Value} {t0 t1 : Tok}
    (a0 : PySem.W.nsIn K mainGlobals "is_integer" = some (some (.ref f0))) (l0 : K.lookup f0 = some ⟨oc0, od0, .func (PySem.W.fnOf "is_integer" "is_integer" (defArgs (top 7)) (defBody (top 7)) (defScope (top 7)) .none kV0 dc0 pm0 an0 cd0 ct0), sl0⟩) (c0 : PySem.W.codeIn K cd0 "is_integer" = true) (k0 : PySem.W.keepIn K (.ref f0) = true)
    (a1 : PySem.W.nsIn K mainGlobals "is_within" = some (some (.ref f1))) (l1 : K.lookup f1 = some ⟨oc1, od1, .func (PySem.W.fnOf "is_within" "is_within" (defArgs (top 8)) (defBody (top 8)) (defScope (top 8)) .none kV1 dc1 pm1 an1 cd1 ct1), sl1⟩) (c1 : PySem.W.codeIn K cd1 "is_within" = true) (k1 : PySem.W.keepIn K (.ref f1) = true)
    (a2 : PySem.W.nsIn K mainGlobals "is_order" = some (some (.ref f2))) (l2 : K.lookup f2 = some ⟨oc2, od2, .func (PySem.W.fnOf "is_order" "is_order" (defArgs (top 9)) (defBody (top 9)) (defScope (top 9)) .none kV2 dc2 pm2 an2 cd2 ct2), sl2⟩) (c2 : PySem.W.codeIn K cd2 "is_order" = true) (k2 : PySem.W.keepIn K (.ref f2) = true)
    (a3 : PySem.W.nsIn K mainGlobals "check_order" = some (some (.ref f3))) (l3 : K.lookup f3 = some ⟨oc3, od3, .func (PySem.W.fnOf "check_order" "check_order" (defArgs (top 11)) (defBody (top 11)) (defScope (top 11)) .none kV3 dc3 pm3 an3 cd3 ct3), sl3⟩) (c3 : PySem.W.codeIn K cd3 "check_order" = true) (k3 : PySem.W.keepIn K (.ref f3) = true)
    (a4 : PySem.W.nsIn K mainGlobals "swapped" = some (some (.ref f4))) (l4 : K.lookup f4 = some ⟨oc4, od4, .func (PySem.W.fnOf "swapped" "swapped" (defArgs (top 14)) (defBody (top 14)) (defScope (top 14)) .none kV4 dc4 pm4 an4 cd4 ct4), sl4⟩) (c4 : PySem.W.codeIn K cd4 "swapped" = true) (k4 : PySem.W.keepIn K (.ref f4) = true)
    (a5 : PySem.W.nsIn K mainGlobals "raw_swaps" = some (some (.ref f5))) (l5 : K.lookup f5 = some ⟨oc5, od5, .func (PySem.W.fnOf "raw_swaps" "raw_swaps" (defArgs (top 15)) (defBody (top 15)) (defScope (top 15)) .none kV5 dc5 pm5 an5 cd5 ct5), sl5⟩) (c5 : PySem.W.codeIn K cd5 "raw_swaps" = true) (k5 : PySem.W.keepIn K (.ref f5) = true)
    (a6 : PySem.W.nsIn K mainGlobals "swaps_of" = some (some (.ref f6))) (l6 : K.lookup f6 = some ⟨oc6, od6, .func (PySem.W.fnOf "swaps_of" "swaps_of" (defArgs (top 16)) (defBody (top 16)) (defScope (top 16)) .none kV6 dc6 pm6 an6 cd6 ct6), sl6⟩) (c6 : PySem.W.codeIn K cd6 "swaps_of" = true) (k6 : PySem.W.keepIn K (.ref f6) = true)
    (a7 : PySem.W.nsIn K mainGlobals "are_swaps" = some (some (.ref f7))) (l7 : K.lookup f7 = some ⟨oc7, od7, .func (PySem.W.fnOf "are_swaps" "are_swaps" (defArgs (top 17)) (defBody (top 17)) (defScope (top 17)) .none kV7 dc7 pm7 an7 cd7 ct7), sl7⟩) (c7 : PySem.W.codeIn K cd7 "are_swaps" = true) (k7 : PySem.W.keepIn K (.ref f7) = true)
    (a8 : PySem.W.nsIn K mainGlobals "by_swaps" = some (some (.ref f8))) (l8 : K.lookup f8 = some ⟨oc8, od8, .func (PySem.W.fnOf "by_swaps" "by_swaps" (defArgs (top 18)) (defBody (top 18)) (defScope (top 18)) .none kV8 dc8 pm8 an8 cd8 ct8), sl8⟩) (c8 : PySem.W.codeIn K cd8 "by_swaps" = true) (k8 : PySem.W.keepIn K (.ref f8) = true)
    (a9 : PySem.W.nsIn K mainGlobals "_law_draw" = some (some (.ref f9))) (l9 : K.lookup f9 = some ⟨oc9, od9, .func (PySem.W.fnOf "_law_draw" "_law_draw" (defArgs (top 20)) (defBody (top 20)) (defScope (top 20)) .none kV9 dc9 pm9 an9 cd9 ct9), sl9⟩) (c9 : PySem.W.codeIn K cd9 "_law_draw" = true) (k9 : PySem.W.keepIn K (.ref f9) = true)
    (a10 : PySem.W.nsIn K mainGlobals "_law_mixed" = some (some (.ref f10))) (l10 : K.lookup f10 = some ⟨oc10, od10, .func (PySem.W.fnOf "_law_mixed" "_law_mixed" (defArgs (top 21)) (defBody (top 21)) (defScope (top 21)) .none kV10 dc10 pm10 an10 cd10 ct10), sl10⟩) (c10 : PySem.W.codeIn K cd10 "_law_mixed" = true) (k10 : PySem.W.keepIn K (.ref f10) = true)
    (a11 : PySem.W.nsIn K mainGlobals "_law_is" = some (some (.ref f11))) (l11 : K.lookup f11 = some ⟨oc11, od11, .func (PySem.W.fnOf "_law_is" "_law_is" (defArgs (top 22)) (defBody (top 22)) (defScope (top 22)) .none kV11 dc11 pm11 an11 cd11 ct11), sl11⟩) (c11 : PySem.W.codeIn K cd11 "_law_is" = true) (k11 : PySem.W.keepIn K (.ref f11) = true)
    (a12 : PySem.W.nsIn K mainGlobals "_law_hand" = some (some (.ref f12))) (l12 : K.lookup f12 = some ⟨oc12, od12, .func (PySem.W.fnOf "_law_hand" "_law_hand" (defArgs (top 23)) (defBody (top 23)) (defScope (top 23)) .none kV12 dc12 pm12 an12 cd12 ct12), sl12⟩) (c12 : PySem.W.codeIn K cd12 "_law_hand" = true) (k12 : PySem.W.keepIn K (.ref f12) = true)
    (a13 : PySem.W.nsIn K mainGlobals "_law_order" = some (some (.ref f13))) (l13 : K.lookup f13 = some ⟨oc13, od13, .func (PySem.W.fnOf "_law_order" "_law_order" (defArgs (top 24)) (defBody (top 24)) (defScope (top 24)) .none kV13 dc13 pm13 an13 cd13 ct13), sl13⟩) (c13 : PySem.W.codeIn K cd13 "_law_order" = true) (k13 : PySem.W.keepIn K (.ref f13) = true)
    (a14 : PySem.W.nsIn K mainGlobals "_law_swapped" = some (some (.ref f14))) (l14 : K.lookup f14 = some ⟨oc14, od14, .func (PySem.W.fnOf "_law_swapped" "_law_swapped" (defArgs (top 25)) (defBody (top 25)) (defScope (top 25)) .none kV14 dc14 pm14 an14 cd14 ct14), sl14⟩) (c14 : PySem.W.codeIn K cd14 "_law_swapped" = true) (k14 : PySem.W.keepIn K (.ref f14) = true)
    (a15 : PySem.W.nsIn K mainGlobals "_law_by" = some (some (.ref f15))) (l15 : K.lookup f15 = some ⟨oc15, od15, .func (PySem.W.fnOf "_law_by" "_law_by" (defArgs (top 26)) (defBody (top 26)) (defScope (top 26)) .none kV15 dc15 pm15 an15 cd15 ct15), sl15⟩) (c15 : PySem.W.codeIn K cd15 "_law_by" = true) (k15 : PySem.W.keepIn K (.ref f15) = true)
    (a16 : PySem.W.nsIn K mainGlobals "_law_least" = some (some (.ref f16))) (l16 : K.lookup f16 = some ⟨oc16, od16, .func (PySem.W.fnOf "_law_least" "_law_least" (defArgs (top 27)) (defBody (top 27)) (defScope (top 27)) .none kV16 dc16 pm16 an16 cd16 ct16), sl16⟩) (c16 : PySem.W.codeIn K cd16 "_law_least" = true) (k16 : PySem.W.keepIn K (.ref f16) = true)
    (a17 : PySem.W.nsIn K mainGlobals "_law_is_told_right" = some (some (.ref f17))) (l17 : K.lookup f17 = some ⟨oc17, od17, .func (PySem.W.fnOf "_law_is_told_right" "_law_is_told_right" (defArgs (top 28)) (defBody (top 28)) (defScope (top 28)) .none kV17 dc17 pm17 an17 cd17 ct17), sl17⟩) (c17 : PySem.W.codeIn K cd17 "_law_is_told_right" = true) (k17 : PySem.W.keepIn K (.ref f17) = true)
    (a18 : PySem.W.nsIn K mainGlobals "law" = some (some (.ref f18))) (l18 : K.lookup f18 = some ⟨oc18, od18, .func (PySem.W.fnOf "law" "law" (defArgs (top 29)) (defBody (top 29)) (defScope (top 29)) .none kV18 dc18 pm18 an18 cd18 ct18), sl18⟩) (c18 : PySem.W.codeIn K cd18 "law" = true) (k18 : PySem.W.keepIn K (.ref f18) = true)
    (z0 : PySem.W.nsIn K mainGlobals "isinstance" = some none)
    (z1 : PySem.W.nsIn K mainGlobals "range" = some none)
    (z2 : PySem.W.nsIn K mainGlobals "enumerate" = some none)
    (z3 : PySem.W.nsIn K mainGlobals "zip" = some none)
    (z4 : PySem.W.nsIn K mainGlobals "len" = some none)
    (z5 : PySem.W.nsIn K mainGlobals "abs" = some none)
    (z6 : PySem.W.nsIn K mainGlobals "int" = some none)
    (z7 : PySem.W.nsIn K mainGlobals "all" = some none)
    (z8 : PySem.W.nsIn K mainGlobals "any" = some none)
    (z9 : PySem.W.nsIn K mainGlobals "sum" = some none)
    (z10 : PySem.W.nsIn K mainGlobals "tuple" = some none)
    (z11 : PySem.W.nsIn K mainGlobals "list" = some none)
    (z12 : PySem.W.nsIn K mainGlobals "min" = some none)
    (z13 : PySem.W.nsIn K mainGlobals "max" = some none)
    (z14 : PySem.W.nsIn K mainGlobals "sorted" = some none)
    (z15 : PySem.W.nsIn K mainGlobals "bool" = some none)
    (z16 : PySem.W.nsIn K mainGlobals "str" = some none)
    (z17 : PySem.W.nsIn K mainGlobals "dict" = some none)
    (u0 : PySem.W.nsIn K mainGlobals "MOST_PIECES" = some (some (.int 6 t0)))
    (u1 : PySem.W.nsIn K mainGlobals "MOST_SWAPS" = some (some (.int 40 t1)))
    (hl : ∀ ns : List Int, ns.length ≤ 63 → callN (pgOf Ds) 0 8 18 [.d (.scr ns)] = .ok (.d (.bl true)) []) :
    ∃ fd : FuncData, (∀ (s : Shared) (v : Value), BindsTo s fd ⟨[v], []⟩ [("script", v)]) ∧ ∀ base : Heap, K.In base → base.Ns mainGlobals mg → FnOk l.prog w K mg base (CX l.prog w) 8 fa fd ["script"] (spLaw K) := by
  have e := hfa.symm.trans (PySem.W.mg_of X G a18)
  cases e
  have F0 := fun_mk (st := top 7) l0 c0 k0
  have B0 := F0.binds (ps := ["thing"]) fun _ _ _ _ _ _ us hl => match us, hl with | [_], _ => rfl
  have F1 := fun_mk (st := top 8) l1 c1 k1
  have B1 := F1.binds (ps := ["thing", "low", "high"]) fun _ _ _ _ _ _ us hl => match us, hl with | [_, _, _], _ => rfl
  have F2 := fun_mk (st := top 9) l2 c2 k2
  have B2 := F2.binds (ps := ["thing"]) fun _ _ _ _ _ _ us hl => match us, hl with | [_], _ => rfl
  have F3 := fun_mk (st := top 11) l3 c3 k3
  have B3 := F3.binds (ps := ["thing"]) fun _ _ _ _ _ _ us hl => match us, hl with | [_], _ => rfl
  have F4 := fun_mk (st := top 14) l4 c4 k4
  have B4 := F4.binds (ps := ["row", "at"]) fun _ _ _ _ _ _ us hl => match us, hl with | [_, _], _ => rfl
  have F5 := fun_mk (st := top 15) l5 c5 k5
  have B5 := F5.binds (ps := ["order"]) fun _ _ _ _ _ _ us hl => match us, hl with | [_], _ => rfl
  have F6 := fun_mk (st := top 16) l6 c6 k6
  have B6 := F6.binds (ps := ["order"]) fun _ _ _ _ _ _ us hl => match us, hl with | [_], _ => rfl
  have F7 := fun_mk (st := top 17) l7 c7 k7
  have B7 := F7.binds (ps := ["many", "thing"]) fun _ _ _ _ _ _ us hl => match us, hl with | [_, _], _ => rfl
  have F8 := fun_mk (st := top 18) l8 c8 k8
  have B8 := F8.binds (ps := ["many", "row"]) fun _ _ _ _ _ _ us hl => match us, hl with | [_, _], _ => rfl
  have F9 := fun_mk (st := top 20) l9 c9 k9
  have B9 := F9.binds (ps := ["hand", "span"]) fun _ _ _ _ _ _ us hl => match us, hl with | [_, _], _ => rfl
  have F10 := fun_mk (st := top 21) l10 c10 k10
  have B10 := F10.binds (ps := ["hand", "things"]) fun _ _ _ _ _ _ us hl => match us, hl with | [_, _], _ => rfl
  have F11 := fun_mk (st := top 22) l11 c11 k11
  have B11 := F11.binds (ps := ["thing", "due"]) fun _ _ _ _ _ _ us hl => match us, hl with | [_, _], _ => rfl
  have F12 := fun_mk (st := top 23) l12 c12 k12
  have B12 := F12.binds (ps := ["script"]) fun _ _ _ _ _ _ us hl => match us, hl with | [_], _ => rfl
  have F13 := fun_mk (st := top 24) l13 c13 k13
  have B13 := F13.binds (ps := ["hand", "many"]) fun _ _ _ _ _ _ us hl => match us, hl with | [_, _], _ => rfl
  have F14 := fun_mk (st := top 25) l14 c14 k14
  have B14 := F14.binds (ps := ["order", "at"]) fun _ _ _ _ _ _ us hl => match us, hl with | [_, _], _ => rfl
  have F15 := fun_mk (st := top 26) l15 c15 k15
  have B15 := F15.binds (ps := ["many", "row"]) fun _ _ _ _ _ _ us hl => match us, hl with | [_, _], _ => rfl
  have F16 := fun_mk (st := top 27) l16 c16 k16
  have B16 := F16.binds (ps := ["many", "order"]) fun _ _ _ _ _ _ us hl => match us, hl with | [_, _], _ => rfl
  have F17 := fun_mk (st := top 28) l17 c17 k17
  have B17 := F17.binds (ps := ["hand", "many"]) fun _ _ _ _ _ _ us hl => match us, hl with | [_, _], _ => rfl
  have F18 := fun_mk (st := top 29) l18 c18 k18
  have B18 := F18.binds (ps := ["script"]) fun _ _ _ _ _ _ us hl => match us, hl with | [_], _ => rfl
  have hF : FunsAt K Ds [f0, f1, f2, f3, f4, f5, f6, f7, f8, f9, f10, f11, f12, f13, f14, f15, f16, f17, fa] [_, _, _, _, _, _, _, _, _, _, _, _, _, _, _, _, _, _, _] := .cons (d := d0) a0 F0 B0 (.cons (d := d1) a1 F1 B1 (.cons (d := d2) a2 F2 B2 (.cons (d := d3) a3 F3 B3 (.cons (d := d4) a4 F4 B4 (.cons (d := d5) a5 F5 B5 (.cons (d := d6) a6 F6 B6 (.cons (d := d7) a7 F7 B7 (.cons (d := d8) a8 F8 B8 (.cons (d := d9) a9 F9 B9 (.cons (d := d10) a10 F10 B10 (.cons (d := d11) a11 F11 B11 (.cons (d := d12) a12 F12 B12 (.cons (d := d13) a13 F13 B13 (.cons (d := d14) a14 F14 B14 (.cons (d := d15) a15 F15 B15 (.cons (d := d16) a16 F16 B16 (.cons (d := d17) a17 F17 B17 (.cons (d := d18) a18 F18 B18 (.nil)))))))))))))))))))
  have hC : ConsAt K cons := .int u0 (.int u1 (.nil))
  have hB : NoBlt K bnames := ⟨z0, z1, z2, z3, z4, z5, z6, z7, z8, z9, z10, z11, z12, z13, z14, z15, z16, z17, True.intro⟩
  have X0 := tx_mk (cs := []) (cf := []) (cls := []) (nc := 0) default X G hF hC hB (fun _ _ z => nomatch z) (fun _ z => absurd z (Nat.not_lt_zero _))
  exact ⟨_, fun s v => .of_eq rfl, fun base _ _ => law_fn X0 Ds_ok (f := 18) (d := d18) rfl rfl hl⟩
end Lw

open PySem PySem.W PyProof.Rows in
set_option maxHeartbeats 0 in
theorem PySem.Challenge.cw_stripturns_k81_whole_swaps_of_neighbours_holds : PySem.Challenge.rw_stripturns_k81_whole_swaps_of_neighbours.Holds := by
  w_on; o_law; k_head; (case hw => w_witness2)
  k_fill
  refine Cl.walk_law (l := PySem.Challenge.rw_stripturns_k81_whole_swaps_of_neighbours) (k := 8) rfl rfl ⟨rfl, by decide, by decide⟩ (fun w h Y => PySem.W.kIn_of Y) ?F
  case F =>
    intro w mg fa h KX G hmg
    refine' Lw.all_mk KX G hmg ?a0 ?l0 ?c0 ?k0 ?a1 ?l1 ?c1 ?k1 ?a2 ?l2 ?c2 ?k2 ?a3 ?l3 ?c3 ?k3 ?a4 ?l4 ?c4 ?k4 ?a5 ?l5 ?c5 ?k5 ?a6 ?l6 ?c6 ?k6 ?a7 ?l7 ?c7 ?k7 ?a8 ?l8 ?c8 ?k8 ?a9 ?l9 ?c9 ?k9 ?a10 ?l10 ?c10 ?k10 ?a11 ?l11 ?c11 ?k11 ?a12 ?l12 ?c12 ?k12 ?a13 ?l13 ?c13 ?k13 ?a14 ?l14 ?c14 ?k14 ?a15 ?l15 ?c15 ?k15 ?a16 ?l16 ?c16 ?k16 ?a17 ?l17 ?c17 ?k17 ?a18 ?l18 ?c18 ?k18 ?z0 ?z1 ?z2 ?z3 ?z4 ?z5 ?z6 ?z7 ?z8 ?z9 ?z10 ?z11 ?z12 ?z13 ?z14 ?z15 ?z16 ?z17 ?u0 ?u1 Lw.law_holds
    (case a0 => k_is)
    (case l0 => k_is)
    (case c0 => k_is)
    (case k0 => k_is)
    (case a1 => k_is)
    (case l1 => k_is)
    (case c1 => k_is)
    (case k1 => k_is)
    (case a2 => k_is)
    (case l2 => k_is)
    (case c2 => k_is)
    (case k2 => k_is)
    (case a3 => k_is)
    (case l3 => k_is)
    (case c3 => k_is)
    (case k3 => k_is)
    (case a4 => k_is)
    (case l4 => k_is)
    (case c4 => k_is)
    (case k4 => k_is)
    (case a5 => k_is)
    (case l5 => k_is)
    (case c5 => k_is)
    (case k5 => k_is)
    (case a6 => k_is)
    (case l6 => k_is)
    (case c6 => k_is)
    (case k6 => k_is)
    (case a7 => k_is)
    (case l7 => k_is)
    (case c7 => k_is)
    (case k7 => k_is)
    (case a8 => k_is)
    (case l8 => k_is)
    (case c8 => k_is)
    (case k8 => k_is)
    (case a9 => k_is)
    (case l9 => k_is)
    (case c9 => k_is)
    (case k9 => k_is)
    (case a10 => k_is)
    (case l10 => k_is)
    (case c10 => k_is)
    (case k10 => k_is)
    (case a11 => k_is)
    (case l11 => k_is)
    (case c11 => k_is)
    (case k11 => k_is)
    (case a12 => k_is)
    (case l12 => k_is)
    (case c12 => k_is)
    (case k12 => k_is)
    (case a13 => k_is)
    (case l13 => k_is)
    (case c13 => k_is)
    (case k13 => k_is)
    (case a14 => k_is)
    (case l14 => k_is)
    (case c14 => k_is)
    (case k14 => k_is)
    (case a15 => k_is)
    (case l15 => k_is)
    (case c15 => k_is)
    (case k15 => k_is)
    (case a16 => k_is)
    (case l16 => k_is)
    (case c16 => k_is)
    (case k16 => k_is)
    (case a17 => k_is)
    (case l17 => k_is)
    (case c17 => k_is)
    (case k17 => k_is)
    (case a18 => k_is)
    (case l18 => k_is)
    (case c18 => k_is)
    (case k18 => k_is)
    (case z0 => k_is)
    (case z1 => k_is)
    (case z2 => k_is)
    (case z3 => k_is)
    (case z4 => k_is)
    (case z5 => k_is)
    (case z6 => k_is)
    (case z7 => k_is)
    (case z8 => k_is)
    (case z9 => k_is)
    (case z10 => k_is)
    (case z11 => k_is)
    (case z12 => k_is)
    (case z13 => k_is)
    (case z14 => k_is)
    (case z15 => k_is)
    (case z16 => k_is)
    (case z17 => k_is)
    (case u0 => k_is)
    (case u1 => k_is)

