import PyProof.Rows.All
import Wide.All
import OpenK.AllK
import Wide.FinOn
import HandS.ForMost
import HandS.Exc
import HandS.TupAny
import HandS.TupMul
import HandS.CallSlots
import HandS.Wide
import PyProof.Rows.SumAny
import HandS.SortInts
import HandS.SortOrd
import HandS.Iter
import KE.GoesMore
import KE.GoesEnum
import HandS.WideMore
import HandS.SetFor
import PyProof.EqAt
import PyProof.FactsAll.tuple_0
import PyProof.FactsAll.tuple_2
import HandS.Conv
import HandS.Style
import PyProof.Rows.SeqMore2
import KE.KRevSl
import HandS.WordsExc
import HandS.ExcInit
import HandS.IsInst
import HandS.Defaults
import HandS.Strs
import PySem.Challenge.RW_markring_k06_differences_of_rings
set_option Elab.async false
set_option linter.all false
/-! A value-semantic layer: an intermediate language whose meaning is a function on trees of data. -/
namespace VS
open PySem L2

abbrev D := PyData
/-- what a slot holds: frozen data, a list of one's own, a list that the caller lent -/
inductive Sl where
  | fr (d : D) | own (ds : List D) | mb (ds : List D)
abbrev En := List (Option Sl)
/-- an error of an own class: its name, its fields -/
structure Exn where
  cls : Str
  fs : List (Str × D)
inductive Ou (α : Type) where
  | ok (a : α) | ex (e : Exn) | no
@[reducible] def Ou.bind {α β : Type} (x : Ou α) (f : α → Ou β) : Ou β := match x with
  | .ok a => f a
  | .ex e => .ex e
  | .no => .no
instance : Monad Ou where
  pure := Ou.ok
  bind := Ou.bind
@[simp] theorem ok_bind {α β : Type} (a : α) (f : α → Ou β) : (Ou.ok a >>= f) = f a := rfl
@[simp] theorem ex_bind {α β : Type} (e : Exn) (f : α → Ou β) : ((Ou.ex e : Ou α) >>= f) = .ex e := rfl
@[simp] theorem no_bind {α β : Type} (f : α → Ou β) : ((Ou.no : Ou α) >>= f) = .no := rfl
@[simp] theorem pure_ok {α : Type} (a : α) : (pure a : Ou α) = .ok a := rfl

def toD : Sl → D
  | .fr d => d
  | .own ds => .list ds
  | .mb ds => .list ds

@[irreducible] def SZ : Nat := 16777216
theorem SZ_lit : SZ = 16777216 := by unfold SZ; rfl
theorem SZ_eq : SZ = sizeLine := by rw [SZ_lit, sizeLine_eq]
theorem le_SZ {n : Nat} (h : n ≤ 1000000) : n ≤ SZ := by rw [SZ_lit]; omega

/-! ### operators -/
def wInt (a : Int) : Prop := -(2 ^ 64) < a ∧ a < 2 ^ 64
instance (a : Int) : Decidable (wInt a) := inferInstanceAs (Decidable (_ ∧ _))
/-- a list of ints -/
def intsD : List D → Option (List Int)
  | [] => some []
  | .int i :: r => (intsD r).map (i :: ·)
  | _ :: _ => none
theorem intsD_map (ns : List Int) : intsD (ns.map PyData.int) = some ns := by
  induction ns with
  | nil => rfl
  | cons a l ih => simp [intsD, ih]
def blsD : List D → Option (List Bool)
  | [] => some []
  | .bool i :: r => (blsD r).map (i :: ·)
  | _ :: _ => none
def repD (k : Int) (xs : List D) : List D := (List.replicate k.toNat xs).flatten

/-- a op b; lists come as own ones -/
def binD (op : Operator) (a b : D) : Ou Sl := match op, a, b with
  | .Add, .int i, .int j => .ok (.fr (.int (i + j)))
  | .Add, .list xs, .list ys => if xs.length + ys.length ≤ SZ then .ok (.own (xs ++ ys)) else .no
  | .Add, .tuple xs, .tuple ys => if xs.length + ys.length ≤ SZ then .ok (.fr (.tuple (xs ++ ys))) else .no
  | .Add, .str x, .str y => if x.length + y.length ≤ SZ then .ok (.fr (.str (x ++ y))) else .no
  | .Sub, .int i, .int j => .ok (.fr (.int (i - j)))
  | .Mult, .int i, .int j => if (wInt i ∨ wInt j) ∨ i.natAbs.log2 + j.natAbs.log2 < 1000000 then .ok (.fr (.int (i * j))) else .no
  | .Mult, .list xs, .int k => if -(2 ^ 63) ≤ k ∧ k < 2 ^ 63 ∧ xs.length * k.toNat ≤ SZ then .ok (.own (repD k xs)) else .no
  | .Mult, .tuple xs, .int k => if 2 ≤ k ∧ k ≤ 1000 ∧ xs ≠ [] ∧ xs.length ≤ 1000 then .ok (.fr (.tuple (repD k xs))) else .no
  | .FloorDiv, .int i, .int j => if (j ≠ 0 ∧ j.natAbs < 1073741824) ∨ (0 < j ∧ j.natAbs.log2 < 9000) then .ok (.fr (.int (i.fdiv j))) else .no
  | .Mod, .int i, .int j => if j ≠ 0 then .ok (.fr (.int (i.fmod j))) else .no
  | .Pow, .int i, .int j => if 0 ≤ j ∧ j ≤ 1000000 ∧ i.natAbs < 2 ^ 64 then .ok (.fr (.int (i ^ j.toNat))) else .no
  | _, _, _ => .no

/-- flat values -/
def flatD : D → Bool
  | .none | .bool _ | .int _ | .str _ => true
  | _ => false
def eqD (a b : D) : Ou Bool := match a, b with
  | .int i, .int j => .ok (i == j)
  | .str i, .str j => .ok (i == j)
  | .bool i, .bool j => .ok (i == j)
  | _, _ => if SeqAt.shaped a = true ∧ SeqAt.shaped b = true then .ok (PyData.eqv a b) else .no
/-- x in xs, all flat -/
def eqF : D → D → Bool
  | .none, .none => true
  | .bool a, .bool b => a == b
  | .bool a, .int b => (if a then 1 else 0) == b
  | .int a, .bool b => a == (if b then 1 else 0)
  | .int a, .int b => a == b
  | .str a, .str b => a == b
  | _, _ => false
def inD (x : D) (xs : List D) : Bool := xs.any fun y => eqF y x
def isNone : D → Bool
  | .none => true
  | _ => false
def cmpD (op : CmpOp) (a b : D) : Ou Bool := match op with
  | .Eq => eqD a b
  | .NotEq => do let r ← eqD a b; .ok (!r)
  | .Lt => match a, b with
    | .int i, .int j => .ok (decide (i < j))
    | .tuple xs, .tuple ys => match intsD xs, intsD ys with
      | some ns, some ms => .ok (HT.lexLt ns ms)
      | _, _ => .no
    | _, _ => .no
  | .LtE => match a, b with
    | .int i, .int j => .ok (decide (i ≤ j))
    | _, _ => .no
  | .Gt => match a, b with
    | .int i, .int j => .ok (decide (j < i))
    | _, _ => .no
  | .GtE => match a, b with
    | .int i, .int j => .ok (decide (j ≤ i))
    | _, _ => .no
  | .Is => match b with
    | .none => .ok (isNone a)
    | _ => .no
  | .IsNot => match b with
    | .none => .ok (!isNone a)
    | _ => .no
  | .In => match b with
    | .list xs => if flatD a = true ∧ xs.all flatD = true then .ok (inD a xs) else .no
    | .tuple xs => if flatD a = true ∧ xs.all flatD = true then .ok (inD a xs) else .no
    | _ => .no
  | .NotIn => match b with
    | .list xs => if flatD a = true ∧ xs.all flatD = true then .ok (!inD a xs) else .no
    | .tuple xs => if flatD a = true ∧ xs.all flatD = true then .ok (!inD a xs) else .no
    | _ => .no

def itemsD : D → Option (List D)
  | .list xs => some xs
  | .tuple xs => some xs
  | _ => none
/-- a[i] -/
def idxD (a i : D) : Ou D := match a, i with
  | .list xs, .int k => match atI xs k with | some d => .ok d | none => .no
  | .tuple xs, .int k => match atI xs k with | some d => .ok d | none => .no
  | _, _ => .no
/-- the items of xs[lo:hi] -/
def cutD (xs : List D) (lo hi : Option Int) : List D := (xs.drop (HT.sIx xs.length 0 lo)).take (HT.sIx xs.length xs.length hi - HT.sIx xs.length 0 lo)
def slcD (a : D) (lo hi : Option Int) : Ou Sl := match a with
  | .list xs => .ok (.own (cutD xs lo hi))
  | .tuple xs => .ok (.fr (.tuple (cutD xs lo hi)))
  | _ => .no

/-! ### built-ins -/
/-- in order -/
def srt (ns : List Int) : List Int := ns.mergeSort fun a b => decide (a ≤ b)
/-- each once -/
def ddp : List Int → List Int
  | [] => []
  | a :: r => if a ∈ ddp r then ddp r else a :: ddp r
/-- sorted(set(xs)) -/
def sset (ns : List Int) : List Int := srt (ddp ns)
/-- xs.pop(k) -/
def popL (k : Int) (ds : List D) : Option (D × List D) := match ixN ds.length k with
  | some j => match ds[j]? with
    | some d => some (d, ds.eraseIdx j)
    | none => none
  | none => none
def popA (k : Int) (ds : List D) : Ou (D × List D) := if ds.length ≤ SZ then (match popL k ds with
  | some p => .ok p
  | none => .no) else .no
inductive Bi where
  | dvm | count | sset | len | abs | min1 | max1 | min2 | max2 | sum | sorted | list | tuple | int | all | any
def biD (b : Bi) (as : List D) : Ou Sl := match b with
  | .dvm => (match as with
    | [.int i, .int j] => if 0 < j ∧ j < 2 ^ 30 then .ok (.fr (.tuple [.int (i / j), .int (i % j)])) else .no
    | _ => .no)
  | .count => (match as with
    | [.list xs, .int k] => (match intsD xs with | some ns => .ok (.fr (.int (ns.count k : Nat))) | none => .no)
    | [.tuple xs, .int k] => (match intsD xs with | some ns => .ok (.fr (.int (ns.count k : Nat))) | none => .no)
    | _ => .no)
  | .sset => (match as with
    | [.list xs] => match intsD xs with | some ns => if ns.length < 64 then .ok (.own ((sset ns).map PyData.int)) else .no | none => .no
    | [.tuple xs] => match intsD xs with | some ns => if ns.length < 64 then .ok (.own ((sset ns).map PyData.int)) else .no | none => .no
    | _ => .no)
  | .len => (match as with
    | [.list xs] => .ok (.fr (.int xs.length))
    | [.tuple xs] => .ok (.fr (.int xs.length))
    | [.str x] => if x.length ≤ SZ then .ok (.fr (.int x.length)) else .no
    | _ => .no)
  | .abs => (match as with
    | [.int i] => .ok (.fr (.int (if i < 0 then -i else i)))
    | _ => .no)
  | .min1 => (match as with
    | [.list xs] => match intsD xs with | some (n :: ns) => .ok (.fr (.int (ns.foldl min n))) | _ => .no
    | [.tuple xs] => match intsD xs with | some (n :: ns) => .ok (.fr (.int (ns.foldl min n))) | _ => .no
    | _ => .no)
  | .max1 => (match as with
    | [.list xs] => match intsD xs with | some (n :: ns) => .ok (.fr (.int (ns.foldl max n))) | _ => .no
    | [.tuple xs] => match intsD xs with | some (n :: ns) => .ok (.fr (.int (ns.foldl max n))) | _ => .no
    | _ => .no)
  | .min2 => (match as with
    | [.int i, .int j] => .ok (.fr (.int (if j < i then j else i)))
    | _ => .no)
  | .max2 => (match as with
    | [.int i, .int j] => .ok (.fr (.int (if j > i then j else i)))
    | _ => .no)
  | .sum => (match as with
    | [.list xs] => match intsD xs with | some ns => .ok (.fr (.int ns.sum)) | none => .no
    | [.tuple xs] => match intsD xs with | some ns => .ok (.fr (.int ns.sum)) | none => .no
    | _ => .no)
  | .sorted => (match as with
    | [.list xs] => match intsD xs with | some ns => .ok (.own ((srt ns).map PyData.int)) | none => .no
    | [.tuple xs] => match intsD xs with | some ns => .ok (.own ((srt ns).map PyData.int)) | none => .no
    | _ => .no)
  | .list => (match as with
    | [.list xs] => .ok (.own xs)
    | [.tuple xs] => .ok (.own xs)
    | _ => .no)
  | .tuple => (match as with
    | [.list xs] => .ok (.fr (.tuple xs))
    | [.tuple xs] => .ok (.fr (.tuple xs))
    | _ => .no)
  | .int => (match as with
    | [.int i] => .ok (.fr (.int i))
    | [.bool k] => .ok (.fr (.int (if k then 1 else 0)))
    | _ => .no)
  | .all => (match as with
    | [.list xs] => match blsD xs with | some bs => .ok (.fr (.bool (bs.all id))) | none => .no
    | _ => .no)
  | .any => (match as with
    | [.list xs] => match blsD xs with | some bs => .ok (.fr (.bool (bs.any id))) | none => .no
    | _ => .no)

/-- xs[::-1] -/
def revD (a : D) : Ou Sl := match a with
  | .list xs => .ok (.own xs.reverse)
  | .tuple xs => .ok (.fr (.tuple xs.reverse))
  | _ => .no
def lstD (a : D) : Ou (List D) := match a with
  | .list xs => .ok xs
  | _ => .no
/-- xs.index(k, lo), ints -/
def findD (o x y : D) : Ou Sl := match o, x, y with
  | .list xs, .int k, .int lo => match intsD xs with
    | some ns => if 0 ≤ lo ∧ lo < 2 ^ 62 ∧ ns.length < SZ then (match (ns.drop lo.toNat).findIdx? (· == k) with
      | some j => .ok (.fr (.int ((lo.toNat + j : Nat) : Int)))
      | none => .no) else .no
    | none => .no
  | _, _, _ => .no
/-! ### isinstance -/
inductive Ty where
  | int | bool | str | tuple | list
def isiD : Ty → D → Ou Bool
  | _, .dict _ => .no
  | .int, .int _ => .ok true
  | .int, .bool _ => .ok true
  | .bool, .bool _ => .ok true
  | .str, .str _ => .ok true
  | .tuple, .tuple _ => .ok true
  | .list, .list _ => .ok true
  | _, _ => .ok false

/-! ### the language -/
inductive Tg where
  | one (i : Nat)
  | tup (is : List Nat)
def bindT (t : Tg) (d : D) (en : En) : Ou En := match t with
  | .one i => .ok (en.set i (some (.fr d)))
  | .tup is => match d with
    | .tuple ds => if ds.length = is.length then .ok ((is.zip ds).foldl (fun e p => e.set p.1 (some (.fr p.2))) en) else .no
    | _ => .no
mutual
inductive Ex where
  | cst (d : D)
  | var (i : Nat)
  | mv (i : Nat)
  | bin (op : Operator) (a b : Ex)
  | neg (a : Ex)
  | nt (a : Ex)
  | cmp (op : CmpOp) (a b : Ex)
  | chain (o1 o2 : CmpOp) (a b c : Ex)
  | andE (a b : Ex)
  | orE (a b : Ex)
  | ife (c a b : Ex)
  | tupE (es : Exs)
  | lstE (es : Exs)
  | idx (a b : Ex)
  | slc (a : Ex) (lo hi : Exo)
  | call (φ : List D → Ou Sl) (es : Exs)
  | callM (φ : List D → List D → Ou (D × List D)) (i : Nat) (es : Exs)
  | popI (i k : Nat)
  | popE (i : Nat) (e : Ex)
  | bi (b : Bi) (e : Ex)
  | bi2 (b : Bi) (e1 e2 : Ex)
  | isi (T : Ty) (e : Ex)
  | lrng (e : Ex)
  | rev (e : Ex)
  | idx3 (i : Nat) (e1 e2 : Ex)
  | lc (elt : Ex) (tg : Tg) (src : Sr) (cond : Exo) (vs : List Nat)
inductive Exs where
  | nil
  | cons (e : Ex) (es : Exs)
inductive Exo where
  | none
  | some (e : Ex)
inductive Sr where
  | rng1 (a : Ex)
  | rng2 (a b : Ex)
  | seq (e : Ex)
  | enum (e : Ex)
  | zip (a b : Ex)
  | zip3 (a b c : Ex)
  | rngD (a b : Ex)
end

/-- a borrowed reading of a slot -/
def rdE (en : En) (i : Nat) : Ou D := match en[i]? with
  | some (some s) => .ok (toD s)
  | _ => .no
/-- a list that may be changed -/
def rdL (en : En) (i : Nat) : Ou (List D) := match en[i]? with
  | some (some (.own ds)) => .ok ds
  | some (some (.mb ds)) => .ok ds
  | _ => .no
def wipeE (en : En) (vs : List Nat) : En := vs.foldr (fun i e => e.set i none) en
/-- behind a comprehension: its own names as they were -/
def backE (en en' : En) (vs : List Nat) : En := vs.foldr (fun i e => e.set i (en[i]?.getD none)) en'
def enumD : Nat → List D → List D
  | _, [] => []
  | k, x :: r => .tuple [.int k, x] :: enumD (k + 1) r
def rngD (lo : Int) : Nat → List D
  | 0 => []
  | n + 1 => .int lo :: rngD (lo + 1) n
def zipD : List D → List D → List D
  | x :: r, y :: s => .tuple [x, y] :: zipD r s
  | _, _ => []
/-- i, i - 1, .. -/
def downD (lo : Int) : Nat → List D
  | 0 => []
  | n + 1 => .int lo :: downD (lo - 1) n
def zipD3 : List D → List D → List D → List D
  | x :: r, y :: s, z :: t => .tuple [x, y, z] :: zipD3 r s t
  | _, _, _ => []
/-- the loop of a comprehension -/
def lcGo (f : En → Ou (D × En)) (c : En → Ou (Bool × En)) (t : Tg) (vs : List Nat) : List D → En → List D → Ou (List D × En)
  | [], en, acc => .ok (acc, en)
  | d :: r, en, acc => do
    let e1 ← bindT t d (wipeE en vs)
    let (b, e2) ← c e1
    if b = true then do
      let (x, e3) ← f e2
      lcGo f c t vs r e3 (acc ++ [x])
    else lcGo f c t vs r e2 acc
def strict {α : Type} (x : Ou α) : Ou α := match x with
  | .ok a => .ok a
  | _ => .no

def asVar : Ex → Option Nat
  | .var i => some i
  | _ => none
/-- borrowed: a slot is read as it stands -/
def brw (v : Option Nat) (f : En → Ou (Sl × En)) (en : En) : Ou (D × En) := match v with
  | some i => do let d ← rdE en i; .ok (d, en)
  | none => do let (r, e1) ← f en; .ok (toD r, e1)
/-- two in a row: a name on the left is read when the right one has its value -/
def two (v : Option Nat) (fa : En → Ou (Sl × En)) (fb : En → Ou (D × En)) (en : En) : Ou (D × D × En) := match v with
  | some i => do
    let _ ← rdE en i
    let (y, e1) ← fb en
    let x ← rdE e1 i
    .ok (x, y, e1)
  | none => do
    let (x, e1) ← fa en
    let (y, e2) ← fb e1
    .ok (toD x, y, e2)
/-- a base and two parts -/
def three (v : Option Nat) (fa : En → Ou (Sl × En)) (fb fc : En → Ou (Option Int × En)) (en : En) : Ou (D × Option Int × Option Int × En) := match v with
  | some i => do
    let _ ← rdE en i
    let (l, e1) ← fb en
    let (h, e2) ← fc e1
    let x ← rdE e2 i
    .ok (x, l, h, e2)
  | none => do
    let (x, e1) ← fa en
    let (l, e2) ← fb e1
    let (h, e3) ← fc e2
    .ok (toD x, l, h, e3)
mutual
def evalE : Ex → En → Ou (Sl × En)
  | .cst d, en => .ok (.fr d, en)
  | .var i, en => match en[i]? with
    | some (some (.fr d)) => .ok (.fr d, en)
    | some (some (.own ds)) => .ok (.fr (.list ds), en.set i (some (.fr (.list ds))))
    | _ => .no
  | .mv i, en => match en[i]? with
    | some (some (.fr d)) => .ok (.fr d, en)
    | some (some (.own ds)) => .ok (.own ds, en.set i none)
    | _ => .no
  | .bin op a b, en => do
    let (x, y, e2) ← two (asVar a) (evalE a) (brw (asVar b) (evalE b)) en
    let r ← binD op x y
    .ok (r, e2)
  | .neg a, en => do
    let (x, e1) ← brw (asVar a) (evalE a) en
    match x with
    | .int i => .ok (.fr (.int (-i)), e1)
    | _ => .no
  | .nt a, en => do
    let (x, e1) ← brw (asVar a) (evalE a) en
    match x with
    | .bool i => .ok (.fr (.bool (!i)), e1)
    | _ => .no
  | .cmp op a b, en => do
    let (x, y, e2) ← two (asVar a) (evalE a) (brw (asVar b) (evalE b)) en
    let r ← cmpD op x y
    .ok (.fr (.bool r), e2)
  | .chain o1 o2 a b c, en => do
    let (x, e1) ← evalE a en
    let (y, e2) ← evalE b e1
    let r ← cmpD o1 (toD x) (toD y)
    if r = true then do
      let (z, e3) ← evalE c e2
      let r' ← cmpD o2 (toD y) (toD z)
      .ok (.fr (.bool r'), e3)
    else .ok (.fr (.bool false), e2)
  | .andE a b, en => do
    let (x, e1) ← brw (asVar a) (evalE a) en
    match x with
    | .bool true => evalE b e1
    | .bool false => .ok (.fr (.bool false), e1)
    | _ => .no
  | .orE a b, en => do
    let (x, e1) ← brw (asVar a) (evalE a) en
    match x with
    | .bool true => .ok (.fr (.bool true), e1)
    | .bool false => evalE b e1
    | _ => .no
  | .ife c a b, en => do
    let (x, e1) ← brw (asVar c) (evalE c) en
    match x with
    | .bool true => evalE a e1
    | .bool false => evalE b e1
    | _ => .no
  | .tupE es, en => do
    let (ds, e1) ← evalA es en
    if ds.length ≤ SZ then .ok (.fr (.tuple ds), e1) else .no
  | .lstE es, en => do
    let (ds, e1) ← evalA es en
    if ds.length ≤ SZ then .ok (.own ds, e1) else .no
  | .idx a b, en => do
    let (x, y, e2) ← two (asVar a) (evalE a) (brw (asVar b) (evalE b)) en
    let r ← idxD x y
    .ok (.fr r, e2)
  | .slc a lo hi, en => do
    let (x, l, h, e3) ← three (asVar a) (evalE a) (evalO lo) (evalO hi) en
    let r ← slcD x l h
    .ok (r, e3)
  | .call φ es, en => do
    let (ds, e1) ← evalA es en
    let r ← φ ds
    .ok (r, e1)
  | .callM φ i es, en => do
    let _ ← rdE en i
    let (ds, e1) ← evalA es en
    match e1[i]? with
    | some (some (.own ms)) => do
      let (r, ms') ← strict (φ ms ds)
      .ok (.fr r, e1.set i (some (.own ms')))
    | some (some (.mb ms)) => do
      let (r, ms') ← strict (φ ms ds)
      .ok (.fr r, e1.set i (some (.mb ms')))
    | _ => .no
  | .popI i k, en => match en[i]? with
    | some (some (.own ms)) => match ms[k]? with
      | some d => .ok (.fr d, en.set i (some (.own (ms.eraseIdx k))))
      | none => .no
    | some (some (.mb ms)) => match ms[k]? with
      | some d => .ok (.fr d, en.set i (some (.mb (ms.eraseIdx k))))
      | none => .no
    | _ => .no
  | .popE i a, en => do
    let _ ← rdL en i
    let (d, e1) ← brw (asVar a) (evalE a) en
    match d with
    | .int k => match e1[i]? with
      | some (some (.own ms)) => do
        let (d, ms') ← popA k ms
        .ok (.fr d, e1.set i (some (.own ms')))
      | some (some (.mb ms)) => do
        let (d, ms') ← popA k ms
        .ok (.fr d, e1.set i (some (.mb ms')))
      | _ => .no
    | _ => .no
  | .bi b e, en => do
    let (d, e1) ← brw (asVar e) (evalE e) en
    let r ← biD b [d]
    .ok (r, e1)
  | .isi T e, en => do
    let (d, e1) ← brw (asVar e) (evalE e) en
    let r ← isiD T d
    .ok (.fr (.bool r), e1)
  | .bi2 b a c, en => do
    let (x, y, e1) ← two (asVar a) (evalE a) (brw (asVar c) (evalE c)) en
    let r ← biD b [x, y]
    .ok (r, e1)
  | .lrng e, en => do
    let (d, e1) ← brw (asVar e) (evalE e) en
    match d with
    | .int i => if -(2 ^ 62) ≤ i ∧ i ≤ 2 ^ 24 then .ok (.own (rngD 0 i.toNat), e1) else .no
    | _ => .no
  | .rev e, en => do
    let (d, e1) ← brw (asVar e) (evalE e) en
    let r ← revD d
    .ok (r, e1)
  | .idx3 i a b, en => do
    let o0 ← rdE en i
    let _ ← lstD o0
    let (x, e1) ← brw (asVar a) (evalE a) en
    let (y, e2) ← brw (asVar b) (evalE b) e1
    let o ← rdE e2 i
    let r ← findD o x y
    .ok (r, e2)
  | .lc elt tg src cond vs, en => do
    let (items, e1) ← evalS src en
    if items.length ≤ SZ then do
      let (xs, e2) ← strict (lcGo (fun e => do let (r, e') ← evalE elt e; .ok (toD r, e')) (evalC cond) tg vs items e1 [])
      .ok (.own xs, backE e1 e2 vs)
    else .no
def evalA : Exs → En → Ou (List D × En)
  | .nil, en => .ok ([], en)
  | .cons e es, en => do
    let (r, e1) ← evalE e en
    let (ds, e2) ← evalA es e1
    .ok (toD r :: ds, e2)
def evalO : Exo → En → Ou (Option Int × En)
  | .none, en => .ok (none, en)
  | .some e, en => do
    let (d, e1) ← brw (asVar e) (evalE e) en
    match d with
    | .int i => .ok (some i, e1)
    | _ => .no
def evalC : Exo → En → Ou (Bool × En)
  | .none, en => .ok (true, en)
  | .some e, en => do
    let (d, e1) ← brw (asVar e) (evalE e) en
    match d with
    | .bool i => .ok (i, e1)
    | _ => .no
def evalS : Sr → En → Ou (List D × En)
  | .rng1 a, en => do
    let (d, e1) ← brw (asVar a) (evalE a) en
    match d with
    | .int i => if -(2 ^ 62) ≤ i ∧ i < 2 ^ 62 then .ok (rngD 0 i.toNat, e1) else .no
    | _ => .no
  | .rng2 a b, en => do
    let (d, e1) ← brw (asVar a) (evalE a) en
    let (d', e2) ← brw (asVar b) (evalE b) e1
    match d, d' with
    | .int i, .int j => if (-(2 ^ 62) ≤ i ∧ i < 2 ^ 62) ∧ -(2 ^ 62) ≤ j ∧ j < 2 ^ 62 then .ok (rngD i (j - i).toNat, e2) else .no
    | _, _ => .no
  | .seq e, en => do
    let (r, e1) ← evalE e en
    match itemsD (toD r) with
    | some xs => .ok (xs, e1)
    | none => .no
  | .enum e, en => do
    let (r, e1) ← evalE e en
    match itemsD (toD r) with
    | some xs => .ok (enumD 0 xs, e1)
    | none => .no
  | .zip a b, en => do
    let (r, e1) ← evalE a en
    let (r', e2) ← evalE b e1
    match itemsD (toD r), itemsD (toD r') with
    | some xs, some ys => .ok (zipD xs ys, e2)
    | _, _ => .no
  | .rngD a b, en => do
    let (d, e1) ← brw (asVar a) (evalE a) en
    let (d', e2) ← brw (asVar b) (evalE b) e1
    match d, d' with
    | .int i, .int j => if (-(2 ^ 62) ≤ i ∧ i < 2 ^ 62) ∧ -(2 ^ 62) ≤ j ∧ j < 2 ^ 62 then .ok (downD i (i - j).toNat, e2) else .no
    | _, _ => .no
  | .zip3 a b c, en => do
    let (r, e1) ← evalE a en
    let (r', e2) ← evalE b e1
    let (r'', e3) ← evalE c e2
    match itemsD (toD r), itemsD (toD r'), itemsD (toD r'') with
    | some xs, some ys, some zs => .ok (zipD3 xs ys zs, e3)
    | _, _, _ => .no
end
abbrev evalB (e : Ex) : En → Ou (D × En) := brw (asVar e) (evalE e)
end VS

/-! The statements of the intermediate language. -/
namespace VS
open PySem L2

inductive Fl where
  | nx (en : En) | rt (r : Sl) (en : En) | bk (en : En) | ct (en : En)
inductive TgE where
  | nm (i : Nat)
  | sub (i : Nat) (ix : Ex)
mutual
inductive Sx where
  | asg (i : Nat) (e : Ex)
  | par (is : List Nat) (es : Exs)
  | unp (ts : List TgE) (e : Ex)
  | setI (i : Nat) (ix e : Ex)
  | aug (i : Nat) (op : Operator) (e : Ex)
  | augI (i : Nat) (ix : Ex) (op : Operator) (e : Ex)
  | app (i : Nat) (e : Ex)
  | rem (i : Nat) (e : Ex)
  | ext (i : Nat) (e : Ex)
  | expr (e : Ex)
  | ret (e : Ex)
  | retN
  | iff (c : Ex) (a b : Sxs)
  | whl (c : Ex) (b : Sxs)
  | forr (tg : Tg) (src : Sr) (b : Sxs)
  | brk
  | cnt
  | pass
  | raise (C : Str) (mk : List D → List (Str × D)) (es : Exs)
  | nev
inductive Sxs where
  | nil
  | cons (s : Sx) (r : Sxs)
end

/-- a name is stored: not over a lent list -/
def putE (en : En) (i : Nat) (r : Sl) : Ou En := match en[i]?, r with
  | some (some (.mb _)), _ => .no
  | none, _ => .no
  | _, .mb _ => .no
  | _, r => .ok (en.set i (some r))
/-- a list of one's own (or a lent one) is changed -/
def updE (en : En) (i : Nat) (f : List D → Ou (List D)) : Ou En := match en[i]? with
  | some (some (.own ds)) => do let es ← f ds; .ok (en.set i (some (.own es)))
  | some (some (.mb ds)) => do let es ← f ds; .ok (en.set i (some (.mb es)))
  | _ => .no
def setL (k : Int) (d : D) (ds : List D) : Ou (List D) := match ixN ds.length k with
  | some j => .ok (ds.set j d)
  | none => .no
def intOf : D → Ou Int
  | .int k => .ok k
  | _ => .no
def evalL : Exs → En → Ou (List Sl × En)
  | .nil, en => .ok ([], en)
  | .cons e es, en => do
    let (r, e1) ← evalE e en
    let (ds, e2) ← evalL es e1
    .ok (r :: ds, e2)
def putsE : List Nat → List Sl → En → Ou En
  | [], [], en => .ok en
  | i :: is, r :: rs, en => do let e1 ← putE en i r; putsE is rs e1
  | _, _, _ => .no
def stores : List TgE → List D → En → Ou En
  | [], [], en => .ok en
  | .nm i :: ts, d :: ds, en => do let e1 ← putE en i (.fr d); stores ts ds e1
  | .sub i ix :: ts, d :: ds, en => do
    let _ ← rdE en i
    let (k, e1) ← evalB ix en
    let k ← intOf k
    let e2 ← updE e1 i (setL k d)
    stores ts ds e2
  | _, _, _ => .no
def forGo (f : En → Ou Fl) (t : Tg) : List D → En → Ou Fl
  | [], en => .ok (.nx en)
  | d :: r, en => do
    let e1 ← bindT t d en
    match ← f e1 with
    | .nx e2 => forGo f t r e2
    | .ct e2 => forGo f t r e2
    | .bk e2 => .ok (.nx e2)
    | .rt v e2 => .ok (.rt v e2)
def whlGo (c : En → Ou (D × En)) (f : En → Ou Fl) : Nat → En → Ou Fl
  | 0, _ => .no
  | n + 1, en => do
    let (b, e1) ← c en
    match b with
    | .bool true => match ← f e1 with
      | .nx e2 => whlGo c f n e2
      | .ct e2 => whlGo c f n e2
      | .bk e2 => .ok (.nx e2)
      | .rt v e2 => .ok (.rt v e2)
    | .bool false => .ok (.nx e1)
    | _ => .no
/-- op= on ints -/
def augD (op : Operator) (i j : Int) : Ou Int := match op with
  | .Add => .ok (i + j)
  | .Sub => .ok (i - j)
  | .Mult => if wInt i ∨ wInt j then .ok (i * j) else .no
  | .FloorDiv => if 0 < j ∧ j.natAbs.log2 < 9000 then .ok (i / j) else .no
  | _ => .no
/-- xs.remove(int) -/
def remL (d : D) (ds : List D) : Ou (List D) := match d, intsD ds with
  | .int k, some ns => match ns.findIdx? (· == k) with
    | some j => .ok (ds.eraseIdx j)
    | none => .no
  | _, _ => .no

mutual
def exec (n : Nat) : Sx → En → Ou Fl
  | .asg i e, en => do
    let (r, e1) ← evalE e en
    let e2 ← putE e1 i r
    .ok (.nx e2)
  | .par is es, en => do
    let (rs, e1) ← evalL es en
    let e2 ← putsE is rs e1
    .ok (.nx e2)
  | .unp ts e, en => do
    let (d, e1) ← evalB e en
    match d with
    | .tuple ds => do
      let e2 ← strict (stores ts ds e1)
      .ok (.nx e2)
    | _ => .no
  | .setI i ix e, en => do
    let (r, e1) ← evalE e en
    let _ ← rdE e1 i
    let (k, e2) ← evalB ix e1
    let k ← intOf k
    let e3 ← updE e2 i (setL k (toD r))
    .ok (.nx e3)
  | .aug i op e, en => do
    let x ← rdE en i
    let x ← intOf x
    let (y, e1) ← evalB e en
    let y ← intOf y
    let r ← augD op x y
    let e2 ← putE e1 i (.fr (.int r))
    .ok (.nx e2)
  | .augI i ix op e, en => do
    let _ ← rdE en i
    let (k, e1) ← evalB ix en
    let k ← intOf k
    let o ← rdE e1 i
    let x ← idxD o (.int k)
    let x ← intOf x
    let (y, e2) ← evalB e e1
    let y ← intOf y
    let r ← augD op x y
    let e3 ← updE e2 i (setL k (.int r))
    .ok (.nx e3)
  | .app i e, en => do
    let _ ← rdL en i
    let (r, e1) ← evalE e en
    let e2 ← updE e1 i fun ds => if ds.length < SZ then .ok (ds ++ [toD r]) else .no
    .ok (.nx e2)
  | .rem i e, en => do
    let _ ← rdL en i
    let (d, e1) ← evalB e en
    let e2 ← updE e1 i (remL d)
    .ok (.nx e2)
  | .ext i e, en => do
    let _ ← rdL en i
    let (r, e1) ← evalE e en
    match toD r with
    | .list xs => do
      let e2 ← updE e1 i fun ds => if ds.length + xs.length ≤ SZ then .ok (ds ++ xs) else .no
      .ok (.nx e2)
    | _ => .no
  | .expr e, en => do
    let (_, e1) ← evalE e en
    .ok (.nx e1)
  | .ret e, en => do
    let (r, e1) ← evalE e en
    .ok (.rt r e1)
  | .retN, en => .ok (.rt (.fr .none) en)
  | .iff c a b, en => do
    let (d, e1) ← evalB c en
    match d with
    | .bool true => execs n a e1
    | .bool false => execs n b e1
    | _ => .no
  | .whl c b, en => whlGo (evalB c) (execs n b) n en
  | .forr tg src b, en => do
    let (items, e1) ← evalS src en
    forGo (execs n b) tg items e1
  | .brk, en => .ok (.bk en)
  | .cnt, en => .ok (.ct en)
  | .pass, en => .ok (.nx en)
  | .raise C mk es, en => do
    let (ds, _) ← evalA es en
    .ex ⟨C, mk ds⟩
  | .nev, _ => .no
def execs (n : Nat) : Sxs → En → Ou Fl
  | .nil, en => .ok (.nx en)
  | .cons s r, en => do
    match ← exec n s en with
    | .nx e1 => execs n r e1
    | f => .ok f
end
/-- a def: its body upon its arguments; m more names -/
def runD (n : Nat) (b : Sxs) (m : Nat) (ds : List D) : Ou Sl := do
  match ← execs n b (ds.map (fun d => some (.fr d)) ++ List.replicate m none) with
  | .nx _ => .ok (.fr .none)
  | .rt r _ => .ok r
  | _ => .no
/-- the lent list of the first slot -/
def mb0 (en : En) : Ou (List D) := match en with
  | some (.mb ms) :: _ => .ok ms
  | _ => .no
/-- a def whose first parameter is a list that it changes -/
def runM (n : Nat) (b : Sxs) (m : Nat) (ms : List D) (ds : List D) : Ou (D × List D) := do
  match ← execs n b (some (.mb ms) :: (ds.map (fun d => some (.fr d)) ++ List.replicate m none)) with
  | .nx e => do let ms' ← mb0 e; .ok (.none, ms')
  | .rt r e => do let ms' ← mb0 e; .ok (toD r, ms')
  | _ => .no
end VS

/-! What a slot's data is on the heap. -/
namespace VS
open PySem L2

/-- the heap without what stands at O -/
def hid (H : Hp) (O : List Addr) : Hp := fun b => if b ∈ O then none else H b
theorem hid_in {H : Hp} {O : List Addr} {b : Addr} (h : b ∈ O) : hid H O b = none := by unfold hid; rw [if_pos h]
theorem hid_out {H : Hp} {O : List Addr} {b : Addr} (h : b ∉ O) : hid H O b = H b := by unfold hid; rw [if_neg h]
theorem hid_le {H : Hp} {O : List Addr} : Same (hid H O) H := fun b o h => by
  unfold hid at h
  split at h
  · cases h
  · exact h
theorem hid_some {H : Hp} {O : List Addr} {b : Addr} {o : HO} (h : hid H O b = some o) : b ∉ O ∧ H b = some o := by
  unfold hid at h
  split at h
  · cases h
  · exact ⟨by assumption, h⟩
theorem hid_sub {H : Hp} {O O' : List Addr} (s : ∀ a ∈ O', a ∈ O) : Same (hid H O) (hid H O') := fun b o h => by
  obtain ⟨n, e⟩ := hid_some h
  rw [hid_out fun q => n (s b q)]
  exact e
theorem hid_upd {H : Hp} {O : List Addr} {a : Addr} {o : HO} (h : a ∈ O) : hid (upd H a o) O = hid H O := by
  funext b
  unfold hid
  split
  · rfl
  · rename_i n
    exact upd_ne fun e => n (e ▸ h)

/-- what the top has written: the module's own objects -/
class KF where
  K : PySem.W.Frag
section
variable [kf : KF]
/-- a tuple, its object known to be plain: tracked, or one of the module's own -/
def TupAt (H : Hp) (a : Addr) (xs : List V) : Prop := (∃ o, H a = some (.frz o (.tup xs)) ∧ o.dict = none) ∨
  ∃ (o : Obj) (its : Array Value) (n : Nat), kf.K.lookup a = some o ∧ o.cls = .type "tuple" ∧ o.dict = none ∧ o.data = .seq its n ∧ its.size ≤ sizeLine ∧ Vals xs its.toList
theorem TupAt.mono {H H' : Hp} {a : Addr} {xs : List V} (s : Same H H') (h : TupAt H a xs) : TupAt H' a xs := by
  rcases h with ⟨o, h1, h2⟩ | h
  · exact .inl ⟨o, s _ _ h1, h2⟩
  · exact .inr h
theorem TupAt.of {H : Hp} {a : Addr} {xs : List V} {o : Obj} (h : H a = some (.frz o (.tup xs))) (hd : o.dict = none) : TupAt H a xs := .inl ⟨o, h, hd⟩
theorem TupAt.sq {K : PySem.W.Frag} {H : Hp} {a : Addr} {xs : List V} (h : TupAt H a xs) (hk : K = kf.K) : SqT K H a xs := by
  subst hk
  rcases h with ⟨o, h1, h2⟩ | ⟨o, its, n, h1, h2, _, h3, h4, h5⟩
  · exact .inl (.inr ⟨o, h1⟩)
  · exact .inr ⟨o, its, n, h1, h2, h3, h4, h5⟩
mutual
/-- the value's data -/
inductive Rp (H : Hp) : V → D → Prop where
  | non : Rp H .non .none
  | bl (b : Bool) : Rp H (.bl b) (.bool b)
  | int (i : Int) : Rp H (.int i) (.int i)
  | str (x : Str) : Rp H (.str x) (.str x)
  | lst {a : Addr} {xs : List V} {ds : List D} : H a = some (.lst xs) → RpA H xs ds → Rp H (.ref a) (.list ds)
  | tup {a : Addr} {xs : List V} {ds : List D} : TupAt H a xs → RpA H xs ds → Rp H (.ref a) (.tuple ds)
inductive RpA (H : Hp) : List V → List D → Prop where
  | nil : RpA H [] []
  | cons {v : V} {vs : List V} {d : D} {ds : List D} : Rp H v d → RpA H vs ds → RpA H (v :: vs) (d :: ds)
end
section
variable {H H' : Hp}
mutual
theorem Rp.mono (s : Same H H') : ∀ {v : V} {d : D}, Rp H v d → Rp H' v d
  | _, _, .non => .non
  | _, _, .bl b => .bl b
  | _, _, .int i => .int i
  | _, _, .str x => .str x
  | _, _, .lst h r => .lst (s _ _ h) (RpA.mono s r)
  | _, _, .tup h r => .tup (h.mono s) (RpA.mono s r)
theorem RpA.mono (s : Same H H') : ∀ {vs : List V} {ds : List D}, RpA H vs ds → RpA H' vs ds
  | _, _, .nil => .nil
  | _, _, .cons h r => .cons (Rp.mono s h) (RpA.mono s r)
end
theorem RpA.length : ∀ {vs : List V} {ds : List D}, RpA H vs ds → vs.length = ds.length
  | _, _, .nil => rfl
  | _, _, .cons _ r => congrArg (· + 1) r.length
theorem RpA.get : ∀ {vs : List V} {ds : List D} {i : Nat} {d : D}, RpA H vs ds → ds[i]? = some d → ∃ v, vs[i]? = some v ∧ Rp H v d
  | _, _, _, _, .nil, e => by simp at e
  | _, _, 0, _, .cons h _, e => by simp at e; subst e; exact ⟨_, rfl, h⟩
  | _, _, i + 1, d, .cons _ r, e => by
    obtain ⟨u, h1, h2⟩ := RpA.get (i := i) (d := d) r (by simpa using e)
    exact ⟨u, by simpa using h1, h2⟩
theorem RpA.getV : ∀ {vs : List V} {ds : List D} {i : Nat} {v : V}, RpA H vs ds → vs[i]? = some v → ∃ d, ds[i]? = some d ∧ Rp H v d
  | _, _, _, _, .nil, e => by simp at e
  | _, _, 0, _, .cons h _, e => by simp at e; subst e; exact ⟨_, rfl, h⟩
  | _, _, i + 1, d, .cons _ r, e => by
    obtain ⟨u, h1, h2⟩ := RpA.getV (i := i) (v := d) r (by simpa using e)
    exact ⟨u, by simpa using h1, h2⟩
theorem RpA.append : ∀ {xs ys : List V} {ds es : List D}, RpA H xs ds → RpA H ys es → RpA H (xs ++ ys) (ds ++ es)
  | _, _, _, _, .nil, s => s
  | _, _, _, _, .cons h r, s => .cons h (r.append s)
theorem RpA.take : ∀ (n : Nat) {vs : List V} {ds : List D}, RpA H vs ds → RpA H (vs.take n) (ds.take n)
  | 0, _, _, _ => .nil
  | _ + 1, _, _, .nil => .nil
  | n + 1, _, _, .cons h r => .cons h (r.take n)
theorem RpA.drop : ∀ (n : Nat) {vs : List V} {ds : List D}, RpA H vs ds → RpA H (vs.drop n) (ds.drop n)
  | 0, _, _, r => r
  | _ + 1, _, _, .nil => .nil
  | n + 1, _, _, .cons _ r => r.drop n
theorem RpA.set {v : V} {d : D} (h : Rp H v d) : ∀ (n : Nat) {vs : List V} {ds : List D}, RpA H vs ds → RpA H (vs.set n v) (ds.set n d)
  | _, _, _, .nil => .nil
  | 0, _, _, .cons _ r => .cons h r
  | n + 1, _, _, .cons q r => .cons q (r.set h n)
theorem RpA.erase : ∀ (n : Nat) {vs : List V} {ds : List D}, RpA H vs ds → RpA H (vs.eraseIdx n) (ds.eraseIdx n)
  | _, _, _, .nil => .nil
  | 0, _, _, .cons _ r => r
  | n + 1, _, _, .cons q r => .cons q (r.erase n)
theorem RpA.rep {vs : List V} {ds : List D} (h : RpA H vs ds) : ∀ k : Nat, RpA H (List.replicate k vs).flatten (List.replicate k ds).flatten
  | 0 => .nil
  | k + 1 => by
    rw [List.replicate_succ, List.replicate_succ, List.flatten_cons, List.flatten_cons]
    exact h.append (h.rep k)
theorem RpA.cut {vs : List V} {ds : List D} (h : RpA H vs ds) (lo hi : Option Int) : RpA H (cutV vs lo hi) (cutD ds lo hi) := by
  unfold cutV cutD
  rw [h.length]
  exact (h.drop _).take _
theorem RpA.ints : ∀ {vs : List V} {ds : List D} {ns : List Int}, RpA H vs ds → intsD ds = some ns → vs = ns.map V.int
  | _, _, ns, .nil, e => by
    have q : [] = ns := Option.some.inj e
    subst q
    rfl
  | _, _, ns, .cons h r, e => by
    cases h with
    | int i =>
      rename_i vs' ds'
      show _ :: _ = _
      unfold intsD at e
      cases q : intsD ds' with
      | none => rw [q] at e; cases e
      | some ms =>
        rw [q] at e
        have z : i :: ms = ns := Option.some.inj e
        subst z
        rw [r.ints q]
        rfl
    | _ => cases e
theorem RpA.bls : ∀ {vs : List V} {ds : List D} {ns : List Bool}, RpA H vs ds → blsD ds = some ns → vs = ns.map V.bl
  | _, _, ns, .nil, e => by
    have q : [] = ns := Option.some.inj e
    subst q
    rfl
  | _, _, ns, .cons h r, e => by
    cases h with
    | bl i =>
      rename_i vs' ds'
      show _ :: _ = _
      unfold blsD at e
      cases q : blsD ds' with
      | none => rw [q] at e; cases e
      | some ms =>
        rw [q] at e
        have z : i :: ms = ns := Option.some.inj e
        subst z
        rw [r.bls q]
        rfl
    | _ => cases e
mutual
theorem Rp.dp {K : PySem.W.Frag} (hk : K = kf.K) : ∀ {v : V} {d : D}, Rp H v d → Dp K H v d
  | _, _, .non => .non
  | _, _, .bl b => .bl b
  | _, _, .int i => .int i
  | _, _, .str x => .str x
  | _, _, .lst h r => .lst (SqL.of h) (RpA.dp hk r)
  | _, _, .tup h r => .tup (h.sq hk) (RpA.dp hk r)
theorem RpA.dp {K : PySem.W.Frag} (hk : K = kf.K) : ∀ {vs : List V} {ds : List D}, RpA H vs ds → DpAll K H vs ds
  | _, _, .nil => .nil
  | _, _, .cons h r => .cons (Rp.dp hk h) (RpA.dp hk r)
end
theorem Rp.flat : ∀ {v : V} {d : D}, Rp H v d → flatD d = true → flatV v = true
  | _, _, .non, _ => rfl
  | _, _, .bl b, _ => rfl
  | _, _, .int i, _ => rfl
  | _, _, .str x, _ => rfl
  | _, _, .lst _ _, e => by cases e
  | _, _, .tup _ _, e => by cases e
theorem RpA.flat : ∀ {vs : List V} {ds : List D}, RpA H vs ds → ds.all flatD = true → vs.all flatV = true
  | _, _, .nil, _ => rfl
  | _, _, .cons h r, e => by
    rw [List.all_cons, Bool.and_eq_true] at e
    rw [List.all_cons, h.flat e.1, r.flat e.2]
    rfl
theorem Rp.eqF : ∀ {v u : V} {d e : D}, Rp H v d → Rp H u e → flatD d = true → flatD e = true → eqV v u = VS.eqF d e := by
  intro v u d e h1 h2 f1 f2
  cases h1 <;> cases h2 <;> first | rfl | cases f1 | cases f2
theorem RpA.inF {u : V} {e : D} (h : Rp H u e) (f : flatD e = true) : ∀ {vs : List V} {ds : List D}, RpA H vs ds → ds.all flatD = true → inV u vs = inD e ds
  | _, _, .nil, _ => rfl
  | _, _, .cons q r, g => by
    rw [List.all_cons, Bool.and_eq_true] at g
    unfold inV inD
    rw [List.any_cons, List.any_cons, q.eqF h g.1 f]
    exact congrArg _ (RpA.inF h f r g.2)
end

/-! ### where one stands -/
/-- a def's entry: the heap, what it may change, what it must not hand out -/
structure Ent where
  H0 : Hp
  M : List Addr
  O0 : List Addr
/-- the heap, the names' data, what is hidden (own and lent lists), where the lists stand -/
structure Sn where
  H : Hp
  en : En
  O : List Addr
  ad : Nat → Addr
def isL (en : En) (i : Nat) : Prop := ∃ ds, en[i]? = some (some (Sl.own ds)) ∨ en[i]? = some (some (Sl.mb ds))
abbrev Sn.F (S : Sn) : Hp := hid S.H S.O
structure Rel (t : Ent) (S : Sn) (σ : L2.St) : Prop where
  len : S.en.length = σ.length
  keep : ∀ b o, t.H0 b = some o → b ∉ t.M → S.H b = some o
  sup : ∀ a ∈ t.O0, a ∈ S.O
  subM : ∀ a ∈ t.M, a ∈ t.O0
  new : ∀ a ∈ S.O, a ∈ t.O0 ∨ t.H0 a = none
  trk : ∀ a ∈ S.O, S.H a ≠ none
  fr : ∀ (i : Nat) d, S.en[i]? = some (some (Sl.fr d)) → ∃ v, σ[i]? = some (some v) ∧ Rp S.F v d
  li : ∀ (i : Nat) ds, S.en[i]? = some (some (Sl.own ds)) ∨ S.en[i]? = some (some (Sl.mb ds)) → σ[i]? = some (some (V.ref (S.ad i))) ∧ S.ad i ∈ S.O ∧ ∃ xs, S.H (S.ad i) = some (.lst xs) ∧ RpA S.F xs ds
  ow : ∀ (i : Nat) ds, S.en[i]? = some (some (Sl.own ds)) → t.H0 (S.ad i) = none ∧ S.ad i ∉ t.O0
  mb : ∀ (i : Nat) ds, S.en[i]? = some (some (Sl.mb ds)) → S.ad i ∈ t.M
  inj : ∀ (i j : Nat), isL S.en i → isL S.en j → S.ad i = S.ad j → i = j
/-- what an expression's evaluation leaves -/
structure Le (S S' : Sn) : Prop where
  le : Same S.F S'.F
  per : ∀ a, S.H a ≠ none → S'.H a ≠ none
  sl : ∀ i, isL S'.en i → isL S.en i ∧ S'.ad i = S.ad i
  tmp : ∀ a ∈ S.O, (∀ i, isL S.en i → S.ad i ≠ a) → a ∈ S'.O ∧ S'.H a = S.H a
omit [kf : KF] in
theorem Le.refl (S : Sn) : Le S S := ⟨Same.refl _, fun _ h => h, fun _ h => ⟨h, rfl⟩, fun a h n => ⟨h, rfl⟩⟩
omit [kf : KF] in
theorem Le.ntmp {A B : Sn} (x : Le A B) {a : Addr} (n : ∀ i, isL A.en i → A.ad i ≠ a) : ∀ i, isL B.en i → B.ad i ≠ a := fun i h e => n i (x.sl i h).1 ((x.sl i h).2.symm.trans e)
omit [kf : KF] in
theorem Le.trans {A B C : Sn} (x : Le A B) (y : Le B C) : Le A C := ⟨x.le.trans y.le, fun a h => y.per a (x.per a h), fun i h => ⟨(x.sl i (y.sl i h).1).1, (y.sl i h).2.trans (x.sl i (y.sl i h).1).2⟩, fun a h n => by
  obtain ⟨h1, e1⟩ := x.tmp a h n
  obtain ⟨h2, e2⟩ := y.tmp a h1 (x.ntmp n)
  exact ⟨h2, e2.trans e1⟩⟩
/-- a value as an expression hands it out -/
def VR (t : Ent) (S : Sn) (v : V) : Sl → Prop
  | .fr d => Rp S.F v d
  | .own ds => ∃ p xs, v = .ref p ∧ p ∈ S.O ∧ t.H0 p = none ∧ p ∉ t.O0 ∧ S.H p = some (.lst xs) ∧ RpA S.F xs ds ∧ ∀ i, isL S.en i → S.ad i ≠ p
  | .mb _ => False
/-- a borrowed value -/
def SB (S : Sn) (v : V) (d : D) : Prop := match d with
  | .list ds => ∃ a xs, v = .ref a ∧ S.H a = some (.lst xs) ∧ RpA S.F xs ds
  | d => Rp S.F v d
theorem SB.of {S : Sn} {v : V} {d : D} (h : Rp S.F v d) : SB S v d := by
  cases h with
  | lst h r => exact ⟨_, _, rfl, hid_le _ _ h, r⟩
  | tup h r => exact .tup h r
  | non => exact .non
  | bl b => exact .bl b
  | int i => exact .int i
  | str x => exact .str x
theorem SB.rp {S : Sn} {v : V} {d : D} (h : SB S v d) : Rp S.H v d := by
  cases d with
  | list ds => obtain ⟨a, xs, rfl, e, r⟩ := h; exact .lst e (r.mono hid_le)
  | tuple ds => exact Rp.mono hid_le h
  | none => exact Rp.mono hid_le h
  | bool b => exact Rp.mono hid_le h
  | int i => exact Rp.mono hid_le h
  | str x => exact Rp.mono hid_le h
  | dict k => exact Rp.mono hid_le (show Rp S.F v _ from h)
theorem SB.int {S : Sn} {v : V} {i : Int} (h : SB S v (.int i)) : v = .int i := by cases (show Rp S.F v (.int i) from h); rfl
theorem SB.bool {S : Sn} {v : V} {i : Bool} (h : SB S v (.bool i)) : v = .bl i := by cases (show Rp S.F v (.bool i) from h); rfl
theorem SB.str {S : Sn} {v : V} {i : Str} (h : SB S v (.str i)) : v = .str i := by cases (show Rp S.F v (.str i) from h); rfl
theorem SB.none {S : Sn} {v : V} (h : SB S v .none) : v = .non := by cases (show Rp S.F v .none from h); rfl
theorem SB.tup {S : Sn} {v : V} {ds : List D} (h : SB S v (.tuple ds)) : ∃ a xs, v = .ref a ∧ TupAt S.H a xs ∧ RpA S.F xs ds ∧ Rp S.F v (.tuple ds) := by
  cases (show Rp S.F v (.tuple ds) from h) with
  | tup h' r => exact ⟨_, _, rfl, h'.mono hid_le, r, .tup h' r⟩
/-- a temporary list is let go: it is data -/
def Sn.drop (S : Sn) (p : Addr) : Sn := { S with O := S.O.filter (· ≠ p) }
omit [kf : KF] in
theorem mem_drop {S : Sn} {p a : Addr} : a ∈ (S.drop p).O ↔ a ∈ S.O ∧ a ≠ p := by simp [Sn.drop]
omit [kf : KF] in
theorem drop_le {S : Sn} {p : Addr} : Same S.F (S.drop p).F := hid_sub fun a h => (mem_drop.mp h).1
theorem Rel.drop {t : Ent} {S : Sn} {σ : L2.St} {p : Addr} (R : Rel t S σ) (hp : p ∉ t.O0) (n : ∀ i, isL S.en i → S.ad i ≠ p) : Rel t (S.drop p) σ where
  len := R.len
  keep := R.keep
  sup := fun a h => mem_drop.mpr ⟨R.sup a h, fun e => hp (e ▸ h)⟩
  subM := R.subM
  new := fun a h => R.new a (mem_drop.mp h).1
  trk := fun a h => R.trk a (mem_drop.mp h).1
  fr := fun i d e => let ⟨v, h1, h2⟩ := R.fr i d e; ⟨v, h1, h2.mono drop_le⟩
  li := fun i ds e => let ⟨h1, h2, xs, h3, h4⟩ := R.li i ds e; ⟨h1, mem_drop.mpr ⟨h2, n i ⟨ds, e⟩⟩, xs, h3, h4.mono drop_le⟩
  ow := R.ow
  mb := R.mb
  inj := R.inj
/-- behind an expression that left a temporary list, from S: the list was not there in S -/
theorem Le.dropped {t : Ent} {σ : L2.St} {S S' : Sn} {p : Addr} (R : Rel t S σ) (x : Le S S') (hp : S.H p = none ∨ ∃ i, isL S.en i ∧ S.ad i = p) : Le S (S'.drop p) := ⟨x.le.trans drop_le, x.per, x.sl, fun a h n => by
  obtain ⟨h1, e1⟩ := x.tmp a h n
  refine ⟨mem_drop.mpr ⟨h1, fun e => ?_⟩, e1⟩
  rcases hp with hp | ⟨i, hi, e2⟩
  · subst e; exact R.trk a h hp
  · exact n i hi (e2.trans e.symm)⟩
/-- an expression's end: its value, as it is; the list it left is not one that stood -/
structure EPost (t : Ent) (S S' : Sn) (σ : L2.St) (v : V) (r : Sl) : Prop where
  rel : Rel t S' σ
  le : Le S S'
  val : VR t S' v r
  tmp : ∀ p ds, r = .own ds → v = .ref p → S.H p = none ∨ ∃ i, isL S.en i ∧ S.ad i = p
/-- .. let go -/
structure FPost (t : Ent) (S S' : Sn) (σ : L2.St) (v : V) (d : D) : Prop where
  rel : Rel t S' σ
  le : Le S S'
  val : Rp S'.F v d
structure BPost (t : Ent) (S S' : Sn) (σ : L2.St) (v : V) (d : D) : Prop where
  rel : Rel t S' σ
  le : Le S S'
  val : SB S' v d
theorem EPost.fr {t : Ent} {S S' : Sn} {σ : L2.St} {v : V} {d : D} (R : Rel t S' σ) (l : Le S S') (h : Rp S'.F v d) : EPost t S S' σ v (.fr d) := ⟨R, l, h, fun p ds e => nomatch e⟩
theorem EPost.let_go {t : Ent} {S S' : Sn} {σ : L2.St} {v : V} {r : Sl} (R : Rel t S σ) (P : EPost t S S' σ v r) : ∃ S'' : Sn, S''.H = S'.H ∧ S''.en = S'.en ∧ S''.ad = S'.ad ∧ (∀ a ∈ S''.O, a ∈ S'.O) ∧ FPost t S S'' σ v (toD r) := by
  cases r with
  | fr d => exact ⟨S', rfl, rfl, rfl, fun _ h => h, P.rel, P.le, P.val⟩
  | mb ds => exact absurd P.val (fun h => h)
  | own ds =>
    obtain ⟨p, xs, rfl, hp, h0, hO, hx, hr, hn⟩ := P.val
    refine ⟨S'.drop p, rfl, rfl, rfl, fun a h => (mem_drop.mp h).1, P.rel.drop hO hn, P.le.dropped R (P.tmp p ds rfl rfl), ?_⟩
    refine .lst ?_ (hr.mono drop_le)
    show hid S'.H (S'.drop p).O p = _
    rw [hid_out fun h => (mem_drop.mp h).2 rfl]
    exact hx
theorem FPost.b {t : Ent} {S S' : Sn} {σ : L2.St} {v : V} {d : D} (P : FPost t S S' σ v d) : BPost t S S' σ v d := ⟨P.rel, P.le, .of P.val⟩
/-- a name, borrowed -/
theorem Rel.borrow {t : Ent} {S : Sn} {σ : L2.St} (R : Rel t S σ) {i : Nat} {d : D} (h : rdE S.en i = .ok d) : ∃ v, σ[i]? = some (some v) ∧ SB S v d := by
  unfold rdE at h
  split at h
  · rename_i s e
    have h' : toD s = d := by injection h
    subst h'
    cases s with
    | fr d => obtain ⟨v, h1, h2⟩ := R.fr i d e; exact ⟨v, h1, .of h2⟩
    | own ds => obtain ⟨h1, h2, xs, h3, h4⟩ := R.li i ds (.inl e); exact ⟨_, h1, _, xs, rfl, h3, h4⟩
    | mb ds => obtain ⟨h1, h2, xs, h3, h4⟩ := R.li i ds (.inr e); exact ⟨_, h1, _, xs, rfl, h3, h4⟩
  · cases h
omit [kf : KF] in
theorem en_set {en : En} {i j : Nat} {x : Option Sl} (h : i < en.length) : (en.set i x)[j]? = if i = j then some x else en[j]? := by
  rw [List.getElem?_set]
  by_cases e : i = j
  · subst e; simp [h]
  · simp [e]
omit [kf : KF] in
theorem lt_of_some {α : Type} {l : List α} {i : Nat} {x : α} (h : l[i]? = some x) : i < l.length := (List.getElem?_eq_some_iff.mp h).1
/-- an own list is let go: from now on it is data -/
def Sn.frz (S : Sn) (i : Nat) (ds : List D) : Sn := { S with en := S.en.set i (some (.fr (.list ds))), O := S.O.filter (· ≠ S.ad i) }
theorem Rel.frz {t : Ent} {S : Sn} {σ : L2.St} (R : Rel t S σ) {i : Nat} {ds : List D} (h : S.en[i]? = some (some (Sl.own ds))) :
    Rel t (S.frz i ds) σ ∧ Le S (S.frz i ds) ∧ σ[i]? = some (some (V.ref (S.ad i))) ∧ Rp (S.frz i ds).F (.ref (S.ad i)) (.list ds) := by
  have hi := lt_of_some h
  obtain ⟨h1, h2, xs, h3, h4⟩ := R.li i ds (.inl h)
  obtain ⟨h5, h6⟩ := R.ow i ds h
  have mO : ∀ {a}, a ∈ (S.frz i ds).O ↔ a ∈ S.O ∧ a ≠ S.ad i := by intro a; simp [Sn.frz]
  have le : Same S.F (S.frz i ds).F := hid_sub fun a h => (mO.mp h).1
  have hr : Rp (S.frz i ds).F (.ref (S.ad i)) (.list ds) := by
    refine .lst ?_ (h4.mono le)
    show hid S.H (S.frz i ds).O (S.ad i) = _
    rw [hid_out fun h => (mO.mp h).2 rfl]
    exact h3
  have old : ∀ {j x}, (S.frz i ds).en[j]? = some (some x) → (∀ d, x ≠ .fr d) → j ≠ i ∧ S.en[j]? = some (some x) := by
    intro j x e nx
    rw [show (S.frz i ds).en = S.en.set i (some (.fr (.list ds))) from rfl, en_set hi] at e
    split at e
    · exact absurd (Option.some.inj (Option.some.inj e)).symm (nx _)
    · rename_i ne; exact ⟨fun q => ne q.symm, e⟩
  have oldL : ∀ {j}, isL (S.frz i ds).en j → j ≠ i ∧ isL S.en j := by
    rintro j ⟨es, e | e⟩
    · obtain ⟨a, b⟩ := old e (fun d => by simp); exact ⟨a, es, .inl b⟩
    · obtain ⟨a, b⟩ := old e (fun d => by simp); exact ⟨a, es, .inr b⟩
  refine ⟨⟨?_, R.keep, fun a ha => mO.mpr ⟨R.sup a ha, fun e => h6 (e ▸ ha)⟩, R.subM, fun a ha => R.new a (mO.mp ha).1, fun a ha => R.trk a (mO.mp ha).1, ?_, ?_, ?_, ?_, ?_⟩, ⟨le, fun a h => h, fun j hj => ⟨(oldL hj).2, rfl⟩, fun a ha n => ⟨mO.mpr ⟨ha, fun e => n i ⟨ds, .inl h⟩ e.symm⟩, rfl⟩⟩, h1, hr⟩
  · show (S.en.set i _).length = _
    rw [List.length_set]; exact R.len
  · intro j d e
    rw [show (S.frz i ds).en = S.en.set i (some (.fr (.list ds))) from rfl, en_set hi] at e
    split at e
    · rename_i q
      subst q
      have z : PyData.list ds = d := by simpa using e
      subst z
      exact ⟨_, h1, hr⟩
    · obtain ⟨v, a, b⟩ := R.fr j d e
      exact ⟨v, a, b.mono le⟩
  · intro j es e
    have q : j ≠ i ∧ (S.en[j]? = some (some (Sl.own es)) ∨ S.en[j]? = some (some (Sl.mb es))) := by
      rcases e with e | e
      · exact ⟨(old e (fun d => by simp)).1, .inl (old e (fun d => by simp)).2⟩
      · exact ⟨(old e (fun d => by simp)).1, .inr (old e (fun d => by simp)).2⟩
    obtain ⟨a, b, ys, c, d⟩ := R.li j es q.2
    exact ⟨a, mO.mpr ⟨b, fun z => q.1 (R.inj j i ⟨es, q.2⟩ ⟨ds, .inl h⟩ z)⟩, ys, c, d.mono le⟩
  · intro j es e
    exact R.ow j es (old e (fun d => by simp)).2
  · intro j es e
    exact R.mb j es (old e (fun d => by simp)).2
  · intro j k hj hk z
    exact R.inj j k (oldL hj).2 (oldL hk).2 z
/-- .. moved: a temporary list -/
def Sn.mvd (S : Sn) (i : Nat) : Sn := { S with en := S.en.set i none }
theorem Rel.mvd {t : Ent} {S : Sn} {σ : L2.St} (R : Rel t S σ) {i : Nat} {ds : List D} (h : S.en[i]? = some (some (Sl.own ds))) : ∃ v, σ[i]? = some (some v) ∧ EPost t S (S.mvd i) σ v (.own ds) := by
  have hi := lt_of_some h
  obtain ⟨h1, h2, xs, h3, h4⟩ := R.li i ds (.inl h)
  obtain ⟨h5, h6⟩ := R.ow i ds h
  have old : ∀ {j x}, (S.mvd i).en[j]? = some (some x) → j ≠ i ∧ S.en[j]? = some (some x) := by
    intro j x e
    rw [show (S.mvd i).en = S.en.set i none from rfl, en_set hi] at e
    split at e
    · cases e
    · rename_i ne; exact ⟨fun q => ne q.symm, e⟩
  have oldL : ∀ {j}, isL (S.mvd i).en j → j ≠ i ∧ isL S.en j := by
    rintro j ⟨es, e | e⟩
    · exact ⟨(old e).1, es, .inl (old e).2⟩
    · exact ⟨(old e).1, es, .inr (old e).2⟩
  refine ⟨_, h1, ⟨?_, R.keep, R.sup, R.subM, R.new, R.trk, fun j d e => R.fr j d (old e).2, ?_, fun j es e => R.ow j es (old e).2, fun j es e => R.mb j es (old e).2, fun j k hj hk z => R.inj j k (oldL hj).2 (oldL hk).2 z⟩, ⟨Same.refl _, fun a h => h, fun j hj => ⟨(oldL hj).2, rfl⟩, fun a ha n => ⟨ha, rfl⟩⟩, ⟨_, xs, rfl, h2, h5, h6, h3, h4, fun j hj z => (oldL hj).1 (R.inj j i (oldL hj).2 ⟨ds, .inl h⟩ z)⟩, fun p es e1 e2 => .inr ⟨i, ⟨ds, .inl h⟩, by injection e2⟩⟩
  · show (S.en.set i _).length = _
    rw [List.length_set]; exact R.len
  · intro j es e
    refine R.li j es ?_
    rcases e with e | e
    · exact .inl (old e).2
    · exact .inr (old e).2
theorem EPost.trans {t : Ent} {A B C : Sn} {σ : L2.St} {v : V} {r : Sl} (x : Le A B) (P : EPost t B C σ v r) : EPost t A C σ v r := ⟨P.rel, x.trans P.le, P.val, fun p ds e1 e2 => by
  rcases P.tmp p ds e1 e2 with h | ⟨i, h, e⟩
  · refine .inl ?_
    cases q : A.H p with
    | none => rfl
    | some o => exact absurd h (x.per p (by rw [q]; simp))
  · exact .inr ⟨i, (x.sl i h).1, (x.sl i h).2.symm.trans e⟩⟩
theorem FPost.trans {t : Ent} {A B C : Sn} {σ : L2.St} {v : V} {r : D} (x : Le A B) (P : FPost t B C σ v r) : FPost t A C σ v r := ⟨P.rel, x.trans P.le, P.val⟩
theorem BPost.trans {t : Ent} {A B C : Sn} {σ : L2.St} {v : V} {r : D} (x : Le A B) (P : BPost t B C σ v r) : BPost t A C σ v r := ⟨P.rel, x.trans P.le, P.val⟩
/-- a new object -/
theorem Rel.fresh {t : Ent} {S : Sn} {σ : L2.St} (R : Rel t S σ) {p : Addr} (hp : S.H p = none) : p ∉ S.O ∧ p ∉ t.O0 ∧ t.H0 p = none := by
  have h1 : p ∉ S.O := fun h => R.trk p h hp
  have h2 : p ∉ t.O0 := fun h => h1 (R.sup p h)
  refine ⟨h1, h2, ?_⟩
  cases e : t.H0 p with
  | none => rfl
  | some o => rw [R.keep p o e fun h => h2 (R.subM p h)] at hp; cases hp
omit [kf : KF] in
theorem same_upd {H : Hp} {p : Addr} {o : HO} (hp : H p = none) : Same H (upd H p o) := fun b u e => by rw [upd_ne (ne_of_none e hp)]; exact e
/-- the heap has grown: nothing that stood has changed -/
theorem Rel.grow {t : Ent} {S : Sn} {σ : L2.St} (R : Rel t S σ) {H' : Hp} (s : Same S.H H') : Rel t { S with H := H' } σ ∧ Le S { S with H := H' } := by
  have le : Same S.F (hid H' S.O) := fun b o h => by
    obtain ⟨n, e⟩ := hid_some h
    rw [hid_out n]
    exact s _ _ e
  have per : ∀ a, S.H a ≠ none → H' a ≠ none := fun a h => by
    cases e : S.H a with
    | none => exact absurd e h
    | some o => rw [s _ _ e]; simp
  refine ⟨⟨R.len, fun b o h m => s _ _ (R.keep b o h m), R.sup, R.subM, R.new, fun a h => per a (R.trk a h), fun i d e => ?_, fun i ds e => ?_, R.ow, R.mb, R.inj⟩, ⟨le, per, fun i h => ⟨h, rfl⟩, fun a h n => ⟨h, ?_⟩⟩⟩
  · obtain ⟨v, h1, h2⟩ := R.fr i d e
    exact ⟨v, h1, h2.mono le⟩
  · obtain ⟨h1, h2, xs, h3, h4⟩ := R.li i ds e
    exact ⟨h1, h2, xs, s _ _ h3, h4.mono le⟩
  · show H' a = S.H a
    cases e : S.H a with
    | none => exact absurd e (R.trk a h)
    | some o => exact s _ _ e
/-- .. and a list in it is the expression's own -/
theorem Rel.growL {t : Ent} {S : Sn} {σ : L2.St} (R : Rel t S σ) {H' : Hp} (s : Same S.H H') {p : Addr} {xs : List V} {ds : List D} (hp : S.H p = none) (hx : H' p = some (.lst xs)) (hr : RpA (hid H' (p :: S.O)) xs ds) :
    EPost t S { S with H := H', O := p :: S.O } σ (.ref p) (.own ds) := by
  obtain ⟨n1, n2, n3⟩ := R.fresh hp
  have le : Same S.F (hid H' (p :: S.O)) := fun b o h => by
    obtain ⟨n, e⟩ := hid_some h
    rw [hid_out fun q => by
      rcases List.mem_cons.mp q with q | q
      · subst q; rw [hp] at e; cases e
      · exact n q]
    exact s _ _ e
  have per : ∀ a, S.H a ≠ none → H' a ≠ none := fun a h => by
    cases e : S.H a with
    | none => exact absurd e h
    | some o => rw [s _ _ e]; simp
  refine ⟨⟨R.len, fun b o h m => s _ _ (R.keep b o h m), fun a h => List.mem_cons_of_mem _ (R.sup a h), R.subM, fun a h => ?_, fun a h => ?_, fun i d e => ?_, fun i ds e => ?_, R.ow, R.mb, R.inj⟩, ⟨le, per, fun i h => ⟨h, rfl⟩, fun a h n => ⟨List.mem_cons_of_mem _ h, ?_⟩⟩, ⟨p, xs, rfl, List.mem_cons_self .., n3, n2, hx, hr, fun i hi e => ?_⟩, fun q es e1 e2 => .inl ?_⟩
  · rcases List.mem_cons.mp h with h | h
    · exact .inr (h ▸ n3)
    · exact R.new a h
  · rcases List.mem_cons.mp h with h | h
    · subst h
      show H' a ≠ none
      rw [hx]
      simp
    · exact per a (R.trk a h)
  · obtain ⟨v, h1, h2⟩ := R.fr i d e
    exact ⟨v, h1, h2.mono le⟩
  · obtain ⟨h1, h2, xs, h3, h4⟩ := R.li i ds e
    exact ⟨h1, List.mem_cons_of_mem _ h2, xs, s _ _ h3, h4.mono le⟩
  · show H' a = S.H a
    cases e : S.H a with
    | none => exact absurd e (R.trk a h)
    | some o => exact s _ _ e
  · obtain ⟨es, hi⟩ := hi
    have q := (R.li i es hi).2.1
    exact n1 (e ▸ q)
  · injection e2 with e3
    rw [← e3]
    exact hp
theorem Rel.newL {t : Ent} {S : Sn} {σ : L2.St} (R : Rel t S σ) {p : Addr} {xs : List V} {ds : List D} (hp : S.H p = none) (hr : RpA S.F xs ds) :
    EPost t S { S with H := upd S.H p (.lst xs), O := p :: S.O } σ (.ref p) (.own ds) := by
  obtain ⟨n1, n2, n3⟩ := R.fresh hp
  refine R.growL (same_upd hp) hp upd_same (hr.mono fun b o h => ?_)
  obtain ⟨n, e⟩ := hid_some h
  have nb : b ≠ p := ne_of_none e hp
  rw [hid_out fun q => by
    rcases List.mem_cons.mp q with q | q
    · exact nb q
    · exact n q, upd_ne nb]
  exact e
theorem Rel.newF {t : Ent} {S : Sn} {σ : L2.St} (R : Rel t S σ) {p : Addr} {o : Obj} {xs : List V} {ds : List D} (hp : S.H p = none) (ho : o.dict = none) (hr : RpA S.F xs ds) :
    FPost t S { S with H := upd S.H p (.frz o (.tup xs)) } σ (.ref p) (.tuple ds) := by
  obtain ⟨R', l⟩ := R.grow (same_upd (o := .frz o (.tup xs)) hp)
  refine ⟨R', l, .tup (.of (o := o) ?_ ho) (hr.mono l.le)⟩
  show hid (upd S.H p (.frz o (.tup xs))) S.O p = _
  rw [hid_out (R.fresh hp).1, upd_same]
theorem FPost.e {t : Ent} {S S' : Sn} {σ : L2.St} {v : V} {d : D} (P : FPost t S S' σ v d) : EPost t S S' σ v (.fr d) := .fr P.rel P.le P.val
end
end VS

/-! Tuples made, their objects known: displays, tuple(xs), +, slices, * int. -/
namespace VS
open PySem PySem.Spec PyProof.Rows L2 HT
/-- the object of a new tuple -/
def tob (its : List Value) : Obj := { cls := .type "tuple", data := .seq its.toArray }
theorem tob_dict {its : List Value} : (tob its).dict = none := rfl
/-- what is wanted of a new tuple -/
def NewT (H : Hp) (xs : List V) (Q : VK) : Prop := ∀ (p : Addr) (o : Obj), H p = none → o.dict = none → Q (.ref p) (upd H p (.frz o (.tup xs)))
section
variable {X : Cx} {pins : List (Addr × Obj)} {σ : L2.St} {H : Hp} {s : Shared} {h' : Heap} {a : Addr} {t' : Nat} {xs : List V} {its : List Value}
theorem laidF (I : Inv X pins σ H s) (k : ∀ b u, s.heap.get? b = some u → h'.get? b = some u) (hp : s.heap.objs.size ≤ a) (hz : xs.length ≤ sizeLine) (r : Vals xs its) (e : h'.get? a = some (tob its)) :
    Inv X pins σ (upd H a (.frz (tob its) (.tup xs))) { s with heap := h', toks := t' } :=
  I.laid (t' := t') k hp ⟨e, hz, its, r, ⟨_, e, rfl, _, rfl⟩⟩
theorem newF_end {Q : VK} (I : Inv X pins σ H s) (hz : xs.length ≤ sizeLine) (r : Vals xs its) (q : NewT H xs Q) : EP X pins σ Q (.ref s.heap.objs.size) { s with heap := s.heap.push (tob its) } :=
  ⟨.ref s.heap.objs.size, _, laidF (t' := s.toks) I (fun b ob e => Heap.get?_push_of_some _ e) (Nat.le_refl _) hz r (Heap.get?_push_size _ rfl), rfl, q _ _ (I.hok.fresh (Nat.le_refl _)) rfl⟩
end
section
variable {X : Cx} {es : List Expr} {t : L2.TA} {pos : Pos}
def tTupF (t : L2.TA) : TE := fun σ H Q => t σ H fun xs H1 => xs.length ≤ sizeLine ∧ NewT H1 xs Q
theorem pe_tupF {x1 : Nat} (h : PA X es t) : PE X (.Tuple es x1 pos) (tTupF t) := by
  refine ⟨fun pins s σ H Q I hq => ?_⟩
  exact wpAny_Tuple_spliced (thn (h.run pos pins s σ H _ I hq) fun us s1 ⟨xs, H1, I1, r, z, q⟩ => ⟨by rw [← r.length]; exact z, newF_end I1 z r q⟩)
def rTupOf (K : PySem.W.Frag) : List V → Hp → VK → Prop := fun xs H Q => ∃ p ys, xs = [.ref p] ∧ ((SqL K H p ys ∧ NewT H ys Q) ∨ (SqT K H p ys ∧ Q (.ref p) H))
theorem cr_tupOf : CallR X (.type "tuple") (rTupOf X.K) := by
  intro pins s σ H xs us Q I r h
  obtain ⟨p, ys, rfl, h⟩ := h
  obtain ⟨u, rfl, rx⟩ := vals1 r
  cases rx
  rcases h with ⟨hq, q⟩ | ⟨hq, q⟩
  · obtain ⟨its, r', pl, hz⟩ := I.list hq
    have hlen := r'.length
    refine call_tuple_list pl.isList (fun h' kp => ?_) (by simp only [List.size_toArray] <;> omega)
    exact newF_end (I.kept (t' := s.toks) kp) hz r' q
  · obtain ⟨its, r', pl, hz⟩ := I.tuple hq
    exact call_tuple_same pl ⟨.ref p, H, I, rfl, q⟩
/-- t + u -/
def rCatF (K : PySem.W.Frag) : R2 := fun x y H Q => ∃ a b xs ys, x = .ref a ∧ y = .ref b ∧ SqT K H a xs ∧ SqT K H b ys ∧ xs.length + ys.length ≤ sizeLine ∧
  (xs = [] → Q (.ref b) H) ∧ (xs ≠ [] → ys = [] → Q (.ref a) H) ∧ (xs ≠ [] → ys ≠ [] → NewT H (xs ++ ys) Q)
theorem op_catF : OpR X (binaryOp .Add) (rCatF X.K) := by
  intro pins s σ H x y v u Q I rx ry h
  obtain ⟨a, b, xs, ys, rfl, rfl, ha, hb, hz, q0, q1, q2⟩ := h
  cases rx
  cases ry
  obtain ⟨its, r1, p1, _⟩ := I.tuple ha
  obtain ⟨its2, r2, p2, _⟩ := I.tuple hb
  by_cases hx : xs = []
  · subst hx
    cases r1
    exact cat_tup0 p1 p2 ⟨.ref b, H, I, rfl, q0 rfl⟩
  · refine HT.cat_tup p1 p2 (fun z => hx (r1.nil_iff.mp z)) (fun z => ⟨.ref a, H, I, rfl, q1 hx (r2.nil_iff.mp z)⟩) (fun z => ?_) (by rw [← r1.length, ← r2.length]; exact hz)
    exact newF_end I (by rw [List.length_append]; exact hz) (r1.append r2) (q2 hx fun w => z (r2.nil_iff.mpr w))
/-- t[lo:hi] -/
def rSlF (K : PySem.W.Frag) : V → Option Int → Option Int → Hp → VK → Prop := fun x lo hi H Q => ∃ a xs, x = .ref a ∧ SqT K H a xs ∧
  (HT.sIx xs.length 0 lo = 0 ∧ HT.sIx xs.length xs.length hi = xs.length → Q (.ref a) H) ∧ (¬ (HT.sIx xs.length 0 lo = 0 ∧ HT.sIx xs.length xs.length hi = xs.length) → NewT H (cutV xs lo hi) Q)
theorem sl_tupF : SlR X (rSlF X.K) := by
  intro pins s σ H x v vl vu lo hi sl Q I rx hs pl pu h
  obtain ⟨a, xs, rfl, hx, q1, q2⟩ := h
  by_cases hw : HT.sIx xs.length 0 lo = 0 ∧ HT.sIx xs.length xs.length hi = xs.length
  · exact sl_tupA pins s σ H _ v vl vu lo hi sl Q I rx hs pl pu ⟨a, xs, rfl, hx, q1, fun z => absurd hw z⟩
  · cases rx
    obtain ⟨its, r, ht, hz⟩ := I.tuple hx
    have hlen : its.toArray.size = xs.length := by rw [List.size_toArray]; exact r.length.symm
    refine ⟨"tuple", _, PyProof.Rows.slot_tuple_getitem.lookup, ht.typeIs, ?_⟩
    refine HT.getItem_tuple_cut ht hs pl pu (by rw [hlen]; exact hw) ?_ (by rw [hlen]; exact hz)
    rw [hlen]
    exact newF_end I (Nat.le_trans (cutV_length xs lo hi) hz) ((r.drop (HT.sIx xs.length 0 lo)).take (HT.sIx xs.length xs.length hi - HT.sIx xs.length 0 lo)) (q2 hw)
def rRepF (K : PySem.W.Frag) : R2 := fun x y H Q => ∃ l k xs, x = .ref l ∧ y = .int k ∧ SqT K H l xs ∧ xs ≠ [] ∧ 2 ≤ k ∧ k ≤ 1000 ∧ xs.length ≤ 1000 ∧ NewT H (List.replicate k.toNat xs).flatten Q
theorem op_repF : OpR X (binaryOp .Mult) (rRepF X.K) := by
  intro pins s σ H x y v u Q I rx ry h
  obtain ⟨l, k, xs, rfl, rfl, hT, hne, h1, h2, hz, q⟩ := h
  cases rx
  obtain ⟨t, rfl⟩ := ry
  obtain ⟨its, r, ⟨⟨cls, dd, data, sl⟩, ho, hc, n, hd⟩, hs⟩ := I.tuple hT
  simp only at hc hd
  subst hc hd
  have lh : its.length = xs.length := r.length.symm
  have hn : its ≠ [] := fun e => hne (by
    rw [e] at lh
    exact List.eq_nil_of_length_eq_zero lh.symm)
  have hi : its.toArray.isEmpty = false := by
    cases its with
    | nil => exact absurd rfl hn
    | cons a b => rfl
  have sz0 : its.toArray.size = xs.length := by rw [List.size_toArray, lh]
  have hm : ((its.toArray.size : Nat) : Int) * k ≤ 1000000 := by
    rw [sz0]
    have a1 : ((xs.length : Nat) : Int) * k ≤ 1000 * k := Int.mul_le_mul_of_nonneg_right (by omega) (by omega)
    omega
  have flh : (List.replicate k.toNat its).flatten.length ≤ sizeLine := by
    rw [PyProof.Rows.lm_len_rep_flat, lh, sizeLine_eq]
    have a1 : k.toNat * xs.length ≤ 1000 * 1000 := Nat.mul_le_mul (by omega) hz
    omega
  have c0 : (decide (k < -(2 ^ 63)) || decide (k ≥ 2 ^ 63)) = false := by
    rw [decide_eq_false (by omega), decide_eq_false (by omega)] <;> rfl
  have c1 : (its.toArray.isEmpty || k == 1) = false := by
    rw [hi, Bool.false_or]
    exact beq_eq_false_iff_ne.mpr (by omega)
  have c2 : (decide (k ≤ 0) || its.toArray.isEmpty) = false := by
    rw [hi, Bool.or_false]
    exact decide_eq_false (by omega)
  have c4 : Builtin.Tuple.tupleTooMany (((its.toArray.size : Nat) : Int) * k) = false := by
    unfold Builtin.Tuple.tupleTooMany
    rw [sizeLine_eq]
    exact decide_eq_false (by omega)
  refine wpAny_binaryOp_repeat_ref (T := "tuple") (U := "int") (by decide) ⟨_, ho, rfl⟩ (fun s' => typeIs_int s' k t) noFill_tuple_mul F.fills_int_mul F.slot_int_rmul repeat_tuple F.slot_int_index.lookup
    (call_meets F.slot_int_rmul (typeIs_int s k t) F.entry_int_rmul (F.args_int_rmul_2 _ _) (int_rmul_tuple k t l its.toArray n dd sl)
      ⟨ho, rfl, ⟨_, ho, rfl⟩, call_meets F.slot_tuple_mul ⟨_, ho, rfl⟩ F.entry_tuple_mul (F.args_tuple_mul_2 _ _) (tuple_mulW l its.toArray n dd sl k t c0 c1 c2 (by omega) c4 (by rw [size_rep, List.size_toArray]; exact flh)) ⟨ho, ?_⟩⟩)
  rw [size_rep]
  exact newF_end I (by rw [PyProof.Rows.lm_len_rep_flat, sizeLine_eq]; have a1 : k.toNat * xs.length ≤ 1000 * 1000 := Nat.mul_le_mul (by omega) hz; omega) (r.rep k.toNat) q
end
end VS

/-! Each construct does what the language says: expressions. -/
namespace VS
open PySem PySem.Spec PyProof.Rows L2
variable [kf : KF]

omit [kf : KF] in
theorem _root_.L2.PE.imp {X : Cx} {e : Expr} {t t' : TE} (h : PE X e t) (i : ∀ σ H Q, t' σ H Q → t σ H Q) : PE X e t' := ⟨fun pins s σ H Q I q => h.run pins s σ H Q I (i σ H Q q)⟩
omit [kf : KF] in
theorem _root_.L2.PA.imp {X : Cx} {e : List Expr} {t t' : L2.TA} (h : PA X e t) (i : ∀ σ H Q, t' σ H Q → t σ H Q) : PA X e t' := ⟨fun pos pins s σ H Q I q => h.run pos pins s σ H Q I (i σ H Q q)⟩
omit [kf : KF] in
theorem _root_.L2.PT.imp {X : Cx} {e : Expr} {t t' : TT} (h : PT X e t) (i : ∀ σ H Q, t' σ H Q → t σ H Q) : PT X e t' := ⟨fun pins s σ H Q I q => h.run pins s σ H Q I (i σ H Q q)⟩
omit [kf : KF] in
theorem _root_.L2.PW.imp {X : Cx} {e : Expr} {t t' : TT} (h : PW X e t) (i : ∀ σ H Q, t' σ H Q → t σ H Q) : PW X e t' := ⟨fun wh pins s σ H Q I q => h.run wh pins s σ H Q I (i σ H Q q)⟩

/-- what is wanted of an outcome -/
def Ou.post {α : Type} (x : Ou α) (P : α → Prop) (E : Exn → Prop) : Prop := match x with
  | .ok a => P a
  | .ex e => E e
  | .no => False
omit [kf : KF] in
theorem post_bind {α β : Type} {x : Ou α} {f : α → Ou β} {P : β → Prop} {E : Exn → Prop} : (x >>= f).post P E ↔ x.post (fun a => (f a).post P E) E := by cases x <;> exact Iff.rfl
omit [kf : KF] in
theorem post_imp {α : Type} {x : Ou α} {P P' : α → Prop} {E : Exn → Prop} (h : x.post P E) (i : ∀ a, x = .ok a → P a → P' a) : x.post P' E := by
  cases x with
  | ok a => exact i a rfl h
  | ex e => exact h
  | no => exact h
/-- an error, as it lies on the heap -/
def ExR (mg : Str → Option Value) (e : Exn) (cls : Value) (d : Option Addr) (H : Hp) : Prop :=
  ∃ C, mg e.cls = some (.ref C) ∧ cls = .ref C ∧ (e.fs ≠ [] → ∃ dd gs, d = some dd ∧ H dd = some (.xd gs) ∧ ∀ n x, (n, x) ∈ e.fs → ∃ v, gs.lookup n = some v ∧ Rp H v x)
def RW (mg : Str → Option Value) (W : WX) (t : Ent) (σ : L2.St) (e : Exn) : Prop := ∀ cls d H', (∀ b o, t.H0 b = some o → b ∉ t.M → H' b = some o) → ExR mg e cls d H' → W cls d σ H'

def tG {α : Type} (Po : Ent → Sn → Sn → L2.St → V → α → Prop) (mg : Str → Option Value) (W : WX) (ev : En → Ou (α × En)) : TE := fun σ H Q =>
  ∃ t S, S.H = H ∧ Rel t S σ ∧ (ev S.en).post (fun p => ∀ v S', S'.en = p.2 → Po t S S' σ v p.1 → Q v S'.H) (RW mg W t σ)
def evF (ir : Ex) (en : En) : Ou (D × En) := do let (r, e1) ← evalE ir en; .ok (toD r, e1)
abbrev tEE (mg : Str → Option Value) (W : WX) (ir : Ex) : TE := tG EPost mg W (evalE ir)
abbrev tEF (mg : Str → Option Value) (W : WX) (ir : Ex) : TE := tG FPost mg W (evF ir)
abbrev tEB (mg : Str → Option Value) (W : WX) (ir : Ex) : TE := tG BPost mg W (evalB ir)
def tEL (mg : Str → Option Value) (W : WX) (ir : Ex) : TE := match asVar ir with
  | some i => tVar i
  | none => tEF mg W ir
abbrev DE (X : Cx) (W : WX) (e : Expr) (ir : Ex) : Prop := PE X e (tEE X.mg W ir)
abbrev DF (X : Cx) (W : WX) (e : Expr) (ir : Ex) : Prop := PE X e (tEF X.mg W ir)
abbrev DB (X : Cx) (W : WX) (e : Expr) (ir : Ex) : Prop := PE X e (tEB X.mg W ir)
abbrev DL (X : Cx) (W : WX) (e : Expr) (ir : Ex) : Prop := PE X e (tEL X.mg W ir)
section
variable {X : Cx} {W : WX} {e ea eb ec : Expr} {ir ia ib ic : Ex} {pos : Pos}
theorem DE.f (h : DE X W e ir) : DF X W e ir := h.imp fun σ H Q ⟨t, S, eH, R, h⟩ => ⟨t, S, eH, R, by
  unfold evF at h
  rw [post_bind] at h
  refine post_imp h fun p _ hp v S' e1 P => ?_
  obtain ⟨S'', h1, h2, h3, _, P'⟩ := P.let_go R
  rw [← h1]
  exact hp v S'' (h2.trans e1) P'⟩
theorem DF.b (h : DF X W e ir) (hv : asVar ir = none := by rfl) : DB X W e ir := h.imp fun σ H Q ⟨t, S, eH, R, h⟩ => ⟨t, S, eH, R, by
  unfold evalB brw at h
  rw [hv] at h
  exact post_imp h fun p _ hp v S' e1 P => hp v S' e1 P.b⟩
theorem DE.b (h : DE X W e ir) (hv : asVar ir = none := by rfl) : DB X W e ir := DF.b h.f hv
theorem DE.l (h : DE X W e ir) (hv : asVar ir = none := by rfl) : DL X W e ir := by
  unfold DL tEL
  rw [hv]
  exact h.f
theorem db_var {i : Nat} (h : PE X e (tVar i)) : DB X W e (.var i) := h.imp fun σ H Q ⟨t, S, eH, R, h⟩ => by
  subst eH
  simp only [evalB, brw, asVar] at h
  cases q : rdE S.en i with
  | ok d =>
    rw [q] at h
    obtain ⟨v, h1, h2⟩ := R.borrow q
    exact ⟨v, h1, h v S rfl ⟨R, Le.refl _, h2⟩⟩
  | ex e => unfold rdE at q; split at q <;> cases q
  | no => rw [q] at h; exact h.elim
theorem dl_var {i : Nat} (h : PE X e (tVar i)) : DL X W e (.var i) := h
theorem de_var {i : Nat} (h : PE X e (tVar i)) : DE X W e (.var i) := h.imp fun σ H Q ⟨t, S, eH, R, h⟩ => by
  subst eH
  simp only [evalE] at h
  split at h
  · rename_i d q
    obtain ⟨v, h1, h2⟩ := R.fr i d q
    exact ⟨v, h1, h v S rfl (.fr R (Le.refl _) h2)⟩
  · rename_i ds q
    obtain ⟨R', l, h1, h2⟩ := R.frz q
    exact ⟨_, h1, h _ (S.frz i ds) rfl (.fr R' l h2)⟩
  · exact h.elim
theorem de_mv {i : Nat} (h : PE X e (tVar i)) : DE X W e (.mv i) := h.imp fun σ H Q ⟨t, S, eH, R, h⟩ => by
  subst eH
  simp only [evalE] at h
  split at h
  · rename_i d q
    obtain ⟨v, h1, h2⟩ := R.fr i d q
    exact ⟨v, h1, h v S rfl (.fr R (Le.refl _) h2)⟩
  · rename_i ds q
    obtain ⟨v, h1, P⟩ := R.mvd q
    exact ⟨_, h1, h _ (S.mvd i) rfl P⟩
  · exact h.elim
/-- a constant -/
theorem de_cst {v : V} {d : D} (h : PE X e (tC v)) (r : ∀ H, Rp H v d) : DE X W e (.cst d) := h.imp fun σ H Q ⟨t, S, eH, R, h⟩ => by
  subst eH
  exact h v S rfl (.fr R (Le.refl _) (r _))
theorem de_int {i : Int} {j : Nat} : DE X W (.Constant (.int i) j pos) (.cst (.int i)) := de_cst pe_int fun _ => .int i
theorem de_str {i : Str} {j : Nat} : DE X W (.Constant (.str i) j pos) (.cst (.str i)) := de_cst pe_str fun _ => .str i
theorem de_bl {i : Bool} {j : Nat} : DE X W (.Constant (.bool i) j pos) (.cst (.bool i)) := de_cst pe_bl fun _ => .bl i
theorem de_non {j : Nat} : DE X W (.Constant .none j pos) (.cst .none) := de_cst pe_non fun _ => .non

/-! ### two operands -/
/-- two operands' readings: the second one's state, both borrowed -/
theorem two_post {α : Type} {g : D → D → Ou α} {fin : α → Sl} {σ : L2.St} {H : Hp} {Q : VK} {r : R2} {ev : En → Ou (Sl × En)}
    (hev : ev = fun en => do let (x, y, e2) ← two (asVar ia) (evalE ia) (evalB ib) en; let r ← g x y; .ok (fin r, e2))
    (hop : ∀ t S σ x y dx dy rr Q, Rel t S σ → SB S x dx → SB S y dy → g dx dy = .ok rr → (∀ v S', S'.en = S.en → EPost t S S' σ v (fin rr) → Q v S'.H) → r x y S.H Q)
    (hex : ∀ dx dy e, g dx dy ≠ .ex e)
    (h : tG EPost X.mg W ev σ H Q) : tOp r (tEL X.mg W ia) (tEB X.mg W ib) σ H Q := by
  subst hev
  obtain ⟨t, S, eH, R, h⟩ := h
  subst eH
  have core : ∀ {S1 S2 : Sn} {x y : V} {dx dy : D} {e2 : En}, S2.en = e2 → Le S S2 → Rel t S2 σ → SB S2 x dx → SB S2 y dy → (g dx dy >>= fun r => Ou.ok (fin r, e2)).post (fun p => ∀ v S', S'.en = p.2 → EPost t S S' σ v p.1 → Q v S'.H) (RW X.mg W t σ) → r x y S2.H Q := by
    intro S1 S2 x y dx dy e2 e l R2 hx hy q
    cases z : g dx dy with
    | ok rr =>
      rw [z] at q
      exact hop t S2 σ x y dx dy rr Q R2 hx hy z fun v S' e' P => q v S' (e'.trans e) (P.trans l)
    | ex e => exact absurd z (hex _ _ e)
    | no => rw [z] at q; exact q.elim
  unfold tEL
  simp only [post_bind] at h
  cases hv : asVar ia with
  | none =>
    rw [hv] at h
    unfold two at h
    simp only [post_bind] at h
    refine ⟨t, S, rfl, R, ?_⟩
    unfold evF
    rw [post_bind]
    refine post_imp h fun p hp h1 x S1 e1 P1 => ⟨t, S1, rfl, P1.rel, ?_⟩
    rw [e1]
    refine post_imp h1 fun q hq h2 y S2 e2 P2 => ?_
    refine core (S1 := S1) e2 (P1.le.trans P2.le) P2.rel (.of (P1.val.mono P2.le.le)) P2.val ?_
    rw [post_bind]
    exact h2
  | some i =>
    rw [hv] at h
    unfold two at h
    simp only [post_bind] at h
    obtain ⟨d0, q0⟩ : ∃ d0, rdE S.en i = .ok d0 := by
      cases q : rdE S.en i with
      | no => rw [q] at h; exact h.elim
      | ex e => unfold rdE at q; split at q <;> cases q
      | ok d => exact ⟨d, rfl⟩
    rw [q0] at h
    have h := (show ((evalB ib S.en).post _ _) from h)
    obtain ⟨v, hi, _⟩ := R.borrow q0
    refine ⟨v, hi, t, S, rfl, R, ?_⟩
    refine post_imp h fun p hp h1 y S1 e1 P1 => ?_
    cases q : rdE p.2 i with
    | no => rw [q] at h1; exact h1.elim
    | ex e => unfold rdE at q; split at q <;> cases q
    | ok d =>
      rw [q] at h1
      obtain ⟨v', h3, h4⟩ := P1.rel.borrow (i := i) (d := d) (by rw [e1]; exact q)
      have ev : v' = v := by rw [hi] at h3; simpa using h3.symm
      subst ev
      refine core (S1 := S1) e1 P1.le P1.rel h4 P1.val ?_
      rw [post_bind]
      exact h1
/-- the answer of an int -/
theorem ans_int {t : Ent} {S : Sn} {σ : L2.St} {Q : VK} {i : Int} (R : Rel t S σ) (k : ∀ v S', S'.en = S.en → EPost t S S' σ v (.fr (.int i)) → Q v S'.H) : Q (.int i) S.H := k _ S rfl (.fr R (Le.refl _) (.int i))
theorem ans_bl {t : Ent} {S : Sn} {σ : L2.St} {Q : VK} {i : Bool} (R : Rel t S σ) (k : ∀ v S', S'.en = S.en → EPost t S S' σ v (.fr (.bool i)) → Q v S'.H) : Q (.bl i) S.H := k _ S rfl (.fr R (Le.refl _) (.bl i))
theorem ans_str {t : Ent} {S : Sn} {σ : L2.St} {Q : VK} {i : Str} (R : Rel t S σ) (k : ∀ v S', S'.en = S.en → EPost t S S' σ v (.fr (.str i)) → Q v S'.H) : Q (.str i) S.H := k _ S rfl (.fr R (Le.refl _) (.str i))
theorem ans_own {t : Ent} {S : Sn} {σ : L2.St} {Q : VK} {p : Addr} {xs : List V} {ds : List D} (R : Rel t S σ) (hp : S.H p = none) (hr : RpA S.F xs ds) (k : ∀ v S', S'.en = S.en → EPost t S S' σ v (.own ds) → Q v S'.H) : Q (.ref p) (upd S.H p (.lst xs)) :=
  k (.ref p) { S with H := upd S.H p (.lst xs), O := p :: S.O } rfl (R.newL hp hr)
theorem ans_tup {t : Ent} {S : Sn} {σ : L2.St} {Q : VK} {xs : List V} {ds : List D} (R : Rel t S σ) (hr : RpA S.F xs ds) (k : ∀ v S', S'.en = S.en → EPost t S S' σ v (.fr (.tuple ds)) → Q v S'.H) : NewT S.H xs Q :=
  fun p o hp ho => k (.ref p) { S with H := upd S.H p (.frz o (.tup xs)) } rfl (R.newF hp ho hr).e
theorem ans_fr {t : Ent} {S : Sn} {σ : L2.St} {Q : VK} {v : V} {d : D} (R : Rel t S σ) (h : Rp S.F v d) (k : ∀ v S', S'.en = S.en → EPost t S S' σ v (.fr d) → Q v S'.H) : Q v S.H := k v S rfl (.fr R (Le.refl _) h)

def rAddV (K : PySem.W.Frag) : R2 := fun x y H Q => (rI0 (fun i j => .int (i + j)) x y H Q) ∨ (rCat x y H Q) ∨ (rCatF K x y H Q) ∨ (∃ i j, x = .str i ∧ y = .str j ∧ i.length + j.length ≤ sizeLine ∧ Q (.str (i ++ j)) H)
omit [kf : KF] in
theorem op_addV : OpR X (binaryOp .Add) (rAddV X.K) := op_add.or (op_cat.or (op_catF.or op_add_str))
def HopB (op : Operator) (r : R2) : Prop := ∀ t S σ x y dx dy rr Q, Rel t S σ → SB S x dx → SB S y dy → binD op dx dy = .ok rr → (∀ v S', S'.en = S.en → EPost t S S' σ v rr → Q v S'.H) → r x y S.H Q
theorem hop_add {K : PySem.W.Frag} (hk : K = kf.K) : HopB .Add (rAddV K) := by
  intro t S σ x y dx dy rr Q R hx hy h k
  unfold binD at h
  split at h <;> simp only [reduceCtorEq] at *
  · have hx := hx.int
    have hy := hy.int
    subst hx hy
    have e := Ou.ok.inj h
    subst e
    exact .inl ⟨_, _, rfl, rfl, ans_int R k⟩
  · split at h
    · rename_i xs ys hz
      obtain ⟨a, us, rfl, ha, ra⟩ := hx
      obtain ⟨b, vs, rfl, hb, rb⟩ := hy
      have e := Ou.ok.inj h
      subst e
      refine .inr (.inl ⟨a, b, us, vs, rfl, rfl, ha, hb, by rw [ra.length, rb.length, ← SZ_eq]; exact hz, fun p hp => ?_⟩)
      exact ans_own R hp (ra.append rb) k
    · cases h
  · split at h
    · rename_i xs ys hz
      obtain ⟨a, us, rfl, ha, ra, pa⟩ := hx.tup
      obtain ⟨b, vs, rfl, hb, rb, pb⟩ := hy.tup
      have e := Ou.ok.inj h
      subst e
      refine .inr (.inr (.inl ⟨a, b, us, vs, rfl, rfl, ha.sq hk, hb.sq hk, by rw [ra.length, rb.length, ← SZ_eq]; exact hz, fun q => ?_, fun q1 q2 => ?_, fun _ _ => ?_⟩))
      · subst q
        cases ra
        exact k _ S rfl (.fr R (Le.refl _) pb)
      · subst q2
        cases rb
        rw [List.append_nil] at k
        exact k _ S rfl (.fr R (Le.refl _) pa)
      · exact ans_tup R (ra.append rb) k
    · cases h
  · split at h
    · rename_i xs ys hz
      have hx := hx.str
      have hy := hy.str
      subst hx hy
      have e := Ou.ok.inj h
      subst e
      exact .inr (.inr (.inr ⟨_, _, rfl, rfl, by rw [← SZ_eq]; exact hz, ans_str R k⟩))
    · cases h
omit [kf : KF] in
theorem binD_ex {op : Operator} : ∀ dx dy e, binD op dx dy ≠ .ex e := by
  intro dx dy e h
  unfold binD at h
  split at h <;> first | cases h | (split at h <;> cases h)
theorem de_bin {op : Operator} {r : R2} (ho : OpR X (binaryOp op) r) (hop : HopB op r) (ha : DL X W ea ia) (hb : DB X W eb ib) : DE X W (.BinOp ea op eb pos) (.bin op ia ib) :=
  (pe_op ho ha hb).imp fun σ H Q h => two_post (g := binD op) (fin := id) (by funext en; simp only [evalE] <;> rfl) hop binD_ex h
theorem hop_sub : HopB .Sub (rI0 fun i j => .int (i - j)) := by
  intro t S σ x y dx dy rr Q R hx hy h k
  unfold binD at h
  split at h <;> simp only [reduceCtorEq] at *
  have hx := hx.int
  have hy := hy.int
  subst hx hy
  have e := Ou.ok.inj h
  subst e
  exact ⟨_, _, rfl, rfl, ans_int R k⟩
theorem de_sub (ha : DL X W ea ia) (hb : DB X W eb ib) : DE X W (.BinOp ea .Sub eb pos) (.bin .Sub ia ib) := de_bin op_sub hop_sub ha hb
theorem de_add (ha : DL X W ea ia) (hb : DB X W eb ib) (hk : X.K = kf.K := by rfl) : DE X W (.BinOp ea .Add eb pos) (.bin .Add ia ib) := de_bin op_addV (hop_add hk) ha hb
def rMulV (K : PySem.W.Frag) : R2 := fun x y H Q => (rI CMul (fun i j => .int (i * j)) x y H Q) ∨ (rI CMulW (fun i j => .int (i * j)) x y H Q) ∨ rRep x y H Q ∨ rRepF K x y H Q
omit [kf : KF] in
theorem op_mulV : OpR X (binaryOp .Mult) (rMulV X.K) := op_mul.or (op_mulW.or (op_rep.or op_repF))
theorem hop_mul {K : PySem.W.Frag} (hk : K = kf.K) : HopB .Mult (rMulV K) := by
  intro t S σ x y dx dy rr Q R hx hy h k
  unfold binD at h
  split at h <;> simp only [reduceCtorEq] at *
  · split at h
    · rename_i hz
      have hx := hx.int
      have hy := hy.int
      subst hx hy
      have e := Ou.ok.inj h
      subst e
      rcases hz with hz | hz
      · exact .inl ⟨_, _, rfl, rfl, hz, ans_int R k⟩
      · exact .inr (.inl ⟨_, _, rfl, rfl, hz, ans_int R k⟩)
    · cases h
  · split at h
    · rename_i xs n hz
      obtain ⟨a, us, rfl, ha, ra⟩ := hx
      have hy := hy.int
      subst hy
      have e := Ou.ok.inj h
      subst e
      exact .inr (.inr (.inl ⟨a, _, us, rfl, rfl, ha, hz.1, hz.2.1, by rw [ra.length, ← SZ_eq]; exact hz.2.2, fun p hp => ans_own R hp (ra.rep _) k⟩))
    · cases h
  · split at h
    · rename_i xs n hz
      obtain ⟨a, us, rfl, ha, ra, _⟩ := hx.tup
      have hy := hy.int
      subst hy
      have e := Ou.ok.inj h
      subst e
      refine .inr (.inr (.inr ⟨a, _, us, rfl, rfl, ha.sq hk, ?_, hz.1, hz.2.1, by rw [ra.length]; exact hz.2.2.2, ans_tup R (ra.rep _) k⟩))
      intro q
      subst q
      cases ra
      exact hz.2.2.1 rfl
    · cases h
theorem de_mul (ha : DL X W ea ia) (hb : DB X W eb ib) (hk : X.K = kf.K := by rfl) : DE X W (.BinOp ea .Mult eb pos) (.bin .Mult ia ib) := de_bin op_mulV (hop_mul hk) ha hb
def rDivV : R2 := fun x y H Q => (rI CDivN (fun i j => .int (i.fdiv j)) x y H Q) ∨ (rI CDivW (fun i j => .int (i / j)) x y H Q)
omit [kf : KF] in
theorem op_divV : OpR X (binaryOp .FloorDiv) rDivV := op_fdivN.or op_fdivW
theorem hop_div : HopB .FloorDiv rDivV := by
  intro t S σ x y dx dy rr Q R hx hy h k
  unfold binD at h
  split at h <;> simp only [reduceCtorEq] at *
  split at h
  · rename_i i j hz
    have hx := hx.int
    have hy := hy.int
    subst hx hy
    have e := Ou.ok.inj h
    subst e
    rcases hz with hz | hz
    · exact .inl ⟨_, _, rfl, rfl, hz, ans_int R k⟩
    · refine .inr ⟨_, _, rfl, rfl, hz, ?_⟩
      show Q (.int (_ / _)) S.H
      rw [← Int.fdiv_eq_ediv_of_nonneg _ (Int.le_of_lt hz.1)]
      exact ans_int R k
  · cases h
theorem de_div (ha : DL X W ea ia) (hb : DB X W eb ib) : DE X W (.BinOp ea .FloorDiv eb pos) (.bin .FloorDiv ia ib) := de_bin op_divV hop_div ha hb
theorem hop_mod : HopB .Mod (rI (fun _ j => j ≠ 0) fun i j => .int (i.fmod j)) := by
  intro t S σ x y dx dy rr Q R hx hy h k
  unfold binD at h
  split at h <;> simp only [reduceCtorEq] at *
  split at h
  · rename_i i j hz
    have hx := hx.int
    have hy := hy.int
    subst hx hy
    have e := Ou.ok.inj h
    subst e
    exact ⟨_, _, rfl, rfl, hz, ans_int R k⟩
  · cases h
theorem de_mod (ha : DL X W ea ia) (hb : DB X W eb ib) : DE X W (.BinOp ea .Mod eb pos) (.bin .Mod ia ib) := de_bin op_modN hop_mod ha hb
theorem hop_pow : HopB .Pow (rI CPow fun i j => .int (i ^ j.toNat)) := by
  intro t S σ x y dx dy rr Q R hx hy h k
  unfold binD at h
  split at h <;> simp only [reduceCtorEq] at *
  split at h
  · rename_i i j hz
    have hx := hx.int
    have hy := hy.int
    subst hx hy
    have e := Ou.ok.inj h
    subst e
    exact ⟨_, _, rfl, rfl, hz, ans_int R k⟩
  · cases h
theorem de_pow (ha : DL X W ea ia) (hb : DB X W eb ib) : DE X W (.BinOp ea .Pow eb pos) (.bin .Pow ia ib) := de_bin op_pow hop_pow ha hb

/-! ### comparisons -/
def HopC (op : CmpOp) (r : R2) : Prop := ∀ t S σ x y dx dy rr Q, Rel t S σ → SB S x dx → SB S y dy → cmpD op dx dy = .ok rr → (∀ v S', S'.en = S.en → EPost t S S' σ v (.fr (.bool rr)) → Q v S'.H) → r x y S.H Q
omit [kf : KF] in
theorem eqD_ex : ∀ dx dy e, eqD dx dy ≠ .ex e := by
  intro dx dy e h
  unfold eqD at h
  split at h <;> first | cases h | (split at h <;> cases h)
omit [kf : KF] in
theorem cmpD_ex {op : CmpOp} : ∀ dx dy e, cmpD op dx dy ≠ .ex e := by
  intro dx dy e h
  unfold cmpD at h
  split at h
  · exact eqD_ex _ _ _ h
  · cases q : eqD dx dy with
    | ok a => rw [q] at h; cases h
    | ex e => exact eqD_ex _ _ _ q
    | no => rw [q] at h; cases h
  all_goals (split at h <;> first | cases h | (split at h <;> cases h))
theorem de_cmp {op : CmpOp} {r : R2} (ho : OpR X (compareOp op) r) (hop : HopC op r) (ha : DL X W ea ia) (hb : DB X W eb ib) (hm : behindInMarks op eb = false) : DE X W (.Compare ea [op] [eb] pos) (.cmp op ia ib) :=
  (pe_cmpR ho ha hb hm).imp fun σ H Q h => two_post (g := cmpD op) (fin := fun r => .fr (.bool r)) (by funext en; simp only [evalE] <;> rfl) hop cmpD_ex h
omit [kf : KF] in
theorem dec_eq_beq {α : Type} [DecidableEq α] (a b : α) : decide (a = b) = (a == b) := by
  by_cases h : a = b
  · subst h; simp
  · simp [h]
def rEqV (K : PySem.W.Frag) : R2 := fun x y H Q => rEq x y H Q ∨ rEqD K x y H Q
def rNeV (K : PySem.W.Frag) : R2 := fun x y H Q => rNe x y H Q ∨ rNeD K x y H Q
theorem hop_eq {K : PySem.W.Frag} (hk : K = kf.K) : HopC .Eq (rEqV K) := by
  intro t S σ x y dx dy rr Q R hx hy h k
  simp only [cmpD] at h
  unfold eqD at h
  split at h
  · have e := Ou.ok.inj h
    subst e
    rw [hx.int, hy.int]
    exact .inl ⟨rfl, by rw [dec_int]; exact ans_bl R k⟩
  · have e := Ou.ok.inj h
    subst e
    rw [hx.str, hy.str]
    exact .inl ⟨rfl, by rw [dec_str]; exact ans_bl R k⟩
  · have e := Ou.ok.inj h
    subst e
    rw [hx.bool, hy.bool]
    exact .inl ⟨rfl, by rw [dec_bl]; exact ans_bl R k⟩
  · split at h
    · rename_i hz
      have e := Ou.ok.inj h
      subst e
      exact .inr ⟨_, _, hx.rp.dp hk, hy.rp.dp hk, hz.1, hz.2, ans_bl R k⟩
    · cases h
theorem hop_ne {K : PySem.W.Frag} (hk : K = kf.K) : HopC .NotEq (rNeV K) := by
  intro t S σ x y dx dy rr Q R hx hy h k
  simp only [cmpD] at h
  cases q : eqD dx dy with
  | ex e => rw [q] at h; cases h
  | no => rw [q] at h; cases h
  | ok r0 =>
    rw [q] at h
    have e := Ou.ok.inj h
    subst e
    unfold eqD at q
    split at q
    · have e := Ou.ok.inj q
      subst e
      rw [hx.int, hy.int]
      exact .inl ⟨rfl, by rw [dec_int]; exact ans_bl R k⟩
    · have e := Ou.ok.inj q
      subst e
      rw [hx.str, hy.str]
      exact .inl ⟨rfl, by rw [dec_str]; exact ans_bl R k⟩
    · have e := Ou.ok.inj q
      subst e
      rw [hx.bool, hy.bool]
      exact .inl ⟨rfl, by rw [dec_bl]; exact ans_bl R k⟩
    · split at q
      · rename_i hz
        have e := Ou.ok.inj q
        subst e
        exact .inr ⟨_, _, hx.rp.dp hk, hy.rp.dp hk, hz.1, hz.2, ans_bl R k⟩
      · cases q
theorem de_eq (hu : X.A.units + 64 < cLine) (ha : DL X W ea ia) (hb : DB X W eb ib) (hk : X.K = kf.K := by rfl) : DE X W (.Compare ea [.Eq] [eb] pos) (.cmp .Eq ia ib) := de_cmp (r := rEqV X.K) (op_eq.or (op_eqD hu)) (hop_eq hk) ha hb (nomark _)
theorem de_ne (hu : X.A.units + 64 < cLine) (ha : DL X W ea ia) (hb : DB X W eb ib) (hk : X.K = kf.K := by rfl) : DE X W (.Compare ea [.NotEq] [eb] pos) (.cmp .NotEq ia ib) := de_cmp (r := rNeV X.K) (op_ne.or (op_neD hu)) (hop_ne hk) ha hb (nomark _)
def rLtV (K : PySem.W.Frag) : R2 := fun x y H Q => rI0 (fun i j => .bl (decide (i < j))) x y H Q ∨ rLtT K x y H Q
theorem hop_lt {K : PySem.W.Frag} (hk : K = kf.K) : HopC .Lt (rLtV K) := by
  intro t S σ x y dx dy rr Q R hx hy h k
  simp only [cmpD] at h
  split at h
  · have e := Ou.ok.inj h
    subst e
    rw [hx.int, hy.int]
    exact .inl ⟨_, _, rfl, rfl, ans_bl R k⟩
  · split at h
    · rename_i ns ms e1 e2
      have e := Ou.ok.inj h
      subst e
      obtain ⟨a, us, rfl, ha, ra, pa⟩ := hx.tup
      obtain ⟨b, vs, rfl, hb, rb, pb⟩ := hy.tup
      have u1 := ra.ints e1
      have u2 := rb.ints e2
      subst u1 u2
      exact .inr ⟨a, b, _, _, rfl, rfl, ha.sq hk, hb.sq hk, ans_bl R k⟩
    · cases h
  · cases h
theorem de_lt (hu : X.A.units < cLine) (ha : DL X W ea ia) (hb : DB X W eb ib) (hk : X.K = kf.K := by rfl) : DE X W (.Compare ea [.Lt] [eb] pos) (.cmp .Lt ia ib) := de_cmp (r := rLtV X.K) (op_lt.or (op_ltT hu)) (hop_lt hk) ha hb (nomark _)
theorem hop_le : HopC .LtE (rI0 fun i j => .bl (decide (i ≤ j))) := by
  intro t S σ x y dx dy rr Q R hx hy h k
  simp only [cmpD] at h
  split at h
  · have e := Ou.ok.inj h
    subst e
    rw [hx.int, hy.int]
    exact ⟨_, _, rfl, rfl, ans_bl R k⟩
  · cases h
theorem hop_gt : HopC .Gt (rI0 fun i j => .bl (decide (j < i))) := by
  intro t S σ x y dx dy rr Q R hx hy h k
  simp only [cmpD] at h
  split at h
  · have e := Ou.ok.inj h
    subst e
    rw [hx.int, hy.int]
    exact ⟨_, _, rfl, rfl, ans_bl R k⟩
  · cases h
theorem hop_ge : HopC .GtE (rI0 fun i j => .bl (decide (j ≤ i))) := by
  intro t S σ x y dx dy rr Q R hx hy h k
  simp only [cmpD] at h
  split at h
  · have e := Ou.ok.inj h
    subst e
    rw [hx.int, hy.int]
    exact ⟨_, _, rfl, rfl, ans_bl R k⟩
  · cases h
theorem de_le (ha : DL X W ea ia) (hb : DB X W eb ib) : DE X W (.Compare ea [.LtE] [eb] pos) (.cmp .LtE ia ib) := de_cmp op_le hop_le ha hb (nomark _)
theorem de_gt (ha : DL X W ea ia) (hb : DB X W eb ib) : DE X W (.Compare ea [.Gt] [eb] pos) (.cmp .Gt ia ib) := de_cmp op_gt hop_gt ha hb (nomark _)
theorem de_ge (ha : DL X W ea ia) (hb : DB X W eb ib) : DE X W (.Compare ea [.GtE] [eb] pos) (.cmp .GtE ia ib) := de_cmp op_ge hop_ge ha hb (nomark _)
theorem isN_V {S : Sn} {x : V} {d : D} (h : SB S x d) : decide (x = .non) = isNone d := by
  have := h.rp
  cases this <;> simp [isNone]
theorem hop_is : HopC .Is (fun x y H Q => y = .non ∧ Q (.bl (decide (x = .non))) H) := by
  intro t S σ x y dx dy rr Q R hx hy h k
  simp only [cmpD] at h
  split at h
  · have e := Ou.ok.inj h
    subst e
    rw [hy.none]
    refine ⟨rfl, ?_⟩
    rw [isN_V hx]
    exact ans_bl R k
  · cases h
theorem hop_isnot : HopC .IsNot (fun x y H Q => y = .non ∧ Q (.bl (!decide (x = .non))) H) := by
  intro t S σ x y dx dy rr Q R hx hy h k
  simp only [cmpD] at h
  split at h
  · have e := Ou.ok.inj h
    subst e
    rw [hy.none]
    refine ⟨rfl, ?_⟩
    rw [isN_V hx]
    exact ans_bl R k
  · cases h
theorem de_is (ha : DL X W ea ia) (hb : DB X W eb ib) : DE X W (.Compare ea [.Is] [eb] pos) (.cmp .Is ia ib) := de_cmp op_isN hop_is ha hb (nomark _)
theorem de_isnot (ha : DL X W ea ia) (hb : DB X W eb ib) : DE X W (.Compare ea [.IsNot] [eb] pos) (.cmp .IsNot ia ib) := de_cmp op_notN hop_isnot ha hb (nomark _)
theorem rIn_of {K : PySem.W.Frag} (hk : K = kf.K) {n : Bool} {t : Ent} {S : Sn} {σ : L2.St} {x y : V} {dx : D} {xs : List D} {Q : VK} (R : Rel t S σ) (hx : SB S x dx) (hy : (∃ a us, y = .ref a ∧ S.H a = some (.lst us) ∧ RpA S.F us xs) ∨ ∃ a us, y = .ref a ∧ TupAt S.H a us ∧ RpA S.F us xs)
    (h1 : flatD dx = true) (h2 : xs.all flatD = true) (k : ∀ v S', S'.en = S.en → EPost t S S' σ v (.fr (.bool (if n then !inD dx xs else inD dx xs))) → Q v S'.H) : rIn K n x y S.H Q := by
  have hf : Rp S.F x dx := by
    cases dx with
    | none => exact hx
    | bool b => exact hx
    | int b => exact hx
    | str b => exact hx
    | list b => cases h1
    | tuple b => cases h1
    | dict b => cases h1
  rcases hy with ⟨a, us, rfl, ha, ra⟩ | ⟨a, us, rfl, ha, ra⟩
  · refine ⟨a, us, rfl, .inl (.of ha), hf.flat h1, ra.flat h2, ?_⟩
    rw [RpA.inF hf h1 ra h2]
    exact ans_bl R k
  · refine ⟨a, us, rfl, .inr (ha.sq hk), hf.flat h1, ra.flat h2, ?_⟩
    rw [RpA.inF hf h1 ra h2]
    exact ans_bl R k
theorem hop_in {K : PySem.W.Frag} (hk : K = kf.K) : HopC .In (rIn K false) := by
  intro t S σ x y dx dy rr Q R hx hy h k
  simp only [cmpD] at h
  split at h
  · split at h
    · rename_i hz
      have e := Ou.ok.inj h
      subst e
      exact rIn_of hk R hx (.inl hy) hz.1 hz.2 k
    · cases h
  · split at h
    · rename_i hz
      have e := Ou.ok.inj h
      subst e
      obtain ⟨a, us, e1, ha, ra, _⟩ := hy.tup
      exact rIn_of hk R hx (.inr ⟨a, us, e1, ha, ra⟩) hz.1 hz.2 k
    · cases h
  · cases h
theorem hop_notin {K : PySem.W.Frag} (hk : K = kf.K) : HopC .NotIn (rIn K true) := by
  intro t S σ x y dx dy rr Q R hx hy h k
  simp only [cmpD] at h
  split at h
  · split at h
    · rename_i hz
      have e := Ou.ok.inj h
      subst e
      exact rIn_of hk R hx (.inl hy) hz.1 hz.2 k
    · cases h
  · split at h
    · rename_i hz
      have e := Ou.ok.inj h
      subst e
      obtain ⟨a, us, e1, ha, ra, _⟩ := hy.tup
      exact rIn_of hk R hx (.inr ⟨a, us, e1, ha, ra⟩) hz.1 hz.2 k
    · cases h
  · cases h
theorem de_in (ha : DL X W ea ia) (hb : DB X W eb ib) (hm : behindInMarks .In eb = false) (hk : X.K = kf.K := by rfl) : DE X W (.Compare ea [.In] [eb] pos) (.cmp .In ia ib) := de_cmp op_in_seq (hop_in hk) ha hb hm
theorem de_notin (ha : DL X W ea ia) (hb : DB X W eb ib) (hm : behindInMarks .NotIn eb = false) (hk : X.K = kf.K := by rfl) : DE X W (.Compare ea [.NotIn] [eb] pos) (.cmp .NotIn ia ib) := de_cmp op_notIn_seq (hop_notin hk) ha hb hm
end
end VS

/-! Each construct does what the language says: one operand, tests, displays, items, slices, calls. -/
namespace VS
open PySem PySem.Spec PyProof.Rows L2
variable [kf : KF]
section
variable {X : Cx} {W : WX} {e ea eb ec : Expr} {es : List Expr} {ir ia ib ic : Ex} {is : Exs} {pos : Pos}
theorem one_post {g : D → Ou Sl} {σ : L2.St} {H : Hp} {Q : VK} {r : V → Hp → VK → Prop} {ev : En → Ou (Sl × En)}
    (hev : ev = fun en => do let (x, e1) ← evalB ia en; let r ← g x; .ok (r, e1))
    (hop : ∀ t S σ x dx rr Q, Rel t S σ → SB S x dx → g dx = .ok rr → (∀ v S', S'.en = S.en → EPost t S S' σ v rr → Q v S'.H) → r x S.H Q)
    (hex : ∀ dx e, g dx ≠ .ex e) (h : tG EPost X.mg W ev σ H Q) : tEB X.mg W ia σ H fun x H1 => r x H1 Q := by
  subst hev
  obtain ⟨t, S, eH, R, h⟩ := h
  subst eH
  simp only [post_bind] at h
  refine ⟨t, S, rfl, R, post_imp h fun p hp h1 x S1 e1 P1 => ?_⟩
  cases z : g p.1 with
  | ok rr =>
    rw [z] at h1
    exact hop t S1 σ x p.1 rr Q P1.rel P1.val z fun v S' e' P => h1 v S' (e'.trans e1) (P.trans P1.le)
  | ex e => exact absurd z (hex _ _)
  | no => rw [z] at h1; exact h1.elim
theorem de_neg (ha : DB X W ea ia) : DE X W (.UnaryOp .USub ea pos) (.neg ia) := (pe_un un_neg ha).imp fun σ H Q h => by
  refine one_post (X := X) (W := W) (ia := ia) (g := fun x => match x with | .int i => .ok (.fr (.int (-i))) | _ => .no) (r := rU fun i => .int (-i)) (ev := evalE (.neg ia)) ?_ ?_ ?_ h
  · funext en
    simp only [evalE]
    congr 1
    funext p
    obtain ⟨x, e1⟩ := p
    cases x <;> rfl
  · intro t S σ x dx rr Q R hx z k
    cases dx <;> simp only [reduceCtorEq] at z
    have e := Ou.ok.inj z
    subst e
    exact ⟨_, hx.int, ans_int R k⟩
  · intro dx e z
    cases dx <;> cases z
theorem de_not (ha : DB X W ea ia) : DE X W (.UnaryOp .Not ea pos) (.nt ia) := (pe_not ha).imp fun σ H Q h => by
  refine one_post (X := X) (W := W) (ia := ia) (g := fun x => match x with | .bool i => .ok (.fr (.bool (!i))) | _ => .no) (r := fun x H Q => ∃ c, x = .bl c ∧ Q (.bl (!c)) H) (ev := evalE (.nt ia)) ?_ ?_ ?_ h
  · funext en
    simp only [evalE]
    congr 1
    funext p
    obtain ⟨x, e1⟩ := p
    cases x <;> rfl
  · intro t S σ x dx rr Q R hx z k
    cases dx <;> simp only [reduceCtorEq] at z
    have e := Ou.ok.inj z
    subst e
    exact ⟨_, hx.bool, ans_bl R k⟩
  · intro dx e z
    cases dx <;> cases z
/-! ### and, or, if .. else, tests -/
theorem de_one {op : PySem.BoolOp} (h : DE X W ea ia) : DE X W (.BoolOp op [ea] pos) ia := pe_one h
theorem de_and {rest : List Expr} (ha : DB X W ea ia) (hb : DE X W (.BoolOp .And (eb :: rest) pos) ib) : DE X W (.BoolOp .And (ea :: eb :: rest) pos) (.andE ia ib) := (pe_and ha hb).imp fun σ H Q ⟨t, S, eH, R, h⟩ => by
  subst eH
  simp only [evalE, post_bind] at h
  refine ⟨t, S, rfl, R, post_imp h fun p hp h1 x S1 e1 P1 => ?_⟩
  obtain ⟨d, en⟩ := p
  have e1 : S1.en = en := e1
  cases d <;> (try exact h1.elim)
  rename_i b
  refine ⟨b, P1.val.bool, ?_⟩
  cases b with
  | true =>
    show tEE X.mg W ib σ S1.H Q
    exact ⟨t, S1, rfl, P1.rel, by rw [e1]; exact post_imp h1 fun q hq h2 v S' e' P => h2 v S' e' (P.trans P1.le)⟩
  | false => exact h1 _ S1 e1 (.fr P1.rel P1.le (.bl false))
theorem de_or {rest : List Expr} (ha : DB X W ea ia) (hb : DE X W (.BoolOp .Or (eb :: rest) pos) ib) : DE X W (.BoolOp .Or (ea :: eb :: rest) pos) (.orE ia ib) := (pe_or ha hb).imp fun σ H Q ⟨t, S, eH, R, h⟩ => by
  subst eH
  simp only [evalE, post_bind] at h
  refine ⟨t, S, rfl, R, post_imp h fun p hp h1 x S1 e1 P1 => ?_⟩
  obtain ⟨d, en⟩ := p
  have e1 : S1.en = en := e1
  cases d <;> (try exact h1.elim)
  rename_i b
  refine ⟨b, P1.val.bool, ?_⟩
  cases b with
  | false =>
    show tEE X.mg W ib σ S1.H Q
    exact ⟨t, S1, rfl, P1.rel, by rw [e1]; exact post_imp h1 fun q hq h2 v S' e' P => h2 v S' e' (P.trans P1.le)⟩
  | true => exact h1 _ S1 e1 (.fr P1.rel P1.le (.bl true))
/-- a test's reading -/
def tTT (mg : Str → Option Value) (W : WX) (ir : Ex) : TT := fun σ H Q =>
  ∃ t S, S.H = H ∧ Rel t S σ ∧ (evalB ir S.en).post (fun p => ∃ b, p.1 = .bool b ∧ ∀ S', S'.en = p.2 → Rel t S' σ → Le S S' → Q b S'.H) (RW mg W t σ)
abbrev DT (X : Cx) (W : WX) (e : Expr) (ir : Ex) : Prop := PT X e (tTT X.mg W ir)
abbrev DW (X : Cx) (W : WX) (e : Expr) (ir : Ex) : Prop := PW X e (tTT X.mg W ir)
theorem DB.t (h : DB X W e ir) (he : ∀ whole, isTrue e X.env whole = (do let v ← whole; standAt e.pos; holding [v] (truthy v)) := by intro _; rfl) : DT X W e ir := (pt_val h he).imp fun σ H Q ⟨t, S, eH, R, h⟩ => by
  subst eH
  refine ⟨t, S, rfl, R, post_imp h fun p hp ⟨b, eb, h1⟩ x S1 e1 P1 => ?_⟩
  have hv := P1.val
  rw [eb] at hv
  exact ⟨b, hv.bool, h1 S1 e1 P1.rel P1.le⟩
theorem dt_not (h : DT X W ea ia) : DT X W (.UnaryOp .Not ea pos) (.nt ia) := (pt_not h).imp fun σ H Q ⟨t, S, eH, R, h⟩ => by
  subst eH
  simp only [evalB, brw, asVar, evalE, post_bind] at h
  refine ⟨t, S, rfl, R, post_imp h fun p hp h1 => ?_⟩
  obtain ⟨d, en⟩ := p
  cases d <;> (try exact h1.elim)
  rename_i b
  refine ⟨b, rfl, fun S' e1 R1 l1 => ?_⟩
  obtain ⟨b', eb, h2⟩ := h1
  have z : (!b) = b' := by simpa [toD] using eb
  subst z
  exact h2 S' e1 R1 l1
theorem dw_and1 (ha : DT X W ea ia) : DW X W (.BoolOp .And [ea] pos) ia := pw_and1 ha
theorem dw_or1 (ha : DT X W ea ia) : DW X W (.BoolOp .Or [ea] pos) ia := pw_or1 ha
omit [kf : KF] in
theorem evB_of {ir : Ex} {en e1 : En} {r : Sl} (h : evalE ir en = .ok (r, e1)) (hv : asVar ir = none) : evalB ir en = .ok (toD r, e1) := by
  unfold evalB brw
  rw [hv, h]
  rfl
omit [kf : KF] in
theorem brw_none {ir : Ex} (hv : asVar ir = none) (en : En) : evalB ir en = (do let (r, e1) ← evalE ir en; .ok (toD r, e1)) := by
  unfold evalB brw
  rw [hv]
theorem dw_and {rest : List Expr} (ha : DT X W ea ia) (hb : DW X W (.BoolOp .And (eb :: rest) pos) ib) (hv : asVar ib = none := by rfl) : DW X W (.BoolOp .And (ea :: eb :: rest) pos) (.andE ia ib) := (pw_and ha hb).imp fun σ H Q ⟨t, S, eH, R, h⟩ => by
  subst eH
  rw [brw_none rfl] at h
  simp only [evalE, post_bind] at h
  refine ⟨t, S, rfl, R, post_imp h fun p hp h1 => ?_⟩
  obtain ⟨d, en⟩ := p
  cases d <;> (try exact h1.elim)
  rename_i b
  refine ⟨b, rfl, fun S' e1 R1 l1 => ?_⟩
  have e1 : S'.en = en := e1
  cases b with
  | true =>
    show tTT X.mg W ib σ S'.H Q
    refine ⟨t, S', rfl, R1, ?_⟩
    rw [brw_none hv, e1, post_bind]
    exact post_imp h1 fun q hq ⟨b, e2, h2⟩ => ⟨b, e2, fun S2 e3 R2 l2 => h2 S2 e3 R2 (l1.trans l2)⟩
  | false =>
    obtain ⟨b', e2, h2⟩ := h1
    have z : false = b' := by simpa [toD] using e2
    subst z
    exact h2 S' e1 R1 l1
theorem dw_or {rest : List Expr} (ha : DT X W ea ia) (hb : DW X W (.BoolOp .Or (eb :: rest) pos) ib) (hv : asVar ib = none := by rfl) : DW X W (.BoolOp .Or (ea :: eb :: rest) pos) (.orE ia ib) := (pw_or ha hb).imp fun σ H Q ⟨t, S, eH, R, h⟩ => by
  subst eH
  rw [brw_none rfl] at h
  simp only [evalE, post_bind] at h
  refine ⟨t, S, rfl, R, post_imp h fun p hp h1 => ?_⟩
  obtain ⟨d, en⟩ := p
  cases d <;> (try exact h1.elim)
  rename_i b
  refine ⟨b, rfl, fun S' e1 R1 l1 => ?_⟩
  have e1 : S'.en = en := e1
  cases b with
  | false =>
    show tTT X.mg W ib σ S'.H Q
    refine ⟨t, S', rfl, R1, ?_⟩
    rw [brw_none hv, e1, post_bind]
    exact post_imp h1 fun q hq ⟨b, e2, h2⟩ => ⟨b, e2, fun S2 e3 R2 l2 => h2 S2 e3 R2 (l1.trans l2)⟩
  | true =>
    obtain ⟨b', e2, h2⟩ := h1
    have z : true = b' := by simpa [toD] using e2
    subst z
    exact h2 S' e1 R1 l1
theorem de_ife (hc : DT X W ec ic) (ha : DE X W ea ia) (hb : DE X W eb ib) : DE X W (.IfExp ec ea eb pos) (.ife ic ia ib) := (pe_ifExp hc ha hb).imp fun σ H Q ⟨t, S, eH, R, h⟩ => by
  subst eH
  simp only [evalE, post_bind] at h
  refine ⟨t, S, rfl, R, post_imp h fun p hp h1 => ?_⟩
  obtain ⟨d, en⟩ := p
  cases d <;> (try exact h1.elim)
  rename_i b
  refine ⟨b, rfl, fun S1 e1 R1 l1 => ?_⟩
  have e1 : S1.en = en := e1
  cases b with
  | true =>
    show tEE X.mg W ia σ S1.H Q
    exact ⟨t, S1, rfl, R1, by rw [e1]; exact post_imp h1 fun q hq h2 v S' e' P => h2 v S' e' (P.trans l1)⟩
  | false =>
    show tEE X.mg W ib σ S1.H Q
    exact ⟨t, S1, rfl, R1, by rw [e1]; exact post_imp h1 fun q hq h2 v S' e' P => h2 v S' e' (P.trans l1)⟩
/-! ### a chain of two comparisons of ints -/
theorem de_chain {o1 o2 : CmpOp} {r1 r2 : R2} (p1 : OpR X (compareOp o1) r1) (p2 : OpR X (compareOp o2) r2) (h1 : HopC o1 r1) (h2 : HopC o2 r2) (ha : DF X W ea ia) (hb : DF X W eb ib) (hc : DF X W ec ic)
    (hm : lastMarks [o1, o2] [eb, ec] = false := by with_unfolding_all rfl) : DE X W (.Compare ea [o1, o2] [eb, ec] pos) (.chain o1 o2 ia ib ic) := (pe_chain p1 p2 ha hb hc hm).imp fun σ H Q ⟨t, S, eH, R, h⟩ => by
  subst eH
  simp only [evalE, post_bind] at h
  refine ⟨t, S, rfl, R, ?_⟩
  unfold evF
  rw [post_bind]
  refine post_imp h fun p hp k1 x S1 e1 P1 => ⟨t, S1, rfl, P1.rel, ?_⟩
  rw [show S1.en = p.2 from e1]
  unfold evF
  rw [post_bind]
  refine post_imp k1 fun q hq k2 y S2 e2 P2 => ?_
  have e2 : S2.en = q.2 := e2
  have vx : SB S2 x (toD p.1) := .of (P1.val.mono P2.le.le)
  have l2 := P1.le.trans P2.le
  cases z : cmpD o1 (toD p.1) (toD q.1) with
  | ex e => exact absurd z (cmpD_ex _ _ _)
  | no => rw [z] at k2; exact k2.elim
  | ok b =>
    rw [z] at k2
    refine h1 t S2 σ x y _ _ b _ P2.rel vx (.of P2.val) z fun v S3 e3 P3 => ?_
    have vv : SB S3 v (.bool b) := .of P3.val
    refine ⟨b, vv.bool, ?_⟩
    have l3 := l2.trans P3.le
    cases b with
    | false => exact k2 _ S3 (e3.trans e2) (.fr P3.rel l3 (.bl false))
    | true =>
      have k2 := (show (if true = true then _ else _ : Ou (Sl × En)).post _ _ from k2)
      rw [if_pos rfl, post_bind] at k2
      simp only [post_bind] at k2
      rw [if_pos rfl]
      refine ⟨t, S3, rfl, P3.rel, ?_⟩
      rw [e3.trans e2]
      unfold evF
      rw [post_bind]
      refine post_imp k2 fun w hw k3 u S4 e4 P4 => ?_
      have e4 : S4.en = w.2 := e4
      have l4 := l3.trans P4.le
      cases z' : cmpD o2 (toD q.1) (toD w.1) with
      | ex e => exact absurd z' (cmpD_ex _ _ _)
      | no => rw [z'] at k3; exact k3.elim
      | ok b' =>
        rw [z'] at k3
        exact h2 t S4 σ y u _ _ b' _ P4.rel (.of (P2.val.mono (P3.le.trans P4.le).le)) (.of P4.val) z' fun v S5 e5 P5 => k3 v S5 (e5.trans e4) (P5.trans l4)
theorem de_chain_le (ha : DF X W ea ia) (hb : DF X W eb ib) (hc : DF X W ec ic)
    (hm : lastMarks [.LtE, .LtE] [eb, ec] = false := by with_unfolding_all rfl) : DE X W (.Compare ea [.LtE, .LtE] [eb, ec] pos) (.chain .LtE .LtE ia ib ic) := de_chain op_le op_le hop_le hop_le ha hb hc hm

/-! ### arguments and displays -/
def tAA (mg : Str → Option Value) (W : WX) (is : Exs) : L2.TA := fun σ H Q =>
  ∃ t S, S.H = H ∧ Rel t S σ ∧ (evalA is S.en).post (fun p => ∀ vs S', S'.en = p.2 → Rel t S' σ → Le S S' → RpA S'.F vs p.1 → Q vs S'.H) (RW mg W t σ)
abbrev DA (X : Cx) (W : WX) (es : List Expr) (is : Exs) : Prop := PA X es (tAA X.mg W is)
theorem da_nil : DA X W [] .nil := pa_nil.imp fun σ H Q ⟨t, S, eH, R, h⟩ => by
  subst eH
  exact h [] S rfl R (Le.refl _) .nil
theorem da_cons (ha : DF X W e ir) (hr : DA X W es is) (hs : starEach (e :: es) X.env = (false, eval e X.env) :: starEach es X.env := by rfl) : DA X W (e :: es) (.cons ir is) := (pa_cons ha hr hs).imp fun σ H Q ⟨t, S, eH, R, h⟩ => by
  subst eH
  simp only [evalA, post_bind] at h
  refine ⟨t, S, rfl, R, ?_⟩
  unfold evF
  rw [post_bind]
  refine post_imp h fun p hp k1 x S1 e1 P1 => ⟨t, S1, rfl, P1.rel, ?_⟩
  rw [show S1.en = p.2 from e1]
  refine post_imp k1 fun q hq k2 vs S2 e2 R2 l2 r2 => ?_
  exact k2 (x :: vs) S2 e2 R2 (P1.le.trans l2) (.cons (P1.val.mono l2.le) r2)
theorem de_tup {x1 : Nat} (h : DA X W es is) : DE X W (.Tuple es x1 pos) (.tupE is) := (pe_tupF h).imp fun σ H Q ⟨t, S, eH, R, h⟩ => by
  subst eH
  simp only [evalE, post_bind] at h
  refine ⟨t, S, rfl, R, post_imp h fun p hp k1 vs S1 e1 R1 l1 r1 => ?_⟩
  split at k1
  · rename_i hz
    refine ⟨by rw [r1.length, ← SZ_eq]; exact hz, ?_⟩
    exact ans_tup R1 r1 fun v S' e' P => k1 v S' (e'.trans e1) (P.trans l1)
  · exact k1.elim
theorem de_lst (h : DA X W es is) : DE X W (.List es pos) (.lstE is) := (pe_lst h).imp fun σ H Q ⟨t, S, eH, R, h⟩ => by
  subst eH
  simp only [evalE, post_bind] at h
  refine ⟨t, S, rfl, R, post_imp h fun p hp k1 vs S1 e1 R1 l1 r1 => ?_⟩
  split at k1
  · rename_i hz
    refine ⟨by rw [r1.length, ← SZ_eq]; exact hz, fun a ha => ?_⟩
    exact ans_own R1 ha r1 fun v S' e' P => k1 v S' (e'.trans e1) (P.trans l1)
  · exact k1.elim
/-! ### items and slices -/
theorem atI_rp {S : Hp} {us : List V} {ds : List D} {k : Int} {d : D} (r : RpA S us ds) (h : atI ds k = some d) : ∃ v, atI us k = some v ∧ Rp S v d := by
  unfold atI at h ⊢
  rw [r.length]
  cases q : ixN ds.length k with
  | none => rw [q] at h; cases h
  | some j =>
    rw [q] at h
    obtain ⟨v, h1, h2⟩ := r.get h
    exact ⟨v, h1, h2⟩
omit [kf : KF] in
theorem idxD_ex : ∀ a b e, idxD a b ≠ .ex e := by
  intro a b e h
  unfold idxD at h
  split at h <;> first | cases h | (split at h <;> cases h)
theorem de_idx (ha : DL X W ea ia) (hb : DB X W eb ib) (hs : PlainIx eb := by intro _ _; rfl) (hk : X.K = kf.K := by rfl) : DE X W (.Subscript ea eb pos) (.idx ia ib) :=
  (pe_ix ix_seq ha hb hs).imp fun σ H Q h => two_post (g := idxD) (fin := .fr) (by funext en; simp only [evalE] <;> rfl) (by
    intro t S σ x y dx dy rr Q R hx hy z k
    unfold idxD at z
    split at z
    · split at z
      · rename_i d hd
        have e := Ou.ok.inj z
        subst e
        obtain ⟨a, us, rfl, h1, h2⟩ := hx
        obtain ⟨v, h3, h4⟩ := atI_rp h2 hd
        exact .inl ⟨a, us, _, v, rfl, hy.int, .of h1, h3, ans_fr R h4 k⟩
      · cases z
    · split at z
      · rename_i d hd
        have e := Ou.ok.inj z
        subst e
        obtain ⟨a, us, rfl, h1, h2, _⟩ := hx.tup
        obtain ⟨v, h3, h4⟩ := atI_rp h2 hd
        exact .inr (.inl ⟨a, us, _, v, rfl, hy.int, h1.sq hk, h3, ans_fr R h4 k⟩)
      · cases z
    · cases z) idxD_ex h
def tOO (mg : Str → Option Value) (W : WX) (io : Exo) : TO := fun σ H Q =>
  ∃ t S, S.H = H ∧ Rel t S σ ∧ (evalO io S.en).post (fun p => ∀ S', S'.en = p.2 → Rel t S' σ → Le S S' → Q p.1 S'.H) (RW mg W t σ)
abbrev DO (X : Cx) (W : WX) (e : Option Expr) (io : Exo) : Prop := PO X e (tOO X.mg W io)
omit [kf : KF] in
theorem _root_.L2.PO.imp {X : Cx} {e : Option Expr} {t t' : TO} (h : PO X e t) (i : ∀ σ H Q, t' σ H Q → t σ H Q) : PO X e t' := ⟨fun pins s σ H Q I q => h.run pins s σ H Q I (i σ H Q q)⟩
theorem do_none : DO X W none .none := po_none.imp fun σ H Q ⟨t, S, eH, R, h⟩ => by
  subst eH
  exact h S rfl R (Le.refl _)
theorem do_some (h : DB X W e ir) : DO X W (some e) (.some ir) := (po_some h).imp fun σ H Q ⟨t, S, eH, R, h⟩ => by
  subst eH
  simp only [evalO, post_bind] at h
  refine ⟨t, S, rfl, R, post_imp h fun p hp k1 x S1 e1 P1 => ?_⟩
  obtain ⟨d, en⟩ := p
  have hv := P1.val
  cases d <;> (try exact k1.elim)
  rename_i i
  exact ⟨i, hv.int, k1 S1 e1 P1.rel P1.le⟩
def rSlV (K : PySem.W.Frag) : V → Option Int → Option Int → Hp → VK → Prop := fun x lo hi H Q => rSlL K x lo hi H Q ∨ rSlF K x lo hi H Q
theorem slcD_ok {t : Ent} {S : Sn} {σ : L2.St} {x : V} {dx : D} {rr : Sl} {lo hi : Option Int} {Q : VK} {K : PySem.W.Frag} (hk : K = kf.K) (R : Rel t S σ) (hx : SB S x dx) (z : slcD dx lo hi = .ok rr) (k : ∀ v S', S'.en = S.en → EPost t S S' σ v rr → Q v S'.H) : rSlV K x lo hi S.H Q := by
  unfold slcD at z
  split at z
  · have e := Ou.ok.inj z
    subst e
    obtain ⟨a, us, rfl, h1, h2⟩ := hx
    exact .inl ⟨a, us, rfl, .of h1, fun p hp => ans_own R hp (h2.cut lo hi) k⟩
  · have e := Ou.ok.inj z
    subst e
    obtain ⟨a, us, rfl, h1, h2, h3⟩ := hx.tup
    refine .inr ⟨a, us, rfl, h1.sq hk, fun q => ?_, fun q => ans_tup R (h2.cut lo hi) k⟩
    refine ans_fr R ?_ k
    rename_i ds
    have : cutD ds lo hi = ds := by
      unfold cutD
      rw [← h2.length, q.1, q.2, h2.length]
      simp
    rw [this]
    exact h3
  · cases z
omit [kf : KF] in
theorem slcD_ex : ∀ a lo hi e, slcD a lo hi ≠ .ex e := by
  intro a lo hi e h
  unfold slcD at h
  split at h <;> cases h
theorem de_slc {lo hi : Option Expr} {io ih : Exo} {p2 : Pos} (ha : DL X W ea ia) (hl : DO X W lo io) (hh : DO X W hi ih) (hk : X.K = kf.K := by rfl) : DE X W (.Subscript ea (.Slice lo hi none p2) pos) (.slc ia io ih) :=
  (pe_slice (r := rSlV X.K) (sl_list.or sl_tupF) ha hl hh).imp fun σ H Q ⟨t, S, eH, R, h⟩ => by
    subst eH
    simp only [evalE, post_bind] at h
    have fin : ∀ {S3 : Sn} {x : V} {d : D} {l u : Option Int} {en : En}, S3.en = en → Le S S3 → Rel t S3 σ → SB S3 x d → (slcD d l u >>= fun r => Ou.ok (r, en)).post (fun p => ∀ v S', S'.en = p.2 → EPost t S S' σ v p.1 → Q v S'.H) (RW X.mg W t σ) → rSlV X.K x l u S3.H Q := by
      intro S3 x d l u en e3 l3 R3 hx k
      cases z : slcD d l u with
      | ex e => exact absurd z (slcD_ex _ _ _ _)
      | no => rw [z] at k; exact k.elim
      | ok rr =>
        rw [z] at k
        exact slcD_ok hk R3 hx z fun v S' e' P => k v S' (e'.trans e3) (P.trans l3)
    unfold tEL
    cases hv : asVar ia with
    | none =>
      rw [hv] at h
      unfold three at h
      simp only [post_bind] at h
      refine ⟨t, S, rfl, R, ?_⟩
      unfold evF
      rw [post_bind]
      refine post_imp h fun p hp k1 x S1 e1 P1 => ⟨t, S1, rfl, P1.rel, ?_⟩
      rw [show S1.en = p.2 from e1]
      refine post_imp k1 fun q hq k2 S2 e2 R2 l2 => ⟨t, S2, rfl, R2, ?_⟩
      rw [show S2.en = q.2 from e2]
      refine post_imp k2 fun w hw k3 S3 e3 R3 l3 => ?_
      exact fin e3 ((P1.le.trans l2).trans l3) R3 (.of ((P1.val.mono l2.le).mono l3.le)) (by rw [post_bind]; exact k3)
    | some i =>
      rw [hv] at h
      unfold three at h
      simp only [post_bind] at h
      obtain ⟨d0, q0⟩ : ∃ d0, rdE S.en i = .ok d0 := by
        cases q : rdE S.en i with
        | no => rw [q] at h; exact h.elim
        | ex e => unfold rdE at q; split at q <;> cases q
        | ok d => exact ⟨d, rfl⟩
      rw [q0] at h
      have h := (show ((evalO io S.en).post _ _) from h)
      obtain ⟨v, hi, _⟩ := R.borrow q0
      refine ⟨v, hi, t, S, rfl, R, ?_⟩
      refine post_imp h fun q hq k2 S2 e2 R2 l2 => ⟨t, S2, rfl, R2, ?_⟩
      rw [show S2.en = q.2 from e2]
      refine post_imp k2 fun w hw k3 S3 e3 R3 l3 => ?_
      have e3 : S3.en = w.2 := e3
      cases q : rdE w.2 i with
      | no => rw [q] at k3; exact k3.elim
      | ex e => unfold rdE at q; split at q <;> cases q
      | ok d =>
        rw [q] at k3
        obtain ⟨v', h3, h4⟩ := R3.borrow (i := i) (d := d) (by rw [e3]; exact q)
        have ev : v' = v := by rw [hi] at h3; simpa using h3.symm
        subst ev
        exact fin e3 (l2.trans l3) R3 h4 (by rw [post_bind]; exact k3)
end
end VS

/-! Calls of defs, built-ins. -/
namespace VS
open PySem PySem.Spec PyProof.Rows L2
variable [kf : KF]
/-- what a call hands back: from the heap H, nothing of O handed out -/
def Ret (H : Hp) (O : List Addr) (v : V) (H' : Hp) : Sl → Prop
  | .fr d => Rp (hid H' O) v d
  | .own ds => ∃ p xs, v = .ref p ∧ H p = none ∧ H' p = some (.lst xs) ∧ RpA (hid H' (p :: O)) xs ds
  | .mb _ => False
/-- the promise of a def by its function on data -/
def spD (mg : Str → Option Value) (n : Nat) (φ : List D → Ou Sl) : Sp := fun vs H Q E =>
  ∃ O ds, (∀ a ∈ O, H a ≠ none) ∧ RpA (hid H O) vs ds ∧ ds.length = n ∧
    (φ ds).post (fun r => ∀ v H', Same H H' → Ret H O v H' r → Q v H') (fun e => ∀ cls d H', Same H H' → ExR mg e cls d H' → E cls d H')
/-- .. of a def whose first argument is a list that it changes -/
def spM (n : Nat) (φ : List D → List D → Ou (D × List D)) : Sp := fun vs H Q _ =>
  ∃ O p xs ws ms ds r ms', vs = .ref p :: ws ∧ p ∈ O ∧ (∀ a ∈ O, H a ≠ none) ∧ H p = some (.lst xs) ∧ RpA (hid H O) xs ms ∧ RpA (hid H O) ws ds ∧ ds.length = n ∧ φ ms ds = .ok (r, ms') ∧
    ∀ v H' xs', (∀ b o, H b = some o → b ≠ p → H' b = some o) → H' p = some (.lst xs') → RpA (hid H' O) xs' ms' → Rp (hid H' O) v r → Q v H'
structure FnD (P : Program) (w : World) (K : PySem.W.Frag) (mg : Str → Option Value) (base : Heap) (k : Nat) (x : Str) (n : Nat) (φ : List D → Ou Sl) : Prop where
  ex : ∃ f fd ps, mg x = some (.ref f) ∧ PySem.W.keepIn K (.ref f) = true ∧ FnOk P w K mg base (L2.CX P w) k f fd ps (spD mg n φ) ∧ Binds K fd ps []
structure FnM (P : Program) (w : World) (K : PySem.W.Frag) (mg : Str → Option Value) (base : Heap) (k : Nat) (x : Str) (n : Nat) (φ : List D → List D → Ou (D × List D)) : Prop where
  ex : ∃ f fd ps, mg x = some (.ref f) ∧ PySem.W.keepIn K (.ref f) = true ∧ FnOk P w K mg base (L2.CX P w) k f fd ps (spM n φ) ∧ Binds K fd ps []
theorem FnD.mono {P : Program} {w : World} {K : PySem.W.Frag} {mg : Str → Option Value} {base : Heap} {j k : Nat} {x : Str} {n : Nat} {φ : List D → Ou Sl} (F : FnD P w K mg base j x n φ) (h : j ≤ k) : FnD P w K mg base k x n φ :=
  let ⟨f, fd, ps, a, b, c, d⟩ := F.ex; ⟨f, fd, ps, a, b, c.mono h, d⟩
theorem FnM.mono {P : Program} {w : World} {K : PySem.W.Frag} {mg : Str → Option Value} {base : Heap} {j k : Nat} {x : Str} {n : Nat} {φ : List D → List D → Ou (D × List D)} (F : FnM P w K mg base j x n φ) (h : j ≤ k) : FnM P w K mg base k x n φ :=
  let ⟨f, fd, ps, a, b, c, d⟩ := F.ex; ⟨f, fd, ps, a, b, c.mono h, d⟩
/-- another function that says no more -/
theorem FnD.imp {P : Program} {w : World} {K : PySem.W.Frag} {mg : Str → Option Value} {base : Heap} {k : Nat} {x : Str} {n : Nat} {φ ψ : List D → Ou Sl} (F : FnD P w K mg base k x n φ) (h : ∀ ds, ψ ds ≠ .no → φ ds = ψ ds) : FnD P w K mg base k x n ψ :=
  let ⟨f, fd, ps, a, b, c, d⟩ := F.ex
  ⟨f, fd, ps, a, b, c.imp fun vs H Q E ⟨O, ds, h1, h2, h3, h4⟩ => ⟨O, ds, h1, h2, h3, by
    rw [h ds fun z => by rw [z] at h4; exact h4]
    exact h4⟩, d⟩
theorem FnM.imp {P : Program} {w : World} {K : PySem.W.Frag} {mg : Str → Option Value} {base : Heap} {k : Nat} {x : Str} {n : Nat} {φ ψ : List D → List D → Ou (D × List D)} (F : FnM P w K mg base k x n φ) (h : ∀ ms ds p, ψ ms ds = .ok p → φ ms ds = .ok p) : FnM P w K mg base k x n ψ :=
  let ⟨f, fd, ps, a, b, c, d⟩ := F.ex
  ⟨f, fd, ps, a, b, c.imp fun vs H Q E ⟨O, p, xs, ws, ms, ds, r, ms', h1, h2, h3, h4, h5, h6, h7, h8, h9⟩ => ⟨O, p, xs, ws, ms, ds, r, ms', h1, h2, h3, h4, h5, h6, h7, h _ _ _ h8, h9⟩, d⟩
section
variable {X : Cx} {W : WX} {e ea eb ec : Expr} {es : List Expr} {ir ia ib ic : Ex} {is : Exs} {pos p : Pos} {k n : Nat} {x : Str}
theorem Rel.ret {t : Ent} {S : Sn} {σ : L2.St} (R : Rel t S σ) {v : V} {H' : Hp} {r : Sl} (s : Same S.H H') (h : Ret S.H S.O v H' r) : ∃ S', S'.H = H' ∧ S'.en = S.en ∧ EPost t S S' σ v r := by
  cases r with
  | fr d =>
    obtain ⟨R', l⟩ := R.grow s
    exact ⟨{ S with H := H' }, rfl, rfl, .fr R' l h⟩
  | mb ds => exact h.elim
  | own ds =>
    obtain ⟨p, xs, rfl, hp, hx, hr⟩ := h
    exact ⟨{ S with H := H', O := p :: S.O }, rfl, rfl, R.growL s hp hx hr⟩
theorem ret_keep {t : Ent} {S : Sn} {σ : L2.St} (R : Rel t S σ) {H' : Hp} (s : Same S.H H') : ∀ b o, t.H0 b = some o → b ∉ t.M → H' b = some o := fun b o h m => s _ _ (R.keep b o h m)
/-- f(e, ..), f a def -/
theorem de_call {φ : List D → Ou Sl} (F : FnD X.prog X.w X.K X.mg X.base k x n φ) (hr : Room k X.A) (tk : Takes X W) (ha : DA X W (e :: es) is) (hn : ∀ ds en en', evalA is en = .ok (ds, en') → ds.length = n) (hg : Gl X x := by rfl)
    (hdb : (x == ("__debug__" : Str)) = false := by decide) (he : starEach (e :: es) X.env = (false, eval e X.env) :: starEach es X.env := by rfl) (hpl : (backTo pos (starEach es X.env)).any (·.1) = false := by rfl) :
    DE X W (.Call (.Name x p) (e :: es) [] pos) (.call φ is) := by
  obtain ⟨f, fd, ps, hm, hk, ok, hb⟩ := F.ex
  refine (pe_callSD ok hr hg hm hk hb .nil (fun σ => passAt tk σ) ha hdb he hpl).imp fun σ H Q ⟨t, S, eH, R, h⟩ => ?_
  subst eH
  simp only [evalE, post_bind] at h
  refine ⟨t, S, rfl, R, post_imp h fun q hq k1 vs S1 e1 R1 l1 r1 => ?_⟩
  have e1 : S1.en = q.2 := e1
  show spD X.mg n φ (vs ++ []) S1.H Q (WE W σ)
  rw [List.append_nil]
  refine ⟨S1.O, q.1, R1.trk, r1, hn _ _ _ hq, ?_⟩
  cases z : φ q.1 with
  | no => rw [z] at k1; exact k1.elim
  | ex ee =>
    rw [z] at k1
    exact fun cls d H' s E => k1 cls d H' (ret_keep R1 s) E
  | ok r =>
    rw [z] at k1
    intro v H' s hr'
    obtain ⟨S', a1, a2, P⟩ := R1.ret s hr'
    rw [← a1]
    exact k1 v S' (a2.trans e1) (P.trans l1)
def lenS : Exs → Nat
  | .nil => 0
  | .cons _ r => lenS r + 1
omit [kf : KF] in
theorem evalA_len : ∀ (is : Exs) (ds : List D) (en en' : En), evalA is en = .ok (ds, en') → ds.length = lenS is
  | .nil, ds, en, en', h => by
    simp only [evalA, Ou.ok.injEq, Prod.mk.injEq] at h
    rw [← h.1]
    rfl
  | .cons e r, ds, en, en', h => by
    simp only [evalA] at h
    cases q : evalE e en with
    | no => rw [q] at h; cases h
    | ex e => rw [q] at h; cases h
    | ok a =>
      rw [q] at h
      simp only [ok_bind] at h
      cases q2 : evalA r a.2 with
      | no => rw [q2] at h; cases h
      | ex e => rw [q2] at h; cases h
      | ok b =>
        rw [q2] at h
        simp only [ok_bind, Ou.ok.injEq, Prod.mk.injEq] at h
        rw [← h.1, List.length_cons, evalA_len r b.1 a.2 b.2 q2]
        rfl
theorem de_callD {φ : List D → Ou Sl} (F : FnD X.prog X.w X.K X.mg X.base k x n φ) (hr : Room k X.A) (tk : Takes X W) (ha : DA X W (e :: es) is) (hn : lenS is = n := by rfl) (hg : Gl X x := by rfl)
    (hdb : (x == ("__debug__" : Str)) = false := by decide) (he : starEach (e :: es) X.env = (false, eval e X.env) :: starEach es X.env := by rfl) (hpl : (backTo pos (starEach es X.env)).any (·.1) = false := by rfl) :
    DE X W (.Call (.Name x p) (e :: es) [] pos) (.call φ is) := de_call F hr tk ha (fun ds en en' h => (evalA_len is ds en en' h).trans hn) hg hdb he hpl

/-! ### a list that is lent -/
theorem Rel.lend {t : Ent} {S : Sn} {σ : L2.St} (R : Rel t S σ) {i : Nat} {ms ms' : List D} {c : List D → Sl} (hc : c = Sl.own ∨ c = Sl.mb) (hi : S.en[i]? = some (some (c ms))) {H' : Hp} {xs' : List V}
    (s : ∀ b o, S.H b = some o → b ≠ S.ad i → H' b = some o) (hx : H' (S.ad i) = some (.lst xs')) (hr : RpA (hid H' S.O) xs' ms') :
    Rel t { S with H := H', en := S.en.set i (some (c ms')) } σ ∧ Le S { S with H := H', en := S.en.set i (some (c ms')) } := by
  have hi' : S.en[i]? = some (some (Sl.own ms)) ∨ S.en[i]? = some (some (Sl.mb ms)) := by rcases hc with hc | hc <;> subst hc <;> simp [hi]
  have lt := lt_of_some hi
  obtain ⟨h1, h2, xs, h3, h4⟩ := R.li i ms hi'
  have hl : isL S.en i := ⟨ms, hi'⟩
  have le : Same S.F (hid H' S.O) := fun b o h => by
    obtain ⟨n, e⟩ := hid_some h
    rw [hid_out n]
    exact s _ _ e fun q => n (q ▸ h2)
  have per : ∀ a, S.H a ≠ none → H' a ≠ none := fun a h => by
    by_cases q : a = S.ad i
    · subst q; rw [hx]; simp
    · cases e : S.H a with
      | none => exact absurd e h
      | some o => rw [s _ _ e q]; simp
  have get : ∀ j, (S.en.set i (some (c ms')))[j]? = if i = j then some (some (c ms')) else S.en[j]? := fun j => en_set lt
  have oldL : ∀ j, isL (S.en.set i (some (c ms'))) j → isL S.en j := by
    rintro j ⟨es, e⟩
    by_cases q : i = j
    · subst q; exact hl
    · rw [get, if_neg q] at e; exact ⟨es, e⟩
  refine ⟨⟨?_, fun b o h m => ?_, R.sup, R.subM, R.new, fun a h => per a (R.trk a h), fun j d e => ?_, fun j es e => ?_, fun j es e => ?_, fun j es e => ?_, fun j l hj hl' z => R.inj j l (oldL j hj) (oldL l hl') z⟩, ⟨le, per, fun j h => ⟨oldL j h, rfl⟩, fun a h n => ⟨h, ?_⟩⟩⟩
  · show (S.en.set i _).length = _
    rw [List.length_set]; exact R.len
  · refine s _ _ (R.keep b o h m) fun q => ?_
    rcases hi' with hi' | hi'
    · have := (R.ow i ms hi').1
      rw [← q, h] at this
      cases this
    · exact m (q ▸ R.mb i ms hi')
  · have e : (S.en.set i (some (c ms')))[j]? = _ := e
    rw [get] at e
    split at e
    · rcases hc with hc | hc <;> subst hc <;> simp at e
    · obtain ⟨v, a, b⟩ := R.fr j d e
      exact ⟨v, a, b.mono le⟩
  · by_cases q : i = j
    · subst q
      have z : (S.en.set i (some (c ms')))[i]? = some (some (Sl.own es)) ∨ (S.en.set i (some (c ms')))[i]? = some (some (Sl.mb es)) := e
      rw [get, if_pos rfl] at z
      have : ms' = es := by
        rcases hc with hc | hc <;> subst hc <;> simpa using z
      subst this
      exact ⟨h1, h2, xs', hx, hr⟩
    · have z : (S.en.set i (some (c ms')))[j]? = some (some (Sl.own es)) ∨ (S.en.set i (some (c ms')))[j]? = some (some (Sl.mb es)) := e
      rw [get, if_neg q] at z
      obtain ⟨a, b, ys, c1, d1⟩ := R.li j es z
      exact ⟨a, b, ys, s _ _ c1 fun w => q (R.inj i j hl ⟨es, z⟩ w.symm), d1.mono le⟩
  · have e : (S.en.set i (some (c ms')))[j]? = _ := e
    rw [get] at e
    split at e
    · rename_i q
      subst q
      rcases hi' with hi' | hi'
      · exact R.ow i ms hi'
      · rw [hi] at hi'
        rcases hc with hc | hc
        · subst hc; simp at hi'
        · subst hc; simp at *
    · exact R.ow j es e
  · have e : (S.en.set i (some (c ms')))[j]? = _ := e
    rw [get] at e
    split at e
    · rename_i q
      subst q
      rcases hi' with hi' | hi'
      · rw [hi] at hi'
        rcases hc with hc | hc
        · subst hc; simp at *
        · subst hc; simp at hi'
      · exact R.mb i ms hi'
    · exact R.mb j es e
  · have na : a ≠ S.ad i := fun q => n i hl q.symm
    show H' a = S.H a
    cases e : S.H a with
    | none => exact absurd e (R.trk a h)
    | some o => exact s _ _ e na
omit [kf : KF] in
/-- f(d, e, ..), f changes the list at d -/
theorem strict_ok {α : Type} {x : Ou α} {P : α → Prop} {E : Exn → Prop} (h : (strict x).post P E) : ∃ a, x = .ok a ∧ P a := by
  cases x with
  | ok a => exact ⟨a, rfl, h⟩
  | ex e => exact h.elim
  | no => exact h.elim
theorem de_callM {φ : List D → List D → Ou (D × List D)} {i : Nat} (F : FnM X.prog X.w X.K X.mg X.base k x n φ) (hr : Room k X.A) (tk : Takes X W) (hv : PE X e (tVar i)) (ha : DA X W es is) (hn : lenS is = n := by rfl) (hg : Gl X x := by rfl)
    (hdb : (x == ("__debug__" : Str)) = false := by decide) (he : starEach (e :: es) X.env = (false, eval e X.env) :: starEach es X.env := by rfl) (hpl : (backTo pos (starEach es X.env)).any (·.1) = false := by rfl) :
    DE X W (.Call (.Name x p) (e :: es) [] pos) (.callM φ i is) := by
  obtain ⟨f, fd, ps, hm, hk, ok, hb⟩ := F.ex
  refine (pe_callSD ok hr hg hm hk hb .nil (fun σ => passAt tk σ) (pa_cons hv ha he) hdb he hpl).imp fun σ H Q ⟨t, S, eH, R, h⟩ => ?_
  subst eH
  simp only [evalE, post_bind] at h
  have core : ∀ {S1 : Sn} {vs : List V} {ds : List D} {en : En} {ms : List D} {c : List D → Sl}, c = Sl.own ∨ c = Sl.mb → S1.en = en → Rel t S1 σ → Le S S1 → RpA S1.F vs ds → ds.length = n → S1.en[i]? = some (some (c ms)) →
      (strict (φ ms ds)).post (fun q => ∀ v S', S'.en = en.set i (some (c q.2)) → EPost t S S' σ v (.fr q.1) → Q v S'.H) (RW X.mg W t σ) → spM n φ (.ref (S1.ad i) :: vs) S1.H Q (WE W σ) := by
    intro S1 vs ds en ms c hc e1 R1 l1 r1 hd hi z
    obtain ⟨q, hq, k2⟩ := strict_ok z
    have hi' : S1.en[i]? = some (some (Sl.own ms)) ∨ S1.en[i]? = some (some (Sl.mb ms)) := by rcases hc with hc | hc <;> subst hc <;> simp [hi]
    obtain ⟨h1, h2, xs, h3, h4⟩ := R1.li i ms hi'
    refine ⟨S1.O, S1.ad i, xs, vs, ms, ds, q.1, q.2, rfl, h2, R1.trk, h3, h4, r1, hd, hq, fun v H' xs' s hx hr' hret => ?_⟩
    obtain ⟨R2, l2⟩ := R1.lend hc hi s hx hr'
    have P : EPost t S1 { S1 with H := H', en := S1.en.set i (some (c q.2)) } σ v (.fr q.1) := .fr R2 l2 hret
    refine k2 v { S1 with H := H', en := S1.en.set i (some (c q.2)) } ?_ (P.trans l1)
    rw [← e1]
  have hlen : ∀ q, evalA is S.en = .ok q → q.1.length = n := fun q hq => (evalA_len is q.1 S.en q.2 hq).trans hn
  obtain ⟨d0, q0⟩ : ∃ d0, rdE S.en i = .ok d0 := by
    cases q : rdE S.en i with
    | no => rw [q] at h; exact h.elim
    | ex e => unfold rdE at q; split at q <;> cases q
    | ok d => exact ⟨d, rfl⟩
  rw [q0] at h
  have h := (show ((evalA is S.en).post _ _) from h)
  obtain ⟨v, hvi, _⟩ := R.borrow q0
  refine ⟨v, hvi, t, S, rfl, R, post_imp h fun q hq k1 vs S1 e1 R1 l1 r1 => ?_⟩
  have e1 : S1.en = q.2 := e1
  show spM n φ ((v :: vs) ++ []) S1.H Q (WE W σ)
  rw [List.append_nil]
  split at k1
  · rename_i ms hms
    have hi := (R1.li i ms (.inl (by rw [e1]; exact hms))).1
    rw [hvi] at hi
    have ev : v = .ref (S1.ad i) := by simpa using hi
    subst ev
    exact core (.inl rfl) e1 R1 l1 r1 (hlen q hq) (by rw [e1]; exact hms) (by rw [post_bind] at k1; exact k1)
  · rename_i ms hms
    have hi := (R1.li i ms (.inr (by rw [e1]; exact hms))).1
    rw [hvi] at hi
    have ev : v = .ref (S1.ad i) := by simpa using hi
    subst ev
    exact core (.inr rfl) e1 R1 l1 r1 (hlen q hq) (by rw [e1]; exact hms) (by rw [post_bind] at k1; exact k1)
  · exact k1.elim
end
end VS

/-! sum, max, min of a tuple or a list of ints. -/
namespace VS
open PySem PySem.Spec PyProof.Rows L2
section
variable {prog : Program} {w : World} {A : Around} {E : Value → Shared → Prop} {s : Shared} {l : Addr} {xs : Array (Int × Tok)}
theorem iter_intTup {Q : Value → Shared → Prop} (hl : s.heap.IsTuple l (intItems xs))
    (h : ∀ s₂ : Shared, s₂ = { s with heap := s.heap.push { cls := .type "tuple_iterator", data := .fields #[.ref l, .int 0 0] } } →
      (s₂.heap.IsTupleIter s.heap.objs.size l 0 ∧ s₂.heap.IsTuple l (intItems xs)) → (∀ b ∈ [s.heap.objs.size, l], b < s₂.heap.objs.size) → l ≠ s.heap.objs.size → Q (.ref s.heap.objs.size) s₂) :
    wpAny (model prog w) A (pyIter (.ref l)) Q E s := by
  have hlt : l < s.heap.objs.size := by obtain ⟨_, e, _⟩ := hl; exact Heap.lt_size e
  refine wpAny_pyIter_tuple hl (h _ rfl ⟨⟨_, Heap.get?_push_size _ rfl, rfl, rfl⟩, hl.push _⟩ (fun b hb => ?_) (Nat.ne_of_lt hlt))
  show b < (s.heap.push _).objs.size
  rw [Heap.size_push]
  rcases List.mem_cons.mp hb with rfl | hb
  · exact Nat.lt_succ_self _
  · rcases List.mem_cons.mp hb with rfl | hb
    · exact Nat.lt_succ_of_lt hlt
    · cases hb
theorem old_keptT {h' : Heap} (hk : ∀ b o, b ∉ [s.heap.objs.size] → (s.heap.push { cls := .type "tuple_iterator", data := .fields #[.ref l, .int 0 0] }).get? b = some o → h'.get? b = some o) :
    ∀ b o, s.heap.get? b = some o → h'.get? b = some o := fun b o e => by
  refine hk b o (fun hm => ?_) (Heap.get?_push_of_some _ e)
  rcases List.mem_cons.mp hm with e1 | hm
  · exact absurd (e1 ▸ Heap.lt_size e) (Nat.lt_irrefl _)
  · cases hm
theorem sum_intTup {Q : Value → Shared → Prop} (hh : A.handled = none) (hl : s.heap.IsTuple l (intItems xs))
    (h : ∀ h' tk t', (∀ b o, s.heap.get? b = some o → h'.get? b = some o) → Q (.int (preSum (numAt xs) xs.size) t') { s with heap := h', toks := tk }) :
    wpAny (model prog w) A (call (.builtin "sum") [.ref l]) Q E s := by
  refine call_sum_walkG (iter_intTup hl fun s₂ e st hfp hlI => ?_)
  subst e
  refine ⟨_, _, _, _, _, _, numAt xs, rfl, Walks.tuple (A := A.in1) hh _ l hlI (intItems xs), st, hfp, (fun _ _ => intItems_at), fun h' tk t' hk => ?_⟩
  have := h h' tk t' (old_keptT hk)
  simpa [intItems] using this
theorem max_intTup {Q : Value → Shared → Prop} (hh : A.handled = none) (hl : s.heap.IsTuple l (intItems xs)) (hne : 0 < xs.size)
    (h : ∀ v h' tk, (intItems xs)[argBest (fun i j => decide (numAt xs i > numAt xs j)) (xs.size - 1)]? = some v → (∀ b o, s.heap.get? b = some o → h'.get? b = some o) → Q v { s with heap := h', toks := tk }) :
    wpAny (model prog w) A (call (.builtin "max") [.ref l]) Q E s := by
  refine call_max_walk (iter_intTup hl fun s₂ e st hfp hlI => ?_)
  subst e
  refine ⟨_, _, _, _, _, _, _, rfl, Walks.tuple (A := A.in1) hh _ l hlI (intItems xs), st, hfp, by simpa [intItems] using hne, CmpOf.ints_gt (numAt xs) (fun _ _ => intItems_at), fun v h' tk hP hk => ?_⟩
  exact h v h' tk (by simpa [intItems] using hP) (old_keptT hk)
theorem min_intTup {Q : Value → Shared → Prop} (hh : A.handled = none) (hl : s.heap.IsTuple l (intItems xs)) (hne : 0 < xs.size)
    (h : ∀ v h' tk, (intItems xs)[argBest (fun i j => decide (numAt xs i < numAt xs j)) (xs.size - 1)]? = some v → (∀ b o, s.heap.get? b = some o → h'.get? b = some o) → Q v { s with heap := h', toks := tk }) :
    wpAny (model prog w) A (call (.builtin "min") [.ref l]) Q E s := by
  refine call_min_walk (iter_intTup hl fun s₂ e st hfp hlI => ?_)
  subst e
  refine ⟨_, _, _, _, _, _, _, rfl, Walks.tuple (A := A.in1) hh _ l hlI (intItems xs), st, hfp, by simpa [intItems] using hne, CmpOf.ints_lt (numAt xs) (fun _ _ => intItems_at), fun v h' tk hP hk => ?_⟩
  exact h v h' tk (by simpa [intItems] using hP) (old_keptT hk)
variable {its : List Value} {ns : List Int} {Q : Value → Shared → Prop}
theorem sum_rawT (hh : A.handled = none) (hl : s.heap.IsTuple l its.toArray) (hi : IntsAre its ns)
    (h : ∀ h' tk t', (∀ b o, s.heap.get? b = some o → h'.get? b = some o) → Q (.int ns.sum t') { s with heap := h', toks := tk }) : wpAny (model prog w) A (call (.builtin "sum") [.ref l]) Q E s := by
  obtain ⟨xs, e⟩ := hi.allInts.items
  have hn : numsOf (intItems xs).toList = ns := by rw [← e]; exact hi.numsOf
  rw [nums_intItems] at hn
  rw [e] at hl
  refine sum_intTup hh hl fun h' tk t' hk => ?_
  have := h h' tk t' hk
  rw [preSum_eq, List.take_of_length_le (by simp), hn]; exact this
theorem max_rawT (hh : A.handled = none) (hl : s.heap.IsTuple l its.toArray) (hi : IntsAre its ns) (hne : 0 < ns.length)
    (h : ∀ h' tk M t', (∀ b o, s.heap.get? b = some o → h'.get? b = some o) → M ∈ ns → (∀ a, a ∈ ns → a ≤ M) → Q (.int M t') { s with heap := h', toks := tk }) : wpAny (model prog w) A (call (.builtin "max") [.ref l]) Q E s := by
  obtain ⟨xs, e⟩ := hi.allInts.items
  have hn : numsOf (intItems xs).toList = ns := by rw [← e]; exact hi.numsOf
  rw [nums_intItems] at hn
  subst hn
  rw [e] at hl
  have hsz : 0 < xs.size := by simpa using hne
  refine max_intTup hh hl hsz fun v h' tk hv hk => ?_
  obtain ⟨t, rfl⟩ := intItems_at hv
  obtain ⟨h1, h2⟩ := argBest_gt (numAt xs) (xs.size - 1)
  refine h h' tk _ t hk ?_ fun a ha => ?_
  · rw [numAt_eq]; exact PySem.getD_mem (by rw [List.length_map, Array.length_toList]; omega)
  · obtain ⟨j, hj, rfl⟩ := mem_getD ha
    rw [List.length_map, Array.length_toList] at hj
    rw [← numAt_eq]; exact h2 j (by omega)
theorem min_rawT (hh : A.handled = none) (hl : s.heap.IsTuple l its.toArray) (hi : IntsAre its ns) (hne : 0 < ns.length)
    (h : ∀ h' tk M t', (∀ b o, s.heap.get? b = some o → h'.get? b = some o) → M ∈ ns → (∀ a, a ∈ ns → M ≤ a) → Q (.int M t') { s with heap := h', toks := tk }) : wpAny (model prog w) A (call (.builtin "min") [.ref l]) Q E s := by
  obtain ⟨xs, e⟩ := hi.allInts.items
  have hn : numsOf (intItems xs).toList = ns := by rw [← e]; exact hi.numsOf
  rw [nums_intItems] at hn
  subst hn
  rw [e] at hl
  have hsz : 0 < xs.size := by simpa using hne
  refine min_intTup hh hl hsz fun v h' tk hv hk => ?_
  obtain ⟨t, rfl⟩ := intItems_at hv
  obtain ⟨h1, h2⟩ := argBest_lt (numAt xs) (xs.size - 1)
  refine h h' tk _ t hk ?_ fun a ha => ?_
  · rw [numAt_eq]; exact PySem.getD_mem (by rw [List.length_map, Array.length_toList]; omega)
  · obtain ⟨j, hj, rfl⟩ := mem_getD ha
    rw [List.length_map, Array.length_toList] at hj
    rw [← numAt_eq]; exact h2 j (by omega)
end
section
variable {X : Cx} {W : WX} {e ea eb ec : Expr} {es : List Expr} {ir ia ib ic : Ex} {is : Exs} {pos p : Pos}
def rSumT (K : PySem.W.Frag) : List V → Hp → VK → Prop := fun vs H Q => ∃ (a : Addr) (ns : List Int), vs = [V.ref a] ∧ SqT K H a (ns.map V.int) ∧ Q (.int ns.sum) H
def rMaxT (K : PySem.W.Frag) : List V → Hp → VK → Prop := fun vs H Q => ∃ (a : Addr) (ns : List Int), vs = [V.ref a] ∧ SqT K H a (ns.map V.int) ∧ 0 < ns.length ∧ ∀ m, m ∈ ns → (∀ y, y ∈ ns → y ≤ m) → Q (.int m) H
def rMinT (K : PySem.W.Frag) : List V → Hp → VK → Prop := fun vs H Q => ∃ (a : Addr) (ns : List Int), vs = [V.ref a] ∧ SqT K H a (ns.map V.int) ∧ 0 < ns.length ∧ ∀ m, m ∈ ns → (∀ y, y ∈ ns → m ≤ y) → Q (.int m) H
theorem cr_sumT (hc : X.calm = true) : CallR X (.builtin "sum") (rSumT X.K) := by
  intro pins s σ H vs us Q I r h
  obtain ⟨a, ns, rfl, hs, q⟩ := h
  obtain ⟨its, rv, hl, _⟩ := I.tuple hs
  rw [Vals.ref1 r]
  exact sum_rawT (I.ok.hd hc) hl rv.ints fun h' tk t' hk => ⟨.int _, H, I.kept hk, ⟨_, rfl⟩, q⟩
theorem cr_maxT (hc : X.calm = true) : CallR X (.builtin "max") (rMaxT X.K) := by
  intro pins s σ H vs us Q I r h
  obtain ⟨a, ns, rfl, hs, hne, q⟩ := h
  obtain ⟨its, rv, hl, _⟩ := I.tuple hs
  rw [Vals.ref1 r]
  exact max_rawT (I.ok.hd hc) hl rv.ints hne fun h' tk m t' hk h1 h2 => ⟨.int _, H, I.kept hk, ⟨_, rfl⟩, q m h1 h2⟩
theorem cr_minT (hc : X.calm = true) : CallR X (.builtin "min") (rMinT X.K) := by
  intro pins s σ H vs us Q I r h
  obtain ⟨a, ns, rfl, hs, hne, q⟩ := h
  obtain ⟨its, rv, hl, _⟩ := I.tuple hs
  rw [Vals.ref1 r]
  exact min_rawT (I.ok.hd hc) hl rv.ints hne fun h' tk m t' hk h1 h2 => ⟨.int _, H, I.kept hk, ⟨_, rfl⟩, q m h1 h2⟩
end
end VS

/-! sorted of a tuple of ints. -/
namespace VS
open PySem PySem.Spec PyProof.Rows L2 SrtO
section
variable {prog : Program} {w : World} {A : Around} {E : Value → Shared → Prop} {s : Shared}
theorem collect_tup {l : Addr} {vs : List Value} {Q : List Value → Shared → Prop} (hl : s.heap.IsTuple l vs.toArray)
    (h : Q vs { s with heap := (s.heap.push (seqObj "list" #[] 0)).update s.heap.objs.size (Obj.mapSeq (· ++ vs.toArray)) }) (hsz : vs.length ≤ sizeLine) :
    wpAny (model prog w) A (collect (.ref l)) Q E s := by
  obtain ⟨ob, hob, hcl, n, hda⟩ := id hl
  unfold collect
  refine wpAny_bind (wpAny_runValue (codeAny_builtin entry_proto_collect' ?_))
  show wpAny _ _ (do again (.builtin "list.__iadd__" ⟨[← newList [], .ref l], []⟩)) _ _ s
  refine wpAny_bind (wpAny_newList (wpAny_pure ⟨Code.quiet_builtin _ (by decide +kernel), codeAny_builtin entry_list_iadd' ?_⟩))
  show wpAny _ _ (Builtin.List.listExtendWith (.ref s.heap.objs.size) (.ref l) (.ref s.heap.objs.size)) _ _ { s with heap := s.heap.push (seqObj "list" #[] 0) }
  unfold Builtin.List.listExtendWith
  have hob2 : (s.heap.push (seqObj "list" #[] 0)).get? l = some ob := Heap.get?_push_of_some _ hob
  refine wpAny_bind (wpAny_typeOf (T := "tuple") ⟨ob, hob2, hcl⟩ ?_)
  have ht : (Value.type "tuple" == Value.type "tuple") = true := by rfl
  rw [if_pos (by rw [ht]; simp)]
  refine wpAny_bind (listItems_at hob2 hda ?_)
  refine wpAny_bind (listItems_at (xs := #[]) (n := 0) (Heap.get?_push_size _ rfl) rfl ?_)
  rw [if_neg (by simp)]
  refine wpAny_bind (listUpdate_at (xs := #[]) (n := 0) (Heap.get?_push_size _ rfl) rfl ?_ (Nat.zero_le _) (by show (#[] ++ vs.toArray).size ≤ sizeLine + 1; simp only [Array.size_append, List.size_toArray, List.length_nil]; omega))
  refine wpAny_pure ?_
  show wpAny (model prog w) A (do
      let o ← load s.heap.objs.size
      match o.data with
      | .seq xs _ => pure xs.toList
      | _ => unsupported "internal:collect") Q E { s with heap := (s.heap.push (seqObj "list" #[] 0)).update s.heap.objs.size (Obj.mapSeq (· ++ vs.toArray)) }
  refine wpAny_bind (wpAny_load (get?_update_seq (Heap.get?_push_size _ rfl) _) ?_)
  show wpAny _ _ (pure ((#[] : Array Value) ++ vs.toArray).toList) Q E _
  rw [show ((#[] : Array Value) ++ vs.toArray).toList = vs by simp]
  exact wpAny_pure h
theorem sorted_ordT {l : Addr} {vs : List Value} {ltv : Value → Value → Bool} {Q : Value → Shared → Prop} (O : Swo ltv) (hl : s.heap.IsTuple l vs.toArray) (hz : vs.length ≤ sizeLine)
    (hS : 2 ≤ vs.length → ∀ (h₁ : Heap) (a : Addr), h₁.get? a = some (seqObj "list" vs.toArray 0) → (∀ b o, s.heap.get? b = some o → b ≠ a ∧ h₁.get? b = some o) → SortableO prog w A.in1.in1 { s with heap := h₁ } a vs ltv)
    (h : ∀ out : List Value, Srtd ltv out → Stb ltv out vs → Q (.ref (s.heap.objs.size + 1)) { s with heap := sortedAll s.heap vs out.toArray }) :
    wpAny (model prog w) A (call (.builtin "sorted") [.ref l]) Q E s := by
  refine Calls.call_function_entry kind_sorted plain_sorted entry_sorted (args_sorted1 _) ?_
  unfold Builtin.«sorted»
  refine wpAny_bind (m := checkCount "sorted" 1 1 _) (wpAny_pure ?_)
  refine wpAny_bind (collect_tup hl ?_ hz)
  refine wpAny_bind (wpAny_newList ?_ hz)
  have hsz : ((s.heap.push (seqObj "list" #[] 0)).update s.heap.objs.size (Obj.mapSeq (· ++ vs.toArray))).objs.size = s.heap.objs.size + 1 := by
    rw [Heap.size_update, size_push']
  have hoL : (((s.heap.push (seqObj "list" #[] 0)).update s.heap.objs.size (Obj.mapSeq (· ++ vs.toArray))).push (seqObj "list" vs.toArray 0)).get? (s.heap.objs.size + 1) = some (seqObj "list" vs.toArray 0) := by
    rw [← hsz]; exact Heap.get?_push_size _ rfl
  have keep : ∀ b o, s.heap.get? b = some o → b ≠ s.heap.objs.size + 1 ∧ (((s.heap.push (seqObj "list" #[] 0)).update s.heap.objs.size (Obj.mapSeq (· ++ vs.toArray))).push (seqObj "list" vs.toArray 0)).get? b = some o := fun b o q => by
    have hlt : b < s.heap.objs.size := Heap.lt_size q
    refine ⟨Nat.ne_of_lt (Nat.lt_succ_of_lt hlt), Heap.get?_push_of_some _ ?_⟩
    rw [Heap.get?_update_ne _ _ _ _ (Nat.ne_of_lt hlt)]
    exact Heap.get?_push_of_some _ q
  show wpAny _ _ _ _ _ { s with heap := ((s.heap.push (seqObj "list" #[] 0)).update s.heap.objs.size (Obj.mapSeq (· ++ vs.toArray))).push (seqObj "list" vs.toArray 0) }
  rw [hsz]
  refine wpAny_bind (wpAny_holding (wpAny_call_entry slot_list_sort ⟨_, hoL, rfl⟩ entry_list_sort (list_sort_ord O hoL hz (fun h2 => hS h2 _ _ hoL keep) fun out hs hb => ⟨_, rfl, ?_⟩) (args_list_sort _)))
  exact wpAny_pure ⟨_, rfl, h out hs hb⟩
end
def rSortedTI (K : PySem.W.Frag) : List V → Hp → VK → Prop := fun vs H Q => ∃ (a : Addr) (ns : List Int), vs = [V.ref a] ∧ SqT K H a (ns.map V.int) ∧
  ∀ (ns' : List Int) (p : Addr), ns'.Perm ns → ns'.Pairwise (· ≤ ·) → H p = none → Q (.ref p) (upd H p (.lst (ns'.map V.int)))
section
variable {X : Cx}
theorem cr_sortedTI : CallR X (.builtin "sorted") (rSortedTI X.K) := by
  intro pins s σ H vs us Q I r h
  obtain ⟨a, ns, rfl, hs, q⟩ := h
  obtain ⟨its, rv, hl, hz⟩ := I.tuple hs
  rw [Vals.ref1 r]
  have hi := rv.ints
  refine sorted_ordT SrtO.swo_int hl (by rw [← rv.length]; exact hz) (fun h2 h₁ a' _ _ => SrtO.ints_sortable hi h2) fun out h1 h2 => ?_
  obtain ⟨k1, k2, k3⟩ := SrtO.ints_out hi h1 h2
  obtain ⟨ep, he'⟩ := PyProof.Rows.sortedAll_at s.heap its out.toArray
  have hlen : ((out.map SrtO.iv).map V.int).length ≤ sizeLine := by
    rw [List.length_map, k2.length_eq]
    rw [List.length_map] at hz
    exact hz
  exact ⟨.ref _, upd H (s.heap.objs.size + 1) (.lst ((out.map SrtO.iv).map V.int)), I.laid (t' := s.toks) (fun _ _ => PyProof.Rows.sortedAll_old) (Nat.le_succ _) ⟨hlen, out, ep, vals_of_ints k1, he'⟩, rfl, q _ _ k2 k3 (I.hok.fresh (Nat.le_succ _))⟩
end
theorem srt_perm (ns : List Int) : (srt ns).Perm ns := List.mergeSort_perm _ _
theorem srt_le (ns : List Int) : (srt ns).Pairwise (· ≤ ·) := by
  have := List.pairwise_mergeSort (le := fun a b : Int => decide (a ≤ b)) (fun a b c h1 h2 => by simp at *; omega) (fun a b => by simp; omega) ns
  exact this.imp fun h => by simpa using h
theorem srt_uniq {ns ms : List Int} (h1 : ms.Perm ns) (h2 : ms.Pairwise (· ≤ ·)) : ms = srt ns :=
  List.Perm.eq_of_pairwise (fun a b _ _ h k => Int.le_antisymm h k) h2 (srt_le ns) (h1.trans (srt_perm ns).symm)
end VS

/-! Built-ins. -/
namespace VS
open PySem PySem.Spec PyProof.Rows L2
variable [kf : KF]
theorem rp_ints {H : Hp} : ∀ ns : List Int, RpA H (ns.map V.int) (ns.map PyData.int)
  | [] => .nil
  | n :: r => .cons (.int n) (rp_ints r)
section
variable {X : Cx} {W : WX} {e ea eb ec : Expr} {es : List Expr} {ir ia ib ic : Ex} {is : Exs} {pos p : Pos} {k n : Nat} {x : Str}
omit [kf : KF] in
theorem biD_ex {b : Bi} : ∀ ds e, biD b ds ≠ .ex e := by
  intro ds e h
  cases b <;> simp only [biD] at h <;> first | cases h | (split at h <;> first | cases h | (split at h <;> first | cases h | (split at h <;> cases h)))
abbrev HopI (b : Bi) (r : List V → Hp → VK → Prop) : Prop := ∀ t S σ x dx rr Q, Rel t S σ → SB S x dx → biD b [dx] = .ok rr → (∀ v S', S'.en = S.en → EPost t S S' σ v rr → Q v S'.H) → r [x] S.H Q
abbrev HopJ (b : Bi) (r : List V → Hp → VK → Prop) : Prop := ∀ t S σ x y dx dy rr Q, Rel t S σ → SB S x dx → SB S y dy → biD b [dx, dy] = .ok rr → (∀ v S', S'.en = S.en → EPost t S S' σ v rr → Q v S'.H) → r [x, y] S.H Q
theorem bi1_post {b : Bi} {r : List V → Hp → VK → Prop} (hop : HopI b r) {σ : L2.St} {H : Hp} {Q : VK} (h : tEE X.mg W (.bi b ia) σ H Q) : tCB r (tCons (tEB X.mg W ia) tNil) σ H Q :=
  one_post (X := X) (W := W) (ia := ia) (g := fun d => biD b [d]) (r := fun x H Q => r [x] H Q) (ev := evalE (.bi b ia)) (by funext en; simp only [evalE] <;> rfl) hop (fun dx e => biD_ex _ _) h
theorem bi2_post {b : Bi} {r : List V → Hp → VK → Prop} (hop : HopJ b r) {σ : L2.St} {H : Hp} {Q : VK} (h : tEE X.mg W (.bi2 b ia ib) σ H Q) : tCB r (tCons (tEL X.mg W ia) (tCons (tEB X.mg W ib) tNil)) σ H Q :=
  two_post (X := X) (W := W) (ia := ia) (ib := ib) (g := fun d d' => biD b [d, d']) (fin := id) (r := fun x y H Q => r [x, y] H Q) (ev := evalE (.bi2 b ia ib)) (by funext en; simp only [evalE] <;> rfl) hop (fun dx dy e => biD_ex _ _) h
theorem de_biB {b : Bi} {id : String} {r : List V → Hp → VK → Prop} (hc : CallR X (.builtin id) r) (hop : HopI b r) (hm : X.mg x = none) (hv : bootBuiltins x = some (.builtin id)) (ha : DB X W ea ia) (hg : Gl X x := by rfl) (hn : x ≠ "__name__" := by decide) (hdb : (x == ("__debug__" : Str)) = false := by decide)
    (he : starEach [ea] X.env = (false, eval ea X.env) :: starEach [] X.env := by rfl) : DE X W (.Call (.Name x p) [ea] [] pos) (.bi b ia) := (pe_callB hc hg hm hv (pa_cons ha pa_nil he) hn hdb he rfl).imp fun σ H Q h => bi1_post hop h
theorem de_biT {b : Bi} {T : String} {r : List V → Hp → VK → Prop} (hc : CallR X (.type T) r) (hop : HopI b r) (hm : X.mg x = none) (hv : bootBuiltins x = some (.type T)) (ha : DB X W ea ia) (hg : Gl X x := by rfl) (hn : x ≠ "__name__" := by decide) (hdb : (x == ("__debug__" : Str)) = false := by decide)
    (he : starEach [ea] X.env = (false, eval ea X.env) :: starEach [] X.env := by rfl) : DE X W (.Call (.Name x p) [ea] [] pos) (.bi b ia) := (pe_callTy hc hg hm hv (pa_cons ha pa_nil he) hn hdb he rfl).imp fun σ H Q h => bi1_post hop h
theorem de_biB2 {b : Bi} {id : String} {r : List V → Hp → VK → Prop} (hc : CallR X (.builtin id) r) (hop : HopJ b r) (hm : X.mg x = none) (hv : bootBuiltins x = some (.builtin id)) (ha : DL X W ea ia) (hb : DB X W eb ib) (hg : Gl X x := by rfl) (hn : x ≠ "__name__" := by decide) (hdb : (x == ("__debug__" : Str)) = false := by decide)
    (he : starEach [ea, eb] X.env = (false, eval ea X.env) :: starEach [eb] X.env := by rfl) (he2 : starEach [eb] X.env = (false, eval eb X.env) :: starEach [] X.env := by rfl) (hpl : (backTo pos (starEach [eb] X.env)).any (·.1) = false := by rfl) :
    DE X W (.Call (.Name x p) [ea, eb] [] pos) (.bi2 b ia ib) := (pe_callB hc hg hm hv (pa_cons ha (pa_cons hb pa_nil he2) he) hn hdb he hpl).imp fun σ H Q h => bi2_post hop h

def rLenV (K : PySem.W.Frag) : List V → Hp → VK → Prop := fun xs H Q => (∃ p ys, xs = [.ref p] ∧ (SqL K H p ys ∨ SqT K H p ys) ∧ Q (.int ys.length) H) ∨ (∃ z, xs = [.str z] ∧ z.length ≤ sizeLine ∧ Q (.int z.length) H)
theorem hop_len {K : PySem.W.Frag} (hk : K = kf.K) : HopI .len (rLenV K) := by
  intro t S σ x dx rr Q R hx z k
  simp only [biD] at z
  split at z <;> simp only [reduceCtorEq, List.cons.injEq, and_true, and_false] at *
  · rename_i xs e
    subst e
    have e := Ou.ok.inj z
    subst e
    obtain ⟨a, us, rfl, h1, h2⟩ := hx
    exact .inl ⟨a, us, rfl, .inl (.of h1), by rw [h2.length]; exact ans_int R k⟩
  · rename_i xs e
    subst e
    have e := Ou.ok.inj z
    subst e
    obtain ⟨a, us, rfl, h1, h2, _⟩ := hx.tup
    exact .inl ⟨a, us, rfl, .inr (h1.sq hk), by rw [h2.length]; exact ans_int R k⟩
  · rename_i xs e
    subst e
    split at z
    · rename_i hz
      have e := Ou.ok.inj z
      subst e
      rw [hx.str]
      exact .inr ⟨_, rfl, by rw [← SZ_eq]; exact hz, ans_int R k⟩
    · cases z
theorem de_len (hm : X.mg "len" = none) (ha : DB X W ea ia) (hg : Gl X "len" := by rfl) (he : starEach [ea] X.env = (false, eval ea X.env) :: starEach [] X.env := by rfl) (hk : X.K = kf.K := by rfl) : DE X W (.Call (.Name "len" p) [ea] [] pos) (.bi .len ia) := de_biB (call_len_seq.or call_len_str) (hop_len hk) hm PySem.boot_len ha hg (by decide) (by decide) he
theorem hop_abs : HopI .abs (fun xs H Q => ∃ i, xs = [.int i] ∧ Q (.int (if i < 0 then -i else i)) H) := by
  intro t S σ x dx rr Q R hx z k
  simp only [biD] at z
  split at z <;> simp only [reduceCtorEq, List.cons.injEq, and_true, and_false] at *
  rename_i xs e
  subst e
  have e := Ou.ok.inj z
  subst e
  exact ⟨_, by rw [hx.int], ans_int R k⟩
theorem de_abs (hm : X.mg "abs" = none) (ha : DB X W ea ia) (hg : Gl X "abs" := by rfl) (he : starEach [ea] X.env = (false, eval ea X.env) :: starEach [] X.env := by rfl) : DE X W (.Call (.Name "abs" p) [ea] [] pos) (.bi .abs ia) := de_biB call_abs hop_abs hm (by decide +kernel) ha hg (by decide) (by decide) he
theorem hop_sum {K : PySem.W.Frag} (hk : K = kf.K) : HopI .sum (fun vs H Q => rSum K vs H Q ∨ rSumT K vs H Q) := by
  intro t S σ x dx rr Q R hx z k
  simp only [biD] at z
  split at z <;> simp only [reduceCtorEq, List.cons.injEq, and_true, and_false] at *
  · rename_i xs e
    subst e
    split at z
    · rename_i ns hz
      have e := Ou.ok.inj z
      subst e
      obtain ⟨a, us, rfl, h1, h2⟩ := hx
      have u := h2.ints hz
      subst u
      exact .inl ⟨a, ns, rfl, .of h1, ans_int R k⟩
    · cases z
  · rename_i xs e
    subst e
    split at z
    · rename_i ns hz
      have e := Ou.ok.inj z
      subst e
      obtain ⟨a, us, rfl, h1, h2, _⟩ := hx.tup
      have u := h2.ints hz
      subst u
      exact .inr ⟨a, ns, rfl, h1.sq hk, ans_int R k⟩
    · cases z
theorem de_sum (hc : X.calm = true) (hm : X.mg "sum" = none) (ha : DB X W ea ia) (hg : Gl X "sum" := by rfl) (he : starEach [ea] X.env = (false, eval ea X.env) :: starEach [] X.env := by rfl) (hk : X.K = kf.K := by rfl) : DE X W (.Call (.Name "sum" p) [ea] [] pos) (.bi .sum ia) := de_biB ((cr_sum hc).or (cr_sumT hc)) (hop_sum hk) hm (by decide +kernel) ha hg (by decide) (by decide) he
omit [kf : KF] in
theorem fold_max : ∀ (ns : List Int) (n : Int), (ns.foldl max n = n ∨ ns.foldl max n ∈ ns) ∧ n ≤ ns.foldl max n ∧ ∀ y ∈ ns, y ≤ ns.foldl max n
  | [], n => ⟨.inl rfl, Int.le_refl _, fun y h => by cases h⟩
  | m :: r, n => by
    obtain ⟨h1, h2, h3⟩ := fold_max r (max n m)
    simp only [List.foldl_cons]
    refine ⟨?_, by omega, fun y hy => ?_⟩
    · rcases h1 with h1 | h1
      · rw [h1]
        rcases Int.le_total n m with q | q
        · right; rw [Int.max_eq_right q]; exact List.mem_cons_self ..
        · left; exact Int.max_eq_left q
      · exact .inr (List.mem_cons_of_mem _ h1)
    · rcases List.mem_cons.mp hy with q | q
      · subst q; omega
      · exact h3 y q
omit [kf : KF] in
theorem fold_min : ∀ (ns : List Int) (n : Int), (ns.foldl min n = n ∨ ns.foldl min n ∈ ns) ∧ ns.foldl min n ≤ n ∧ ∀ y ∈ ns, ns.foldl min n ≤ y
  | [], n => ⟨.inl rfl, Int.le_refl _, fun y h => by cases h⟩
  | m :: r, n => by
    obtain ⟨h1, h2, h3⟩ := fold_min r (min n m)
    simp only [List.foldl_cons]
    refine ⟨?_, by omega, fun y hy => ?_⟩
    · rcases h1 with h1 | h1
      · rw [h1]
        rcases Int.le_total n m with q | q
        · left; exact Int.min_eq_left q
        · right; rw [Int.min_eq_right q]; exact List.mem_cons_self ..
      · exact .inr (List.mem_cons_of_mem _ h1)
    · rcases List.mem_cons.mp hy with q | q
      · subst q; omega
      · exact h3 y q
omit [kf : KF] in
theorem max_uniq {n m : Int} {ns : List Int} (h1 : m ∈ n :: ns) (h2 : ∀ y, y ∈ n :: ns → y ≤ m) : m = ns.foldl max n := by
  obtain ⟨a, b, c⟩ := fold_max ns n
  have h3 : ns.foldl max n ≤ m := by
    rcases a with a | a
    · rw [a]; exact h2 _ (List.mem_cons_self ..)
    · exact h2 _ (List.mem_cons_of_mem _ a)
  rcases List.mem_cons.mp h1 with q | q
  · subst q; omega
  · have := c m q; omega
omit [kf : KF] in
theorem min_uniq {n m : Int} {ns : List Int} (h1 : m ∈ n :: ns) (h2 : ∀ y, y ∈ n :: ns → m ≤ y) : m = ns.foldl min n := by
  obtain ⟨a, b, c⟩ := fold_min ns n
  have h3 : m ≤ ns.foldl min n := by
    rcases a with a | a
    · rw [a]; exact h2 _ (List.mem_cons_self ..)
    · exact h2 _ (List.mem_cons_of_mem _ a)
  rcases List.mem_cons.mp h1 with q | q
  · subst q; omega
  · have := c m q; omega
theorem hop_sorted {K : PySem.W.Frag} (hk : K = kf.K) : HopI .sorted (fun vs H Q => rSortedI K vs H Q ∨ rSortedTI K vs H Q) := by
  intro t S σ x dx rr Q R hx z k
  simp only [biD] at z
  split at z <;> simp only [reduceCtorEq, List.cons.injEq, and_true, and_false] at *
  · rename_i xs e
    subst e
    split at z
    · rename_i ns hz
      have e := Ou.ok.inj z
      subst e
      obtain ⟨a, us, rfl, h1, h2⟩ := hx
      have u := h2.ints hz
      subst u
      exact .inl ⟨a, ns, rfl, .of h1, fun ns' p q1 q2 hp => by rw [srt_uniq q1 q2]; exact ans_own R hp (rp_ints _) k⟩
    · cases z
  · rename_i xs e
    subst e
    split at z
    · rename_i ns hz
      have e := Ou.ok.inj z
      subst e
      obtain ⟨a, us, rfl, h1, h2, _⟩ := hx.tup
      have u := h2.ints hz
      subst u
      exact .inr ⟨a, ns, rfl, h1.sq hk, fun ns' p q1 q2 hp => by rw [srt_uniq q1 q2]; exact ans_own R hp (rp_ints _) k⟩
    · cases z
theorem de_sorted (hm : X.mg "sorted" = none) (ha : DB X W ea ia) (hg : Gl X "sorted" := by rfl) (he : starEach [ea] X.env = (false, eval ea X.env) :: starEach [] X.env := by rfl) (hk : X.K = kf.K := by rfl) : DE X W (.Call (.Name "sorted" p) [ea] [] pos) (.bi .sorted ia) := de_biB (cr_sortedI.or cr_sortedTI) (hop_sorted hk) hm (by decide +kernel) ha hg (by decide) (by decide) he
theorem hop_max1 {K : PySem.W.Frag} (hk : K = kf.K) : HopI .max1 (fun vs H Q => rMax K vs H Q ∨ rMaxT K vs H Q) := by
  intro t S σ x dx rr Q R hx z k
  simp only [biD] at z
  split at z <;> simp only [reduceCtorEq, List.cons.injEq, and_true, and_false] at *
  · rename_i xs e
    subst e
    split at z
    · rename_i n ns hz
      have e := Ou.ok.inj z
      subst e
      obtain ⟨a, us, rfl, h1, h2⟩ := hx
      have u := h2.ints hz
      subst u
      exact .inl ⟨a, n :: ns, rfl, .of h1, by simp, fun m q1 q2 => by rw [max_uniq q1 q2]; exact ans_int R k⟩
    · cases z
  · rename_i xs e
    subst e
    split at z
    · rename_i n ns hz
      have e := Ou.ok.inj z
      subst e
      obtain ⟨a, us, rfl, h1, h2, _⟩ := hx.tup
      have u := h2.ints hz
      subst u
      exact .inr ⟨a, n :: ns, rfl, h1.sq hk, by simp, fun m q1 q2 => by rw [max_uniq q1 q2]; exact ans_int R k⟩
    · cases z
theorem hop_min1 {K : PySem.W.Frag} (hk : K = kf.K) : HopI .min1 (fun vs H Q => rMin K vs H Q ∨ rMinT K vs H Q) := by
  intro t S σ x dx rr Q R hx z k
  simp only [biD] at z
  split at z <;> simp only [reduceCtorEq, List.cons.injEq, and_true, and_false] at *
  · rename_i xs e
    subst e
    split at z
    · rename_i n ns hz
      have e := Ou.ok.inj z
      subst e
      obtain ⟨a, us, rfl, h1, h2⟩ := hx
      have u := h2.ints hz
      subst u
      exact .inl ⟨a, n :: ns, rfl, .of h1, by simp, fun m q1 q2 => by rw [min_uniq q1 q2]; exact ans_int R k⟩
    · cases z
  · rename_i xs e
    subst e
    split at z
    · rename_i n ns hz
      have e := Ou.ok.inj z
      subst e
      obtain ⟨a, us, rfl, h1, h2, _⟩ := hx.tup
      have u := h2.ints hz
      subst u
      exact .inr ⟨a, n :: ns, rfl, h1.sq hk, by simp, fun m q1 q2 => by rw [min_uniq q1 q2]; exact ans_int R k⟩
    · cases z
theorem de_max1 (hc : X.calm = true) (hm : X.mg "max" = none) (ha : DB X W ea ia) (hg : Gl X "max" := by rfl) (he : starEach [ea] X.env = (false, eval ea X.env) :: starEach [] X.env := by rfl) (hk : X.K = kf.K := by rfl) : DE X W (.Call (.Name "max" p) [ea] [] pos) (.bi .max1 ia) := de_biB ((cr_max hc).or (cr_maxT hc)) (hop_max1 hk) hm (by decide +kernel) ha hg (by decide) (by decide) he
theorem de_min1 (hc : X.calm = true) (hm : X.mg "min" = none) (ha : DB X W ea ia) (hg : Gl X "min" := by rfl) (he : starEach [ea] X.env = (false, eval ea X.env) :: starEach [] X.env := by rfl) (hk : X.K = kf.K := by rfl) : DE X W (.Call (.Name "min" p) [ea] [] pos) (.bi .min1 ia) := de_biB ((cr_min hc).or (cr_minT hc)) (hop_min1 hk) hm (by decide +kernel) ha hg (by decide) (by decide) he
theorem hop_list {K : PySem.W.Frag} (hk : K = kf.K) : HopI .list (fun xs H Q => ∃ p ys, xs = [.ref p] ∧ (SqL K H p ys ∨ SqT K H p ys) ∧ ∀ l, H l = none → Q (.ref l) (upd H l (.lst ys))) := by
  intro t S σ x dx rr Q R hx z k
  simp only [biD] at z
  split at z <;> simp only [reduceCtorEq, List.cons.injEq, and_true, and_false] at *
  · rename_i xs e
    subst e
    have e := Ou.ok.inj z
    subst e
    obtain ⟨a, us, rfl, h1, h2⟩ := hx
    exact ⟨a, us, rfl, .inl (.of h1), fun l hl => ans_own R hl h2 k⟩
  · rename_i xs e
    subst e
    have e := Ou.ok.inj z
    subst e
    obtain ⟨a, us, rfl, h1, h2, _⟩ := hx.tup
    exact ⟨a, us, rfl, .inr (h1.sq hk), fun l hl => ans_own R hl h2 k⟩
theorem de_list (hm : X.mg "list" = none) (ha : DB X W ea ia) (hg : Gl X "list" := by rfl) (he : starEach [ea] X.env = (false, eval ea X.env) :: starEach [] X.env := by rfl) (hk : X.K = kf.K := by rfl) : DE X W (.Call (.Name "list" p) [ea] [] pos) (.bi .list ia) := de_biT call_list_of (hop_list hk) hm (by decide +kernel) ha hg (by decide) (by decide) he
theorem hop_tuple {K : PySem.W.Frag} (hk : K = kf.K) : HopI .tuple (rTupOf K) := by
  intro t S σ x dx rr Q R hx z k
  simp only [biD] at z
  split at z <;> simp only [reduceCtorEq, List.cons.injEq, and_true, and_false] at *
  · rename_i xs e
    subst e
    have e := Ou.ok.inj z
    subst e
    obtain ⟨a, us, rfl, h1, h2⟩ := hx
    exact ⟨a, us, rfl, .inl ⟨.of h1, ans_tup R h2 k⟩⟩
  · rename_i xs e
    subst e
    have e := Ou.ok.inj z
    subst e
    obtain ⟨a, us, rfl, h1, h2, h3⟩ := hx.tup
    exact ⟨a, us, rfl, .inr ⟨h1.sq hk, ans_fr R h3 k⟩⟩
theorem de_tuple (hm : X.mg "tuple" = none) (ha : DB X W ea ia) (hg : Gl X "tuple" := by rfl) (he : starEach [ea] X.env = (false, eval ea X.env) :: starEach [] X.env := by rfl) (hk : X.K = kf.K := by rfl) : DE X W (.Call (.Name "tuple" p) [ea] [] pos) (.bi .tuple ia) := de_biT cr_tupOf (hop_tuple hk) hm (by decide +kernel) ha hg (by decide) (by decide) he
theorem hop_intB : HopI .int (fun xs H Q => (∃ i, xs = [.int i] ∧ Q (.int i) H) ∨ ∃ k, xs = [.bl k] ∧ Q (.int (if k then 1 else 0)) H) := by
  intro t S σ x dx rr Q R hx z k
  simp only [biD] at z
  split at z <;> simp only [reduceCtorEq, List.cons.injEq, and_true, and_false] at *
  · rename_i xs e
    subst e
    have e := Ou.ok.inj z
    subst e
    exact .inl ⟨_, by rw [hx.int], ans_int R k⟩
  · rename_i xs e
    subst e
    have e := Ou.ok.inj z
    subst e
    exact .inr ⟨_, by rw [hx.bool], ans_int R k⟩
theorem de_intB (hm : X.mg "int" = none) (ha : DB X W ea ia) (hg : Gl X "int" := by rfl) (he : starEach [ea] X.env = (false, eval ea X.env) :: starEach [] X.env := by rfl) : DE X W (.Call (.Name "int" p) [ea] [] pos) (.bi .int ia) := de_biT call_int1 hop_intB hm (by decide +kernel) ha hg (by decide) (by decide) he
theorem hop_min2 : HopJ .min2 (fun xs H Q => ∃ i j, xs = [.int i, .int j] ∧ Q (.int (if j < i then j else i)) H) := by
  intro t S σ x y dx dy rr Q R hx hy z k
  simp only [biD] at z
  split at z <;> simp only [reduceCtorEq, List.cons.injEq, and_true, and_false] at *
  rename_i e
  obtain ⟨e1, e2⟩ := e
  subst e1 e2
  have e := Ou.ok.inj z
  subst e
  exact ⟨_, _, ⟨hx.int, hy.int⟩, ans_int R k⟩
theorem de_min2 (hc : X.calm = true) (hm : X.mg "min" = none) (ha : DL X W ea ia) (hb : DB X W eb ib) (hg : Gl X "min" := by rfl) (he : starEach [ea, eb] X.env = (false, eval ea X.env) :: starEach [eb] X.env := by rfl) (he2 : starEach [eb] X.env = (false, eval eb X.env) :: starEach [] X.env := by rfl) (hpl : (backTo pos (starEach [eb] X.env)).any (·.1) = false := by rfl) : DE X W (.Call (.Name "min" p) [ea, eb] [] pos) (.bi2 .min2 ia ib) :=
  de_biB2 (call_min2 hc) hop_min2 hm (by decide +kernel) ha hb hg (by decide) (by decide) he he2 hpl
theorem hop_all {K : PySem.W.Frag} : HopI .all (rAll K) := by
  intro t S σ x dx rr Q R hx z k
  simp only [biD] at z
  split at z <;> simp only [reduceCtorEq, List.cons.injEq, and_true, and_false] at *
  rename_i xs e
  subst e
  split at z
  · rename_i ns hz
    have e := Ou.ok.inj z
    subst e
    obtain ⟨a, us, rfl, h1, h2⟩ := hx
    have u := h2.bls hz
    subst u
    exact ⟨a, ns, rfl, .of h1, ans_bl R k⟩
  · cases z
theorem de_all (hc : X.calm = true) (hm : X.mg "all" = none) (ha : DB X W ea ia) (hg : Gl X "all" := by rfl) (he : starEach [ea] X.env = (false, eval ea X.env) :: starEach [] X.env := by rfl) : DE X W (.Call (.Name "all" p) [ea] [] pos) (.bi .all ia) := de_biB (cr_all hc) hop_all hm (by decide +kernel) ha hg (by decide) (by decide) he
theorem hop_any {K : PySem.W.Frag} : HopI .any (rAny K) := by
  intro t S σ x dx rr Q R hx z k
  simp only [biD] at z
  split at z <;> simp only [reduceCtorEq, List.cons.injEq, and_true, and_false] at *
  rename_i xs e
  subst e
  split at z
  · rename_i ns hz
    have e := Ou.ok.inj z
    subst e
    obtain ⟨a, us, rfl, h1, h2⟩ := hx
    have u := h2.bls hz
    subst u
    exact ⟨a, ns, rfl, .of h1, ans_bl R k⟩
  · cases z
theorem de_any (hc : X.calm = true) (hm : X.mg "any" = none) (ha : DB X W ea ia) (hg : Gl X "any" := by rfl) (he : starEach [ea] X.env = (false, eval ea X.env) :: starEach [] X.env := by rfl) : DE X W (.Call (.Name "any" p) [ea] [] pos) (.bi .any ia) := de_biB (cr_any hc) hop_any hm (by decide +kernel) ha hg (by decide) (by decide) he
end
end VS

/-! What a loop walks: enumerate, zip over lists and tuples; the tuples that they make are known objects. -/
namespace VS
open PySem PySem.Spec PyProof.Rows L2
def SqK (k : Bool) (K : PySem.W.Frag) (H : Hp) (a : Addr) (xs : List V) : Prop := match k with
  | true => SqT K H a xs
  | false => SqL K H a xs
def itK (k : Bool) (h : Heap) (it a : Addr) (i : Nat) : Prop := match k with
  | true => h.IsTupleIter it a i
  | false => h.IsListIter it a i
def sqK (k : Bool) (h : Heap) (a : Addr) (its : Array Value) : Prop := match k with
  | true => h.IsTuple a its
  | false => h.IsList a its
def itObj (k : Bool) (a : Addr) : Obj := match k with
  | true => { cls := .type "tuple_iterator", data := .fields #[.ref a, .int 0 0] }
  | false => { cls := .type "list_iterator", data := .fields #[.ref a, .int 0 0] }
theorem itK_obj {k : Bool} {h : Heap} {it a : Addr} {i : Nat} (x : itK k h it a i) : ∃ o, h.get? it = some o ∧ ∀ v, o.data ≠ .cell v := by
  cases k <;> (obtain ⟨o, ho, hc, hd⟩ := x; exact ⟨o, ho, fun v q => by rw [hd] at q; cases q⟩)
theorem itK_at {k : Bool} {h h' : Heap} {it a : Addr} {i : Nat} (x : itK k h it a i) (e : ∀ o, h.get? it = some o → h'.get? it = some o) : itK k h' it a i := by
  cases k
  · exact Heap.IsListIter.at x e
  · exact Heap.IsTupleIter.at x e
theorem itK_lt {k : Bool} {h : Heap} {it a : Addr} {i : Nat} (x : itK k h it a i) : it < h.objs.size := by
  obtain ⟨o, ho, _⟩ := itK_obj x
  exact Heap.lt_size ho
theorem itK_new {k : Bool} {h : Heap} {it a : Addr} (e : h.get? it = some (itObj k a)) : itK k h it a 0 := by
  cases k
  · exact ⟨_, e, rfl, rfl⟩
  · exact ⟨_, e, rfl, rfl⟩
theorem drK (k : Bool) {prog : Program} {w : World} {A : Around} (hh : A.handled = none) (it a : Addr) (hne : a ≠ it) (items : Array Value) :
    Draws prog w A it [it, a] items.size (fun i v => items[i]? = some v) (fun i h => itK k h it a i ∧ sqK k h a items) := by
  cases k
  · exact Draws.list hh it a hne items
  · exact Draws.tuple hh it a hne items
theorem begK (k : Bool) (a : Addr) (items : Array Value) : Begins (.ref a) (itObj k a) fun h => sqK k h a items := by
  cases k
  · exact begins_list a items
  · exact begins_tuple a items
section
variable {X : Cx} {pins : List (Addr × Obj)} {σ : L2.St} {H : Hp} {s : Shared}
theorem inv_sq {k : Bool} {a : Addr} {xs : List V} (I : Inv X pins σ H s) (h : SqK k X.K H a xs) : ∃ its, Vals xs its ∧ sqK k s.heap a its.toArray ∧ a < s.heap.objs.size := by
  cases k
  · obtain ⟨its, rv, p, hz⟩ := I.list h
    exact ⟨its, rv, p.isList, p.lt⟩
  · obtain ⟨its, rv, p, hz⟩ := I.tuple h
    have p' : s.heap.IsTuple a its.toArray := p
    exact ⟨its, rv, p', by obtain ⟨_, q, _⟩ := p; exact Heap.lt_size q⟩
theorem sq_inj {k : Bool} {a : Addr} {xs ys : List V} (I : Inv X pins σ H s) (h : SqK k X.K H a xs) (h' : SqK k X.K H a ys) : xs = ys := by
  cases k
  · exact I.list_inj h h'
  · exact I.tuple_inj h h'
end
theorem SqK.l {K : PySem.W.Frag} {H : Hp} {a : Addr} {xs : List V} (h : SqL K H a xs) : SqK false K H a xs := h
theorem SqK.t {K : PySem.W.Frag} {H : Hp} {a : Addr} {xs : List V} (h : SqT K H a xs) : SqK true K H a xs := h
theorem enum_new1 {v : Value} {o : Obj} {H : Heap → Prop} (B : Begins v o H) :
    Meets (Builtin.«enumerate.__new__» ⟨[.type "enumerate", v], []⟩) (fun _ R s => H s.heap ∧
      R (.ok (.ret (.ref (s.heap.push o).objs.size)))
        { s with heap := (s.heap.push o).push { cls := .type "enumerate", data := .fields #[.none, .bool false, .ref s.heap.objs.size, rawInt 0, .none, .none] } }) :=
  .of_wp fun prog w A R s h => by
    obtain ⟨hp, g, d, tk, os⟩ := s; obtain ⟨h1, h⟩ := h
    have hsub := sub_enumerate
    have q1 : ∀ {A' : Around} {E : Value → Shared → Prop} {Q : Value → Shared → Prop}, Q (.ref hp.objs.size) ⟨(hp.push o), g, d, tk, os⟩ → wpAny (model prog w) A' (pyIter v) Q E ⟨hp, g, d, tk, os⟩ :=
      fun q => B.iter prog w _ _ ⟨hp, g, d, tk, os⟩ _ h1 q
    wp_walk using q1
    refine wpAny_stack_any fun st => wpAny_pure ?_
    split
    · rename_i c _ _ _ _ _
      cases (c == Value.type "enumerate")
      · wp_walk using q1
        exact ⟨_, rfl, h⟩
      · wp_walk using q1
        exact ⟨_, rfl, h⟩
    · wp_walk using q1
      exact ⟨_, rfl, h⟩
theorem enum_begins1 {prog : Program} {w : World} {A : Around} {E : Value → Shared → Prop} {s : Shared} {v : Value} {o : Obj} {H : Heap → Prop} {Q : Value → Shared → Prop} (B : Begins v o H) (h1 : H s.heap)
    (h : ∀ h', IsEnum h' (s.heap.objs.size + 1) s.heap.objs.size 0 .none → h'.get? s.heap.objs.size = some o → h'.objs.size = s.heap.objs.size + 2 →
      (∀ b o, s.heap.get? b = some o → h'.get? b = some o) → Q (.ref (s.heap.objs.size + 1)) { s with heap := h' }) :
    wpAny (model prog w) A (call (.type "enumerate") [v]) Q E s := by
  refine callType_new F.called_enumerate (by decide) (F.typeCall_enumerate_1 _) (F.newCall_enumerate_1 _) (fun obj => F.args_object_init_2 obj _) F.entry_enumerate_new
    (enum_new1 B) ⟨h1, ?_⟩
  have hz : (s.heap.push o).objs.size = s.heap.objs.size + 1 := Heap.size_push ..
  show _ ∧ _
  rw [hz]
  have he : IsEnum ((s.heap.push o).push { cls := .type "enumerate", data := .fields #[.none, .bool false, .ref s.heap.objs.size, rawInt 0, .none, .none] }) (s.heap.objs.size + 1) s.heap.objs.size 0 .none := by
    have := Heap.get?_push_size (s.heap.push o) (o := { cls := .type "enumerate", data := .fields #[.none, .bool false, .ref s.heap.objs.size, rawInt 0, .none, .none] }) rfl
    rw [hz] at this; exact this
  refine ⟨⟨_, he, rfl⟩, h _ he (Heap.get?_push_of_some _ (Heap.get?_push_size _ B.free)) (by rw [Heap.size_push, hz]) fun b o x => Heap.get?_push_of_some _ (Heap.get?_push_of_some _ x)⟩
/-- a new known tuple at T -/
def NewAt (H : Hp) (v : V) (H' : Hp) (xs : List V) : Prop := ∃ (T : Addr) (o : Obj), v = .ref T ∧ H T = none ∧ o.dict = none ∧ H' = upd H T (.frz o (.tup xs))
/-- the list or the tuple at a, each item in a new pair -/
def IteK (k : Bool) (K : PySem.W.Frag) (a : Addr) : It :=
  ⟨fun i H => ∃ (xs : List V) (x : V), SqK k K H a xs ∧ xs[i]? = some x, fun i H v H' => ∃ x, NewAt H v H' [.int (i : Nat), x] ∧ ∀ xs, SqK k K H a xs → xs[i]? = some x, fun i H => ∃ xs : List V, SqK k K H a xs ∧ xs.length = i⟩
theorem turn_enumK {P : Program} {w : World} {K : PySem.W.Frag} {elts : List Expr} {kk : Nat} {tpos : Pos} (k : Bool) (a e it : Addr) (hai : a ≠ it) (hea : e ≠ a) :
    Turn P w K (.Tuple elts kk tpos) (IteK k K a) [e, it] e (fun i h => (∃ old, IsEnum h e it ((i : Nat) : Int) old) ∧ itK k h it a i ∧ e ≠ it) where
  mem := by simp
  obj := fun i h st b hb => by
    obtain ⟨⟨old, he⟩, hit, _⟩ := st
    have e' : b = e ∨ b = it := by simpa using hb
    rcases e' with z | z
    · rw [z]; exact ⟨_, he, fun v q => nomatch q⟩
    · rw [z]; exact itK_obj hit
  keep := fun i h h' st k => let ⟨⟨old, he⟩, hi, hne⟩ := st; ⟨⟨old, k e (by simp) _ he⟩, itK_at hi fun o q => k it (by simp) o q, hne⟩
  item := by
    intro X hP hw hK hc i pins s σ H E I hf st hg
    subst hP hw hK
    obtain ⟨⟨old, he⟩, hit, hne⟩ := st
    obtain ⟨xs, x, hq, hx⟩ := hg
    obtain ⟨its, rv, p, _⟩ := inv_sq I hq
    obtain ⟨u, hu, ru⟩ := rv.get hx
    have hel : e < s.heap.objs.size := Heap.lt_size he
    have hil : it < s.heap.objs.size := itK_lt hit
    have hlt : i < its.toArray.size := by simpa using (List.getElem?_eq_some_iff.mp hu).1
    have hh : X.A.in1.handled = none := I.ok.hd hc
    refine wpAny_pyNext_enum_itemD (drK k hh it a hai its.toArray) he ⟨hit, p⟩ hlt hne (by simp [hea, hne]) fun x' h' tk hP ho hst' hT hsz hk => ?_
    obtain ⟨hit', hp'⟩ := hst'
    have ex : x' = u := by
      have : its.toArray[i]? = some u := by simpa using hu
      rw [this] at hP
      exact (Option.some.inj hP).symm
    subst ex
    refine ⟨_, rfl, wpAny_letOwnedTupleGo_enum (s := { s with heap := h', toks := tk + 1 }) ho fun h'' he' sb => ?_⟩
    have hT2 : h''.get? s.heap.objs.size = some (tob [.int i tk, x']) := (sb.2 _ (Nat.ne_of_gt hel)).trans hT
    have new : ObjOk X.prog X.w (upd H s.heap.objs.size (.frz (tob [.int i tk, x']) (.tup [.int (i : Nat), x]))) h'' s.heap.objs.size (.frz (tob [.int i tk, x']) (.tup [.int (i : Nat), x])) :=
      ⟨hT2, by show 2 ≤ sizeLine; decide, [.int i tk, x'], .cons ⟨_, rfl⟩ (.cons ru .nil), ⟨_, hT2, rfl, _, rfl⟩⟩
    have I1 : Inv X pins σ (upd H s.heap.objs.size (.frz (tob [.int i tk, x']) (.tup [.int (i : Nat), x]))) { s with heap := h'', toks := tk + 1 } :=
      I.turnedNew (ch := [e, it]) (fun b ob hb q => (sb.2 b (fun z => hb (by simp [z]))).trans (hk b ob (fun z => hb (by simp [z])) (fun z => hb (by simp [z])) q)) hf (Nat.le_refl _) new
    refine ⟨.ref s.heap.objs.size, _, I1, rfl, ⟨x, ⟨_, _, rfl, I.hok.fresh (Nat.le_refl _), rfl, rfl⟩, fun ys hy => by rw [sq_inj I hy hq]; exact hx⟩, ⟨⟨x', ?_⟩, itK_at hit' fun o q => (sb.2 it (Ne.symm hne)).trans q, hne⟩, fun b hb => ?_⟩
    · have e1 : ((i + 1 : Nat) : Int) = (i : Int) + 1 := by omega
      rw [e1]; exact he'
    · have hb' : b < s.heap.objs.size := by
        have e' : b = e ∨ b = it := by simpa using hb
        rcases e' with z | z
        · rw [z]; exact hel
        · rw [z]; exact hil
      rw [upd_ne (Nat.ne_of_lt hb')]
      exact (hf b hb).1
  done := by
    intro X hP hw hK hc i pins s σ H E I hf st hg
    subst hP hw hK
    obtain ⟨⟨old, he⟩, hit, hne⟩ := st
    obtain ⟨xs, hq, hx⟩ := hg
    obtain ⟨its, rv, p, _⟩ := inv_sq I hq
    obtain ⟨f0, f1, f2, f3, f4, f5⟩ := hf it (by simp)
    have hl := rv.length
    have hh : X.A.in1.handled = none := I.ok.hd hc
    have ei : i = its.toArray.size := by simp; omega
    subst ei
    exact wpAny_pyNext_enum_endD (drK k hh it a hai its.toArray) he ⟨hit, p⟩ fun h' eb => ⟨rfl, I.turned (t' := s.toks) (fun b o hb q => eb b o hb q) f0 f1 f3 f4 f5⟩
  self := fun A i s Q E st h => let ⟨⟨_, he⟩, _⟩ := st; wpAny_pyIter_enum he h
/-- a list or a tuple -/
def iAny (K : PySem.W.Frag) (tl : TE) : TI := fun σ H R => tl σ H fun x H1 => ∃ a, x = .ref a ∧ (((∃ xs, SqL K H1 a xs) ∧ R (Itl K a) H1) ∨ ((∃ xs, SqT K H1 a xs) ∧ R (Itt K a) H1))
theorem pi_any {X : Cx} {tg l : Expr} {tl : TE} (hl : PE X l tl) : PI X tg l (iAny X.K tl) := by
  refine ⟨fun pins s σ H R I h => ?_⟩
  refine thn (hl.run pins s σ H _ I h) fun v s1 ⟨x, H1, I1, r1, q1⟩ => ?_
  obtain ⟨a, e, ⟨⟨xs, hq⟩, q⟩ | ⟨⟨xs, hq⟩, q⟩⟩ := q1
  · subst e
    cases r1
    obtain ⟨its, rv, p, hz⟩ := I1.list hq
    refine wpAny_pyIter_list p.isList ?_
    refine ⟨s1.heap.objs.size, [s1.heap.objs.size], _, _, H1, rfl, I1.kept (t' := s1.toks) fun b o e => Heap.get?_push_of_some _ e, turn_list a _, ⟨_, Heap.get?_push_size _ rfl, rfl, rfl⟩, fun b hb => ?_, q⟩
    have e : b = s1.heap.objs.size := by simpa using hb
    subst e
    exact I1.fpOk (Nat.le_refl _) (I1.hok.fresh (Nat.le_refl _))
  · subst e
    cases r1
    obtain ⟨its, rv, p, hz⟩ := I1.tuple hq
    refine wpAny_pyIter_tuple (show s1.heap.IsTuple a its.toArray from p) ?_
    refine ⟨s1.heap.objs.size, [s1.heap.objs.size], _, _, H1, rfl, I1.kept (t' := s1.toks) fun b o e => Heap.get?_push_of_some _ e, turn_tuple a _, ⟨_, Heap.get?_push_size _ rfl, rfl, rfl⟩, fun b hb => ?_, q⟩
    have e : b = s1.heap.objs.size := by simpa using hb
    subst e
    exact I1.fpOk (Nat.le_refl _) (I1.hok.fresh (Nat.le_refl _))
/-- enumerate of a list or a tuple -/
def iEnumA (K : PySem.W.Frag) (ta : L2.TA) : TI := fun σ H R => ta σ H fun vs H1 => ∃ k a xs, vs = [.ref a] ∧ SqK k K H1 a xs ∧ R (IteK k K a) H1
theorem pi_enumA {X : Cx} {e : Expr} {ta : L2.TA} {p pos tpos : Pos} {elts : List Expr} {kk : Nat} (hg : Gl X "enumerate") (hm : X.mg "enumerate" = none) (ha : PA X [e] ta) (hs : starEach [e] X.env = [(false, eval e X.env)] := by rfl) :
    PI X (.Tuple elts kk tpos) (.Call (.Name "enumerate" p) [e] [] pos) (iEnumA X.K ta) := by
  refine ⟨fun pins s σ H R I h => ?_⟩
  refine Call_ (ld_blt I hg hm boot_enumerate (PyProof.Rows.callWith_type1 (thn (ha.run pos pins s σ H _ I h) fun us s1 ⟨vs, H1, I1, r1, q1⟩ => ?_) hs rfl))
  obtain ⟨k, a, xs, ex, hq, q⟩ := q1
  subst ex
  cases r1 with
  | cons r rr =>
    cases rr
    cases r
    obtain ⟨its, rv, p', lt⟩ := inv_sq I1 hq
    refine enum_begins1 (begK k a its.toArray) p' fun h' he hit hsz hk => wpAny_pyIter_enum he ?_
    have I2 : Inv X pins σ H1 { s1 with heap := h' } := I1.kept (t' := s1.toks) hk
    refine ⟨s1.heap.objs.size + 1, [s1.heap.objs.size + 1, s1.heap.objs.size], _, _, H1, rfl, I2, turn_enumK k a (s1.heap.objs.size + 1) s1.heap.objs.size (Nat.ne_of_lt lt) (Nat.ne_of_gt (Nat.lt_succ_of_lt lt)), ⟨⟨.none, he⟩, itK_new hit, Nat.succ_ne_self _⟩, fun b hb => ?_, q⟩
    have e' : b = s1.heap.objs.size + 1 ∨ b = s1.heap.objs.size := by simpa using hb
    rcases e' with z | z
    · rw [z]; exact I1.fpOk (Nat.le_succ _) (I1.hok.fresh (Nat.le_succ _))
    · rw [z]; exact I1.fpOk (Nat.le_refl _) (I1.hok.fresh (Nat.le_refl _))
theorem fp1 {a N : Nat} (h : a < N) : ∀ b ∈ [a], b < N := fun b hb => by rw [List.mem_singleton.mp hb]; exact h
/-- zip of 2 -/
def Itz2 (k1 k2 : Bool) (K : PySem.W.Frag) (a1 a2 : Addr) : It :=
  ⟨fun i H => ∃ (xs1 xs2 : List V) (x1 x2 : V), SqK k1 K H a1 xs1 ∧ xs1[i]? = some x1 ∧ SqK k2 K H a2 xs2 ∧ xs2[i]? = some x2,
    fun i H v H' => ∃ x1 x2, NewAt H v H' [x1, x2] ∧ (∀ xs, SqK k1 K H a1 xs → xs[i]? = some x1) ∧ (∀ xs, SqK k2 K H a2 xs → xs[i]? = some x2),
    fun i H => ∃ xs1 xs2 : List V, SqK k1 K H a1 xs1 ∧ i ≤ xs1.length ∧ SqK k2 K H a2 xs2 ∧ i ≤ xs2.length ∧ (i = xs1.length ∨ i = xs2.length)⟩
theorem turn_zip2K {P : Program} {w : World} {K : PySem.W.Frag} {elts : List Expr} {kk : Nat} {tpos : Pos} (k1 k2 : Bool) {a1 a2 z TI TO i1 i2 : Addr} (D : ZipSep2 z TI TO i1 i2 [i1, a1] [i2, a2]) (n1 : a1 ≠ i1) (n2 : a2 ≠ i2) :
    Turn P w K (.Tuple elts kk tpos) (Itz2 k1 k2 K a1 a2) [z, TI, TO, i1, i2] z (fun i h => IsZip h z TI TO .none ∧ IsTupOf2 h TI (.ref i1) (.ref i2) ∧ (∃ x1 x2, IsTupOf2 h TO x1 x2) ∧ itK k1 h i1 a1 i ∧ itK k2 h i2 a2 i) where
  mem := by simp
  obj := fun i h st c hc => by
    obtain ⟨hz, hTI, ⟨x1, x2, hTO⟩, h1, h2⟩ := st
    have e' : c = z ∨ c = TI ∨ c = TO ∨ c = i1 ∨ c = i2 := by simpa using hc
    rcases e' with q | q | q | q | q
    · rw [q]; exact ⟨_, hz, fun v q => nomatch q⟩
    · rw [q]; exact ⟨_, hTI, fun v q => nomatch q⟩
    · rw [q]; exact ⟨_, hTO, fun v q => nomatch q⟩
    · rw [q]; exact itK_obj h1
    · rw [q]; exact itK_obj h2
  keep := fun i h h' st k => by
    obtain ⟨hz, hTI, ⟨x1, x2, hTO⟩, h1, h2⟩ := st
    exact ⟨k z (by simp) _ hz, k TI (by simp) _ hTI, ⟨x1, x2, k TO (by simp) _ hTO⟩, itK_at h1 fun o q => k i1 (by simp) o q, itK_at h2 fun o q => k i2 (by simp) o q⟩
  item := by
    intro X hP hw hK hc i pins s σ H E I hf st hg
    subst hP hw hK
    obtain ⟨hz, hTI, ⟨y1, y2, hTO⟩, h1, h2⟩ := st
    obtain ⟨xs1, xs2, x1, x2, q1, e1, q2, e2⟩ := hg
    obtain ⟨its1, rv1, p1, _⟩ := inv_sq I q1
    obtain ⟨u1, hu1, ru1⟩ := rv1.get e1
    have lt1 : i < its1.toArray.size := by simpa using (List.getElem?_eq_some_iff.mp hu1).1
    obtain ⟨its2, rv2, p2, _⟩ := inv_sq I q2
    obtain ⟨u2, hu2, ru2⟩ := rv2.get e2
    have lt2 : i < its2.toArray.size := by simpa using (List.getElem?_eq_some_iff.mp hu2).1
    have hzl : z < s.heap.objs.size := Heap.lt_size hz
    have hh : X.A.in1.handled = none := I.ok.hd hc
    refine wpAny_pyNext_zipD2_item D (drK k1 hh i1 a1 n1 its1.toArray) (drK k2 hh i2 a2 n2 its2.toArray) hz hTI hTO ⟨h1, p1⟩ ⟨h2, p2⟩ lt1 lt2 fun w1 w2 h' tk r1 r2 z' TO' d1 d2 hT hsz hk => ?_
    have ex1 : w1 = u1 := by
      have t : its1.toArray[i]? = some u1 := by simpa using hu1
      rw [t] at r1
      exact (Option.some.inj r1).symm
    subst ex1
    have ex2 : w2 = u2 := by
      have t : its2.toArray[i]? = some u2 := by simpa using hu2
      rw [t] at r2
      exact (Option.some.inj r2).symm
    subst ex2
    refine ⟨_, rfl, wpAny_letOwnedTupleGo_zip (s := { s with heap := h', toks := tk }) z' fun h'' z'' sb => ?_⟩
    have hT2 : h''.get? s.heap.objs.size = some (tob [w1, w2]) := (sb.2 _ (Nat.ne_of_gt hzl)).trans hT
    have new : ObjOk X.prog X.w (upd H s.heap.objs.size (.frz (tob [w1, w2]) (.tup [x1, x2]))) h'' s.heap.objs.size (.frz (tob [w1, w2]) (.tup [x1, x2])) :=
      ⟨hT2, by show 2 ≤ sizeLine; decide, [w1, w2], (.cons ru1 (.cons ru2 .nil)), ⟨_, hT2, rfl, _, rfl⟩⟩
    have I1 : Inv X pins σ (upd H s.heap.objs.size (.frz (tob [w1, w2]) (.tup [x1, x2]))) { s with heap := h'', toks := tk } :=
      I.turnedNew (t' := tk) (ch := [z, TI, TO, i1, i2]) (fun c o hb q => (sb.2 c (fun q' => hb (by simp [q']))).trans (hk c o (fun q' => hb (by simp [q'])) (fun q' => hb (by simp [q'])) (fun q' => hb (by simp [q'])) (fun q' => hb (by simp [q'])) q)) hf (Nat.le_refl _) new
    refine ⟨.ref s.heap.objs.size, _, I1, rfl, ⟨x1, x2, ⟨_, _, rfl, I.hok.fresh (Nat.le_refl _), rfl, rfl⟩, fun l hl => by rw [sq_inj I hl q1]; exact e1, fun l hl => by rw [sq_inj I hl q2]; exact e2⟩, ⟨z'', ?_, ⟨w1, w2, ?_⟩, ?_, ?_⟩, fun c hcm => ?_⟩
    · exact (sb.2 _ D.TIz).trans (hk _ _ D.TIz D.TITO D.TIi1 D.TIi2 hTI)
    · exact (sb.2 _ D.TOz).trans TO'
    · exact itK_at d1.1 fun o q => (sb.2 _ (Ne.symm D.zi1)).trans q
    · exact itK_at d2.1 fun o q => (sb.2 _ (Ne.symm D.zi2)).trans q
    · have hlt : c < s.heap.objs.size := by
        have e' : c = z ∨ c = TI ∨ c = TO ∨ c = i1 ∨ c = i2 := by simpa using hcm
        rcases e' with q | q | q | q | q
        · rw [q]; exact hzl
        · rw [q]; exact Heap.lt_size hTI
        · rw [q]; exact Heap.lt_size hTO
        · rw [q]; exact itK_lt h1
        · rw [q]; exact itK_lt h2
      rw [upd_ne (Nat.ne_of_lt hlt)]
      exact (hf c hcm).1
  done := by
    intro X hP hw hK hc i pins s σ H E I hf st hg
    subst hP hw hK
    obtain ⟨hz, hTI, ⟨y1, y2, hTO⟩, h1, h2⟩ := st
    obtain ⟨xs1, xs2, q1, e1, q2, e2, hend⟩ := hg
    obtain ⟨its1, rv1, p1, _⟩ := inv_sq I q1
    have l1 : its1.toArray.size = xs1.length := by rw [List.size_toArray]; exact rv1.length.symm
    obtain ⟨its2, rv2, p2, _⟩ := inv_sq I q2
    have l2 : its2.toArray.size = xs2.length := by rw [List.size_toArray]; exact rv2.length.symm
    have hh : X.A.in1.handled = none := I.ok.hd hc
    exact wpAny_pyNext_zipD2_end D (drK k1 hh i1 a1 n1 its1.toArray) (drK k2 hh i2 a2 n2 its2.toArray) hz hTI hTO ⟨h1, p1⟩ ⟨h2, p2⟩ (by rw [l1]; exact e1) (by rw [l2]; exact e2) (by rw [l1, l2]; exact hend) fun h' tk hk => ⟨rfl, I.turnedL (t' := tk) (ch := [z, TI, TO, i1, i2]) (fun c o hb q =>
      hk c o (fun q' => hb (by simp [q'])) (fun q' => hb (by simp [q'])) (fun q' => hb (by simp [q'])) (fun q' => hb (by simp [q'])) q) hf⟩
  self := fun A i s Q E st h => wpAny_pyIter_zip st.1 h
def iZip2 (K : PySem.W.Frag) (ta : L2.TA) : TI := fun σ H R => ta σ H fun vs H1 => ∃ k1 k2 a1 a2 xs1 xs2, vs = [.ref a1, .ref a2] ∧ SqK k1 K H1 a1 xs1 ∧ SqK k2 K H1 a2 xs2 ∧ R (Itz2 k1 k2 K a1 a2) H1
theorem pi_zip2 {X : Cx} {e1 e2 : Expr} {ta : L2.TA} {p pos tpos : Pos} {elts : List Expr} {kk : Nat} (hg : Gl X "zip") (hm : X.mg "zip" = none) (ha : PA X [e1, e2] ta)
    (hs : starEach [e1, e2] X.env = (false, eval e1 X.env) :: starEach [e2] X.env := by rfl) (hpl : (backTo pos (starEach [e2] X.env)).any (·.1) = false := by rfl) :
    PI X (.Tuple elts kk tpos) (.Call (.Name "zip" p) [e1, e2] [] pos) (iZip2 X.K ta) := by
  refine ⟨fun pins s σ H R I h => ?_⟩
  refine Call_ (ld_blt I hg hm PyProof.Rows.boot_zip (PyProof.Rows.callWith_type1 (thn (ha.run pos pins s σ H _ I h) fun us s1 ⟨vs, H1, I1, r1, q1⟩ => ?_) hs hpl))
  obtain ⟨k1, k2, a1, a2, xs1, xs2, ex, hq1, hq2, q⟩ := q1
  subst ex
  cases r1 with
  | cons r1 r1 =>
    cases r1 with
    | cons r2 r1 =>
      cases r1
      cases r1
      cases r2
      have fresh : ∀ c, c ∈ [s1.heap.objs.size + 4, s1.heap.objs.size + 2, s1.heap.objs.size + 3, s1.heap.objs.size, s1.heap.objs.size + 1] → FpOk X pins H1 c := fun c hcm => by
        have e' : c = s1.heap.objs.size + 4 ∨ c = s1.heap.objs.size + 2 ∨ c = s1.heap.objs.size + 3 ∨ c = s1.heap.objs.size ∨ c = s1.heap.objs.size + 1 := by simpa using hcm
        have hle : s1.heap.objs.size ≤ c := by
          rcases e' with z | z | z | z | z <;> (rw [z]; first | exact Nat.le_add_right _ _ | exact Nat.le_refl _)
        exact I1.fpOk hle (I1.hok.fresh hle)
      obtain ⟨its1, rv1, p1, lt1⟩ := inv_sq I1 hq1
      obtain ⟨its2, rv2, p2, lt2⟩ := inv_sq I1 hq2
      refine zip_begins2 (begK k1 a1 its1.toArray) (begK k2 a2 its2.toArray) p1 p2 fun h' hz hTI hTO g1 g2 hsz hk => wpAny_pyIter_zip hz ?_
      have I2 : Inv X pins σ H1 { s1 with heap := h' } := I1.kept (t' := s1.toks) hk
      exact ⟨s1.heap.objs.size + 4, [s1.heap.objs.size + 4, s1.heap.objs.size + 2, s1.heap.objs.size + 3, s1.heap.objs.size, s1.heap.objs.size + 1], _, _, H1, rfl, I2, turn_zip2K k1 k2 (zip_sep2 (fp1 lt1) (fp1 lt2)) (Nat.ne_of_lt lt1) (Nat.ne_of_lt (Nat.lt_of_lt_of_le lt2 (Nat.le_add_right _ _))), ⟨hz, hTI, ⟨_, _, hTO⟩, itK_new g1, itK_new g2⟩, fresh, q⟩
/-- zip of 3 -/
def Itz3 (k1 k2 k3 : Bool) (K : PySem.W.Frag) (a1 a2 a3 : Addr) : It :=
  ⟨fun i H => ∃ (xs1 xs2 xs3 : List V) (x1 x2 x3 : V), SqK k1 K H a1 xs1 ∧ xs1[i]? = some x1 ∧ SqK k2 K H a2 xs2 ∧ xs2[i]? = some x2 ∧ SqK k3 K H a3 xs3 ∧ xs3[i]? = some x3,
    fun i H v H' => ∃ x1 x2 x3, NewAt H v H' [x1, x2, x3] ∧ (∀ xs, SqK k1 K H a1 xs → xs[i]? = some x1) ∧ (∀ xs, SqK k2 K H a2 xs → xs[i]? = some x2) ∧ (∀ xs, SqK k3 K H a3 xs → xs[i]? = some x3),
    fun i H => ∃ xs1 xs2 xs3 : List V, SqK k1 K H a1 xs1 ∧ i ≤ xs1.length ∧ SqK k2 K H a2 xs2 ∧ i ≤ xs2.length ∧ SqK k3 K H a3 xs3 ∧ i ≤ xs3.length ∧ (i = xs1.length ∨ i = xs2.length ∨ i = xs3.length)⟩
theorem turn_zip3K {P : Program} {w : World} {K : PySem.W.Frag} {elts : List Expr} {kk : Nat} {tpos : Pos} (k1 k2 k3 : Bool) {a1 a2 a3 z TI TO i1 i2 i3 : Addr} (D : ZipSep3 z TI TO i1 i2 i3 [i1, a1] [i2, a2] [i3, a3]) (n1 : a1 ≠ i1) (n2 : a2 ≠ i2) (n3 : a3 ≠ i3) :
    Turn P w K (.Tuple elts kk tpos) (Itz3 k1 k2 k3 K a1 a2 a3) [z, TI, TO, i1, i2, i3] z (fun i h => IsZip h z TI TO .none ∧ IsTupOf3 h TI (.ref i1) (.ref i2) (.ref i3) ∧ (∃ x1 x2 x3, IsTupOf3 h TO x1 x2 x3) ∧ itK k1 h i1 a1 i ∧ itK k2 h i2 a2 i ∧ itK k3 h i3 a3 i) where
  mem := by simp
  obj := fun i h st c hc => by
    obtain ⟨hz, hTI, ⟨x1, x2, x3, hTO⟩, h1, h2, h3⟩ := st
    have e' : c = z ∨ c = TI ∨ c = TO ∨ c = i1 ∨ c = i2 ∨ c = i3 := by simpa using hc
    rcases e' with q | q | q | q | q | q
    · rw [q]; exact ⟨_, hz, fun v q => nomatch q⟩
    · rw [q]; exact ⟨_, hTI, fun v q => nomatch q⟩
    · rw [q]; exact ⟨_, hTO, fun v q => nomatch q⟩
    · rw [q]; exact itK_obj h1
    · rw [q]; exact itK_obj h2
    · rw [q]; exact itK_obj h3
  keep := fun i h h' st k => by
    obtain ⟨hz, hTI, ⟨x1, x2, x3, hTO⟩, h1, h2, h3⟩ := st
    exact ⟨k z (by simp) _ hz, k TI (by simp) _ hTI, ⟨x1, x2, x3, k TO (by simp) _ hTO⟩, itK_at h1 fun o q => k i1 (by simp) o q, itK_at h2 fun o q => k i2 (by simp) o q, itK_at h3 fun o q => k i3 (by simp) o q⟩
  item := by
    intro X hP hw hK hc i pins s σ H E I hf st hg
    subst hP hw hK
    obtain ⟨hz, hTI, ⟨y1, y2, y3, hTO⟩, h1, h2, h3⟩ := st
    obtain ⟨xs1, xs2, xs3, x1, x2, x3, q1, e1, q2, e2, q3, e3⟩ := hg
    obtain ⟨its1, rv1, p1, _⟩ := inv_sq I q1
    obtain ⟨u1, hu1, ru1⟩ := rv1.get e1
    have lt1 : i < its1.toArray.size := by simpa using (List.getElem?_eq_some_iff.mp hu1).1
    obtain ⟨its2, rv2, p2, _⟩ := inv_sq I q2
    obtain ⟨u2, hu2, ru2⟩ := rv2.get e2
    have lt2 : i < its2.toArray.size := by simpa using (List.getElem?_eq_some_iff.mp hu2).1
    obtain ⟨its3, rv3, p3, _⟩ := inv_sq I q3
    obtain ⟨u3, hu3, ru3⟩ := rv3.get e3
    have lt3 : i < its3.toArray.size := by simpa using (List.getElem?_eq_some_iff.mp hu3).1
    have hzl : z < s.heap.objs.size := Heap.lt_size hz
    have hh : X.A.in1.handled = none := I.ok.hd hc
    refine wpAny_pyNext_zipD3_item D (drK k1 hh i1 a1 n1 its1.toArray) (drK k2 hh i2 a2 n2 its2.toArray) (drK k3 hh i3 a3 n3 its3.toArray) hz hTI hTO ⟨h1, p1⟩ ⟨h2, p2⟩ ⟨h3, p3⟩ lt1 lt2 lt3 fun w1 w2 w3 h' tk r1 r2 r3 z' TO' d1 d2 d3 hT hsz hk => ?_
    have ex1 : w1 = u1 := by
      have t : its1.toArray[i]? = some u1 := by simpa using hu1
      rw [t] at r1
      exact (Option.some.inj r1).symm
    subst ex1
    have ex2 : w2 = u2 := by
      have t : its2.toArray[i]? = some u2 := by simpa using hu2
      rw [t] at r2
      exact (Option.some.inj r2).symm
    subst ex2
    have ex3 : w3 = u3 := by
      have t : its3.toArray[i]? = some u3 := by simpa using hu3
      rw [t] at r3
      exact (Option.some.inj r3).symm
    subst ex3
    refine ⟨_, rfl, wpAny_letOwnedTupleGo_zip (s := { s with heap := h', toks := tk }) z' fun h'' z'' sb => ?_⟩
    have hT2 : h''.get? s.heap.objs.size = some (tob [w1, w2, w3]) := (sb.2 _ (Nat.ne_of_gt hzl)).trans hT
    have new : ObjOk X.prog X.w (upd H s.heap.objs.size (.frz (tob [w1, w2, w3]) (.tup [x1, x2, x3]))) h'' s.heap.objs.size (.frz (tob [w1, w2, w3]) (.tup [x1, x2, x3])) :=
      ⟨hT2, by show 3 ≤ sizeLine; decide, [w1, w2, w3], (.cons ru1 (.cons ru2 (.cons ru3 .nil))), ⟨_, hT2, rfl, _, rfl⟩⟩
    have I1 : Inv X pins σ (upd H s.heap.objs.size (.frz (tob [w1, w2, w3]) (.tup [x1, x2, x3]))) { s with heap := h'', toks := tk } :=
      I.turnedNew (t' := tk) (ch := [z, TI, TO, i1, i2, i3]) (fun c o hb q => (sb.2 c (fun q' => hb (by simp [q']))).trans (hk c o (fun q' => hb (by simp [q'])) (fun q' => hb (by simp [q'])) (fun q' => hb (by simp [q'])) (fun q' => hb (by simp [q'])) (fun q' => hb (by simp [q'])) q)) hf (Nat.le_refl _) new
    refine ⟨.ref s.heap.objs.size, _, I1, rfl, ⟨x1, x2, x3, ⟨_, _, rfl, I.hok.fresh (Nat.le_refl _), rfl, rfl⟩, fun l hl => by rw [sq_inj I hl q1]; exact e1, fun l hl => by rw [sq_inj I hl q2]; exact e2, fun l hl => by rw [sq_inj I hl q3]; exact e3⟩, ⟨z'', ?_, ⟨w1, w2, w3, ?_⟩, ?_, ?_, ?_⟩, fun c hcm => ?_⟩
    · exact (sb.2 _ D.TIz).trans (hk _ _ D.TIz D.TITO D.TIi1 D.TIi2 D.TIi3 hTI)
    · exact (sb.2 _ D.TOz).trans TO'
    · exact itK_at d1.1 fun o q => (sb.2 _ (Ne.symm D.zi1)).trans q
    · exact itK_at d2.1 fun o q => (sb.2 _ (Ne.symm D.zi2)).trans q
    · exact itK_at d3.1 fun o q => (sb.2 _ (Ne.symm D.zi3)).trans q
    · have hlt : c < s.heap.objs.size := by
        have e' : c = z ∨ c = TI ∨ c = TO ∨ c = i1 ∨ c = i2 ∨ c = i3 := by simpa using hcm
        rcases e' with q | q | q | q | q | q
        · rw [q]; exact hzl
        · rw [q]; exact Heap.lt_size hTI
        · rw [q]; exact Heap.lt_size hTO
        · rw [q]; exact itK_lt h1
        · rw [q]; exact itK_lt h2
        · rw [q]; exact itK_lt h3
      rw [upd_ne (Nat.ne_of_lt hlt)]
      exact (hf c hcm).1
  done := by
    intro X hP hw hK hc i pins s σ H E I hf st hg
    subst hP hw hK
    obtain ⟨hz, hTI, ⟨y1, y2, y3, hTO⟩, h1, h2, h3⟩ := st
    obtain ⟨xs1, xs2, xs3, q1, e1, q2, e2, q3, e3, hend⟩ := hg
    obtain ⟨its1, rv1, p1, _⟩ := inv_sq I q1
    have l1 : its1.toArray.size = xs1.length := by rw [List.size_toArray]; exact rv1.length.symm
    obtain ⟨its2, rv2, p2, _⟩ := inv_sq I q2
    have l2 : its2.toArray.size = xs2.length := by rw [List.size_toArray]; exact rv2.length.symm
    obtain ⟨its3, rv3, p3, _⟩ := inv_sq I q3
    have l3 : its3.toArray.size = xs3.length := by rw [List.size_toArray]; exact rv3.length.symm
    have hh : X.A.in1.handled = none := I.ok.hd hc
    exact wpAny_pyNext_zipD3_end D (drK k1 hh i1 a1 n1 its1.toArray) (drK k2 hh i2 a2 n2 its2.toArray) (drK k3 hh i3 a3 n3 its3.toArray) hz hTI hTO ⟨h1, p1⟩ ⟨h2, p2⟩ ⟨h3, p3⟩ (by rw [l1]; exact e1) (by rw [l2]; exact e2) (by rw [l3]; exact e3) (by rw [l1, l2, l3]; exact hend) fun h' tk hk => ⟨rfl, I.turnedL (t' := tk) (ch := [z, TI, TO, i1, i2, i3]) (fun c o hb q =>
      hk c o (fun q' => hb (by simp [q'])) (fun q' => hb (by simp [q'])) (fun q' => hb (by simp [q'])) (fun q' => hb (by simp [q'])) (fun q' => hb (by simp [q'])) q) hf⟩
  self := fun A i s Q E st h => wpAny_pyIter_zip st.1 h
def iZip3 (K : PySem.W.Frag) (ta : L2.TA) : TI := fun σ H R => ta σ H fun vs H1 => ∃ k1 k2 k3 a1 a2 a3 xs1 xs2 xs3, vs = [.ref a1, .ref a2, .ref a3] ∧ SqK k1 K H1 a1 xs1 ∧ SqK k2 K H1 a2 xs2 ∧ SqK k3 K H1 a3 xs3 ∧ R (Itz3 k1 k2 k3 K a1 a2 a3) H1
theorem pi_zip3 {X : Cx} {e1 e2 e3 : Expr} {ta : L2.TA} {p pos tpos : Pos} {elts : List Expr} {kk : Nat} (hg : Gl X "zip") (hm : X.mg "zip" = none) (ha : PA X [e1, e2, e3] ta)
    (hs : starEach [e1, e2, e3] X.env = (false, eval e1 X.env) :: starEach [e2, e3] X.env := by rfl) (hpl : (backTo pos (starEach [e2, e3] X.env)).any (·.1) = false := by rfl) :
    PI X (.Tuple elts kk tpos) (.Call (.Name "zip" p) [e1, e2, e3] [] pos) (iZip3 X.K ta) := by
  refine ⟨fun pins s σ H R I h => ?_⟩
  refine Call_ (ld_blt I hg hm PyProof.Rows.boot_zip (PyProof.Rows.callWith_type1 (thn (ha.run pos pins s σ H _ I h) fun us s1 ⟨vs, H1, I1, r1, q1⟩ => ?_) hs hpl))
  obtain ⟨k1, k2, k3, a1, a2, a3, xs1, xs2, xs3, ex, hq1, hq2, hq3, q⟩ := q1
  subst ex
  cases r1 with
  | cons r1 r1 =>
    cases r1 with
    | cons r2 r1 =>
      cases r1 with
      | cons r3 r1 =>
        cases r1
        cases r1
        cases r2
        cases r3
        have fresh : ∀ c, c ∈ [s1.heap.objs.size + 5, s1.heap.objs.size + 3, s1.heap.objs.size + 4, s1.heap.objs.size, s1.heap.objs.size + 1, s1.heap.objs.size + 2] → FpOk X pins H1 c := fun c hcm => by
          have e' : c = s1.heap.objs.size + 5 ∨ c = s1.heap.objs.size + 3 ∨ c = s1.heap.objs.size + 4 ∨ c = s1.heap.objs.size ∨ c = s1.heap.objs.size + 1 ∨ c = s1.heap.objs.size + 2 := by simpa using hcm
          have hle : s1.heap.objs.size ≤ c := by
            rcases e' with z | z | z | z | z | z <;> (rw [z]; first | exact Nat.le_add_right _ _ | exact Nat.le_refl _)
          exact I1.fpOk hle (I1.hok.fresh hle)
        obtain ⟨its1, rv1, p1, lt1⟩ := inv_sq I1 hq1
        obtain ⟨its2, rv2, p2, lt2⟩ := inv_sq I1 hq2
        obtain ⟨its3, rv3, p3, lt3⟩ := inv_sq I1 hq3
        refine zip_begins3 (begK k1 a1 its1.toArray) (begK k2 a2 its2.toArray) (begK k3 a3 its3.toArray) p1 p2 p3 fun h' hz hTI hTO g1 g2 g3 hsz hk => wpAny_pyIter_zip hz ?_
        have I2 : Inv X pins σ H1 { s1 with heap := h' } := I1.kept (t' := s1.toks) hk
        exact ⟨s1.heap.objs.size + 5, [s1.heap.objs.size + 5, s1.heap.objs.size + 3, s1.heap.objs.size + 4, s1.heap.objs.size, s1.heap.objs.size + 1, s1.heap.objs.size + 2], _, _, H1, rfl, I2, turn_zip3K k1 k2 k3 (zip_sep3 (fp1 lt1) (fp1 lt2) (fp1 lt3)) (Nat.ne_of_lt lt1) (Nat.ne_of_lt (Nat.lt_of_lt_of_le lt2 (Nat.le_add_right _ _))) (Nat.ne_of_lt (Nat.lt_of_lt_of_le lt3 (Nat.le_add_right _ _))), ⟨hz, hTI, ⟨_, _, _, hTO⟩, itK_new g1, itK_new g2, itK_new g3⟩, fresh, q⟩
end VS

/-! Sources of loops, comprehensions. -/
namespace VS
open PySem PySem.Spec PyProof.Rows L2
variable [kf : KF]
/-- the iterator J yields the data ds, from a heap whose frozen part is F -/
structure Walks (F : Hp) (J : It) (ds : List D) : Prop where
  go : ∀ i H O, Same F (hid H O) → i < ds.length → J.go i H
  yld : ∀ i H O x H' d, Same F (hid H O) → (∀ a ∈ O, H a ≠ none) → ds[i]? = some d → J.yld i H x H' → Same H H' ∧ Rp (hid H' O) x d
  stop : ∀ i H O, Same F (hid H O) → ds.length = i → J.stop i H
omit [kf : KF] in
theorem enumD_get : ∀ (k : Nat) (ds : List D) (i : Nat) (d : D), (enumD k ds)[i]? = some d → ∃ x, ds[i]? = some x ∧ d = .tuple [.int ((k + i : Nat) : Int), x]
  | k, [], i, d, h => by simp [enumD] at h
  | k, x :: r, 0, d, h => by
    simp [enumD] at h
    exact ⟨x, rfl, h.symm⟩
  | k, x :: r, i + 1, d, h => by
    simp only [enumD, List.getElem?_cons_succ] at h
    obtain ⟨y, h1, h2⟩ := enumD_get (k + 1) r i d h
    refine ⟨y, by simpa using h1, ?_⟩
    rw [h2]
    have : k + 1 + i = k + (i + 1) := by omega
    rw [this]
omit [kf : KF] in
theorem enumD_length : ∀ (k : Nat) (ds : List D), (enumD k ds).length = ds.length
  | _, [] => rfl
  | k, x :: r => by simp [enumD, enumD_length (k + 1) r]
omit [kf : KF] in
theorem rngD_length : ∀ (lo : Int) (n : Nat), (rngD lo n).length = n
  | _, 0 => rfl
  | lo, n + 1 => by simp [rngD, rngD_length (lo + 1) n]
omit [kf : KF] in
theorem rngD_get : ∀ (lo : Int) (n i : Nat) (d : D), (rngD lo n)[i]? = some d → i < n ∧ d = .int (lo + (i : Nat))
  | lo, 0, i, d, h => by simp [rngD] at h
  | lo, n + 1, 0, d, h => by simp [rngD] at h; exact ⟨by omega, by rw [← h]; simp⟩
  | lo, n + 1, i + 1, d, h => by
    simp only [rngD, List.getElem?_cons_succ] at h
    obtain ⟨h1, h2⟩ := rngD_get (lo + 1) n i d h
    refine ⟨by omega, ?_⟩
    rw [h2]
    congr 1
    omega
omit [kf : KF] in
theorem zipD_get : ∀ (xs ys : List D) (i : Nat) (d : D), (zipD xs ys)[i]? = some d → ∃ x y, xs[i]? = some x ∧ ys[i]? = some y ∧ d = .tuple [x, y]
  | [], ys, i, d, h => by cases ys <;> simp [zipD] at h
  | x :: r, [], i, d, h => by simp [zipD] at h
  | x :: r, y :: s, 0, d, h => by
    simp [zipD] at h
    exact ⟨x, y, rfl, rfl, h.symm⟩
  | x :: r, y :: s, i + 1, d, h => by
    simp only [zipD, List.getElem?_cons_succ] at h
    obtain ⟨a, b, h1, h2, h3⟩ := zipD_get r s i d h
    exact ⟨a, b, by simpa using h1, by simpa using h2, h3⟩
omit [kf : KF] in
theorem zipD_length : ∀ (xs ys : List D), (zipD xs ys).length = min xs.length ys.length
  | [], ys => by cases ys <;> simp [zipD]
  | x :: r, [] => by simp [zipD]
  | x :: r, y :: s => by simp [zipD, zipD_length r s]
omit [kf : KF] in
theorem zipD3_get : ∀ (xs ys zs : List D) (i : Nat) (d : D), (zipD3 xs ys zs)[i]? = some d → ∃ x y z, xs[i]? = some x ∧ ys[i]? = some y ∧ zs[i]? = some z ∧ d = .tuple [x, y, z]
  | [], ys, zs, i, d, h => by simp [zipD3] at h
  | x :: r, [], zs, i, d, h => by simp [zipD3] at h
  | x :: r, y :: s, [], i, d, h => by simp [zipD3] at h
  | x :: r, y :: s, z :: t, 0, d, h => by
    simp [zipD3] at h
    exact ⟨x, y, z, rfl, rfl, rfl, h.symm⟩
  | x :: r, y :: s, z :: t, i + 1, d, h => by
    simp only [zipD3, List.getElem?_cons_succ] at h
    obtain ⟨a, b, c, h1, h2, h3, h4⟩ := zipD3_get r s t i d h
    exact ⟨a, b, c, by simpa using h1, by simpa using h2, by simpa using h3, h4⟩
omit [kf : KF] in
theorem zipD3_length : ∀ (xs ys zs : List D), (zipD3 xs ys zs).length = min (min xs.length ys.length) zs.length
  | [], ys, zs => by simp [zipD3]
  | x :: r, [], zs => by simp [zipD3]
  | x :: r, y :: s, [] => by simp [zipD3]
  | x :: r, y :: s, z :: t => by simp [zipD3, zipD3_length r s t]
theorem walks_rng {F : Hp} {lo : Int} {n : Nat} : Walks F (Itr lo n) (rngD lo n) where
  go := fun i H O _ h => by rw [rngD_length] at h; exact h
  yld := fun i H O x H' d s t h y => by
    obtain ⟨e1, e2⟩ := y
    subst e1 e2
    obtain ⟨_, h2⟩ := rngD_get _ _ _ _ h
    subst h2
    exact ⟨Same.refl _, .int _⟩
  stop := fun i H O _ h => by rw [rngD_length] at h; exact Nat.le_of_eq h
theorem walks_list {K : PySem.W.Frag} {F : Hp} {a : Addr} {xs : List V} {ds : List D} (h : F a = some (.lst xs)) (r : RpA F xs ds) : Walks F (Itl K a) ds where
  go := fun i H O s hi => by
    have e := hid_le _ _ (s _ _ h)
    rw [← r.length] at hi
    exact ⟨xs, xs[i], .of e, List.getElem?_eq_getElem hi⟩
  yld := fun i H O x H' d s t hd y => by
    obtain ⟨e1, e2⟩ := y
    subst e1
    obtain ⟨v, h1, h2⟩ := r.get hd
    have e := e2 xs (.of (hid_le _ _ (s _ _ h)))
    rw [h1] at e
    cases e
    exact ⟨Same.refl _, h2.mono s⟩
  stop := fun i H O s hi => ⟨xs, .of (hid_le _ _ (s _ _ h)), by rw [r.length]; exact Nat.le_of_eq hi⟩
theorem walks_tup {K : PySem.W.Frag} (hk : K = kf.K) {F : Hp} {a : Addr} {xs : List V} {ds : List D} (h : TupAt F a xs) (r : RpA F xs ds) : Walks F (Itt K a) ds where
  go := fun i H O s hi => by
    rw [← r.length] at hi
    exact ⟨xs, xs[i], ((h.mono s).mono hid_le).sq hk, List.getElem?_eq_getElem hi⟩
  yld := fun i H O x H' d s t hd y => by
    obtain ⟨e1, e2⟩ := y
    subst e1
    obtain ⟨v, h1, h2⟩ := r.get hd
    have e := e2 xs (((h.mono s).mono hid_le).sq hk)
    rw [h1] at e
    cases e
    exact ⟨Same.refl _, h2.mono s⟩
  stop := fun i H O s hi => ⟨xs, ((h.mono s).mono hid_le).sq hk, by rw [r.length]; exact Nat.le_of_eq hi⟩
/-- a list or a tuple of frozen data -/
def SqF (k : Bool) (F : Hp) (a : Addr) (xs : List V) : Prop := match k with
  | true => TupAt F a xs
  | false => F a = some (.lst xs)
theorem SqF.sq {k : Bool} {F H : Hp} {O : List Addr} {a : Addr} {xs : List V} {K : PySem.W.Frag} (h : SqF k F a xs) (s : Same F (hid H O)) (hk : K = kf.K) : SqK k K H a xs := by
  cases k
  · exact SqL.of (hid_le _ _ (s _ _ h))
  · exact ((TupAt.mono s h).mono hid_le).sq hk
theorem new_tup {H : Hp} {O : List Addr} {v : V} {H' : Hp} {xs : List V} {ds : List D} (t : ∀ a ∈ O, H a ≠ none) (n : NewAt H v H' xs) (r : RpA (hid H O) xs ds) : Same H H' ∧ Rp (hid H' O) v (.tuple ds) := by
  obtain ⟨T, o, e1, hT, ho, e2⟩ := n
  subst e1 e2
  have nT : T ∉ O := fun q => t T q hT
  have s : Same (hid H O) (hid (upd H T (.frz o (.tup xs))) O) := fun b o h => by
    obtain ⟨n, e⟩ := hid_some h
    rw [hid_out n, upd_ne (ne_of_none e hT)]
    exact e
  exact ⟨same_upd hT, .tup (.of (o := o) (by rw [hid_out nT, upd_same]) ho) (r.mono s)⟩
theorem walks_enum {K : PySem.W.Frag} (hk : K = kf.K) {k : Bool} {F : Hp} {a : Addr} {xs : List V} {ds : List D} (h : SqF k F a xs) (r : RpA F xs ds) : Walks F (IteK k K a) (enumD 0 ds) where
  go := fun i H O s hi => by
    rw [enumD_length, ← r.length] at hi
    exact ⟨xs, xs[i], h.sq s hk, List.getElem?_eq_getElem hi⟩
  yld := fun i H O x H' d s t hd y => by
    obtain ⟨x', n, e3⟩ := y
    obtain ⟨d', h1, h2⟩ := enumD_get _ _ _ _ hd
    obtain ⟨v, h3, h4⟩ := r.get h1
    have e := e3 xs (h.sq s hk)
    rw [h3] at e
    cases e
    subst h2
    rw [Nat.zero_add]
    exact new_tup t n (.cons (.int _) (.cons (h4.mono s) .nil))
  stop := fun i H O s hi => ⟨xs, h.sq s hk, by rw [enumD_length] at hi; rw [r.length]; exact hi⟩
theorem walks_zip {K : PySem.W.Frag} (hk : K = kf.K) {k1 k2 : Bool} {F : Hp} {a b : Addr} {xs ys : List V} {ds es : List D} (h : SqF k1 F a xs) (r : RpA F xs ds) (h' : SqF k2 F b ys) (r' : RpA F ys es) : Walks F (Itz2 k1 k2 K a b) (zipD ds es) where
  go := fun i H O s hi => by
    rw [zipD_length, ← r.length, ← r'.length] at hi
    exact ⟨xs, ys, xs[i]'(by omega), ys[i]'(by omega), h.sq s hk, List.getElem?_eq_getElem _, h'.sq s hk, List.getElem?_eq_getElem _⟩
  yld := fun i H O x H' d s t hd y => by
    obtain ⟨x', y', n, e3, e4⟩ := y
    obtain ⟨d1, d2, h1, h2, h3⟩ := zipD_get _ _ _ _ hd
    obtain ⟨v, h4, h5⟩ := r.get h1
    obtain ⟨u, h6, h7⟩ := r'.get h2
    have q := e3 xs (h.sq s hk)
    have q' := e4 ys (h'.sq s hk)
    rw [h4] at q
    rw [h6] at q'
    cases q
    cases q'
    subst h3
    exact new_tup t n (.cons (h5.mono s) (.cons (h7.mono s) .nil))
  stop := fun i H O s hi => ⟨xs, ys, h.sq s hk, by rw [zipD_length, ← r.length, ← r'.length] at hi; omega, h'.sq s hk, by rw [zipD_length, ← r.length, ← r'.length] at hi; omega, by rw [zipD_length, ← r.length, ← r'.length] at hi; omega⟩
theorem walks_zip3 {K : PySem.W.Frag} (hk : K = kf.K) {k1 k2 k3 : Bool} {F : Hp} {a b c : Addr} {xs ys zs : List V} {ds es fs : List D} (h : SqF k1 F a xs) (r : RpA F xs ds) (h' : SqF k2 F b ys) (r' : RpA F ys es) (h'' : SqF k3 F c zs) (r'' : RpA F zs fs) : Walks F (Itz3 k1 k2 k3 K a b c) (zipD3 ds es fs) where
  go := fun i H O s hi => by
    rw [zipD3_length, ← r.length, ← r'.length, ← r''.length] at hi
    exact ⟨xs, ys, zs, xs[i]'(by omega), ys[i]'(by omega), zs[i]'(by omega), h.sq s hk, List.getElem?_eq_getElem _, h'.sq s hk, List.getElem?_eq_getElem _, h''.sq s hk, List.getElem?_eq_getElem _⟩
  yld := fun i H O x H' d s t hd y => by
    obtain ⟨x', y', z', n, e3, e4, e5⟩ := y
    obtain ⟨d1, d2, d3, h1, h2, h3, h4⟩ := zipD3_get _ _ _ _ _ hd
    obtain ⟨v, h5, h6⟩ := r.get h1
    obtain ⟨u, h7, h8⟩ := r'.get h2
    obtain ⟨w, h9, h10⟩ := r''.get h3
    have q := e3 xs (h.sq s hk)
    have q' := e4 ys (h'.sq s hk)
    have q'' := e5 zs (h''.sq s hk)
    rw [h5] at q
    rw [h7] at q'
    rw [h9] at q''
    cases q
    cases q'
    cases q''
    subst h4
    exact new_tup t n (.cons (h6.mono s) (.cons (h8.mono s) (.cons (h10.mono s) .nil)))
  stop := fun i H O s hi => ⟨xs, ys, zs, h.sq s hk, by rw [zipD3_length, ← r.length, ← r'.length, ← r''.length] at hi; omega, h'.sq s hk, by rw [zipD3_length, ← r.length, ← r'.length, ← r''.length] at hi; omega, h''.sq s hk, by rw [zipD3_length, ← r.length, ← r'.length, ← r''.length] at hi; omega, by rw [zipD3_length, ← r.length, ← r'.length, ← r''.length] at hi; omega⟩
/-! ### the sources -/
def tSrc (mg : Str → Option Value) (W : WX) (sr : Sr) : TI := fun σ H R =>
  ∃ t S, S.H = H ∧ Rel t S σ ∧ (evalS sr S.en).post (fun p => ∀ J S', S'.en = p.2 → Rel t S' σ → Le S S' → Walks S'.F J p.1 → R J S'.H) (RW mg W t σ)
abbrev DS (X : Cx) (W : WX) (tg e : Expr) (sr : Sr) : Prop := PI X tg e (tSrc X.mg W sr)
omit [kf : KF] in
theorem _root_.L2.PI.imp {X : Cx} {tg e : Expr} {t t' : TI} (h : PI X tg e t) (i : ∀ σ H Q, t' σ H Q → t σ H Q) : PI X tg e t' := ⟨fun pins s σ H Q I q => h.run pins s σ H Q I (i σ H Q q)⟩
section
variable {X : Cx} {W : WX} {e ea eb ec tg : Expr} {es : List Expr} {ir ia ib ic : Ex} {is : Exs} {pos p : Pos} {k n : Nat} {x : Str}
theorem ds_seq (h : DF X W e ir) (hk : X.K = kf.K := by rfl) : DS X W tg e (.seq ir) := (pi_any h).imp fun σ H Q ⟨t, S, eH, R, h⟩ => by
  subst eH
  simp only [evalS, post_bind] at h
  refine ⟨t, S, rfl, R, ?_⟩
  unfold evF
  rw [post_bind]
  refine post_imp h fun p hp k1 v S1 e1 P1 => ?_
  have e1 : S1.en = p.2 := e1
  have hv : Rp S1.F v (toD p.1) := P1.val
  cases q : toD p.1 <;> rw [q] at k1 hv <;> (try exact k1.elim)
  · cases hv with
    | lst ha ra => exact ⟨_, rfl, .inl ⟨⟨_, .of (hid_le _ _ ha)⟩, k1 _ S1 e1 P1.rel P1.le (walks_list ha ra)⟩⟩
  · cases hv with
    | tup ha ra => exact ⟨_, rfl, .inr ⟨⟨_, (ha.mono hid_le).sq hk⟩, k1 _ S1 e1 P1.rel P1.le (walks_tup hk ha ra)⟩⟩
theorem ds_enum {elts : List Expr} {kk : Nat} {tpos : Pos} (hm : X.mg "enumerate" = none) (h : DF X W e ir) (hg : Gl X "enumerate" := by rfl) (hs : starEach [e] X.env = [(false, eval e X.env)] := by rfl) (hk : X.K = kf.K := by rfl) :
    DS X W (.Tuple elts kk tpos) (.Call (.Name "enumerate" p) [e] [] pos) (.enum ir) := (pi_enumA hg hm (pa_cons h pa_nil hs) hs).imp fun σ H Q ⟨t, S, eH, R, h⟩ => by
  subst eH
  simp only [evalS, post_bind] at h
  refine ⟨t, S, rfl, R, ?_⟩
  unfold evF
  rw [post_bind]
  refine post_imp h fun p hp k1 v S1 e1 P1 => ?_
  have e1 : S1.en = p.2 := e1
  have hv : Rp S1.F v (toD p.1) := P1.val
  cases q : toD p.1 <;> rw [q] at k1 hv <;> (try exact k1.elim)
  · cases hv with
    | lst ha ra => exact ⟨false, _, _, rfl, .of (hid_le _ _ ha), k1 _ S1 e1 P1.rel P1.le (walks_enum (k := false) hk ha ra)⟩
  · cases hv with
    | tup ha ra => exact ⟨true, _, _, rfl, (ha.mono hid_le).sq hk, k1 _ S1 e1 P1.rel P1.le (walks_enum (k := true) hk ha ra)⟩
theorem ds_rng1 (hm : X.mg "range" = none) (h : DB X W e ir) (hg : Gl X "range" := by rfl) (hs : starEach [e] X.env = [(false, eval e X.env)] := by rfl) : DS X W tg (.Call (.Name "range" p) [e] [] pos) (.rng1 ir) := (pi_range1 hg hm (pa_cons h pa_nil hs) hs).imp fun σ H Q ⟨t, S, eH, R, h⟩ => by
  subst eH
  simp only [evalS, post_bind] at h
  refine ⟨t, S, rfl, R, post_imp h fun p hp k1 v S1 e1 P1 => ?_⟩
  obtain ⟨d, en⟩ := p
  have hv := P1.val
  cases d <;> (try exact k1.elim)
  rename_i i
  simp only at k1
  split at k1
  · rename_i hz
    exact ⟨i, by rw [hv.int], hz.1, hz.2, k1 _ S1 e1 P1.rel P1.le walks_rng⟩
  · exact k1.elim
theorem ds_rng2 (hm : X.mg "range" = none) (ha : DB X W ea ia) (hb : DB X W eb ib) (hg : Gl X "range" := by rfl) (hs : starEach [ea, eb] X.env = [(false, eval ea X.env), (false, eval eb X.env)] := by rfl) (hs2 : starEach [eb] X.env = [(false, eval eb X.env)] := by rfl) : DS X W tg (.Call (.Name "range" p) [ea, eb] [] pos) (.rng2 ia ib) := by
  refine (pi_range2 hg hm (pa_cons ha (pa_cons hb pa_nil hs2) (by rw [hs, hs2])) hs hs2).imp fun σ H Q ⟨t, S, eH, R, h⟩ => ?_
  subst eH
  simp only [evalS, post_bind] at h
  refine ⟨t, S, rfl, R, post_imp h fun p hp k1 v S1 e1 P1 => ⟨t, S1, rfl, P1.rel, ?_⟩⟩
  rw [show S1.en = p.2 from e1]
  refine post_imp k1 fun q hq k2 u S2 e2 P2 => ?_
  obtain ⟨d, en⟩ := p
  obtain ⟨d', en'⟩ := q
  have hv := P1.val
  have hu := P2.val
  cases d <;> (try exact k2.elim)
  cases d' <;> (try exact k2.elim)
  rename_i i j
  simp only at k2
  split at k2
  · rename_i hz
    exact ⟨i, j, by rw [hv.int, hu.int], ⟨hz.1.1, hz.1.2, hz.2.1, hz.2.2⟩, k2 _ S2 e2 P2.rel (P1.le.trans P2.le) walks_rng⟩
  · exact k2.elim
theorem seq_of {F : Hp} {v : V} {d : D} {xs : List D} (h : Rp F v d) (e : itemsD d = some xs) : ∃ k a us, v = .ref a ∧ SqF k F a us ∧ RpA F us xs := by
  cases h with
  | lst ha ra =>
    have q := Option.some.inj e
    subst q
    exact ⟨false, _, _, rfl, ha, ra⟩
  | tup ha ra =>
    have q := Option.some.inj e
    subst q
    exact ⟨true, _, _, rfl, ha, ra⟩
  | _ => cases e
theorem SqF.mono {k : Bool} {F F' : Hp} {a : Addr} {xs : List V} (h : SqF k F a xs) (s : Same F F') : SqF k F' a xs := by
  cases k
  · exact s _ _ h
  · exact TupAt.mono s h
theorem SqF.at {k : Bool} {S : Sn} {a : Addr} {xs : List V} {K : PySem.W.Frag} (h : SqF k S.F a xs) (hk : K = kf.K) : SqK k K S.H a xs := h.sq (Same.refl _) hk
theorem ds_zip {elts : List Expr} {kk : Nat} {tpos : Pos} (hm : X.mg "zip" = none) (ha : DF X W ea ia) (hb : DF X W eb ib) (hg : Gl X "zip" := by rfl) (hs : starEach [ea, eb] X.env = (false, eval ea X.env) :: starEach [eb] X.env := by rfl) (hs2 : starEach [eb] X.env = (false, eval eb X.env) :: starEach [] X.env := by rfl)
    (hpl : (backTo pos (starEach [eb] X.env)).any (·.1) = false := by rfl) (hk : X.K = kf.K := by rfl) :
    DS X W (.Tuple elts kk tpos) (.Call (.Name "zip" p) [ea, eb] [] pos) (.zip ia ib) := (pi_zip2 hg hm (pa_cons ha (pa_cons hb pa_nil hs2) hs) hs hpl).imp fun σ H Q ⟨t, S, eH, R, h⟩ => by
  subst eH
  simp only [evalS, post_bind] at h
  refine ⟨t, S, rfl, R, ?_⟩
  unfold evF
  rw [post_bind]
  refine post_imp h fun p hp k1 v S1 e1 P1 => ⟨t, S1, rfl, P1.rel, ?_⟩
  rw [show S1.en = p.2 from e1]
  unfold evF
  rw [post_bind]
  refine post_imp k1 fun q hq k2 u S2 e2 P2 => ?_
  have e2 : S2.en = q.2 := e2
  have hv : Rp S2.F v (toD p.1) := P1.val.mono P2.le.le
  have hu : Rp S2.F u (toD q.1) := P2.val
  cases x1 : itemsD (toD p.1) with
  | none => rw [x1] at k2; exact k2.elim
  | some xs =>
    cases x2 : itemsD (toD q.1) with
    | none => rw [x1, x2] at k2; exact k2.elim
    | some ys =>
      rw [x1, x2] at k2
      obtain ⟨c1, a1, us, r1, h1, h2⟩ := seq_of hv x1
      obtain ⟨c2, a2, ws, r2, h3, h4⟩ := seq_of hu x2
      subst r1 r2
      exact ⟨c1, c2, a1, a2, us, ws, rfl, h1.at hk, h3.at hk, k2 _ S2 e2 P2.rel (P1.le.trans P2.le) (walks_zip hk h1 h2 h3 h4)⟩
theorem ds_zip3 {elts : List Expr} {kk : Nat} {tpos : Pos} (hm : X.mg "zip" = none) (ha : DF X W ea ia) (hb : DF X W eb ib) (hc : DF X W ec ic) (hg : Gl X "zip" := by rfl) (hs : starEach [ea, eb, ec] X.env = (false, eval ea X.env) :: starEach [eb, ec] X.env := by rfl) (hs2 : starEach [eb, ec] X.env = (false, eval eb X.env) :: starEach [ec] X.env := by rfl) (hs3 : starEach [ec] X.env = (false, eval ec X.env) :: starEach [] X.env := by rfl)
    (hpl : (backTo pos (starEach [eb, ec] X.env)).any (·.1) = false := by rfl) (hk : X.K = kf.K := by rfl) :
    DS X W (.Tuple elts kk tpos) (.Call (.Name "zip" p) [ea, eb, ec] [] pos) (.zip3 ia ib ic) := (pi_zip3 hg hm (pa_cons ha (pa_cons hb (pa_cons hc pa_nil hs3) hs2) hs) hs hpl).imp fun σ H Q ⟨t, S, eH, R, h⟩ => by
  subst eH
  simp only [evalS, post_bind] at h
  refine ⟨t, S, rfl, R, ?_⟩
  unfold evF
  rw [post_bind]
  refine post_imp h fun p hp k1 v S1 e1 P1 => ⟨t, S1, rfl, P1.rel, ?_⟩
  rw [show S1.en = p.2 from e1]
  unfold evF
  rw [post_bind]
  refine post_imp k1 fun q hq k2 u S2 e2 P2 => ⟨t, S2, rfl, P2.rel, ?_⟩
  rw [show S2.en = q.2 from e2]
  unfold evF
  rw [post_bind]
  refine post_imp k2 fun r hr k3 z S3 e3 P3 => ?_
  have e3 : S3.en = r.2 := e3
  have hv : Rp S3.F v (toD p.1) := P1.val.mono (P2.le.trans P3.le).le
  have hu : Rp S3.F u (toD q.1) := P2.val.mono P3.le.le
  have hz : Rp S3.F z (toD r.1) := P3.val
  cases x1 : itemsD (toD p.1) with
  | none => rw [x1] at k3; exact k3.elim
  | some xs =>
    cases x2 : itemsD (toD q.1) with
    | none => rw [x1, x2] at k3; exact k3.elim
    | some ys =>
      cases x3 : itemsD (toD r.1) with
      | none => rw [x1, x2, x3] at k3; exact k3.elim
      | some zs =>
        rw [x1, x2, x3] at k3
        obtain ⟨c1, a1, us, r1, h1, h2⟩ := seq_of hv x1
        obtain ⟨c2, a2, ws, r2, h3, h4⟩ := seq_of hu x2
        obtain ⟨c3, a3, ts, r3, h5, h6⟩ := seq_of hz x3
        subst r1 r2 r3
        exact ⟨c1, c2, c3, a1, a2, a3, us, ws, ts, rfl, h1.at hk, h3.at hk, h5.at hk, k3 _ S3 e3 P3.rel (P1.le.trans (P2.le.trans P3.le)) (walks_zip3 hk h1 h2 h3 h4 h5 h6)⟩
end
end VS

/-! Targets, comprehensions. -/
namespace VS
open PySem PySem.Spec PyProof.Rows L2
variable [kf : KF]
omit [kf : KF] in
theorem set_get {σ : L2.St} {i j : Nat} {x : Option V} : (σ.set i x)[j]? = if i = j ∧ j < σ.length then some x else σ[j]? := by
  rw [List.getElem?_set]
  by_cases e : i = j
  · subst e
    by_cases l : i < σ.length
    · simp [l]
    · simp [l]
  · simp [e]
/-- a name gets data -/
theorem Rel.setFr {t : Ent} {S : Sn} {σ : L2.St} (R : Rel t S σ) {v : V} {d : D} (h : Rp S.F v d) (i : Nat) :
    Rel t { S with en := S.en.set i (some (.fr d)) } (σ.set i (some v)) ∧ Le S { S with en := S.en.set i (some (.fr d)) } := by
  have get : ∀ j x, (S.en.set i (some (Sl.fr d)))[j]? = some (some x) → (i = j ∧ x = .fr d) ∨ (i ≠ j ∧ S.en[j]? = some (some x)) := by
    intro j x e
    rw [List.getElem?_set] at e
    split at e
    · rename_i q
      split at e
      · exact .inl ⟨q, by simpa using e.symm⟩
      · cases e
    · rename_i q
      exact .inr ⟨q, e⟩
  have getV : ∀ j, i ≠ j → (σ.set i (some v))[j]? = σ[j]? := fun j q => by rw [List.getElem?_set]; simp [q]
  have oldL : ∀ j, isL (S.en.set i (some (Sl.fr d))) j → i ≠ j ∧ isL S.en j := by
    rintro j ⟨es, e | e⟩
    · rcases get _ _ e with ⟨_, q⟩ | ⟨q, e⟩
      · cases q
      · exact ⟨q, es, .inl e⟩
    · rcases get _ _ e with ⟨_, q⟩ | ⟨q, e⟩
      · cases q
      · exact ⟨q, es, .inr e⟩
  refine ⟨⟨?_, R.keep, R.sup, R.subM, R.new, R.trk, fun j d' e => ?_, fun j es e => ?_, fun j es e => ?_, fun j es e => ?_, fun j l hj hl z => R.inj j l (oldL j hj).2 (oldL l hl).2 z⟩, ⟨Same.refl _, fun _ h => h, fun j hj => ⟨(oldL j hj).2, rfl⟩, fun a h n => ⟨h, rfl⟩⟩⟩
  · show (S.en.set i _).length = (σ.set i _).length
    rw [List.length_set, List.length_set]; exact R.len
  · have e : (S.en.set i (some (Sl.fr d)))[j]? = some (some (Sl.fr d')) := e
    have lt := lt_of_some e
    rcases get _ _ e with ⟨q, e'⟩ | ⟨q, e'⟩
    · subst q
      cases e'
      rw [List.length_set, R.len] at lt
      exact ⟨v, by rw [List.getElem?_set]; simp [lt], h⟩
    · obtain ⟨u, a, b⟩ := R.fr j d' e'
      exact ⟨u, by rw [getV j q]; exact a, b⟩
  · have q : i ≠ j ∧ (S.en[j]? = some (some (Sl.own es)) ∨ S.en[j]? = some (some (Sl.mb es))) := by
      rcases e with e | e
      · rcases get _ _ e with ⟨_, q⟩ | ⟨q, e⟩
        · cases q
        · exact ⟨q, .inl e⟩
      · rcases get _ _ e with ⟨_, q⟩ | ⟨q, e⟩
        · cases q
        · exact ⟨q, .inr e⟩
    obtain ⟨a, b, ys, c1, d1⟩ := R.li j es q.2
    exact ⟨by rw [getV j q.1]; exact a, b, ys, c1, d1⟩
  · rcases get _ _ e with ⟨_, q⟩ | ⟨q, e⟩
    · cases q
    · exact R.ow j es e
  · rcases get _ _ e with ⟨_, q⟩ | ⟨q, e⟩
    · cases q
    · exact R.mb j es e
/-- a name is forgotten -/
theorem Rel.clr {t : Ent} {S : Sn} {σ : L2.St} (R : Rel t S σ) (i : Nat) :
    Rel t { S with en := S.en.set i none } (σ.set i none) ∧ Le S { S with en := S.en.set i none } := by
  have get : ∀ j x, (S.en.set i none)[j]? = some (some x) → i ≠ j ∧ S.en[j]? = some (some x) := by
    intro j x e
    rw [List.getElem?_set] at e
    split at e
    · split at e <;> cases e
    · rename_i q
      exact ⟨q, e⟩
  have getV : ∀ j, i ≠ j → (σ.set i none)[j]? = σ[j]? := fun j q => by rw [List.getElem?_set]; simp [q]
  have oldL : ∀ j, isL (S.en.set i none) j → i ≠ j ∧ isL S.en j := by
    rintro j ⟨es, e | e⟩
    · exact ⟨(get _ _ e).1, es, .inl (get _ _ e).2⟩
    · exact ⟨(get _ _ e).1, es, .inr (get _ _ e).2⟩
  refine ⟨⟨?_, R.keep, R.sup, R.subM, R.new, R.trk, fun j d' e => ?_, fun j es e => ?_, fun j es e => R.ow j es (get _ _ e).2, fun j es e => R.mb j es (get _ _ e).2, fun j l hj hl z => R.inj j l (oldL j hj).2 (oldL l hl).2 z⟩, ⟨Same.refl _, fun _ h => h, fun j hj => ⟨(oldL j hj).2, rfl⟩, fun a h n => ⟨h, rfl⟩⟩⟩
  · show (S.en.set i _).length = (σ.set i _).length
    rw [List.length_set, List.length_set]; exact R.len
  · obtain ⟨q, e⟩ := get _ _ e
    obtain ⟨u, a, b⟩ := R.fr j d' e
    exact ⟨u, by rw [getV j q]; exact a, b⟩
  · have q : i ≠ j ∧ (S.en[j]? = some (some (Sl.own es)) ∨ S.en[j]? = some (some (Sl.mb es))) := by
      rcases e with e | e
      · exact ⟨(get _ _ e).1, .inl (get _ _ e).2⟩
      · exact ⟨(get _ _ e).1, .inr (get _ _ e).2⟩
    obtain ⟨a, b, ys, c1, d1⟩ := R.li j es q.2
    exact ⟨by rw [getV j q.1]; exact a, b, ys, c1, d1⟩
theorem Rel.wipe {t : Ent} {S : Sn} {σ : L2.St} (R : Rel t S σ) : ∀ vs : List Nat, Rel t { S with en := wipeE S.en vs } (L2.wipe σ vs) ∧ Le S { S with en := wipeE S.en vs }
  | [] => ⟨R, Le.refl _⟩
  | i :: vs => by
    obtain ⟨R1, l1⟩ := Rel.wipe R vs
    obtain ⟨R2, l2⟩ := R1.clr i
    exact ⟨R2, l1.trans l2⟩
omit [kf : KF] in
theorem wipe_mem {σ : L2.St} {x : Option V} : ∀ {vs : List Nat} {i : Nat}, i ∈ vs → L2.wipe (σ.set i x) vs = L2.wipe σ vs := by
  intro vs i h
  apply List.ext_getElem?
  intro j
  induction vs with
  | nil => cases h
  | cons a vs ih =>
    show ((L2.wipe (σ.set i x) vs).set a none)[j]? = ((L2.wipe σ vs).set a none)[j]?
    rw [List.getElem?_set, List.getElem?_set]
    have hl : (L2.wipe (σ.set i x) vs).length = (L2.wipe σ vs).length := by rw [wipe_length, wipe_length, List.length_set]
    by_cases e : a = j
    · subst e
      rw [hl, if_pos rfl, if_pos rfl]
    · rw [if_neg e, if_neg e]
      rcases List.mem_cons.mp h with h | h
      · subst h
        clear ih h
        induction vs with
        | nil => show (σ.set i x)[j]? = σ[j]?; rw [List.getElem?_set]; simp [e]
        | cons b vs ih' =>
          show ((L2.wipe (σ.set i x) vs).set b none)[j]? = ((L2.wipe σ vs).set b none)[j]?
          have hl' : (L2.wipe (σ.set i x) vs).length = (L2.wipe σ vs).length := by rw [wipe_length, wipe_length, List.length_set]
          rw [List.getElem?_set, List.getElem?_set, hl', ih' hl']
      · exact ih h
omit [kf : KF] in
theorem wipe_idem {σ : L2.St} : ∀ {vs ws : List Nat}, (∀ i ∈ vs, i ∈ ws) → L2.wipe (L2.wipe σ vs) ws = L2.wipe σ ws
  | [], ws, _ => rfl
  | i :: vs, ws, h => by
    show L2.wipe ((L2.wipe σ vs).set i none) ws = _
    rw [wipe_mem (h i (List.mem_cons_self ..))]
    exact wipe_idem fun j hj => h j (List.mem_cons_of_mem _ hj)
/-! ### targets -/
def Tg.ix : Tg → List Nat
  | .one i => [i]
  | .tup is => is
def GOk (tg : Tg) (g : TG) : Prop := ∀ t S σ v d en' Q, Rel t S σ → Rp S.F v d → bindT tg d S.en = .ok en' →
  (∀ σ', Rel t { S with en := en' } σ' → Le S { S with en := en' } → (∀ vs, (∀ i ∈ tg.ix, i ∈ vs) → L2.wipe σ' vs = L2.wipe σ vs) → Q σ' S.H) → g v σ S.H Q
theorem gok_one (i : Nat) : GOk (.one i) (gName i) := fun t S σ v d en' Q R h e k => by
  have e := Ou.ok.inj e
  subst e
  obtain ⟨R', l⟩ := R.setFr h i
  exact k _ R' l fun vs hv => wipe_mem (hv i (List.mem_singleton.mpr rfl))
def gNs : List Nat → TGs
  | [] => gNil
  | i :: is => gCons (gName i) (gNs is)
theorem gok_tup {K : PySem.W.Frag} {n : Nat} (is : List Nat) (hn : is.length = n := by rfl) (hk : K = kf.K := by rfl) : GOk (.tup is) (gTup K n (gNs is)) := fun t S σ v d en' Q R h e k => by
  subst hn
  unfold bindT at e
  simp only at e
  cases d <;> simp only [reduceCtorEq] at e
  rename_i ds
  split at e
  · rename_i hl
    have e := Ou.ok.inj e
    subst e
    cases h with
    | tup ha ra =>
      rename_i a xs
      refine ⟨a, xs, rfl, (ha.mono hid_le).sq hk, by rw [ra.length]; exact hl, ?_⟩
      have main : ∀ (js : List Nat) (xs : List V) (ds : List D) (S0 : Sn) (σ0 : L2.St), S0.H = S.H → S0.O = S.O → S0.ad = S.ad → RpA S.F xs ds → ds.length = js.length → Rel t S0 σ0 → Le S S0 →
          (∀ σ', Rel t { S with en := (js.zip ds).foldl (fun e p => e.set p.1 (some (.fr p.2))) S0.en } σ' → Le S { S with en := (js.zip ds).foldl (fun e p => e.set p.1 (some (.fr p.2))) S0.en } → (∀ vs, (∀ i ∈ js, i ∈ vs) → L2.wipe σ' vs = L2.wipe σ0 vs) → Q σ' S.H) → gNs js xs σ0 S.H Q := by
        intro js
        induction js with
        | nil =>
          intro xs ds S0 σ0 e1 e2 e3 r hl R0 l0 k0
          have hd : ds = [] := List.length_eq_zero_iff.mp hl
          subst hd
          cases r
          refine ⟨rfl, k0 σ0 ?_ ?_ fun _ _ => rfl⟩
          · cases S0; cases e1; cases e2; cases e3; exact R0
          · cases S0; cases e1; cases e2; cases e3; exact l0
        | cons j js ih =>
          intro xs ds S0 σ0 e1 e2 e3 r hl R0 l0 k0
          cases r with
          | nil => cases hl
          | cons h1 r1 =>
            rename_i v vs d ds
            refine ⟨v, vs, rfl, ?_⟩
            have h1' : Rp S0.F v d := by
              have : S0.F = S.F := by unfold Sn.F; rw [e1, e2]
              rw [this]; exact h1
            obtain ⟨R1, l1⟩ := R0.setFr h1' j
            refine ih vs ds { S0 with en := S0.en.set j (some (.fr d)) } (σ0.set j (some v)) e1 e2 e3 r1 (by simpa using hl) R1 (l0.trans l1) fun σ' R' l' w' => ?_
            refine k0 σ' R' l' fun ws hw => ?_
            rw [w' ws fun i hi => hw i (List.mem_cons_of_mem _ hi)]
            exact wipe_mem (hw j (List.mem_cons_self ..))
      exact main is xs ds S σ rfl rfl rfl ra hl R (Le.refl _) k
  · cases e
/-! ### comprehensions -/
abbrev W0 : WX := fun _ _ _ _ => False
def tCond (mg : Str → Option Value) (io : Exo) : TT := fun σ H Q =>
  ∃ t S, S.H = H ∧ Rel t S σ ∧ (evalC io S.en).post (fun p => ∀ S', S'.en = p.2 → Rel t S' σ → Le S S' → Q p.1 S'.H) (RW mg W0 t σ)
abbrev DC (X : Cx) (ifs : List Expr) (io : Exo) : Prop := PTs X ifs (tCond X.mg io)
omit [kf : KF] in
theorem _root_.L2.PTs.imp {X : Cx} {ifs : List Expr} {t t' : TT} (h : PTs X ifs t) (i : ∀ σ H Q, t' σ H Q → t σ H Q) : PTs X ifs t' := ⟨fun pins s σ H Q I q => h.run pins s σ H Q I (i σ H Q q)⟩
theorem dc_none {X : Cx} : DC X [] .none := pts_nil.imp fun σ H Q ⟨t, S, eH, R, h⟩ => by
  subst eH
  exact h S rfl R (Le.refl _)
theorem dc_some {X : Cx} {e : Expr} {ic : Ex} (h : DT X W0 e ic) : DC X [e] (.some ic) := (pts_one h).imp fun σ H Q ⟨t, S, eH, R, h⟩ => by
  subst eH
  simp only [evalC, post_bind] at h
  refine ⟨t, S, rfl, R, post_imp h fun p hp k => ?_⟩
  obtain ⟨d, en⟩ := p
  cases d <;> (try exact k.elim)
  exact ⟨_, rfl, fun S' e1 R1 l1 => k S' e1 R1 l1⟩
omit [kf : KF] in
theorem post_ok {α : Type} {x : Ou α} {a : α} {P : α → Prop} {E : Exn → Prop} (e : x = .ok a) (h : P a) : x.post P E := by rw [e]; exact h
omit [kf : KF] in
theorem bind_ok {α β : Type} {x : Ou α} {f : α → Ou β} {b : β} (h : (x >>= f) = .ok b) : ∃ a, x = .ok a ∧ f a = .ok b := by
  cases x with
  | ok a => exact ⟨a, rfl, h⟩
  | ex e => cases h
  | no => cases h
omit [kf : KF] in
theorem wipeE_get {en : En} : ∀ {vs : List Nat} {j : Nat}, j ∉ vs → (wipeE en vs)[j]? = en[j]?
  | [], _, _ => rfl
  | i :: vs, j, h => by
    show ((wipeE en vs).set i none)[j]? = _
    rw [List.getElem?_set, if_neg (show ¬ i = j from fun e => h (by rw [e]; exact List.mem_cons_self ..))]
    exact wipeE_get fun q => h (List.mem_cons_of_mem _ q)
omit [kf : KF] in
theorem wipeE_len {en : En} : ∀ {vs : List Nat}, (wipeE en vs).length = en.length
  | [] => rfl
  | i :: vs => by
    show ((wipeE en vs).set i none).length = _
    rw [List.length_set]
    exact wipeE_len
omit [kf : KF] in
theorem wipeE_in {en : En} : ∀ {vs : List Nat} {j : Nat} {x : Sl}, j ∈ vs → (wipeE en vs)[j]? ≠ some (some x)
  | [], _, _, h => by cases h
  | i :: vs, j, x, h => by
    show ((wipeE en vs).set i none)[j]? ≠ _
    rw [List.getElem?_set]
    split
    · split <;> simp
    · rename_i q
      rcases List.mem_cons.mp h with h | h
      · exact absurd h.symm q
      · exact wipeE_in h
omit [kf : KF] in
theorem wipeE_idem {en : En} {vs : List Nat} : wipeE (wipeE en vs) vs = wipeE en vs := by
  apply List.ext_getElem?
  intro j
  by_cases h : j ∈ vs
  · have len : ∀ e : En, (wipeE e vs).length = e.length := fun e => wipeE_len
    by_cases l : j < en.length
    · have a : (wipeE (wipeE en vs) vs)[j]? = some none := by
        cases q : (wipeE (wipeE en vs) vs)[j]? with
        | none => rw [List.getElem?_eq_none_iff, len, len] at q; omega
        | some x => cases x with
          | none => rfl
          | some x => exact absurd q (wipeE_in h)
      have b : (wipeE en vs)[j]? = some none := by
        cases q : (wipeE en vs)[j]? with
        | none => rw [List.getElem?_eq_none_iff, len] at q; omega
        | some x => cases x with
          | none => rfl
          | some x => exact absurd q (wipeE_in h)
      rw [a, b]
    · rw [List.getElem?_eq_none (by rw [len, len]; omega), List.getElem?_eq_none (by rw [len]; omega)]
  · rw [wipeE_get h]
omit [kf : KF] in
theorem backE_get {en e' : En} : ∀ {vs : List Nat} {j : Nat}, j ∉ vs → (backE en e' vs)[j]? = e'[j]?
  | [], _, _ => rfl
  | i :: vs, j, h => by
    show ((backE en e' vs).set i _)[j]? = _
    rw [List.getElem?_set, if_neg (show ¬ i = j from fun e => h (by rw [e]; exact List.mem_cons_self ..))]
    exact backE_get fun q => h (List.mem_cons_of_mem _ q)
omit [kf : KF] in
theorem backE_len {en e' : En} : ∀ {vs : List Nat}, (backE en e' vs).length = e'.length
  | [] => rfl
  | i :: vs => by
    show ((backE en e' vs).set i _).length = _
    rw [List.length_set]
    exact backE_len
omit [kf : KF] in
theorem backE_in {en e' : En} (hl : e'.length = en.length) : ∀ {vs : List Nat} {j : Nat}, j ∈ vs → (backE en e' vs)[j]? = en[j]?
  | [], _, h => by cases h
  | i :: vs, j, h => by
    show ((backE en e' vs).set i _)[j]? = _
    rw [List.getElem?_set]
    split
    · rename_i q
      subst q
      rw [backE_len, hl]
      split
      · rename_i l
        rw [List.getElem?_eq_getElem l]
        rfl
      · rename_i l
        rw [List.getElem?_eq_none (by omega)]
    · rename_i q
      rcases List.mem_cons.mp h with h | h
      · exact absurd h.symm q
      · exact backE_in hl h
end VS

/-! Comprehensions. -/
namespace VS
open PySem PySem.Spec PyProof.Rows L2
variable [kf : KF]
/-- as Le, but for the list at D that is being filled -/
structure LeD (D : Addr) (S S' : Sn) : Prop where
  le : Same S.F S'.F
  per : ∀ a, S.H a ≠ none → S'.H a ≠ none
  sl : ∀ i, isL S'.en i → isL S.en i ∧ S'.ad i = S.ad i
  tmp : ∀ a ∈ S.O, a ≠ D → (∀ i, isL S.en i → S.ad i ≠ a) → a ∈ S'.O ∧ S'.H a = S.H a
omit [kf : KF] in
theorem LeD.refl (D : Addr) (S : Sn) : LeD D S S := ⟨Same.refl _, fun _ h => h, fun _ h => ⟨h, rfl⟩, fun a h _ n => ⟨h, rfl⟩⟩
omit [kf : KF] in
theorem LeD.trans {D : Addr} {A B C : Sn} (x : LeD D A B) (y : LeD D B C) : LeD D A C := ⟨x.le.trans y.le, fun a h => y.per a (x.per a h), fun i h => ⟨(x.sl i (y.sl i h).1).1, (y.sl i h).2.trans (x.sl i (y.sl i h).1).2⟩, fun a h nd n => by
  obtain ⟨h1, e1⟩ := x.tmp a h nd n
  obtain ⟨h2, e2⟩ := y.tmp a h1 nd fun i hi e => n i (x.sl i hi).1 ((x.sl i hi).2.symm.trans e)
  exact ⟨h2, e2.trans e1⟩⟩
omit [kf : KF] in
theorem Le.d {S S' : Sn} (x : Le S S') (D : Addr) : LeD D S S' := ⟨x.le, x.per, x.sl, fun a h _ n => x.tmp a h n⟩
/-- the list at D, hidden, no slot's, is rewritten -/
theorem Rel.poke {t : Ent} {S : Sn} {σ : L2.St} (R : Rel t S σ) {D : Addr} {xs : List V} (hD : D ∈ S.O) (h0 : t.H0 D = none) (hn : ∀ i, isL S.en i → S.ad i ≠ D) :
    Rel t { S with H := upd S.H D (.lst xs) } σ ∧ LeD D S { S with H := upd S.H D (.lst xs) } := by
  have F : hid (upd S.H D (.lst xs)) S.O = S.F := hid_upd hD
  have per : ∀ a, S.H a ≠ none → upd S.H D (.lst xs) a ≠ none := fun a h => by
    by_cases e : a = D
    · subst e; rw [upd_same]; simp
    · rw [upd_ne e]; exact h
  refine ⟨⟨R.len, fun b o h m => ?_, R.sup, R.subM, R.new, fun a h => per a (R.trk a h), fun i d e => ?_, fun i ds e => ?_, R.ow, R.mb, R.inj⟩, ⟨?_, per, fun i h => ⟨h, rfl⟩, fun a h nd n => ⟨h, upd_ne nd⟩⟩⟩
  · show upd S.H D (.lst xs) b = some o
    rw [upd_ne (ne_of_none h h0)]
    exact R.keep b o h m
  · obtain ⟨v, h1, h2⟩ := R.fr i d e
    refine ⟨v, h1, ?_⟩
    show Rp (hid (upd S.H D (.lst xs)) S.O) v d
    rw [F]
    exact h2
  · obtain ⟨h1, h2, ys, h3, h4⟩ := R.li i ds e
    refine ⟨h1, h2, ys, ?_, ?_⟩
    · show upd S.H D (.lst xs) (S.ad i) = _
      rw [upd_ne (hn i ⟨ds, e⟩)]
      exact h3
    · show RpA (hid (upd S.H D (.lst xs)) S.O) ys ds
      rw [F]
      exact h4
  · show Same S.F (hid (upd S.H D (.lst xs)) S.O)
    rw [F]
    exact Same.refl _
omit [kf : KF] in
theorem bindT_len : ∀ {tg : Tg} {d : D} {en e1 : En}, bindT tg d en = .ok e1 → e1.length = en.length := by
  intro tg d en e1 h
  cases tg with
  | one i =>
    have e := Ou.ok.inj h
    subst e
    exact List.length_set ..
  | tup is =>
    unfold bindT at h
    simp only at h
    cases d <;> simp only [reduceCtorEq] at h
    split at h
    · have e := Ou.ok.inj h
      subst e
      rename_i ds _
      generalize is.zip ds = l
      clear h
      induction l generalizing en with
      | nil => rfl
      | cons p l ih =>
        simp only [List.foldl_cons]
        rw [ih]
        exact List.length_set ..
    · cases h
theorem lc_post {mg : Str → Option Value} {W : WX} {src : Sr} {cond : Exo} {elt : Ex} {tg : Tg} {vs : List Nat} {g : TG} {σ : L2.St} {H : Hp} {Q : VK} (gok : GOk tg g) (hix : ∀ i ∈ tg.ix, i ∈ vs)
    (h : tEE mg W (.lc elt tg src cond vs) σ H Q) : tLc (tSrc mg W src) g (tCond mg cond) (tEF mg W0 elt) vs σ H Q := by
  obtain ⟨t, S, eH, R, h⟩ := h
  subst eH
  simp only [evalE, post_bind] at h
  refine ⟨t, S, rfl, R, post_imp h fun p hp k J S1 e1 R1 l1 wk => ?_⟩
  obtain ⟨items, en1⟩ := p
  have e1 : S1.en = en1 := e1
  subst e1
  have wk : Walks S1.F J items := wk
  simp only at k
  split at k
  case isFalse => exact k.elim
  rename_i hsz
  rw [post_bind] at k
  obtain ⟨⟨xs, e2⟩, hgo, k2⟩ := strict_ok k
  have k2 : ∀ v S', S'.en = backE S1.en e2 vs → EPost t S S' σ v (.own xs) → Q v S'.H := k2
  intro D hD
  obtain ⟨nD, nD0, hD0⟩ := R1.fresh hD
  -- the state at the start of the loop
  have P0 : EPost t S1 { S1 with H := upd S1.H D (.lst []), O := D :: S1.O } σ (.ref D) (.own []) := R1.newL hD .nil
  obtain ⟨Rw, lw⟩ := P0.rel.wipe vs
  have le0 : LeD D S1 { S1 with H := upd S1.H D (.lst []), O := D :: S1.O, en := wipeE S1.en vs } := (P0.le.trans lw).d D
  obtain ⟨pD, xD, eD, hDO, _, _, hDx, _, hDn⟩ := P0.val
  -- the invariant
  obtain ⟨Sd, hSd⟩ : ∃ Sd : Sn, Sd = { S1 with H := upd S1.H D (.lst []), O := D :: S1.O, en := wipeE S1.en vs } := ⟨_, rfl⟩
  rw [← hSd] at Rw le0
  have SdH : Sd.H = upd S1.H D (.lst []) := by rw [hSd]
  have SdO : Sd.O = D :: S1.O := by rw [hSd]
  have SdE : Sd.en = wipeE S1.en vs := by rw [hSd]
  have SdA : Sd.ad = S1.ad := by rw [hSd]
  let I : Nat → Hp → Prop := fun i H => ∃ (Sc : Sn) (acc : List PyData) (av : List V) (en : En), Sc.H = H ∧ Rel t Sc (L2.wipe σ vs) ∧ LeD D Sd Sc ∧ D ∈ Sc.O ∧ Sc.H D = some (.lst av) ∧ RpA Sc.F av acc ∧
    (∀ j, isL Sc.en j → Sc.ad j ≠ D) ∧ acc.length ≤ i ∧ Sc.en = wipeE en vs ∧ en.length = S1.en.length ∧ i ≤ items.length ∧
    lcGo (fun e => do let (r, e') ← evalE elt e; .ok (toD r, e')) (evalC cond) tg vs (items.drop i) en acc = .ok (xs, e2)
  refine ⟨fun i m H => I i H ∧ m = items.length - i, ⟨items.length, ⟨?_, by omega⟩⟩, ?_⟩
  · refine ⟨Sd, [], [], S1.en, SdH, Rw, LeD.refl _ _, by rw [SdO]; exact List.mem_cons_self .., by rw [SdH]; exact upd_same, .nil, ?_, Nat.le_refl _, SdE, rfl, Nat.zero_le _, ?_⟩
    · intro j hj e
      obtain ⟨es, hj'⟩ := (le0.sl j hj).1
      have := (R1.li j es hj').2.1
      rw [SdA] at e
      exact nD (e ▸ this)
    · rw [List.drop_zero]; exact hgo
  rintro i m H ⟨⟨Sc, acc, av, en, eH, Rc, lcd, hDc, hDv, ra, hns, hal, een, hlen, hi, hgo'⟩, em⟩
  subst eH
  have lc : LeD D S1 Sc := le0.trans lcd
  have sF : Same S1.F (hid Sc.H Sc.O) := lc.le
  by_cases hlast : i = items.length
  · -- the end
    refine .inl ⟨wk.stop i Sc.H Sc.O sF hlast.symm, ?_⟩
    subst hlast
    rw [List.drop_length] at hgo'
    simp only [lcGo, Ou.ok.injEq, Prod.mk.injEq] at hgo'
    obtain ⟨e3, e4⟩ := hgo'
    subst e3 e4
    have getN : ∀ j, j ∉ vs → (backE S1.en en vs)[j]? = Sc.en[j]? := fun j h => by rw [backE_get h, een, wipeE_get h]
    have getI : ∀ j, j ∈ vs → (backE S1.en en vs)[j]? = S1.en[j]? := fun j h => backE_in hlen h
    have up : ∀ j v, (L2.wipe σ vs)[j]? = some (some v) → σ[j]? = some (some v) := fun j v h => (wipe_some h).1
    have isLf : ∀ j, isL (backE S1.en en vs) j → isL S1.en j := by
      rintro j ⟨es, e⟩
      by_cases hj : j ∈ vs
      · rw [getI j hj] at e; exact ⟨es, e⟩
      · rw [getN j hj] at e; exact (lc.sl j ⟨es, e⟩).1
    have adf : ∀ j, isL Sc.en j → Sc.ad j = S1.ad j := fun j h => (lc.sl j h).2
    have liI : ∀ j es, j ∈ vs → (S1.en[j]? = some (some (Sl.own es)) ∨ S1.en[j]? = some (some (Sl.mb es))) → S1.ad j ∈ Sc.O ∧ Sc.H (S1.ad j) = S1.H (S1.ad j) := by
      intro j es hj e
      have h1 := R1.li j es e
      have nd : S1.ad j ≠ D := fun q => nD (q ▸ h1.2.1)
      have := lcd.tmp (S1.ad j) (by rw [SdO]; exact List.mem_cons_of_mem _ h1.2.1) nd (by
        rw [SdE, SdA]
        rintro l ⟨fs, hl'⟩ e'
        have nl : l ∉ vs := fun q => by rcases hl' with hl' | hl' <;> exact wipeE_in q hl'
        rw [wipeE_get nl] at hl'
        have : l = j := R1.inj l j ⟨fs, hl'⟩ ⟨es, e⟩ e'
        exact nl (this ▸ hj))
      refine ⟨this.1, this.2.trans ?_⟩
      rw [SdH]
      exact upd_ne nd
    have nslot : ∀ j, isL (backE S1.en en vs) j → S1.ad j ≠ D := fun j hj e => by
      obtain ⟨es, hj'⟩ := isLf j hj
      have := (R1.li j es hj').2.1
      exact nD (e ▸ this)
    have Rf : Rel t { H := Sc.H, en := backE S1.en en vs, O := Sc.O, ad := S1.ad } σ := by
      refine ⟨?_, Rc.keep, Rc.sup, Rc.subM, Rc.new, Rc.trk, fun j d e => ?_, fun j es e => ?_, fun j es e => ?_, fun j es e => ?_, fun j l hj hl z => R1.inj j l (isLf j hj) (isLf l hl) z⟩
      · show (backE S1.en en vs).length = σ.length
        rw [backE_len, hlen]
        exact R1.len
      · have e : (backE S1.en en vs)[j]? = _ := e
        by_cases hj : j ∈ vs
        · rw [getI j hj] at e
          obtain ⟨v, a, b⟩ := R1.fr j d e
          exact ⟨v, a, b.mono lc.le⟩
        · rw [getN j hj] at e
          obtain ⟨v, a, b⟩ := Rc.fr j d e
          exact ⟨v, up j v a, b⟩
      · have e : (backE S1.en en vs)[j]? = _ ∨ (backE S1.en en vs)[j]? = _ := e
        by_cases hj : j ∈ vs
        · rw [getI j hj] at e
          obtain ⟨a, b, ys, c1, d1⟩ := R1.li j es e
          obtain ⟨q1, q2⟩ := liI j es hj e
          exact ⟨a, q1, ys, q2.trans c1, d1.mono lc.le⟩
        · rw [getN j hj] at e
          obtain ⟨a, b, ys, c1, d1⟩ := Rc.li j es e
          have ea := adf j ⟨es, e⟩
          rw [ea] at a b c1
          exact ⟨up j _ a, b, ys, c1, d1⟩
      · have e : (backE S1.en en vs)[j]? = _ := e
        by_cases hj : j ∈ vs
        · rw [getI j hj] at e
          exact R1.ow j es e
        · rw [getN j hj] at e
          have := Rc.ow j es e
          rw [adf j ⟨es, .inl e⟩] at this
          exact this
      · have e : (backE S1.en en vs)[j]? = _ := e
        by_cases hj : j ∈ vs
        · rw [getI j hj] at e
          exact R1.mb j es e
        · rw [getN j hj] at e
          have := Rc.mb j es e
          rw [adf j ⟨es, .inr e⟩] at this
          exact this
    refine k2 (.ref D) { H := Sc.H, en := backE S1.en en vs, O := Sc.O, ad := S1.ad } rfl ⟨Rf, ⟨l1.le.trans lc.le, fun a h => lc.per a (l1.per a h), fun j hj => l1.sl j (isLf j hj), fun a h n => ?_⟩, ⟨D, av, rfl, hDc, hD0, nD0, hDv, ra, nslot⟩, fun q es e1 e2 => .inl ?_⟩
    · obtain ⟨h1, h2⟩ := l1.tmp a h n
      have nd : a ≠ D := fun q => nD (q ▸ h1)
      have := lcd.tmp a (by rw [SdO]; exact List.mem_cons_of_mem _ h1) nd (by
        rw [SdA]
        intro l hl e'
        have hl1 := (le0.sl l hl).1
        exact n l (l1.sl l hl1).1 ((l1.sl l hl1).2.symm.trans e'))
      refine ⟨this.1, this.2.trans ?_⟩
      rw [SdH, upd_ne nd]
      exact h2
    · injection e2 with e3
      rw [← e3]
      cases q : S.H D with
      | none => rfl
      | some o => exact absurd hD (l1.per D (by rw [q]; simp))
  · -- a turn
    have hlt : i < items.length := by omega
    refine .inr ⟨wk.go i Sc.H Sc.O sF hlt, fun H => I (i + 1) H, fun H' h' => ⟨items.length - (i + 1), by omega, h', rfl⟩, fun x H' hy => ?_⟩
    have hd : items[i]? = some items[i] := List.getElem?_eq_getElem hlt
    obtain ⟨sH, rx⟩ := wk.yld i Sc.H Sc.O x H' items[i] sF Rc.trk hd hy
    obtain ⟨Rg, lg⟩ := Rc.grow sH
    rw [List.drop_eq_getElem_cons hlt] at hgo'
    simp only [lcGo] at hgo'
    obtain ⟨e3, hb, hgo'⟩ := bind_ok hgo'
    obtain ⟨⟨b, e4⟩, hc, hgo'⟩ := bind_ok hgo'
    refine gok t { Sc with H := H' } (L2.wipe σ vs) x items[i] e3 _ Rg rx (by show bindT tg items[i] Sc.en = _; rw [een]; exact hb) fun σ' Rb lb hw => ?_
    have hw' : L2.wipe σ' vs = L2.wipe σ vs := (hw vs hix).trans (wipe_idem fun j h => h)
    refine ⟨hw', t, { Sc with H := H', en := e3 }, rfl, Rb, post_ok hc fun S3 e30 R3 l3 => ?_⟩
    have lg3 : Le Sc S3 := (lg.trans lb).trans l3
    have len3 : e3.length = S1.en.length := (bindT_len hb).trans (wipeE_len.trans hlen)
    have e3' : S3.en = e4 := e30
    clear e30
    have keepD : ∀ {S' : Sn}, Le Sc S' → D ∈ S'.O ∧ S'.H D = some (.lst av) ∧ ∀ j, isL S'.en j → S'.ad j ≠ D := fun {S'} l => by
      obtain ⟨a, b⟩ := l.tmp D hDc hns
      exact ⟨a, b.trans hDv, l.ntmp hns⟩
    have lenσ : σ'.length = σ.length := by
      have q := congrArg List.length hw'
      rw [wipe_length, wipe_length] at q
      exact q
    have lenOf : ∀ {S' : Sn}, Rel t S' σ' → S'.en.length = S1.en.length := fun {S'} R' => R'.len.trans (lenσ.trans R1.len.symm)
    simp only at hgo'
    cases b with
    | false =>
      rw [if_neg (by simp)] at hgo'
      show I (i + 1) S3.H
      obtain ⟨Rv, lv⟩ := R3.wipe vs
      rw [hw'] at Rv
      obtain ⟨d1, d2, d3⟩ := keepD lg3
      obtain ⟨d1', d2', d3'⟩ := keepD (lg3.trans lv)
      exact ⟨{ S3 with en := wipeE S3.en vs }, acc, av, e4, rfl, Rv, lcd.trans ((lg3.trans lv).d D), d1', d2', ra.mono (lg3.trans lv).le, d3', by omega, by rw [e3'], by rw [← e3']; exact lenOf R3, by omega, hgo'⟩
    | true =>
      rw [if_pos rfl] at hgo'
      refine iteT (A := tEF mg W0 elt σ' S3.H _) ?_
      obtain ⟨⟨x', e5⟩, hx, hgo'⟩ := bind_ok hgo'
      refine ⟨t, S3, rfl, R3, ?_⟩
      refine post_ok (a := (x', e5)) (by rw [e3']; exact hx) fun y S4 e4' P4 => ?_
      have e4' : S4.en = e5 := e4'
      have lg4 := lg3.trans P4.le
      obtain ⟨d1, d2, d3⟩ := keepD lg4
      have hav : av.length = acc.length := ra.length
      refine ⟨av, d2, by rw [hav, ← SZ_eq]; omega, ?_⟩
      obtain ⟨Rv, lv⟩ := P4.rel.wipe vs
      rw [hw'] at Rv
      have d3w : ∀ j, isL (wipeE S4.en vs) j → S4.ad j ≠ D := fun j hj => d3 j (lv.sl j hj).1
      obtain ⟨Rp, lp⟩ := Rv.poke (xs := av ++ [y]) d1 hD0 d3w
      have Fe : hid (upd S4.H D (.lst (av ++ [y]))) S4.O = S4.F := hid_upd d1
      refine ⟨{ S4 with en := wipeE S4.en vs, H := upd S4.H D (.lst (av ++ [y])) }, acc ++ [x'], av ++ [y], e5, rfl, Rp, (lcd.trans ((lg4.trans lv).d D)).trans lp, d1, upd_same, ?_, d3w, by rw [List.length_append]; simp; omega, by show wipeE S4.en vs = _; rw [e4'], by rw [← e4']; exact lenOf P4.rel, by omega, hgo'⟩
      show RpA (hid (upd S4.H D (.lst (av ++ [y]))) S4.O) _ _
      rw [Fe]
      exact (ra.mono lg4.le).append (.cons P4.val .nil)
section
variable {X : Cx} {W : WX} {elt tg iter : Expr} {ifs : List Expr} {scope : Scope} {own : List (Str × Nat)} {pos spos : Pos} {sr : Sr} {t : Tg} {g : TG} {io : Exo} {ie : Ex}
/-- [elt for tg in iter if ..] -/
theorem de_lc (hc : X.calm = true) (hN : X.N.Nodup) (hi : DS X W tg iter sr) (ok : BlkOk X.N X.env.scope scope own)
    (hg : ∀ (s : Shared) (H : Hp) (C : Addr) (cl : List (Str × Addr)) (fp : List Addr), PG (X.blk s H scope (compEnvC scope cl C X.env) fp) tg g) (gok : GOk t g) (hix : ∀ i ∈ t.ix, i ∈ own.map (·.2))
    (ht : ∀ (s : Shared) (H : Hp) (C : Addr) (cl : List (Str × Addr)) (fp : List Addr), DC (X.blk s H scope (compEnvC scope cl C X.env) fp) ifs io)
    (he : ∀ (s : Shared) (H : Hp) (C : Addr) (cl : List (Str × Addr)) (fp : List Addr), DF (X.blk s H scope (compEnvC scope cl C X.env) fp) W0 elt ie) (hs : ∀ x, foldedSetIterable iter X.env x = pure x := by intro _; rfl) :
    DE X W (.ListComp elt [⟨tg, iter, ifs, 0⟩] scope pos) (.lc ie t sr io (own.map (·.2))) := (pe_lc hc hN hi ok hg ht he hs).imp fun σ H Q h => lc_post gok hix h
end
end VS

/-! Statements. -/
namespace VS
open PySem PySem.Spec PyProof.Rows L2
variable [kf : KF]
abbrev wE (E : XK) : WX := fun cls d _ H => E cls d H
/-- a name gets a list of one's own -/
def Sn.putO (S : Sn) (i : Nat) (ds : List D) (p : Addr) : Sn := { S with en := S.en.set i (some (.own ds)), ad := fun j => if j = i then p else S.ad j }
theorem Rel.setOwn {t : Ent} {S : Sn} {σ : L2.St} (R : Rel t S σ) {v : V} {ds : List D} (h : VR t S v (.own ds)) {i : Nat} (hi : i < S.en.length) : ∃ p, v = .ref p ∧ Rel t (S.putO i ds p) (σ.set i (some v)) := by
  obtain ⟨p, xs, rfl, hp, h0, hO, hx, hr, hn⟩ := h
  refine ⟨p, rfl, ?_⟩
  have get : ∀ j x, (S.en.set i (some (Sl.own ds)))[j]? = some (some x) → (i = j ∧ x = .own ds) ∨ (i ≠ j ∧ S.en[j]? = some (some x)) := by
    intro j x e
    rw [en_set hi] at e
    split at e
    · rename_i q
      exact .inl ⟨q, by simpa using e.symm⟩
    · rename_i q
      exact .inr ⟨q, e⟩
  have getV : ∀ j, i ≠ j → (σ.set i (some (V.ref p)))[j]? = σ[j]? := fun j q => by rw [List.getElem?_set]; simp [q]
  have adE : ∀ j, i ≠ j → (S.putO i ds p).ad j = S.ad j := fun j q => if_neg fun e => q e.symm
  have adI : (S.putO i ds p).ad i = p := if_pos rfl
  have oldL : ∀ j, isL (S.putO i ds p).en j → i ≠ j → isL S.en j := by
    rintro j ⟨es, e | e⟩ q
    · rcases get _ _ e with ⟨q', _⟩ | ⟨_, e⟩
      · exact absurd q' q
      · exact ⟨es, .inl e⟩
    · rcases get _ _ e with ⟨q', _⟩ | ⟨_, e⟩
      · exact absurd q' q
      · exact ⟨es, .inr e⟩
  refine ⟨?_, R.keep, R.sup, R.subM, R.new, R.trk, fun j d e => ?_, fun j es e => ?_, fun j es e => ?_, fun j es e => ?_, fun j l hj hl z => ?_⟩
  · show (S.en.set i _).length = (σ.set i _).length
    rw [List.length_set, List.length_set]; exact R.len
  · rcases get _ _ e with ⟨_, q⟩ | ⟨q, e⟩
    · cases q
    · obtain ⟨u, a, b⟩ := R.fr j d e
      exact ⟨u, by rw [getV j q]; exact a, b⟩
  · have q : (i = j ∧ es = ds) ∨ (i ≠ j ∧ (S.en[j]? = some (some (Sl.own es)) ∨ S.en[j]? = some (some (Sl.mb es)))) := by
      rcases e with e | e
      · rcases get _ _ e with ⟨q, q'⟩ | ⟨q, e⟩
        · injection q' with q'
          exact .inl ⟨q, q'⟩
        · exact .inr ⟨q, .inl e⟩
      · rcases get _ _ e with ⟨_, q⟩ | ⟨q, e⟩
        · cases q
        · exact .inr ⟨q, .inr e⟩
    rcases q with ⟨q, q'⟩ | ⟨q, e⟩
    · subst q q'
      rw [adI]
      rw [R.len] at hi
      exact ⟨by rw [List.getElem?_set]; simp [hi], hp, xs, hx, hr⟩
    · obtain ⟨a, b, ys, c1, d1⟩ := R.li j es e
      rw [adE j q]
      exact ⟨by rw [getV j q]; exact a, b, ys, c1, d1⟩
  · rcases get _ _ e with ⟨q, q'⟩ | ⟨q, e⟩
    · subst q
      rw [adI]
      exact ⟨h0, hO⟩
    · rw [adE j q]
      exact R.ow j es e
  · rcases get _ _ e with ⟨_, q⟩ | ⟨q, e⟩
    · cases q
    · rw [adE j q]
      exact R.mb j es e
  · by_cases q : i = j
    · by_cases q' : i = l
      · exact q.symm.trans q'
      · subst q
        rw [adI, adE l q'] at z
        exact absurd z.symm (hn l (oldL l hl q'))
    · by_cases q' : i = l
      · subst q'
        rw [adI, adE j q] at z
        exact absurd z (hn j (oldL j hj q))
      · rw [adE j q, adE l q'] at z
        exact R.inj j l (oldL j hj q) (oldL l hl q') z
omit [kf : KF] in
theorem putE_ok {en en' : En} {i : Nat} {r : Sl} (h : putE en i r = .ok en') : en' = en.set i (some r) ∧ i < en.length ∧ ∀ ds, r ≠ .mb ds := by
  unfold putE at h
  cases q : en[i]? with
  | none => rw [q] at h; cases h
  | some x =>
    rw [q] at h
    have lt := lt_of_some q
    cases x with
    | none => cases r <;> first | exact ⟨(Ou.ok.inj h).symm, lt, fun ds e => by cases e⟩ | cases h
    | some s => cases s <;> cases r <;> first | exact ⟨(Ou.ok.inj h).symm, lt, fun ds e => by cases e⟩ | cases h
theorem Rel.put {t : Ent} {S : Sn} {σ : L2.St} (R : Rel t S σ) {v : V} {r : Sl} (h : VR t S v r) {i : Nat} {en' : En} (e : putE S.en i r = .ok en') : ∃ S', S'.H = S.H ∧ S'.en = en' ∧ Rel t S' (σ.set i (some v)) ∧ S'.F = S.F := by
  obtain ⟨e1, hi, nm⟩ := putE_ok e
  subst e1
  cases r with
  | fr d => exact ⟨{ S with en := S.en.set i (some (.fr d)) }, rfl, rfl, (R.setFr h i).1, rfl⟩
  | own ds =>
    obtain ⟨p, e1, R'⟩ := R.setOwn h hi
    exact ⟨S.putO i ds p, rfl, rfl, R', rfl⟩
  | mb ds => exact absurd rfl (nm ds)
/-- a list slot is changed -/
theorem Rel.updL {t : Ent} {S : Sn} {σ : L2.St} (R : Rel t S σ) {i : Nat} {en' : En} {f : List D → Ou (List D)} (h : updE S.en i f = .ok en') :
    ∃ ds ds' xs, f ds = .ok ds' ∧ σ[i]? = some (some (V.ref (S.ad i))) ∧ S.H (S.ad i) = some (.lst xs) ∧ RpA S.F xs ds ∧
      ∀ xs', RpA S.F xs' ds' → ∃ S', S'.H = upd S.H (S.ad i) (.lst xs') ∧ S'.en = en' ∧ Rel t S' σ ∧ Le S S' := by
  have core : ∀ {c : List D → Sl} {ds ds' : List D}, c = Sl.own ∨ c = Sl.mb → S.en[i]? = some (some (c ds)) → f ds = .ok ds' → en' = S.en.set i (some (c ds')) → ∃ ds ds' xs, f ds = .ok ds' ∧ σ[i]? = some (some (V.ref (S.ad i))) ∧ S.H (S.ad i) = some (.lst xs) ∧ RpA S.F xs ds ∧
      ∀ xs', RpA S.F xs' ds' → ∃ S', S'.H = upd S.H (S.ad i) (.lst xs') ∧ S'.en = en' ∧ Rel t S' σ ∧ Le S S' := by
    intro c ds ds' hc hi hf he
    have hi' : S.en[i]? = some (some (Sl.own ds)) ∨ S.en[i]? = some (some (Sl.mb ds)) := by rcases hc with hc | hc <;> subst hc <;> simp [hi]
    obtain ⟨h1, h2, xs, h3, h4⟩ := R.li i ds hi'
    refine ⟨ds, ds', xs, hf, h1, h3, h4, fun xs' hr => ?_⟩
    obtain ⟨R', l⟩ := R.lend (ms' := ds') (xs' := xs') hc hi (H' := upd S.H (S.ad i) (.lst xs')) (fun b o e n => by rw [upd_ne n]; exact e) upd_same (by rw [hid_upd h2]; exact hr)
    exact ⟨_, rfl, he.symm, R', l⟩
  unfold updE at h
  split at h
  · rename_i ds hi
    obtain ⟨ds', h1, h2⟩ := bind_ok h
    exact core (.inl rfl) hi h1 (Ou.ok.inj h2).symm
  · rename_i ds hi
    obtain ⟨ds', h1, h2⟩ := bind_ok h
    exact core (.inr rfl) hi h1 (Ou.ok.inj h2).symm
  · cases h
/-! ### statements' readings -/
def SF (t : Ent) (S : Sn) (Dn : Ends) : Fl → Prop
  | .nx en' => ∀ σ' S', S'.en = en' → Rel t S' σ' → Same S.F S'.F → Dn.nx σ' S'.H
  | .bk en' => ∀ σ' S', S'.en = en' → Rel t S' σ' → Same S.F S'.F → Dn.bk σ' S'.H
  | .ct en' => ∀ σ' S', S'.en = en' → Rel t S' σ' → Same S.F S'.F → Dn.ct σ' S'.H
  | .rt r en' => ∀ v σ' S', S'.en = en' → Rel t S' σ' → VR t S' v r → Dn.rt v S'.H
theorem SF.mono {t : Ent} {S S1 : Sn} {Dn : Ends} (s : Same S.F S1.F) : ∀ {f : Fl}, SF t S Dn f → SF t S1 Dn f
  | .nx _, h => fun σ' S' e R s' => h σ' S' e R (s.trans s')
  | .bk _, h => fun σ' S' e R s' => h σ' S' e R (s.trans s')
  | .ct _, h => fun σ' S' e R s' => h σ' S' e R (s.trans s')
  | .rt _ _, h => h
def RX (mg : Str → Option Value) (E : XK) (t : Ent) (e : Exn) : Prop := ∀ cls d H', (∀ b o, t.H0 b = some o → b ∉ t.M → H' b = some o) → ExR mg e cls d H' → E cls d H'
def tST (mg : Str → Option Value) (E : XK) (ev : En → Ou Fl) : TS := fun Dn σ H => ∃ t S, S.H = H ∧ Rel t S σ ∧ (ev S.en).post (SF t S Dn) (RX mg E t)
abbrev DSt (X : Cx) (E : XK) (n : Nat) (st : Stmt) (sx : Sx) : Prop := PS X st (tST X.mg E (exec n sx))
abbrev DSs (X : Cx) (E : XK) (n : Nat) (st : List Stmt) (sx : Sxs) : Prop := PSs X st (tST X.mg E (execs n sx))
omit [kf : KF] in
theorem _root_.L2.PS.imp {X : Cx} {e : Stmt} {t t' : TS} (h : PS X e t) (i : ∀ D σ H, t' D σ H → t D σ H) : PS X e t' := ⟨fun pins s σ H D I q => h.run pins s σ H D I (i D σ H q)⟩
omit [kf : KF] in
theorem _root_.L2.PSs.imp {X : Cx} {e : List Stmt} {t t' : TS} (h : PSs X e t) (i : ∀ D σ H, t' D σ H → t D σ H) : PSs X e t' := ⟨fun pins s σ H D I q => h.run pins s σ H D I (i D σ H q)⟩
section
variable {X : Cx} {E : XK} {n : Nat} {st : Stmt} {rest : List Stmt} {sx : Sx} {sr : Sxs} {e ea eb ec tg iter : Expr} {es : List Expr} {ir ia ib ic : Ex} {is : Exs} {pos pos' : Pos} {x : Str} {i : Nat}
theorem dss_nil : DSs X E n [] .nil := pss_nil.imp fun D σ H ⟨t, S, eH, R, h⟩ => by
  subst eH
  exact h σ S rfl R (Same.refl _)
theorem dss_cons (h1 : DSt X E n st sx) (h2 : DSs X E n rest sr) : DSs X E n (st :: rest) (.cons sx sr) := (pss_cons h1 h2).imp fun D σ H ⟨t, S, eH, R, h⟩ => by
  subst eH
  simp only [execs, post_bind] at h
  refine ⟨t, S, rfl, R, post_imp h fun f hf k => ?_⟩
  cases f with
  | nx en => exact fun σ' S' e R' s' => ⟨t, S', rfl, R', by rw [e]; exact post_imp k fun f _ q => q.mono s'⟩
  | bk en => exact k
  | ct en => exact k
  | rt r en => exact k
theorem dst_asg {te : TE} (hset : PS X st (tAsg te (gName i))) (hte : ∀ σ H Q, tEE X.mg (wE E) ir σ H Q → te σ H Q) : DSt X E n st (.asg i ir) := hset.imp fun D σ H ⟨t, S, eH, R, h⟩ => by
  subst eH
  simp only [exec, post_bind] at h
  refine hte σ _ _ ⟨t, S, rfl, R, post_imp h fun p hp k v S1 e1 P1 => ?_⟩
  have e1 : S1.en = p.2 := e1
  cases q : putE p.2 i p.1 with
  | no => rw [q] at k; exact k.elim
  | ex e => unfold putE at q; split at q <;> cases q
  | ok en' =>
    rw [q] at k
    obtain ⟨S2, a, b, R2, eF⟩ := P1.rel.put P1.val (i := i) (en' := en') (by rw [e1]; exact q)
    show D.nx (σ.set i (some v)) S1.H
    rw [← a]
    exact k _ S2 b R2 (by rw [eF]; exact P1.le.le)
/-- x = e -/
theorem dst_set (hN : X.N.Nodup) (he : DE X (wE E) e ir) (hi : X.N[i]? = some x := by rfl) (hx : Loc X.env.scope x := by first | exact Or.inl rfl | exact Or.inr rfl) (hs : swapsWith e (some (.Name x pos')) pos.line X.env = pure false := by rfl)
    (hf : X.fn x = true ∨ X.env.scope.names.lookup x = some .local := by first | exact .inl rfl | exact .inr rfl) : DSt X E n (.Assign [.Name x pos'] e pos) (.asg i ir) :=
  dst_asg (ps_set hN hi hx he hs hf) fun _ _ _ h => h
/-- x = [.. for ..], x a plain local -/
theorem dst_setLc {elt : Expr} {ifs : List Expr} {scope : Scope} {own : List (Str × Nat)} {sr : Sr} {t : Tg} {g : TG} {io : Exo} {ie : Ex} {py cpos : Pos} (hc : X.calm = true) (hN : X.N.Nodup) (hsr : DS X (wE E) tg iter sr) (ok : BlkOk X.N X.env.scope scope own)
    (hg : ∀ (s : Shared) (H : Hp) (C : Addr) (cl : List (Str × Addr)) (fp : List Addr), PG (X.blk s H scope (compEnvC scope cl C X.env) fp) tg g) (gok : GOk t g) (hix : ∀ i ∈ t.ix, i ∈ own.map (·.2))
    (ht : ∀ (s : Shared) (H : Hp) (C : Addr) (cl : List (Str × Addr)) (fp : List Addr), DC (X.blk s H scope (compEnvC scope cl C X.env) fp) ifs io)
    (he : ∀ (s : Shared) (H : Hp) (C : Addr) (cl : List (Str × Addr)) (fp : List Addr), DF (X.blk s H scope (compEnvC scope cl C X.env) fp) W0 elt ie)
    (hsw : swapsWith (.ListComp elt [⟨tg, iter, ifs, 0⟩] scope cpos) (some (.Name x py)) pos.line X.env = pure true)
    (hi : X.N[i]? = some x := by rfl) (hx : X.env.scope.names.lookup x = some .local := by rfl) (hs : ∀ x, foldedSetIterable iter X.env x = pure x := by intro _; rfl) :
    DSt X E n (.Assign [.Name x py] (.ListComp elt [⟨tg, iter, ifs, 0⟩] scope cpos) pos) (.asg i (.lc ie t sr io (own.map (·.2)))) :=
  dst_asg (ps_setLc hc hN hi hx hsw hsr ok hg ht he hs) fun _ _ _ h => lc_post gok hix h
theorem dst_expr (he : DE X (wE E) e ir) (hs : swapsWith e none pos.line X.env = pure false := by rfl) : DSt X E n (.Expr e pos) (.expr ir) := (ps_expr he hs).imp fun D σ H ⟨t, S, eH, R, h⟩ => by
  subst eH
  simp only [exec, post_bind] at h
  exact ⟨t, S, rfl, R, post_imp h fun p hp k v S1 e1 P1 => k σ S1 e1 P1.rel P1.le.le⟩
theorem dst_ret (he : DE X (wE E) e ir) : DSt X E n (.Return (some e) pos) (.ret ir) := (ps_ret he).imp fun D σ H ⟨t, S, eH, R, h⟩ => by
  subst eH
  simp only [exec, post_bind] at h
  exact ⟨t, S, rfl, R, post_imp h fun p hp k v S1 e1 P1 => k v σ S1 e1 P1.rel P1.val⟩
theorem dst_retN : DSt X E n (.Return none pos) .retN := ps_retN.imp fun D σ H ⟨t, S, eH, R, h⟩ => by
  subst eH
  exact h .non σ S rfl R Rp.non
theorem dst_brk : DSt X E n (.Break pos) .brk := ps_break.imp fun D σ H ⟨t, S, eH, R, h⟩ => by subst eH; exact h σ S rfl R (Same.refl _)
theorem dst_cnt : DSt X E n (.Continue pos) .cnt := ps_continue.imp fun D σ H ⟨t, S, eH, R, h⟩ => by subst eH; exact h σ S rfl R (Same.refl _)
theorem dst_pass : DSt X E n (.Pass pos) .pass := ps_pass.imp fun D σ H ⟨t, S, eH, R, h⟩ => by subst eH; exact h σ S rfl R (Same.refl _)
theorem dst_if {a b : List Stmt} {sa sb : Sxs} (hc : DT X (wE E) ec ic) (ha : DSs X E n a sa) (hb : DSs X E n b sb) : DSt X E n (.If ec a b pos) (.iff ic sa sb) := (ps_if hc ha hb).imp fun D σ H ⟨t, S, eH, R, h⟩ => by
  subst eH
  simp only [exec, post_bind] at h
  refine ⟨t, S, rfl, R, post_imp h fun p hp k => ?_⟩
  obtain ⟨d, en⟩ := p
  cases d <;> (try exact k.elim)
  rename_i b'
  refine ⟨b', rfl, fun S1 e1 R1 l1 => ?_⟩
  have e1 : S1.en = en := e1
  cases b' with
  | true => exact iteT (A := tST X.mg E (execs n sa) D σ S1.H) ⟨t, S1, rfl, R1, by rw [e1]; exact post_imp k fun f _ q => q.mono l1.le⟩
  | false => exact iteF (B := tST X.mg E (execs n sb) D σ S1.H) ⟨t, S1, rfl, R1, by rw [e1]; exact post_imp k fun f _ q => q.mono l1.le⟩
end
end VS

/-! Statements that change lists; loops. -/
namespace VS
open PySem PySem.Spec PyProof.Rows L2
variable [kf : KF]
omit [kf : KF] in
theorem rdE_ex {en : En} {i : Nat} {e : Exn} : rdE en i ≠ .ex e := by
  intro h; unfold rdE at h; split at h <;> cases h
omit [kf : KF] in
theorem rdL_ex {en : En} {i : Nat} {e : Exn} : rdL en i ≠ .ex e := by
  intro h; unfold rdL at h; split at h <;> cases h
theorem Rel.lst {t : Ent} {S : Sn} {σ : L2.St} (R : Rel t S σ) {i : Nat} {ds : List D} (h : rdL S.en i = .ok ds) : σ[i]? = some (some (V.ref (S.ad i))) ∧ ∃ xs, S.H (S.ad i) = some (.lst xs) ∧ RpA S.F xs ds := by
  unfold rdL at h
  split at h
  · rename_i ds' q
    have e := Ou.ok.inj h
    subst e
    obtain ⟨a, _, b⟩ := R.li i _ (.inl q)
    exact ⟨a, b⟩
  · rename_i ds' q
    have e := Ou.ok.inj h
    subst e
    obtain ⟨a, _, b⟩ := R.li i _ (.inr q)
    exact ⟨a, b⟩
  · cases h
omit [kf : KF] in
theorem post_rd {α : Type} {en : En} {i : Nat} {f : D → Ou α} {P : α → Prop} {E : Exn → Prop} (h : (rdE en i).post (fun d => (f d).post P E) E) : ∃ d, rdE en i = .ok d ∧ (f d).post P E := by
  cases q : rdE en i with
  | ok d => rw [q] at h; exact ⟨d, rfl, h⟩
  | ex e => exact absurd q rdE_ex
  | no => rw [q] at h; exact h.elim
omit [kf : KF] in
theorem post_rdL {α : Type} {en : En} {i : Nat} {f : List D → Ou α} {P : α → Prop} {E : Exn → Prop} (h : (rdL en i).post (fun d => (f d).post P E) E) : ∃ d, rdL en i = .ok d ∧ (f d).post P E := by
  cases q : rdL en i with
  | ok d => rw [q] at h; exact ⟨d, rfl, h⟩
  | ex e => exact absurd q rdL_ex
  | no => rw [q] at h; exact h.elim
omit [kf : KF] in
theorem post_int {α : Type} {d : D} {f : Int → Ou α} {P : α → Prop} {E : Exn → Prop} (h : (intOf d).post (fun d => (f d).post P E) E) : ∃ k, d = .int k ∧ (f k).post P E := by
  cases d <;> first | exact h.elim | exact ⟨_, rfl, h⟩
omit [kf : KF] in
theorem updE_ex {en : En} {i : Nat} {f : List D → Ou (List D)} (hf : ∀ ds e, f ds ≠ .ex e) {e : Exn} : updE en i f ≠ .ex e := by
  intro h
  unfold updE at h
  split at h
  · rename_i ds _
    cases q : f ds with
    | ok a => rw [q] at h; cases h
    | ex e => exact hf _ _ q
    | no => rw [q] at h; cases h
  · rename_i ds _
    cases q : f ds with
    | ok a => rw [q] at h; cases h
    | ex e => exact hf _ _ q
    | no => rw [q] at h; cases h
  · cases h
omit [kf : KF] in
theorem post_upd {α : Type} {en : En} {i : Nat} {g : List D → Ou (List D)} (hg : ∀ ds e, g ds ≠ .ex e) {f : En → Ou α} {P : α → Prop} {E : Exn → Prop} (h : (updE en i g).post (fun d => (f d).post P E) E) : ∃ d, updE en i g = .ok d ∧ (f d).post P E := by
  cases q : updE en i g with
  | ok d => rw [q] at h; exact ⟨d, rfl, h⟩
  | ex e => exact absurd q (updE_ex hg)
  | no => rw [q] at h; exact h.elim
omit [kf : KF] in
theorem putE_ex {en : En} {i : Nat} {r : Sl} {e : Exn} : putE en i r ≠ .ex e := by
  intro h; unfold putE at h; split at h <;> cases h
omit [kf : KF] in
theorem post_put {α : Type} {en : En} {i : Nat} {r : Sl} {f : En → Ou α} {P : α → Prop} {E : Exn → Prop} (h : (putE en i r).post (fun d => (f d).post P E) E) : ∃ d, putE en i r = .ok d ∧ (f d).post P E := by
  cases q : putE en i r with
  | ok d => rw [q] at h; exact ⟨d, rfl, h⟩
  | ex e => exact absurd q putE_ex
  | no => rw [q] at h; exact h.elim
omit [kf : KF] in
theorem setL_ex {k : Int} {d : D} : ∀ ds e, setL k d ds ≠ .ex e := by
  intro ds e h; unfold setL at h; split at h <;> cases h
section
variable {X : Cx} {E : XK} {n : Nat} {st : Stmt} {rest : List Stmt} {sx : Sx} {sr : Sxs} {e ea eb ec eo tg iter : Expr} {es : List Expr} {ir ia ib ic ix : Ex} {is : Exs} {pos pos' p1 p2 : Pos} {x : Str} {i : Nat}
/-- o[k] = v at a list slot, by values -/
theorem setL_ok {t : Ent} {S : Sn} {σ : L2.St} (R : Rel t S σ) {i : Nat} {k : Int} {v : V} {d : D} {en' : En} {Q : Hp → Prop} (hv : Rp S.F v d) (h : updE S.en i (setL k d) = .ok en') (q : ∀ S', S'.en = en' → Rel t S' σ → Le S S' → Q S'.H) :
    σ[i]? = some (some (V.ref (S.ad i))) ∧ rSetL (.ref (S.ad i)) (.int k) v S.H Q := by
  obtain ⟨ds, ds', xs, hf, h1, h2, h3, h4⟩ := R.updL h
  refine ⟨h1, ?_⟩
  unfold setL at hf
  split at hf
  · rename_i j hj
    have e := Ou.ok.inj hf
    subst e
    obtain ⟨S', a, b, R', l⟩ := h4 (xs.set j v) (h3.set hv j)
    refine ⟨S.ad i, xs, k, j, rfl, rfl, h2, by rw [h3.length]; exact hj, ?_⟩
    rw [← a]
    exact q S' b R' l
  · cases hf
/-- xs[ix] = e -/
theorem dst_setI (he : DF X (wE E) e ir) (hv : PE X eo (tVar i)) (hx : DB X (wE E) eb ix)
    (ha : ∀ v, assign (.Subscript eo eb p1) X.env v = (do
      let ov ← holding [v] (eval eo X.env)
      let iv ← holding [v, ov] (eval eb X.env)
      standAt p1
      holding [v, ov, iv] (setItem ov iv v)
      release [v, ov, iv] []) := by intro _; rfl) (hs : swapsWithSole [.Subscript eo eb p1] e pos.line X.env = pure false := by rfl) (hw : swappedStores [.Subscript eo eb p1] e X.env = pure none := by rfl)
    (h1 : (assignEach [.Subscript eo eb p1] X.env).map (·.2) = [assign (.Subscript eo eb p1) X.env] := by rfl) : DSt X E n (.Assign [.Subscript eo eb p1] e pos) (.setI i ix ir) :=
  (ps_asg he (pg_sub hv hx set_list ha) hs hw h1).imp fun D σ H ⟨t, S, eH, R, h⟩ => by
    subst eH
    simp only [exec, post_bind] at h
    refine ⟨t, S, rfl, R, ?_⟩
    unfold evF
    rw [post_bind]
    refine post_imp h fun p hp k v S1 e1 P1 => ?_
    have e1 : S1.en = p.2 := e1
    obtain ⟨d0, q0, k⟩ := post_rd k
    obtain ⟨v0, hv0, _⟩ := P1.rel.borrow (i := i) (d := d0) (by rw [e1]; exact q0)
    refine ⟨v0, hv0, t, S1, rfl, P1.rel, ?_⟩
    rw [e1]
    refine post_imp k fun q hq k u S2 e2 P2 => ?_
    have e2 : S2.en = q.2 := e2
    obtain ⟨z, hz, k⟩ := post_int k
    obtain ⟨en', hu, k⟩ := post_upd setL_ex k
    have hv' := P2.val
    rw [hz] at hv'
    have := setL_ok P2.rel (i := i) (k := z) (v := v) (d := toD p.1) (en' := en') (Q := fun H => D.nx σ H) (P1.val.mono P2.le.le) (by rw [e2]; exact hu) fun S' a R' l => k σ S' a R' ((P1.le.trans P2.le).trans l).le
    rw [hv0] at this
    have ev : v0 = V.ref (S2.ad i) := by simpa using this.1
    rw [hv'.int, ev]
    exact this.2
/-! ### targets of a tuple -/
def GsOk (mg : Str → Option Value) (W : WX) (ts : List TgE) (gs : TGs) : Prop := ∀ t S σ vs ds en' Q, Rel t S σ → RpA S.F vs ds → stores ts ds S.en = .ok en' → (∀ σ' S', S'.en = en' → Rel t S' σ' → Same S.F S'.F → Q σ' S'.H) → gs vs σ S.H Q
theorem gs_nil {mg : Str → Option Value} {W : WX} : GsOk mg W [] gNil := by
  intro t S σ vs ds en' Q R r h k
  cases r with
  | nil => exact ⟨rfl, k σ S (Ou.ok.inj h) R (Same.refl _)⟩
  | cons a b => cases h
theorem gs_nm {mg : Str → Option Value} {W : WX} {ts : List TgE} {gs : TGs} {i : Nat} (h2 : GsOk mg W ts gs) : GsOk mg W (.nm i :: ts) (gCons (gName i) gs) := by
  intro t S σ vs ds en' Q R r h k
  cases r with
  | nil => cases h
  | cons a b =>
    simp only [stores] at h
    obtain ⟨e1, hp, h⟩ := bind_ok h
    refine ⟨_, _, rfl, ?_⟩
    obtain ⟨q1, _, _⟩ := putE_ok hp
    subst q1
    obtain ⟨R1, l1⟩ := R.setFr a i
    have q := h2 t _ _ _ _ en' Q R1 (b.mono l1.le) h (fun σ' S' e R' s => k σ' S' e R' (l1.le.trans s))
    exact q
theorem gs_sub {mg : Str → Option Value} {W : WX} {ts : List TgE} {gs : TGs} {i : Nat} {ix : Ex} (h2 : GsOk mg W ts gs) : GsOk mg W (.sub i ix :: ts) (gCons (gSub (tVar i) (tEB mg W ix) rSetL) gs) := by
  intro t S σ vs ds en' Q R r h k
  cases r with
  | nil => cases h
  | cons a b =>
    simp only [stores] at h
    obtain ⟨d0, q0, h⟩ := bind_ok h
    obtain ⟨⟨d1, e1⟩, hi, h⟩ := bind_ok h
    obtain ⟨z, hz, h⟩ := bind_ok h
    obtain ⟨e2, hu, h⟩ := bind_ok h
    refine ⟨_, _, rfl, ?_⟩
    obtain ⟨v0, hv0, _⟩ := R.borrow q0
    refine ⟨v0, hv0, t, S, rfl, R, post_ok hi fun u S2 q2 P2 => ?_⟩
    have q2 : S2.en = e1 := q2
    have ez : d1 = .int z := by
      cases d1 <;> first | (cases hz; rfl) | (cases hz; done)
    have hv' := P2.val
    rw [ez] at hv'
    have := setL_ok P2.rel (i := i) (k := z) (en' := e2) (Q := fun H3 => gs _ σ H3 Q) (a.mono P2.le.le) (by rw [q2]; exact hu) fun S' a' R' l => h2 t S' σ _ _ en' Q R' (b.mono (P2.le.trans l).le) (by rw [a']; exact h) (fun σ' S'' e R' s => k σ' S'' e R' ((P2.le.trans l).le.trans s))
    rw [hv0] at this
    have ev : v0 = V.ref (S2.ad i) := by simpa using this.1
    rw [hv'.int, ev]
    exact this.2
/-- a, b[i], .. = e -/
theorem dst_unp {elts : List Expr} {kk m : Nat} {ts : List TgE} {gs : TGs} (hc : X.calm = true) (he : DB X (wE E) e ir) (hgs : PGs X elts gs) (ok : GsOk X.mg (wE E) ts gs) (hl : ts.length = m := by rfl)
    (hn : (assignEach elts X.env).length = m := by rfl) (hst : (assignEach elts X.env).findIdx? (·.1) = none := by rfl)
    (hs : swapsWithSole [.Tuple elts kk p1] e pos.line X.env = pure false := by rfl) (hw : swappedStores [.Tuple elts kk p1] e X.env = pure none := by rfl) (h1 : (assignEach [.Tuple elts kk p1] X.env).map (·.2) = [assign (.Tuple elts kk p1) X.env] := by rfl) (hk : X.K = kf.K := by rfl) :
    DSt X E n (.Assign [.Tuple elts kk p1] e pos) (.unp ts ir) := (ps_asg he (pg_tup hc hgs hn hst) hs hw h1).imp fun D σ H ⟨t, S, eH, R, h⟩ => by
  subst eH
  simp only [exec, post_bind] at h
  refine ⟨t, S, rfl, R, post_imp h fun p hp k v S1 e1 P1 => ?_⟩
  obtain ⟨d, en⟩ := p
  have hv := P1.val
  cases d <;> (try exact k.elim)
  rename_i ds
  obtain ⟨a, xs, rfl, h1, h2, _⟩ := hv.tup
  first | (change (strict (stores ts ds en)).post _ _ at k) | (change (strict (stores ts ds en) >>= _).post _ _ at k; rw [post_bind] at k)
  obtain ⟨en', hst', k⟩ := strict_ok k
  have hlen : ∀ (ts : List TgE) (ds : List PyData) (en en' : En), stores ts ds en = .ok en' → ds.length = ts.length := by
    intro ts
    induction ts with
    | nil => intro ds en en' h; cases ds with | nil => rfl | cons a b => cases h
    | cons t ts ih =>
      intro ds en en' h
      cases ds with
      | nil => cases t <;> cases h
      | cons d ds =>
        cases t with
        | nm i =>
          simp only [stores] at h
          obtain ⟨e1, _, h⟩ := bind_ok h
          simp [ih ds e1 en' h]
        | sub i ix =>
          simp only [stores] at h
          obtain ⟨_, _, h⟩ := bind_ok h
          obtain ⟨_, _, h⟩ := bind_ok h
          obtain ⟨_, _, h⟩ := bind_ok h
          obtain ⟨e2, _, h⟩ := bind_ok h
          simp [ih ds e2 en' h]
  refine ⟨a, xs, rfl, h1.sq hk, by rw [h2.length, hlen _ _ _ _ hst']; exact hl, ok t S1 σ xs ds en' _ P1.rel h2 (by rw [show S1.en = en from e1]; exact hst') fun σ' S' e R' s => k σ' S' e R' (P1.le.le.trans s)⟩
/-! ### x op= e -/
def AugOk (op : Operator) (r : TIp) : Prop := ∀ i j k Q H, augD op i j = .ok k → Q (.int k) H → r (.int i) (.int j) H Q
omit [kf : KF] in
theorem aug_add : AugOk .Add (rI0 fun i j => .int (i + j)) := fun i j k Q H h q => ⟨i, j, rfl, rfl, by cases h; exact q⟩
omit [kf : KF] in
theorem aug_sub : AugOk .Sub (rI0 fun i j => .int (i - j)) := fun i j k Q H h q => ⟨i, j, rfl, rfl, by cases h; exact q⟩
omit [kf : KF] in
theorem aug_mul : AugOk .Mult (rI CMul fun i j => .int (i * j)) := fun i j k Q H h q => by
  simp only [augD] at h
  split at h
  · rename_i hz
    exact ⟨i, j, rfl, rfl, hz, by cases h; exact q⟩
  · cases h
omit [kf : KF] in
theorem aug_div : AugOk .FloorDiv (rI CDivW fun i j => .int (i / j)) := fun i j k Q H h q => by
  simp only [augD] at h
  split at h
  · rename_i hz
    exact ⟨i, j, rfl, rfl, hz, by cases h; exact q⟩
  · cases h
omit [kf : KF] in
theorem augD_ex {op : Operator} {i j : Int} {e : Exn} : augD op i j ≠ .ex e := by
  intro h; unfold augD at h; split at h <;> first | cases h | (split at h <;> cases h)
omit [kf : KF] in
theorem post_aug {α : Type} {op : Operator} {i j : Int} {f : Int → Ou α} {P : α → Prop} {E : Exn → Prop} (h : (augD op i j).post (fun d => (f d).post P E) E) : ∃ k, augD op i j = .ok k ∧ (f k).post P E := by
  cases q : augD op i j with
  | ok d => rw [q] at h; exact ⟨d, rfl, h⟩
  | ex e => exact absurd q augD_ex
  | no => rw [q] at h; exact h.elim
theorem dst_aug {op : Operator} {r : TIp} (hN : X.N.Nodup) (ho : PIp X op r) (ok : AugOk op r) (he : DB X (wE E) e ir) (hi : X.N[i]? = some x := by rfl) (hx : Loc X.env.scope x := by first | exact Or.inl rfl | exact Or.inr rfl)
    (hf : X.fn x = true ∨ X.env.scope.names.lookup x = some .local := by first | exact .inl rfl | exact .inr rfl) : DSt X E n (.AugAssign (.Name x pos') op e pos) (.aug i op ir) := (ps_aug hN hi hx he ho hf).imp fun D σ H ⟨t, S, eH, R, h⟩ => by
  subst eH
  simp only [exec, post_bind] at h
  obtain ⟨d0, q0, h⟩ := post_rd (f := fun d => intOf d >>= fun x => evalB ir S.en >>= fun p => intOf p.1 >>= fun y => augD op x y >>= fun r => putE p.2 i (.fr (.int r)) >>= fun e2 => Ou.ok (Fl.nx e2)) (by simp only [post_bind]; exact h)
  simp only [post_bind] at h
  obtain ⟨v0, hv0, sv⟩ := R.borrow q0
  obtain ⟨z, hz, h⟩ := post_int (f := fun x => evalB ir S.en >>= fun p => intOf p.1 >>= fun y => augD op x y >>= fun r => putE p.2 i (.fr (.int r)) >>= fun e2 => Ou.ok (Fl.nx e2)) (by simp only [post_bind]; exact h)
  simp only [post_bind] at h
  subst hz
  refine ⟨v0, hv0, t, S, rfl, R, post_imp h fun p hp k v S1 e1 P1 => ?_⟩
  have e1 : S1.en = p.2 := e1
  obtain ⟨y, hy, k⟩ := post_int (f := fun y => augD op z y >>= fun r => putE p.2 i (.fr (.int r)) >>= fun e2 => Ou.ok (Fl.nx e2)) (by simp only [post_bind]; exact k)
  simp only [post_bind] at k
  have hv := P1.val
  rw [hy] at hv
  rw [sv.int, hv.int]
  obtain ⟨r', hr, k⟩ := post_aug (f := fun r => putE p.2 i (.fr (.int r)) >>= fun e2 => Ou.ok (Fl.nx e2)) (by simp only [post_bind]; exact k)
  simp only [post_bind] at k
  obtain ⟨en', hq, k⟩ := post_put (f := fun e2 => Ou.ok (Fl.nx e2)) k
  refine ok _ _ _ _ _ hr ?_
  obtain ⟨S2, a, b, R2, eF⟩ := P1.rel.put (v := .int r') (r := .fr (.int r')) (i := i) (en' := en') (Rp.int _) (by rw [e1]; exact hq)
  rw [← a]
  exact k _ S2 b R2 (by rw [eF]; exact P1.le.le)
end
end VS

/-! Methods that change lists, loops, defs. -/
namespace VS
open PySem PySem.Spec PyProof.Rows L2
variable [kf : KF]
section
variable {X : Cx} {E : XK} {n : Nat} {st : Stmt} {rest : List Stmt} {sx : Sx} {sr : Sxs} {e ea eb ec eo tg iter : Expr} {es : List Expr} {ir ia ib ic ix : Ex} {is : Exs} {pos pos' p1 p2 apos cpos : Pos} {x : Str} {i : Nat}
/-- xs.append(e), as a statement -/
theorem dst_app (hv : PE X eo (tVar i)) (he : DF X (wE E) e ir) (hbase : attributeBase eo "append" X.env (eval eo X.env) = eval eo X.env := by rfl)
    (hfew : ((backTo cpos (starEach [e] X.env)).all (fun x => !x.1) && (backToKw cpos (keywordEach [] X.env)).all (fun x => x.1.isSome)
      && decide ([e].length + ([] : List Keyword).length + (if ([] : List Keyword).isEmpty then 0 else 1) < 30)) = true := by rfl)
    (hline : (apos.endLine == cpos.line) = true := by rfl) (hs : starEach [e] X.env = (false, eval e X.env) :: starEach [] X.env := by rfl)
    (hsw : swapsWith (.Call (.Attribute eo "append" apos) [e] [] cpos) none pos.line X.env = pure false := by rfl) : DSt X E n (.Expr (.Call (.Attribute eo "append" apos) [e] [] cpos) pos) (.app i ir) :=
  (ps_expr (pe_bm PySem.F.plainAttrs_list PySem.F.slot_list_append PySem.F.type_list_append mt_append hv (pa_cons he pa_nil hs) hbase hfew hline hs rfl) hsw).imp fun D σ H ⟨t, S, eH, R, h⟩ => by
    subst eH
    simp only [exec, post_bind] at h
    obtain ⟨d0, q0, h⟩ := post_rdL (f := fun _ => evalE ir S.en >>= fun p => updE p.2 i (fun ds => if ds.length < SZ then .ok (ds ++ [toD p.1]) else .no) >>= fun e2 => Ou.ok (Fl.nx e2)) (by simp only [post_bind]; exact h)
    simp only [post_bind] at h
    obtain ⟨hv0, xs0, hx0, _⟩ := R.lst q0
    refine ⟨_, hv0, .inl ⟨rfl, _, SqL.of hx0⟩, t, S, rfl, R, ?_⟩
    unfold evF
    rw [post_bind]
    refine post_imp h fun p hp k v S1 e1 P1 => ?_
    have e1 : S1.en = p.2 := e1
    obtain ⟨en', hu, k⟩ := post_upd (fun ds e z => by split at z <;> cases z) k
    obtain ⟨ds, ds', xs, hf, h1, h2, h3, h4⟩ := P1.rel.updL (i := i) (en' := en') (by rw [e1]; exact hu)
    split at hf
    case isFalse => cases hf
    rename_i hz
    have e := Ou.ok.inj hf
    subst e
    have ea : S.ad i = S1.ad i := by rw [hv0] at h1; simpa using h1
    rw [ea]
    obtain ⟨S', a, b, R', l'⟩ := h4 (xs ++ [v]) (h3.append (.cons P1.val .nil))
    refine ⟨S1.ad i, xs, v, rfl, rfl, h2, by rw [h3.length, ← SZ_eq]; exact hz, ?_⟩
    show D.nx σ _
    rw [← a]
    exact k σ S' b R' (P1.le.trans l').le
/-- xs.extend(e) -/
theorem dst_ext (hv : PE X eo (tVar i)) (he : DF X (wE E) e ir) (hbase : attributeBase eo "extend" X.env (eval eo X.env) = eval eo X.env := by rfl)
    (hfew : ((backTo cpos (starEach [e] X.env)).all (fun x => !x.1) && (backToKw cpos (keywordEach [] X.env)).all (fun x => x.1.isSome)
      && decide ([e].length + ([] : List Keyword).length + (if ([] : List Keyword).isEmpty then 0 else 1) < 30)) = true := by rfl)
    (hline : (apos.endLine == cpos.line) = true := by rfl) (hs : starEach [e] X.env = (false, eval e X.env) :: starEach [] X.env := by rfl)
    (hsw : swapsWith (.Call (.Attribute eo "extend" apos) [e] [] cpos) none pos.line X.env = pure false := by rfl) : DSt X E n (.Expr (.Call (.Attribute eo "extend" apos) [e] [] cpos) pos) (.ext i ir) :=
  (ps_expr (pe_bm PySem.F.plainAttrs_list PySem.F.slot_list_extend PySem.F.type_list_extend mt_extend hv (pa_cons he pa_nil hs) hbase hfew hline hs rfl) hsw).imp fun D σ H ⟨t, S, eH, R, h⟩ => by
    subst eH
    simp only [exec, post_bind] at h
    obtain ⟨d0, q0, h⟩ := post_rdL (f := fun _ => evalE ir S.en >>= fun p => match toD p.1 with
      | .list xs => updE p.2 i (fun ds => if ds.length + xs.length ≤ SZ then .ok (ds ++ xs) else .no) >>= fun e2 => Ou.ok (Fl.nx e2)
      | _ => .no) (by simp only [post_bind]; exact h)
    simp only [post_bind] at h
    obtain ⟨hv0, xs0, hx0, _⟩ := R.lst q0
    refine ⟨_, hv0, .inl ⟨rfl, _, SqL.of hx0⟩, t, S, rfl, R, ?_⟩
    unfold evF
    rw [post_bind]
    refine post_imp h fun p hp k v S1 e1 P1 => ?_
    have e1 : S1.en = p.2 := e1
    have hv : Rp S1.F v (toD p.1) := P1.val
    cases q : toD p.1 <;> rw [q] at k hv <;> (try exact k.elim)
    rename_i ys
    simp only [post_bind] at k
    obtain ⟨en', hu, k⟩ := post_upd (fun ds e z => by split at z <;> cases z) k
    obtain ⟨ds, ds', xs, hf, h1, h2, h3, h4⟩ := P1.rel.updL (i := i) (en' := en') (by rw [e1]; exact hu)
    split at hf
    case isFalse => cases hf
    rename_i hz
    have e := Ou.ok.inj hf
    subst e
    have ea : S.ad i = S1.ad i := by rw [hv0] at h1; simpa using h1
    rw [ea]
    cases hv with
    | lst hb rb =>
      rename_i b zs
      obtain ⟨S', a, b', R', l'⟩ := h4 (xs ++ zs) (h3.append rb)
      refine ⟨S1.ad i, b, xs, zs, rfl, rfl, h2, hid_le _ _ hb, by rw [h3.length, rb.length, ← SZ_eq]; exact hz, ?_⟩
      show D.nx σ _
      rw [← a]
      exact k σ S' b' R' (P1.le.trans l').le
omit [kf : KF] in
theorem map_erase {α β : Type} (f : α → β) : ∀ (l : List α) (j : Nat), (l.eraseIdx j).map f = (l.map f).eraseIdx j
  | [], j => by simp
  | a :: l, 0 => by simp
  | a :: l, j + 1 => by simp [map_erase f l j]
omit [kf : KF] in
theorem find_ints {ns : List Int} {k : Int} {j : Nat} (h : ns.findIdx? (· == k) = some j) : ns[j]? = some k ∧ ∀ m : Nat, m < j → ns[m]? ≠ some k := by
  rw [List.findIdx?_eq_some_iff_getElem] at h
  obtain ⟨hj, h1, h2⟩ := h
  refine ⟨?_, fun m hm e => ?_⟩
  · rw [List.getElem?_eq_getElem hj]
    simpa using h1
  · have := h2 m hm
    have lt : m < ns.length := by omega
    rw [List.getElem?_eq_getElem lt] at e
    have e := Option.some.inj e
    rw [e] at this
    simp at this
/-- xs.remove(e), ints -/
theorem dst_rem (hv : PE X eo (tVar i)) (he : DB X (wE E) e ir) (hbase : attributeBase eo "remove" X.env (eval eo X.env) = eval eo X.env := by rfl)
    (hfew : ((backTo cpos (starEach [e] X.env)).all (fun x => !x.1) && (backToKw cpos (keywordEach [] X.env)).all (fun x => x.1.isSome)
      && decide ([e].length + ([] : List Keyword).length + (if ([] : List Keyword).isEmpty then 0 else 1) < 30)) = true := by rfl)
    (hline : (apos.endLine == cpos.line) = true := by rfl) (hs : starEach [e] X.env = (false, eval e X.env) :: starEach [] X.env := by rfl)
    (hsw : swapsWith (.Call (.Attribute eo "remove" apos) [e] [] cpos) none pos.line X.env = pure false := by rfl) : DSt X E n (.Expr (.Call (.Attribute eo "remove" apos) [e] [] cpos) pos) (.rem i ir) :=
  (ps_expr (pe_bm PySem.F.plainAttrs_list PySem.F.slot_list_remove PySem.F.type_list_remove mt_remove hv (pa_cons he pa_nil hs) hbase hfew hline hs rfl) hsw).imp fun D σ H ⟨t, S, eH, R, h⟩ => by
    subst eH
    simp only [exec, post_bind] at h
    obtain ⟨d0, q0, h⟩ := post_rdL (f := fun _ => evalB ir S.en >>= fun p => updE p.2 i (remL p.1) >>= fun e2 => Ou.ok (Fl.nx e2)) (by simp only [post_bind]; exact h)
    simp only [post_bind] at h
    obtain ⟨hv0, xs0, hx0, _⟩ := R.lst q0
    refine ⟨_, hv0, .inl ⟨rfl, _, SqL.of hx0⟩, t, S, rfl, R, post_imp h fun p hp k v S1 e1 P1 => ?_⟩
    have e1 : S1.en = p.2 := e1
    obtain ⟨en', hu, k⟩ := post_upd (fun ds e z => by unfold remL at z; split at z <;> first | cases z | (split at z <;> cases z)) k
    obtain ⟨ds, ds', xs, hf, h1, h2, h3, h4⟩ := P1.rel.updL (i := i) (en' := en') (by rw [e1]; exact hu)
    have hv := P1.val
    unfold remL at hf
    split at hf
    case h_2 => cases hf
    rename_i z ns hd hns
    rw [hd] at hv
    split at hf
    case h_2 => cases hf
    rename_i j hj
    have e := Ou.ok.inj hf
    subst e
    have ea : S.ad i = S1.ad i := by rw [hv0] at h1; simpa using h1
    rw [ea, hv.int]
    have ex := h3.ints hns
    subst ex
    obtain ⟨f1, f2⟩ := find_ints hj
    obtain ⟨S', a, b, R', l'⟩ := h4 ((ns.map V.int).eraseIdx j) (h3.erase j)
    refine ⟨S1.ad i, ns, z, j, rfl, rfl, h2, f1, f2, ?_⟩
    have em : (ns.eraseIdx j).map V.int = (ns.map V.int).eraseIdx j := map_erase _ _ _
    show D.nx σ _
    rw [em, ← a]
    exact k σ S' b R' (P1.le.trans l').le
/-! ### loops -/
theorem dst_whl {body : List Stmt} {sb : Sxs} (hp : PassesOwn (model X.prog X.w) X.A X.env X.xe) (hc : DT X (wE E) ec ic) (hb : DSs X E n body sb) : DSt X E n (.While ec body [] pos) (.whl ic sb) := (ps_while hp hc hb).imp fun D σ H ⟨t, S, eH, R, h⟩ => by
  subst eH
  simp only [exec] at h
  refine ⟨fun m σ H => ∃ S', S'.H = H ∧ Rel t S' σ ∧ Same S.F S'.F ∧ (whlGo (evalB ic) (execs n sb) m S'.en).post (SF t S D) (RX X.mg E t), ⟨n, S, rfl, R, Same.refl _, h⟩, ?_⟩
  rintro m σ H ⟨S', rfl, R, s0, h⟩
  cases m with
  | zero => exact h.elim
  | succ m =>
    simp only [whlGo, post_bind] at h
    refine ⟨t, S', rfl, R, post_imp h fun p hp' k => ?_⟩
    obtain ⟨d, en⟩ := p
    cases d <;> (try exact k.elim)
    rename_i b
    refine ⟨b, rfl, fun S1 e1 R1 l1 => ?_⟩
    have e1 : S1.en = en := e1
    have s1 := s0.trans l1.le
    cases b with
    | false => exact iteF (k σ S1 e1 R1 s1)
    | true =>
      refine iteT ?_
      simp only [post_bind] at k
      refine ⟨fun σ H => ∃ S', S'.H = H ∧ Rel t S' σ ∧ Same S.F S'.F ∧ (whlGo (evalB ic) (execs n sb) m S'.en).post (SF t S D) (RX X.mg E t), fun σ' H' hN => ⟨m, Nat.lt_succ_self _, hN⟩, t, S1, rfl, R1, ?_⟩
      rw [e1]
      refine post_imp k fun f hf k' => ?_
      cases f with
      | nx en2 => exact fun σ' S2 e' R' s' => ⟨S2, rfl, R', s1.trans s', by rw [e']; exact k'⟩
      | ct en2 => exact fun σ' S2 e' R' s' => ⟨S2, rfl, R', s1.trans s', by rw [e']; exact k'⟩
      | bk en2 => exact fun σ' S2 e' R' s' => k' σ' S2 e' R' (s1.trans s')
      | rt r en2 => exact k'
theorem dst_for {body : List Stmt} {sb : Sxs} {src : Sr} {t : Tg} {g : TG} (hp : PassesOwn (model X.prog X.w) X.A X.env X.xe) (hc : X.calm = true) (hi : DS X (wE E) tg iter src) (hg : PG X tg g) (gok : GOk t g) (hb : DSs X E n body sb)
    (hs : ∀ x, foldedSetIterable iter X.env x = pure x := by intro _; rfl) : DSt X E n (.For tg iter body [] pos) (.forr t src sb) := (ps_for hp hc hi hg hb hs).imp fun D σ H ⟨te, S, eH, R, h⟩ => by
  subst eH
  simp only [exec, post_bind] at h
  refine ⟨te, S, rfl, R, post_imp h fun p hp' k J S1 e1 R1 l1 wk => ?_⟩
  obtain ⟨items, en1⟩ := p
  have e1 : S1.en = en1 := e1
  subst e1
  have wk : Walks S1.F J items := wk
  let I : Nat → L2.St → Hp → Prop := fun i σ H => ∃ S, S.H = H ∧ Rel te S σ ∧ Same S1.F S.F ∧ i ≤ items.length ∧ (forGo (execs n sb) t (items.drop i) S.en).post (SF te S1 D) (RX X.mg E te)
  refine ⟨fun i m σ H => I i σ H ∧ m = items.length - i, ⟨items.length, ⟨S1, rfl, R1, Same.refl _, Nat.zero_le _, by rw [List.drop_zero]; exact post_imp k fun f _ q => q.mono l1.le⟩, by omega⟩, ?_⟩
  rintro i m σ H ⟨⟨Sc, rfl, Rc, sF, hi', k⟩, em⟩
  by_cases hlast : i = items.length
  · subst hlast
    rw [List.drop_length] at k
    exact .inl ⟨wk.stop _ Sc.H Sc.O sF rfl, k σ Sc rfl Rc sF⟩
  · have hlt : i < items.length := by omega
    refine .inr ⟨wk.go i Sc.H Sc.O sF hlt, fun σ H => I (i + 1) σ H, fun σ' H' h' => ⟨items.length - (i + 1), by omega, h', rfl⟩, fun x H' hy => ?_⟩
    have hd : items[i]? = some items[i] := List.getElem?_eq_getElem hlt
    obtain ⟨sH, rx⟩ := wk.yld i Sc.H Sc.O x H' items[i] sF Rc.trk hd hy
    obtain ⟨Rg, lg⟩ := Rc.grow sH
    rw [List.drop_eq_getElem_cons hlt] at k
    simp only [forGo, post_bind] at k
    cases hb' : bindT t items[i] Sc.en with
    | no => rw [hb'] at k; exact k.elim
    | ex ee =>
      exfalso
      unfold bindT at hb'
      split at hb'
      · cases hb'
      · split at hb'
        · split at hb' <;> cases hb'
        · cases hb'
    | ok e3 =>
      rw [hb'] at k
      refine gok te { Sc with H := H' } σ x items[i] e3 _ Rg rx hb' fun σ' Rb lb _ => ?_
      have k : ((execs n sb) e3).post _ _ := k
      refine ⟨te, { Sc with H := H', en := e3 }, rfl, Rb, ?_⟩
      show ((execs n sb) e3).post _ _
      refine post_imp k fun f hf k' => ?_
      have sG : Same S1.F (hid H' Sc.O) := sF.trans lg.le
      cases f with
      | nx en2 => exact fun σ2 S2 e2 R2 s2 => ⟨S2, rfl, R2, sG.trans s2, by omega, by rw [e2]; exact k'⟩
      | ct en2 => exact fun σ2 S2 e2 R2 s2 => ⟨S2, rfl, R2, sG.trans s2, by omega, by rw [e2]; exact k'⟩
      | bk en2 => exact fun σ2 S2 e2 R2 s2 => k' σ2 S2 e2 R2 (sG.trans s2)
      | rt r en2 => exact k'
end
end VS

/-! xs.count(k), of a list, of a tuple. -/
namespace VS
open PySem PySem.Spec PyProof.Rows L2
variable [kf : KF]
def rCntT (K : PySem.W.Frag) : V → List V → Hp → VK → Prop := fun x xs H Q => ∃ (p : Addr) (ns : List Int) (k : Int), x = .ref p ∧ xs = [.int k] ∧ SqT K H p (ns.map V.int) ∧ Q (.int (ns.count k : Nat)) H
section
variable {X : Cx} {W : WX} {eo e : Expr} {apos cpos : Pos} {i j : Nat}
/-- the object of a method's call: its class is known, it has no dict of its own -/
def tyW (K : PySem.W.Frag) (T : String) (x : V) (H : Hp) : Prop := tyV K T x H ∨ (T = "tuple" ∧ ∃ a xs, x = .ref a ∧ TupAt H a xs)
theorem tyW_is {pins : List (Addr × Obj)} {σ : L2.St} {H : Hp} {s : Shared} {T : String} {x : V} {v : Value} (hk : X.K = kf.K) (I : Inv X pins σ H s) (r : RelV x v) (ty : tyW X.K T x H) :
    s.TypeIs v T ∧ ∀ a, v = .ref a → ∃ ob, s.heap.get? a = some ob ∧ ob.dict = none := by
  rcases ty with ty | ⟨rfl, a, xs, rfl, ha⟩
  · exact tyV_is I r ty
  · cases r
    obtain ⟨its, _, p, _⟩ := I.tuple (ha.sq hk)
    have p : s.heap.IsTuple a its.toArray := p
    refine ⟨p.typeIs, fun b e => ?_⟩
    cases e
    rcases ha with ⟨o, e, hd⟩ | ⟨o, its', n, e, _, hd, _⟩
    · have q := I.hok _ _ e
      exact ⟨o, q.1, hd⟩
    · rw [← hk] at e
      exact ⟨o, I.kIn _ o e, hd⟩
def tBW (K : PySem.W.Frag) (T : String) (r : V → List V → Hp → VK → Prop) (to : TE) (t : L2.TA) : TE := fun σ H Q => to σ H fun x H1 => tyW K T x H1 ∧ t σ H1 fun xs H2 => r x xs H2 Q
theorem pe_bw {o e : Expr} {es : List Expr} {to : TE} {t : L2.TA} {name : Str} {apos cpos : Pos} {T id : String} {r : V → List V → Hp → VK → Prop} (hk : X.K = kf.K) (pa : PlainAttrs T) (slot : Slot T name id) (hty : typeOf (.builtin id) = pure (.type "method_descriptor")) (hm : MtR X id r) (ho : PE X o to) (ha : PA X (e :: es) t)
    (hbase : attributeBase o name X.env (eval o X.env) = eval o X.env := by rfl)
    (hfew : ((backTo cpos (starEach (e :: es) X.env)).all (fun x => !x.1) && (backToKw cpos (keywordEach [] X.env)).all (fun x => x.1.isSome)
      && decide ((e :: es).length + ([] : List Keyword).length + (if ([] : List Keyword).isEmpty then 0 else 1) < 30)) = true := by rfl)
    (hline : (apos.endLine == cpos.line) = true := by rfl) (hs : starEach (e :: es) X.env = (false, eval e X.env) :: starEach es X.env := by rfl) (hplain : (backTo cpos (starEach es X.env)).any (·.1) = false := by rfl) :
    PE X (.Call (.Attribute o name apos) (e :: es) [] cpos) (tBW X.K T r to t) := by
  refine ⟨fun pins s σ H Q I h => ?_⟩
  refine wpAny_Call_method_late hbase hfew hline rfl (thn (ho.run pins s σ H _ I h) fun v s1 ⟨x, H1, I1, r1, ty, q1⟩ => ?_)
  obtain ⟨h1, h2⟩ := tyW_is hk I1 r1 ty
  refine ⟨T, id, pa, slot, hty, h1, h2, ?_⟩
  have hA := ha.run cpos pins s1 σ H1 _ I1 q1
  rw [hs] at hA ⊢
  refine Calls.callWith_builtin (by show (false || (backTo cpos (starEach es X.env)).any (·.1)) = false; rw [hplain] <;> rfl) (Calls.evalArgs_plain ?_)
  exact thn hA fun us s2 ⟨vs, H2, I2, r2, q2⟩ => hm pins s2 σ H2 x vs v us Q I2 r1 r2 q2
omit [kf : KF] in
theorem mt_tcount : MtR X "tuple.count" (rCntT X.K) := by
  intro pins s σ H x xs v us Q I rx rxs h
  obtain ⟨p, ns, k, rfl, rfl, hs, q⟩ := h
  cases rx
  obtain ⟨u, rfl, ru⟩ := rxs.one
  obtain ⟨t, rfl⟩ := ru
  obtain ⟨its, rv, ⟨⟨cls, dd, data, sl⟩, ho, hc, n, hd⟩, hlen⟩ := I.tuple hs
  simp only at hc hd
  subst hc hd
  have hi := ints_of_vals rv
  have ec : its.toArray.toList.countP (eqk k) = ns.count k := eqk_count hi
  refine call_meets PySem.F.slot_tuple_count ⟨_, ho, rfl⟩ PySem.F.entry_tuple_count (PySem.F.args_tuple_count_2 _ _)
    (SeqAt.tuple_countAt p its.toArray n dd sl (.int k t) (eqk k)) ⟨ho, fun y hy => (eqk_gives hi y (by simpa using hy)).at _ _, ?_⟩
  rw [ec]
  exact ⟨.int (ns.count k : Nat), H, I.tok _, ⟨s.toks, rfl⟩, q⟩
theorem cnt_post {b : Bi} {σ : L2.St} {H : Hp} {Q : VK} (h : tEE X.mg W (.bi2 b (.var i) (.var j)) σ H Q) : ∃ t S d0 dj r, S.H = H ∧ Rel t S σ ∧ rdE S.en i = .ok d0 ∧ rdE S.en j = .ok dj ∧ biD b [d0, dj] = .ok r ∧ ∀ v S', S'.en = S.en → EPost t S S' σ v r → Q v S'.H := by
  obtain ⟨t, S, eH, R, h⟩ := h
  simp only [evalE, two, brw, asVar] at h
  cases q0 : rdE S.en i with
  | no => rw [q0] at h; exact h.elim
  | ex e => exact absurd q0 rdE_ex
  | ok d0 =>
    rw [q0] at h
    cases q1 : rdE S.en j with
    | no => rw [q1] at h; exact h.elim
    | ex e => exact absurd q1 rdE_ex
    | ok dj =>
      rw [q1] at h
      simp only [ok_bind, q0] at h
      cases q2 : biD b [d0, dj] with
      | no => rw [q2] at h; exact h.elim
      | ex e => exact absurd q2 (biD_ex _ _)
      | ok r =>
        rw [q2] at h
        exact ⟨t, S, d0, dj, r, eH, R, q0, q1, q2, h⟩
omit [kf : KF] in
theorem pe_or {e : Expr} {t u : TE} (h : PE X e t) (k : PE X e u) : PE X e (fun σ H Q => t σ H Q ∨ u σ H Q) := ⟨fun pins s σ H Q I q => by
  rcases q with q | q
  · exact h.run pins s σ H Q I q
  · exact k.run pins s σ H Q I q⟩
theorem de_cnt (hv : PE X eo (tVar i)) (he : PE X e (tVar j)) (hbase : attributeBase eo "count" X.env (eval eo X.env) = eval eo X.env := by rfl)
    (hfew : ((backTo cpos (starEach [e] X.env)).all (fun x => !x.1) && (backToKw cpos (keywordEach [] X.env)).all (fun x => x.1.isSome)
      && decide ([e].length + ([] : List Keyword).length + (if ([] : List Keyword).isEmpty then 0 else 1) < 30)) = true := by rfl)
    (hline : (apos.endLine == cpos.line) = true := by rfl) (hs : starEach [e] X.env = (false, eval e X.env) :: starEach [] X.env := by rfl) (hk : X.K = kf.K := by rfl) :
    DE X W (.Call (.Attribute eo "count" apos) [e] [] cpos) (.bi2 .count (.var i) (.var j)) :=
  (pe_or (pe_bm PySem.F.plainAttrs_list PySem.F.slot_list_count PySem.F.type_list_count mt_lcount hv (pa_cons he pa_nil hs) hbase hfew hline hs rfl) (pe_bw hk PySem.F.plainAttrs_tuple PySem.F.slot_tuple_count PySem.F.type_tuple_count mt_tcount hv (pa_cons he pa_nil hs) hbase hfew hline hs rfl)).imp fun σ H Q h => by
    obtain ⟨t, S, d0, dj, r, eH, R, q0, q1, q2, k⟩ := cnt_post h
    subst eH
    obtain ⟨v0, g0, s0⟩ := R.borrow q0
    obtain ⟨v1, g1, s1⟩ := R.borrow q1
    simp only [biD] at q2
    split at q2
    · rename_i xs z e
      injection e with e1 e2
      injection e2 with e2 _
      subst e1 e2
      split at q2
      · rename_i ns hz
        have e := Ou.ok.inj q2
        subst e
        obtain ⟨a, us, rfl, h1, h2⟩ := s0
        have u := h2.ints hz
        subst u
        have ez := s1.int
        subst ez
        exact .inl ⟨_, g0, .inl ⟨rfl, _, .of h1⟩, _, g1, a, ns, z, rfl, rfl, .of h1, ans_int R k⟩
      · cases q2
    · rename_i xs z e
      injection e with e1 e2
      injection e2 with e2 _
      subst e1 e2
      split at q2
      · rename_i ns hz
        have e := Ou.ok.inj q2
        subst e
        obtain ⟨a, us, rfl, h1, h2, _⟩ := s0.tup
        have u := h2.ints hz
        subst u
        have ez := s1.int
        subst ez
        exact .inr ⟨_, g0, .inr ⟨rfl, a, _, rfl, h1⟩, _, g1, a, ns, z, rfl, rfl, h1.sq hk, ans_int R k⟩
      · cases q2
    · cases q2
end
end VS

/-! list(range(n)), divmod, xs.index(k, lo), xs[::-1], chains. -/
namespace VS
open PySem PySem.Spec PyProof.Rows L2 HT
variable [kf : KF]
section
variable {X : Cx} {W : WX} {e ea eb ec : Expr} {es : List Expr} {ir ia ib ic : Ex} {is : Exs} {pos p : Pos} {k n : Nat} {x : Str}
/-! ### list(range(n)) -/
theorem rgV_rp (H : Hp) : ∀ (n : Nat) (lo : Int), RpA H ((List.range n).map fun (i : Nat) => V.int (lo + (i : Nat))) (rngD lo n)
  | 0, _ => .nil
  | n + 1, lo => by
    rw [List.range_succ_eq_map, List.map_cons, List.map_map]
    show RpA H (V.int (lo + ((0 : Nat) : Int)) :: _) (.int lo :: rngD (lo + 1) n)
    have e : lo + ((0 : Nat) : Int) = lo := by omega
    rw [e]
    refine .cons (.int lo) ?_
    have := rgV_rp H n (lo + 1)
    have e2 : ((fun (i : Nat) => V.int (lo + (i : Nat))) ∘ Nat.succ) = fun (i : Nat) => V.int (lo + 1 + (i : Nat)) := by
      funext i
      simp only [Function.comp]
      congr 1
      have : ((i.succ : Nat) : Int) = (i : Int) + 1 := by omega
      omega
    rw [e2]
    exact this
theorem de_lrng {p2 pos2 : Pos} (hc : X.calm = true) (hml : X.mg "list" = none) (hmr : X.mg "range" = none) (ha : DB X W ea ia) (hg : Gl X "list" := by rfl) (hg2 : Gl X "range" := by rfl)
    (na : starEach [ea] X.env = (false, eval ea X.env) :: starEach [] X.env := by rfl) (na2 : starEach [.Call (.Name "range" p2) [ea] [] pos2] X.env = (false, eval (.Call (.Name "range" p2) [ea] [] pos2) X.env) :: starEach [] X.env := by rfl) :
    DE X W (.Call (.Name "list" p) [.Call (.Name "range" p2) [ea] [] pos2] [] pos) (.lrng ia) :=
  (pe_listRg hc hg hml (prg_1 hg2 hmr ha na) na2).imp fun σ H Q h => by
    refine (fun z => z : _ → tLstRg (tRg1 (tEB X.mg W ia)) σ H Q) ?_
    refine one_post (X := X) (W := W) (ia := ia) (g := fun x => match x with | .int i => if -(2 ^ 62) ≤ i ∧ i ≤ 2 ^ 24 then .ok (.own (rngD 0 i.toNat)) else .no | _ => .no) (r := fun x H1 Q => ∃ n, x = .int n ∧ RgOk 0 n ∧ ∀ q, H1 q = none → Q (.ref q) (upd H1 q (.lst (rgV 0 n)))) (ev := evalE (.lrng ia)) ?_ ?_ ?_ h
    · funext en
      simp only [evalE]
      congr 1
      funext p
      obtain ⟨x, e1⟩ := p
      cases x <;> simp only [no_bind]
      split <;> simp only [ok_bind, no_bind]
    · intro t S σ x dx rr Q R hx z k
      cases dx <;> simp only [reduceCtorEq] at z
      rename_i i
      split at z
      · rename_i hz
        have e := Ou.ok.inj z
        subst e
        refine ⟨i, hx.int, ⟨by omega, by omega, hz.1, by omega, by omega⟩, fun q hq => ?_⟩
        refine ans_own R hq ?_ k
        have := rgV_rp S.F i.toNat 0
        unfold rgV
        simp only [Int.sub_zero]
        exact this
      · cases z
    · intro dx e z
      cases dx <;> first | (cases z; done) | (simp only at z; split at z <;> cases z)
/-! ### divmod -/
def rDvm : List V → Hp → VK → Prop := fun xs H Q => ∃ i j, xs = [.int i, .int j] ∧ (0 < j ∧ j < 2 ^ 30) ∧ NewT H [.int (i / j), .int (i % j)] Q
omit [kf : KF] in
theorem cr_dvm : CallR X (.builtin "divmod") rDvm := by
  intro pins s σ H xs us Q I r h
  obtain ⟨i, j, rfl, ⟨h1, h2⟩, q⟩ := h
  obtain ⟨u, w', rfl, ⟨t, rfl⟩, ⟨t', rfl⟩⟩ := vals2 r
  refine divmod_int (by omega) ?_ (.inl (PyProof.noPylong_small (by omega)))
  rw [Int.fdiv_eq_ediv_of_nonneg i (by omega), Int.fmod_eq_emod_of_nonneg i (by omega)]
  refine ⟨.ref s.heap.objs.size, _, laidF (t' := s.toks + 1 + 1) (its := [.int (i / j) s.toks, .int (i % j) (s.toks + 1)]) (xs := [.int (i / j), .int (i % j)]) I (fun b ob e => Heap.get?_push_of_some _ e) (Nat.le_refl _) (by simp only [List.length_cons, List.length_nil]; rw [sizeLine_eq]; decide) (.cons ⟨_, rfl⟩ (.cons ⟨_, rfl⟩ .nil)) (Heap.get?_push_size s.heap rfl), rfl, q _ _ (I.hok.fresh (Nat.le_refl _)) rfl⟩
theorem hop_dvm : HopJ .dvm rDvm := by
  intro t S σ x y dx dy rr Q R hx hy z k
  cases dx <;> cases dy <;> simp only [biD, reduceCtorEq] at z
  rename_i i j
  by_cases hz : 0 < j ∧ j < 2 ^ 30
  · rw [if_pos hz] at z
    have e := Ou.ok.inj z
    subst e
    exact ⟨i, j, by rw [hx.int, hy.int], hz, ans_tup R (.cons (.int _) (.cons (.int _) .nil)) k⟩
  · rw [if_neg hz] at z
    cases z
theorem de_dvm (hm : X.mg "divmod" = none) (ha : DL X W ea ia) (hb : DB X W eb ib) (hg : Gl X "divmod" := by rfl) (he : starEach [ea, eb] X.env = (false, eval ea X.env) :: starEach [eb] X.env := by rfl) (he2 : starEach [eb] X.env = (false, eval eb X.env) :: starEach [] X.env := by rfl) (hpl : (backTo pos (starEach [eb] X.env)).any (·.1) = false := by rfl) : DE X W (.Call (.Name "divmod" p) [ea, eb] [] pos) (.bi2 .dvm ia ib) :=
  de_biB2 cr_dvm hop_dvm hm (by decide +kernel) ha hb hg (by decide) (by decide) he he2 hpl
/-! ### xs.index(k, lo) -/
omit [kf : KF] in
theorem list_indexFrom (l : Addr) (items : Array Value) (n : Nat) (dd : Option Addr) (sl : Array (Option Value)) (x : Value) (e : Value → Bool) (i j : Nat) (ti : Tok) (hij : i ≤ j) (hj : j < items.size) (hsmall : (j : Int) < 2 ^ 63 - 1)
    (hit : e items[j] = true) (hno : ∀ m (hm : m < items.size), i ≤ m → m < j → e items[m] = false) :
    Meets (Builtin.«list.index» ⟨[.ref l, x, .int (i : Nat) ti], []⟩)
      (fun A R s => s.heap.get? l = some { cls := .type "list", dict := dd, data := .seq items n, slots := sl } ∧ (∀ y, y ∈ items → PySem.SeqAt.EqAt A.in1 s y x (e y)) ∧ R (.ok (.ret (.int j s.toks))) { s with toks := s.toks + 1 }) := by
  intro prog w A R s h
  obtain ⟨hp, g, d, tk, os⟩ := s; obtain ⟨hl, he, h⟩ := h
  wp_walk using SeqAt.wpAny_loadPart' hl
  have a1 : ((fun z : Int => if z < 0 then max 0 (z + (items.size : Int)) else z) ((some ((i : Nat) : Int) : Option Int).getD 0)) = ((i : Nat) : Int) := by
    show (if ((i : Nat) : Int) < 0 then _ else _) = _
    rw [if_neg (by show ¬ ((i : Nat) : Int) < 0; omega)]
    rfl
  have a2 : ((fun i : Int => if i < 0 then max 0 (i + (items.size : Int)) else i) ((none : Option Int).getD (2 ^ 63 - 1))) = 2 ^ 63 - 1 := by simp
  rw [a1, a2]
  exact ⟨PySem.plainId_quiet PySem.MeetsSeq.plain_index_loop _, codeAny_builtin PySem.MeetsSeq.entry_index_loop (by
    rw [Around.under_plainId PySem.MeetsSeq.plain_index_loop _]
    exact SeqAt.index_loopAt l items n dd sl x e (2 ^ 63 - 1) j hj hsmall hit _ i rfl hij (fun m hm h1 h2 => hno m hm h1 h2) prog w A R _ ⟨hl, he, h⟩)⟩
def rIdx2 (K : PySem.W.Frag) : V → List V → Hp → VK → Prop := fun x xs H Q => ∃ (a : Addr) (ns : List Int) (k : Int) (i j : Nat), x = V.ref a ∧ xs = [.int k, .int (i : Nat)] ∧ SqL K H a (ns.map V.int) ∧ i ≤ j ∧ ns[j]? = some k ∧ (∀ m : Nat, i ≤ m → m < j → ns[m]? ≠ some k) ∧ Q (.int (j : Nat)) H
omit [kf : KF] in
theorem mt_idx2 : MtR X "list.index" (rIdx2 X.K) := by
  intro pins s σ H x xs v us Q I rx rxs h
  obtain ⟨a, ns, k, i, j, rfl, rfl, hs, hij, hz, hno, q⟩ := h
  cases rx
  cases rxs with
  | cons ry rt =>
    cases rt with
    | cons rz rt =>
      cases rt
      obtain ⟨t, rfl⟩ := ry
      obtain ⟨t2, rfl⟩ := rz
      obtain ⟨its, rv, ⟨⟨cls, dd, data, sl⟩, n, ho, hc, hdn, hd⟩, hlen⟩ := I.list hs
      simp only at hc hd
      subst hc hd
      have hi := rv.ints
      have hsl := sizeLine_eq
      have hl := hi.length
      have hjn : j < ns.length := lt_of_some hz
      have hj : j < its.length := by omega
      rw [List.length_map] at hlen
      refine call_meets PySem.F.slot_list_index ⟨_, ho, rfl⟩ PySem.F.entry_list_index (PySem.F.args_list_index_3 _ _ _)
        (list_indexFrom a its.toArray n dd sl (.int k t) (isInt k) i j t2 hij (by simpa using hj) (by omega) ?_ ?_) ⟨ho, fun y hy => (eq_isInt k t hi y (by simpa using hy)).at _ _, ⟨.int (j : Nat), H, I.tok _, ⟨s.toks, rfl⟩, q⟩⟩
      · show isInt k its[j] = true
        rw [isInt_at k hi j hj hjn]
        have : ns[j] = k := by
          rw [List.getElem?_eq_getElem hjn] at hz
          exact Option.some.inj hz
        rw [this]
        exact beq_self_eq_true k
      · intro m hm h1 h2
        have hm' : m < its.length := by simpa using hm
        show isInt k its[m] = false
        rw [isInt_at k hi m hm' (by omega)]
        refine beq_eq_false_iff_ne.mpr fun e => hno m h1 h2 ?_
        rw [List.getElem?_eq_getElem (by omega), e]
omit [kf : KF] in
theorem lstD_ex {d : D} {e : Exn} : lstD d ≠ .ex e := by
  cases d <;> simp [lstD]
omit [kf : KF] in
theorem findD_ex {o x y : D} {e : Exn} : findD o x y ≠ .ex e := by
  intro h
  unfold findD at h
  split at h
  · split at h
    · split at h
      · split at h <;> cases h
      · cases h
    · cases h
  · cases h
omit [kf : KF] in
theorem find_drop {ns : List Int} {k : Int} {i j : Nat} (h : (ns.drop i).findIdx? (· == k) = some j) : ns[i + j]? = some k ∧ ∀ m : Nat, i ≤ m → m < i + j → ns[m]? ≠ some k := by
  obtain ⟨h1, h2⟩ := find_ints h
  rw [List.getElem?_drop] at h1
  refine ⟨h1, fun m a b e => h2 (m - i) (by omega) ?_⟩
  rw [List.getElem?_drop]
  have : i + (m - i) = m := by omega
  rw [this]
  exact e
theorem de_idx3 {eo : Expr} {apos cpos : Pos} {i : Nat} (hv : PE X eo (tVar i)) (ha : DB X W ea ia) (hb : DB X W eb ib) (hbase : attributeBase eo "index" X.env (eval eo X.env) = eval eo X.env := by rfl)
    (hfew : ((backTo cpos (starEach [ea, eb] X.env)).all (fun x => !x.1) && (backToKw cpos (keywordEach [] X.env)).all (fun x => x.1.isSome)
      && decide ([ea, eb].length + ([] : List Keyword).length + (if ([] : List Keyword).isEmpty then 0 else 1) < 30)) = true := by rfl)
    (hline : (apos.endLine == cpos.line) = true := by rfl) (hs : starEach [ea, eb] X.env = (false, eval ea X.env) :: starEach [eb] X.env := by rfl) (hs2 : starEach [eb] X.env = (false, eval eb X.env) :: starEach [] X.env := by rfl)
    (hpl : (backTo cpos (starEach [eb] X.env)).any (·.1) = false := by rfl) :
    DE X W (.Call (.Attribute eo "index" apos) [ea, eb] [] cpos) (.idx3 i ia ib) :=
  (pe_bm PySem.F.plainAttrs_list PySem.F.slot_list_index PySem.F.type_list_index mt_idx2 hv (pa_cons ha (pa_cons hb pa_nil hs2) hs) hbase hfew hline hs hpl).imp fun σ H Q ⟨t, S, eH, R, h⟩ => by
    subst eH
    simp only [evalE, post_bind] at h
    obtain ⟨d0, q0, h⟩ := post_rd h
    obtain ⟨v, hv1, hb1⟩ := R.borrow q0
    cases d0 <;> (try exact h.elim)
    rename_i xs0
    obtain ⟨a, us, rfl, ha1, ra1⟩ := hb1
    refine ⟨_, hv1, .inl ⟨rfl, _, .of ha1⟩, t, S, rfl, R, ?_⟩
    refine post_imp h fun p hp k1 x S1 e1 P1 => ⟨t, S1, rfl, P1.rel, ?_⟩
    rw [show S1.en = p.2 from e1]
    refine post_imp k1 fun q hq k2 y S2 e2 P2 => ?_
    have e2 : S2.en = q.2 := e2
    obtain ⟨d2, q2, k3⟩ := post_rd k2
    cases z : findD d2 p.1 q.1 with
    | ex e => exact absurd z findD_ex
    | no => rw [z] at k3; exact k3.elim
    | ok r =>
      rw [z] at k3
      obtain ⟨v', hv2, hb2⟩ := P2.rel.borrow (i := i) (d := d2) (by rw [e2]; exact q2)
      have ev : v' = .ref a := by rw [hv1] at hv2; simpa using hv2.symm
      subst ev
      have hx := P1.val
      have hy := P2.val
      cases d2 <;> (try (cases z; done))
      rename_i xs
      cases e3 : p.1 <;> rw [e3] at z <;> (try (cases z; done))
      rename_i k
      cases e4 : q.1 <;> rw [e4] at z <;> (try (cases z; done))
      rename_i lo
      rw [e3] at hx
      rw [e4] at hy
      have hx := hx.int
      have hy := hy.int
      subst hx hy
      simp only [findD] at z
      cases hns : intsD xs with
      | none => rw [hns] at z; cases z
      | some ns =>
        rw [hns] at z
        simp only at z
        split at z
        · rename_i hz
          cases hj : (ns.drop lo.toNat).findIdx? (· == k) with
          | none => rw [hj] at z; cases z
          | some j =>
            rw [hj] at z
            have e := Ou.ok.inj z
            subst e
            obtain ⟨b, us2, eb, hb3, rb3⟩ := hb2
            injection eb with eb
            subst eb
            have u := rb3.ints hns
            subst u
            obtain ⟨f1, f2⟩ := find_drop hj
            have elo : V.int lo = V.int ((lo.toNat : Nat) : Int) := by congr 1; omega
            rw [elo]
            exact ⟨a, ns, k, lo.toNat, lo.toNat + j, rfl, rfl, .of hb3, Nat.le_add_right _ _, f1, f2, ans_int P2.rel fun v S' e' P => k3 v S' (e'.trans e2) (P.trans (P1.le.trans P2.le))⟩
        · cases z
/-! ### xs[::-1] -/
omit [kf : KF] in
theorem sliceApplied_rev {prog : Program} {w : World} {A : Around} {E : Value → Shared → Prop} {s : Shared} {sl : Addr} {vs : Value} {n : Nat} {Q : Int × Int × Nat → Shared → Prop} (hs : s.heap.IsSliceOf sl .none .none vs) (ps : IsPart vs (some (-1)))
    (h : Q (((n : Int) - 1), -1, n) s) : wpAny (model prog w) A (Builtin.Slice.sliceApplied (.ref sl) (pure (n : Int))) Q E s := by
  obtain ⟨os, hos, hcs, hds⟩ := id hs
  unfold Builtin.Slice.sliceApplied Builtin.Slice.sliceFields
  refine wpAny_bind (wpAny_bind (wpAny_field hos hds (x := .none) rfl (wpAny_bind (wpAny_field hos hds (x := .none) rfl (wpAny_bind (wpAny_field hos hds (x := vs) rfl (wpAny_pure ?_)))))))
  refine wpAny_bind (slicePart_ ps ?_)
  show wpAny _ _ (if ((-1 : Int) == 0) = true then _ else _) _ _ s
  rw [if_neg (by decide)]
  refine wpAny_bind (slicePart_ .none (wpAny_bind (slicePart_ .none (wpAny_bind (wpAny_pure ?_)))))
  show wpAny _ _ (match Builtin.Slice.sliceAdjust none none (-1) (n : Int) with | (lo, hi) => pure (lo, (-1 : Int), Builtin.Slice.slicePlaces lo hi (-1))) _ _ s
  have e1 : Builtin.Slice.sliceAdjust none none (-1) (n : Int) = ((n : Int) - 1, -1) := rfl
  rw [e1]
  show wpAny _ _ (pure (((n : Int) - 1), (-1 : Int), Builtin.Slice.slicePlaces ((n : Int) - 1) (-1) (-1))) _ _ s
  have e2 : Builtin.Slice.slicePlaces ((n : Int) - 1) (-1) (-1) = n := by
    unfold Builtin.Slice.slicePlaces
    have h1 : ¬ ((-1 : Int) > 0) := by omega
    simp only [h1, if_false]
    split <;> simp <;> omega
  rw [e2]
  exact wpAny_pure h
omit [kf : KF] in
theorem pick_rev (xs : Array Value) : ((List.range xs.size).filterMap fun (k : Nat) => xs[(((xs.size : Nat) : Int) - 1 + (k : Int) * -1).toNat]?).toArray = xs.toList.reverse.toArray := by
  have e : ((List.range xs.size).filterMap fun (k : Nat) => xs[(((xs.size : Nat) : Int) - 1 + (k : Int) * -1).toNat]?) = ((List.range xs.size).map fun k => xs.size - 1 - k).filterMap (xs[·]?) := by
    rw [List.filterMap_map]
    congr 1
    funext k
    simp only [Function.comp]
    have : ((((xs.size : Nat) : Int) - 1 + (k : Int) * -1).toNat) = xs.size - 1 - k := by omega
    rw [this]
  rw [e, PySem.W.krv_range, List.filterMap_reverse, PySem.W.krv_all]
omit [kf : KF] in
theorem getItem_tuple_rev {prog : Program} {w : World} {A : Around} {E : Value → Shared → Prop} {s : Shared} {t sl : Addr} {items : Array Value} {vs : Value} {Q : Value → Shared → Prop} (ht : IsTup s.heap t items) (hs : s.heap.IsSliceOf sl .none .none vs) (ps : IsPart vs (some (-1)))
    (h : Q (.ref s.heap.objs.size) { s with heap := s.heap.push { cls := .type "tuple", data := .seq items.toList.reverse.toArray } })
    (hsz : items.size ≤ sizeLine) : wpAny (model prog w) A (getItem (.ref t) (.ref sl)) Q E s := by
  have htake : sizeOk (.seq items.toList.reverse.toArray) := by
    show items.toList.reverse.toArray.size ≤ sizeLine
    rw [List.size_toArray, List.length_reverse, Array.length_toList]
    omega
  obtain ⟨os, hos, hcs, hds⟩ := id hs
  have hTs : s.TypeIs (.ref sl) "slice" := ⟨os, hos, hcs⟩
  unfold getItem
  try with_reducible refine wpAny_holding ?_
  first | refine wpAny_bind (wpAny_pure ?_) | skip
  refine wpAny_bind (wpAny_sequenceKey ht.typeIs (by decide) ?_)
  refine wpAny_bind (wpAny_callSpecial?_slot (name := Str.ofString "__getitem__") ht.typeIs PyProof.Rows.slot_tuple_getitem
    (wpAny_call_entry PyProof.Rows.slot_tuple_getitem ht.typeIs entry_tuple_getitem ?_ (args_tuple_getitem _ _)))
  show wpAny _ _ (Builtin.Tuple.tupleItemsOf (.ref t) >>= _) _ _ s
  refine wpAny_bind (tupleItemsOf_ ht ?_)
  refine wpAny_bind (wpAny_typeOf hTs ?_)
  rw [if_pos (by decide)]
  refine wpAny_bind (sliceApplied_rev hs ps ?_)
  have hno : ¬ (((((items.size : Nat) : Int) - 1) == 0 && (-1 : Int) == 1 && items.size == items.size) = true) := by
    rw [show ((-1 : Int) == 1) = false from by decide, Bool.and_false, Bool.false_and]
    exact Bool.false_ne_true
  show wpAny _ _ (if ((((items.size : Nat) : Int) - 1) == 0 && (-1 : Int) == 1 && items.size == items.size) = true then _ else _) _ _ s
  rw [if_neg hno, pick_rev]
  first
    | exact wpAny_bind (m := Builtin.Tuple.tupleExact _) (wpAny_newObj_type (wpAny_pure ⟨_, rfl, wpAny_pure h⟩) htake)
    | exact wpAny_bind (m := Builtin.Tuple.tupleExact _) (wpAny_newObj_type (wpAny_bind (wpAny_pure (wpAny_pure ⟨_, rfl, wpAny_pure h⟩))) htake)
    | exact wpAny_bind (wpAny_bind (m := Builtin.Tuple.tupleExact _) (wpAny_newObj_type (wpAny_pure (wpAny_pure ⟨_, rfl, wpAny_pure h⟩)) htake))
    | exact wpAny_bind (wpAny_bind (m := Builtin.Tuple.tupleExact _) (wpAny_newObj_type (wpAny_pure ⟨_, rfl, wpAny_pure h⟩) htake))
def tRevT (K : PySem.W.Frag) (te : TE) : TE := fun σ H Q => te σ H fun x H1 => ∃ a xs, x = .ref a ∧ SqT K H1 a xs ∧ NewT H1 xs.reverse Q
omit [kf : KF] in
theorem pe_revT {e : Expr} {te : TE} {k : Nat} {p1 p2 p3 pos : Pos} (he : PE X e te) : PE X (.Subscript e (.Slice none none (some (.UnaryOp .USub (.Constant (.int 1) k p1) p2)) p3) pos) (tRevT X.K te) := by
  refine ⟨fun pins s σ H Q I h => ?_⟩
  refine Subscript_ (thn (he.run pins s σ H _ I h) fun v s1 ⟨x, H1, I1, r1, q1⟩ => ?_)
  obtain ⟨a, xs, ex, hx, q⟩ := q1
  subst ex
  cases r1
  have hst : PO X (some (.UnaryOp .USub (.Constant (.int 1) k p1) p2)) (tPart (tUn (rU fun i => .int (-i)) (tC (.int 1)))) := po_some (pe_un un_neg pe_int)
  refine wpAny_Slice (wpAny_pure ?_)
  refine wpAny_pure ?_
  refine thn (hst.run pins s1 σ H1 (fun o H4 => o = some (-1) ∧ H4 = H1) I1 ⟨1, rfl, -1, rfl, rfl, rfl⟩) fun vs s4 ⟨o, H4, I4, ps, eo, e4⟩ => ?_
  subst eo e4
  have I5 : Inv X pins σ H4 { s4 with heap := s4.heap.push { cls := .type "slice", data := .fields #[.none, .none, vs] } } := I4.kept (t' := s4.toks) fun b ob q => Heap.get?_push_of_some _ q
  obtain ⟨its, r, ht, hz⟩ := I5.tuple hx
  have hlen := r.length
  show wpAny (model X.prog X.w) X.A (subscriptTail e (.Slice none none (some (.UnaryOp .USub (.Constant (.int 1) k p1) p2)) p3) (.ref a) (.ref s4.heap.objs.size)) (EP X pins σ Q) X.xe { s4 with heap := s4.heap.push { cls := .type "slice", data := .fields #[.none, .none, vs] } }
  refine tail_any (ops := [.ref a, .ref s4.heap.objs.size]) ht.typeIs (PyProof.Rows.slot_tuple_getitem.lookup) ?_ (by with_unfolding_all rfl)
  refine getItem_tuple_rev ht (Heap.IsSliceOf.new _ .none .none vs) ps ?_ (by rw [List.size_toArray]; omega)
  exact newF_end I5 (by rw [List.length_reverse]; exact hz) r.reverse q
theorem rp_rev {H : Hp} {xs : List V} {ds : List D} (h : RpA H xs ds) : RpA H xs.reverse ds.reverse := by
  induction h using RpA.rec (motive_1 := fun _ _ _ => True) with
  | nil => exact .nil
  | cons h r _ ih =>
    rw [List.reverse_cons, List.reverse_cons]
    exact ih.append (.cons h .nil)
  | _ => trivial
theorem de_rev {k : Nat} {p1 p2 p3 : Pos} (ha : DB X W ea ia) (hk : X.K = kf.K := by rfl) : DE X W (.Subscript ea (.Slice none none (some (.UnaryOp .USub (.Constant (.int 1) k p1) p2)) p3) pos) (.rev ia) :=
  (pe_or (pe_revL ha) (pe_revT ha)).imp fun σ H Q h => by
    obtain ⟨t, S, eH, R, h⟩ := h
    subst eH
    simp only [evalE, post_bind] at h
    change (evalB ia S.en).post _ _ at h
    cases z : evalB ia S.en with
    | no => rw [z] at h; exact h.elim
    | ex e =>
      rw [z] at h
      exact .inl ⟨t, S, rfl, R, by rw [z]; exact h⟩
    | ok p =>
      rw [z] at h
      have h : ((revD p.1).post _ _) := h
      cases q : p.1 <;> rw [q] at h <;> (try exact h.elim)
      · rename_i xs
        refine .inl ⟨t, S, rfl, R, ?_⟩
        rw [z]
        intro v S1 e1 P1
        have hv := P1.val
        rw [q] at hv
        obtain ⟨a, us, rfl, h1, h2⟩ := hv
        exact ⟨a, us, rfl, .of h1, fun p hp => ans_own P1.rel hp (rp_rev h2) fun v S' e' P => h v S' (e'.trans e1) (P.trans P1.le)⟩
      · rename_i xs
        refine .inr ⟨t, S, rfl, R, ?_⟩
        rw [z]
        intro v S1 e1 P1
        have hv := P1.val
        rw [q] at hv
        obtain ⟨a, us, rfl, h1, h2, _⟩ := hv.tup
        exact ⟨a, us, rfl, h1.sq hk, ans_tup P1.rel (rp_rev h2) fun v S' e' P => h v S' (e'.trans e1) (P.trans P1.le)⟩
theorem de_chain_lelt (ha : DF X W ea ia) (hb : DF X W eb ib) (hc : DF X W ec ic) (hu : X.A.units < cLine) (hk : X.K = kf.K := by rfl)
    (hm : lastMarks [.LtE, .Lt] [eb, ec] = false := by with_unfolding_all rfl) : DE X W (.Compare ea [.LtE, .Lt] [eb, ec] pos) (.chain .LtE .Lt ia ib ic) := de_chain (r2 := rLtV X.K) op_le (op_lt.or (op_ltT hu)) hop_le (hop_lt hk) ha hb hc hm
/-! ### range(a, b, -1) -/
omit [kf : KF] in
theorem downD_length : ∀ (lo : Int) (n : Nat), (downD lo n).length = n
  | _, 0 => rfl
  | lo, n + 1 => by simp [downD, downD_length (lo - 1) n]
omit [kf : KF] in
theorem downD_get : ∀ (lo : Int) (n i : Nat) (d : D), (downD lo n)[i]? = some d → i < n ∧ d = .int (lo + (i : Nat) * -1)
  | lo, 0, i, d, h => by simp [downD] at h
  | lo, n + 1, 0, d, h => by simp [downD] at h; exact ⟨by omega, by rw [← h]; simp⟩
  | lo, n + 1, i + 1, d, h => by
    simp only [downD, List.getElem?_cons_succ] at h
    obtain ⟨h1, h2⟩ := downD_get (lo - 1) n i d h
    refine ⟨by omega, ?_⟩
    rw [h2]
    congr 1
    omega
theorem walks_down {F : Hp} {lo : Int} {n : Nat} : Walks F (Itc lo (-1) n) (downD lo n) where
  go := fun i H O _ h => by rw [downD_length] at h; exact h
  yld := fun i H O x H' d s t h y => by
    obtain ⟨e1, e2⟩ := y
    subst e1 e2
    obtain ⟨_, h2⟩ := downD_get _ _ _ _ h
    subst h2
    exact ⟨Same.refl _, .int _⟩
  stop := fun i H O _ h => by rw [downD_length] at h; exact Nat.le_of_eq h
theorem ds_rngD {tg : Expr} {k : Nat} {p1 p2 : Pos} (hm : X.mg "range" = none) (ha : DB X W ea ia) (hb : DB X W eb ib) (hg : Gl X "range" := by rfl)
    (hs : starEach [ea, eb, .UnaryOp .USub (.Constant (.int 1) k p1) p2] X.env = (false, eval ea X.env) :: starEach [eb, .UnaryOp .USub (.Constant (.int 1) k p1) p2] X.env := by rfl) (hs2 : starEach [eb, .UnaryOp .USub (.Constant (.int 1) k p1) p2] X.env = (false, eval eb X.env) :: starEach [.UnaryOp .USub (.Constant (.int 1) k p1) p2] X.env := by rfl)
    (hs3 : starEach [.UnaryOp .USub (.Constant (.int 1) k p1) p2] X.env = (false, eval (.UnaryOp .USub (.Constant (.int 1) k p1) p2) X.env) :: starEach [] X.env := by rfl) (hpl : (backTo pos (starEach [eb, .UnaryOp .USub (.Constant (.int 1) k p1) p2] X.env)).any (·.1) = false := by rfl) :
    DS X W tg (.Call (.Name "range" p) [ea, eb, .UnaryOp .USub (.Constant (.int 1) k p1) p2] [] pos) (.rngD ia ib) := by
  refine (pi_range3 hg hm (pa_cons ha (pa_cons hb (pa_cons (pe_un un_neg pe_int) pa_nil hs3) hs2) hs) hs hpl).imp fun σ H Q ⟨t, S, eH, R, h⟩ => ?_
  subst eH
  simp only [evalS, post_bind] at h
  refine ⟨t, S, rfl, R, post_imp h fun p hp k1 v S1 e1 P1 => ⟨t, S1, rfl, P1.rel, ?_⟩⟩
  rw [show S1.en = p.2 from e1]
  refine post_imp k1 fun q hq k2 u S2 e2 P2 => ?_
  obtain ⟨d, en⟩ := p
  obtain ⟨d', en'⟩ := q
  have hv := P1.val
  have hu := P2.val
  cases d <;> (try exact k2.elim)
  cases d' <;> (try exact k2.elim)
  rename_i i j
  simp only at k2
  split at k2
  · rename_i hz
    exact ⟨1, rfl, i, j, -1, (i - j).toNat, by rw [hv.int, hu.int], RgC.neg hz.1.1 hz.1.2 hz.2.1 hz.2.2, k2 _ S2 e2 P2.rel (P1.le.trans P2.le) walks_down⟩
  · exact k2.elim
end
end VS

/-! A def keeps its promise, by its body. -/
namespace VS
open PySem PySem.Spec PyProof.Rows L2
variable [kf : KF]
omit [kf : KF] in
theorem start_len {N : List Str} {vs : List V} (h : vs.length ≤ N.length) : (L2.start N vs).length = N.length := by
  unfold L2.start
  rw [List.length_append, List.length_map, List.length_replicate]
  omega
section
variable {P : Program} {w : World} {K : PySem.W.Frag} {mg : Str → Option Value} {base : Heap} {x qual : Str} {st : Stmt} {f : Addr} {fd : FuncData} {N ps : List Str} {k : Nat} {b : Sxs}
abbrev Bd (P : Program) (w : World) (K : PySem.W.Frag) (mg : Str → Option Value) (base : Heap) (N : List Str) (qual : Str) (st : Stmt) (k : Nat) (b : Sxs) : Prop :=
  ∀ (n : Nat) (f : Addr) (cdv : Value) (A : Around) (outer : List Env) (s : Shared) (H : Hp) (E : XK), Room k (A.deeper (envOfC qual (defScope st) s.heap.objs.size f cdv)) →
    DSs (cxOf (L2.CX P w) P w K mg base N qual (defScope st) f cdv A outer s H E) E n (defBody st) b
omit [kf : KF] in
theorem ps_le {N ps : List Str} (h : N.take ps.length = ps) : ps.length ≤ N.length := by
  have := congrArg List.length h
  rw [List.length_take] at this
  omega
omit [kf : KF] in
theorem get_frs {ds : List D} {m i : Nat} {s : Sl} (h : (ds.map (fun d => some (Sl.fr d)) ++ List.replicate m none)[i]? = some (some s)) : ∃ d, s = .fr d ∧ ds[i]? = some d := by
  rw [List.getElem?_append] at h
  split at h
  · rw [List.getElem?_map] at h
    cases q : ds[i]? with
    | none => rw [q] at h; cases h
    | some d =>
      rw [q] at h
      exact ⟨d, by simpa using h.symm, rfl⟩
  · rw [List.getElem?_replicate] at h
    split at h <;> simp at h
theorem okD_of {φ : List D → Ou Sl} (F : Fun K x qual st f fd) (S : FnScope N ps (defScope st))
    (body : Bd P w K mg base N qual st k b) (hφ : ∀ ds, ds.length = ps.length → φ ds ≠ .no → ∃ n, runD n b (N.length - ps.length) ds = φ ds) : FnOk P w K mg base (L2.CX P w) (k + 1) f fd ps (spD mg ps.length φ) := by
  refine F.okX S (fun vs H Q E h => ?_) (fun cdv A outer s H vs Q E hr h => ?_)
  · obtain ⟨O, ds, h1, h2, h3, h4⟩ := h
    exact h2.length.trans h3
  · obtain ⟨O, ds, h1, h2, h3, h4⟩ := h
    have hno : φ ds ≠ .no := fun z => by rw [z] at h4; exact h4
    obtain ⟨n, hn⟩ := hφ ds h3 hno
    refine ⟨_, body n f cdv A outer s H E hr, ⟨H, [], O⟩, ⟨H, ds.map (fun d => some (.fr d)) ++ List.replicate (N.length - ps.length) none, O, fun _ => 0⟩, rfl, ?_, ?_⟩
    · have hvl : vs.length = ps.length := h2.length.trans h3
      have isl : ∀ i, ¬ isL (ds.map (fun d => some (Sl.fr d)) ++ List.replicate (N.length - ps.length) none) i := by
        rintro i ⟨es, e | e⟩
        · obtain ⟨d, q, _⟩ := get_frs e; cases q
        · obtain ⟨d, q, _⟩ := get_frs e; cases q
      refine ⟨?_, fun b o h _ => h, fun _ h => h, fun a h => (by cases h), fun a h => .inl h, h1, fun i d e => ?_, fun i es e => absurd ⟨es, e⟩ (isl i), fun i es e => absurd ⟨es, .inl e⟩ (isl i), fun i es e => absurd ⟨es, .inr e⟩ (isl i), fun i j h => absurd h (isl i)⟩
      · show (ds.map (fun d => some (Sl.fr d)) ++ List.replicate (N.length - ps.length) none).length = (L2.start N vs).length
        have := ps_le S.pre
        rw [start_len (by omega), List.length_append, List.length_map, List.length_replicate]
        omega
      · obtain ⟨d', q, hd⟩ := get_frs e
        cases q
        obtain ⟨v, hv, hr⟩ := h2.get hd
        refine ⟨v, ?_, hr⟩
        unfold L2.start
        rw [List.getElem?_append_left (by rw [List.length_map]; exact lt_of_some hv), List.getElem?_map, hv]
        rfl
    · show (execs n b (ds.map (fun d => some (Sl.fr d)) ++ List.replicate (N.length - ps.length) none)).post _ _
      unfold runD at hn
      have ret : ∀ {S' : Sn} {σ' : L2.St} {v : V} {r : Sl}, Rel ⟨H, [], O⟩ S' σ' → VR ⟨H, [], O⟩ S' v r → Ret H O v S'.H r := by
        intro S' σ' v r R' hv
        cases r with
        | fr d => exact Rp.mono (hid_sub R'.sup) hv
        | mb ds => exact hv.elim
        | own ds =>
          obtain ⟨p, xs, e, hp, h0, hO, hx, hr, _⟩ := hv
          refine ⟨p, xs, e, h0, hx, hr.mono (hid_sub fun a ha => ?_)⟩
          rcases List.mem_cons.mp ha with ha | ha
          · rw [ha]; exact hp
          · exact R'.sup a ha
      have same : ∀ {S' : Sn} {σ' : L2.St}, Rel ⟨H, [], O⟩ S' σ' → Same H S'.H := fun {S' σ'} R' b o h => R'.keep b o h (by simp)
      cases q : execs n b (ds.map (fun d => some (Sl.fr d)) ++ List.replicate (N.length - ps.length) none) with
      | no => rw [q] at hn; exact absurd hn.symm hno
      | ex e =>
        rw [q] at hn
        have hn : Ou.ex e = φ ds := hn
        rw [← hn] at h4
        exact fun cls d H' keep r => h4 cls d H' (fun b o h => keep b o h (by simp)) r
      | ok fl =>
        rw [q] at hn
        cases fl with
        | nx en =>
          have hn : Ou.ok (.fr .none) = φ ds := hn
          rw [← hn] at h4
          exact fun σ' S' e R' s' => h4 .non S'.H (same R') (Rp.non)
        | rt r en =>
          have hn : Ou.ok r = φ ds := hn
          rw [← hn] at h4
          exact fun v σ' S' e R' hv => h4 v S'.H (same R') (ret R' hv)
        | bk en => exact absurd hn.symm hno
        | ct en => exact absurd hn.symm hno
theorem fnD_of {φ : List D → Ou Sl} (F : Fun K x qual st f fd) (hm : mg x = some (.ref f)) (S : FnScope N ps (defScope st)) (bd : Binds K fd ps [])
    (body : Bd P w K mg base N qual st k b) (hφ : ∀ ds, ds.length = ps.length → φ ds ≠ .no → ∃ n, runD n b (N.length - ps.length) ds = φ ds) : FnD P w K mg base (k + 1) x ps.length φ :=
  ⟨f, fd, ps, hm, F.kp, okD_of F S body hφ, bd⟩
theorem fnM_of {φ : List D → List D → Ou (D × List D)} {y : Str} {qs : List Str} (F : Fun K x qual st f fd) (hm : mg x = some (.ref f)) (S : FnScope N (y :: qs) (defScope st)) (bd : Binds K fd (y :: qs) [])
    (body : Bd P w K mg base N qual st k b) (hφ : ∀ ms ds r, ds.length = qs.length → φ ms ds = .ok r → ∃ n, runM n b (N.length - (qs.length + 1)) ms ds = .ok r) : FnM P w K mg base (k + 1) x qs.length φ := by
  refine ⟨f, fd, y :: qs, hm, F.kp, F.okX S (fun vs H Q E h => ?_) (fun cdv A outer s H vs Q E hr h => ?_), bd⟩
  · obtain ⟨O, p, xs, ws, ms, ds, r, ms', rfl, _, _, _, _, h2, h3, _⟩ := h
    rw [List.length_cons, List.length_cons, h2.length, h3]
  · obtain ⟨O, p, xs, ws, ms, ds, r, ms', rfl, hp, h1, hx, hms, h2, h3, h4, h5⟩ := h
    obtain ⟨n, hn⟩ := hφ ms ds (r, ms') h3 h4
    have hwl : ws.length = qs.length := h2.length.trans h3
    have get : ∀ i s, (some (Sl.mb ms) :: (ds.map (fun d => some (Sl.fr d)) ++ List.replicate (N.length - (qs.length + 1)) none))[i]? = some (some s) → (i = 0 ∧ s = .mb ms) ∨ ∃ j d, i = j + 1 ∧ s = .fr d ∧ ds[j]? = some d := by
      intro i s e
      cases i with
      | zero => exact .inl ⟨rfl, by simpa using e.symm⟩
      | succ j =>
        rw [List.getElem?_cons_succ] at e
        obtain ⟨d, q, hd⟩ := get_frs e
        exact .inr ⟨j, d, rfl, q, hd⟩
    refine ⟨_, body n f cdv A outer s H E hr, ⟨H, [p], O⟩, ⟨H, some (.mb ms) :: (ds.map (fun d => some (.fr d)) ++ List.replicate (N.length - (qs.length + 1)) none), O, fun _ => p⟩, rfl, ?_, ?_⟩
    · refine ⟨?_, fun b o h _ => h, fun _ h => h, fun a h => (by rw [List.mem_singleton.mp h]; exact hp), fun a h => .inl h, h1, fun i d e => ?_, fun i es e => ?_, fun i es e => ?_, fun i es e => ?_, fun i j hi hj _ => ?_⟩
      · show (some (Sl.mb ms) :: (ds.map (fun d => some (Sl.fr d)) ++ List.replicate (N.length - (qs.length + 1)) none)).length = (L2.start N (.ref p :: ws)).length
        have := ps_le S.pre
        rw [List.length_cons] at this
        rw [start_len (by rw [List.length_cons]; omega), List.length_cons, List.length_append, List.length_map, List.length_replicate]
        omega
      · rcases get _ _ e with ⟨_, q⟩ | ⟨j, d', e1, q, hd⟩
        · cases q
        · cases q
          subst e1
          obtain ⟨v, hv, hr⟩ := h2.get hd
          refine ⟨v, ?_, hr⟩
          unfold L2.start
          rw [List.map_cons, List.cons_append, List.getElem?_cons_succ, List.getElem?_append_left (by rw [List.length_map]; exact lt_of_some hv), List.getElem?_map, hv]
          rfl
      · rcases e with e | e
        · rcases get _ _ e with ⟨_, q⟩ | ⟨j, d', e1, q, hd⟩ <;> cases q
        · rcases get _ _ e with ⟨i0, q⟩ | ⟨j, d', e1, q, hd⟩
          · cases q
            subst i0
            exact ⟨rfl, hp, xs, hx, hms⟩
          · cases q
      · rcases get _ _ e with ⟨_, q⟩ | ⟨j, d', e1, q, hd⟩ <;> cases q
      · exact List.mem_singleton.mpr rfl
      · have z : ∀ i, isL (some (Sl.mb ms) :: (ds.map (fun d => some (Sl.fr d)) ++ List.replicate (N.length - (qs.length + 1)) none)) i → i = 0 := by
          rintro i ⟨es, e | e⟩
          · rcases get _ _ e with ⟨i0, _⟩ | ⟨j, d', e1, q, hd⟩
            · exact i0
            · cases q
          · rcases get _ _ e with ⟨i0, _⟩ | ⟨j, d', e1, q, hd⟩
            · exact i0
            · cases q
        rw [z i hi, z j hj]
    · show (execs n b (some (Sl.mb ms) :: (ds.map (fun d => some (Sl.fr d)) ++ List.replicate (N.length - (qs.length + 1)) none))).post _ _
      unfold runM at hn
      have fin : ∀ {S' : Sn} {σ' : L2.St} {v : V} {d : D} {en : En}, S'.en = en → mb0 en = .ok ms' → Rel ⟨H, [p], O⟩ S' σ' → Rp (hid S'.H O) v d → d = r → Q v S'.H := by
        intro S' σ' v d en e he R' hv ed
        subst ed
        have h0 : S'.en[0]? = some (some (Sl.mb ms')) := by
          rw [e]
          unfold mb0 at he
          split at he
          · have := Ou.ok.inj he
            subst this
            rfl
          · cases he
        obtain ⟨a, b, xs', c, d'⟩ := R'.li 0 ms' (.inr h0)
        have ep : S'.ad 0 = p := List.mem_singleton.mp (R'.mb 0 ms' h0)
        rw [ep] at c
        exact h5 v S'.H xs' (fun b o h nb => R'.keep b o h (by simpa using nb)) c (d'.mono (hid_sub R'.sup)) hv
      cases q : execs n b (some (Sl.mb ms) :: (ds.map (fun d => some (Sl.fr d)) ++ List.replicate (N.length - (qs.length + 1)) none)) with
      | no => rw [q] at hn; cases hn
      | ex e => rw [q] at hn; cases hn
      | ok fl =>
        rw [q] at hn
        cases fl with
        | nx en =>
          obtain ⟨ms2, h6, h7⟩ := bind_ok (show (mb0 en >>= fun ms' => Ou.ok (PyData.none, ms')) = .ok (r, ms') from hn)
          cases h7
          exact fun σ' S' e R' s' => fin e h6 R' .non rfl
        | rt r' en =>
          obtain ⟨ms2, h6, h7⟩ := bind_ok (show (mb0 en >>= fun ms' => Ou.ok (toD r', ms')) = .ok (r, ms') from hn)
          cases h7
          refine fun v σ' S' e R' hv => fin e h6 R' ?_ rfl
          cases r' with
          | fr d => exact Rp.mono (hid_sub R'.sup) hv
          | mb ds => exact hv.elim
          | own ds =>
            obtain ⟨p', us, e', hp', h0, hO, hx', hr', _⟩ := hv
            subst e'
            exact .lst (by rw [hid_out hO]; exact hx') (hr'.mono (hid_sub R'.sup))
        | bk en => cases hn
        | ct en => cases hn
end
end VS

/-! Errors of own classes, raised. -/
namespace VS
open PySem PySem.Spec PyProof.Rows L2
variable [kf : KF]
section
variable {X : Cx} {E : XK} {n : Nat} {e ea eb : Expr} {es : List Expr} {ir ia ib : Ex} {is : Exs} {pos pos' p p1 p2 : Pos} {x : Str} {i : Nat} {C CM : Addr} {ta : L2.TA}
omit [kf : KF] in
/-- MarkError.__init__(self, ..) -/
theorem pe_baseinit {pl : Sem Bool} {xb : Str} (hg : Gl X xb) (hm : X.mg xb = some (.ref CM)) (g1 : PySem.W.specialIn X.K (.ref CM) "__getattribute__" = some (some (.builtin "type.__getattribute__"))) (g2 : PySem.W.typeIn X.K (.ref CM) = some (.type "type")) (g3 : PySem.W.readsIn X.K CM (.type "type") = true)
    (vV : PySem.W.findCls X.K (.ref CM) (.type "type") "__init__" = some (.val (.builtin "ValueError.__init__"))) (ha : PA X (e :: es) ta) (hdb : (xb == ("__debug__" : Str)) = false := by decide)
    (hc : eval (.Call (.Attribute (.Name xb p1) "__init__" p2) (e :: es) [] pos) X.env = (do
      let ov ← eval (.Name xb p1) X.env
      standAt p2.atName
      let (f, first) ← holding [ov] (getMethod ov "__init__" pl)
      callWith pos f first (backTo pos (starEach (e :: es) X.env)) (backToKw pos (keywordEach [] X.env))) := by rfl)
    (he : starEach (e :: es) X.env = (false, eval e X.env) :: starEach es X.env := by rfl) (hpl : (backTo pos (starEach es X.env)).any (·.1) = false := by rfl) :
    PE X (.Call (.Attribute (.Name xb p1) "__init__" p2) (e :: es) [] pos) (tVeI X.K ta) := by
  refine ⟨fun pins s σ H Q I h => ?_⟩
  refine PySem.W.methodCall_KW (ld_glob I hg hm ?_ hdb) hc
  obtain ⟨m, fr⟩ := I.fr
  refine PySem.W.method_of_cls fr I.ok.mod.kin g1 (PySem.W.cls_val fr I.ok.mod.kin g2 g3 vV (by decide +kernel) ?_)
  show wpAny _ _ (callWith pos (Value.builtin "ValueError.__init__") [] (backTo pos (starEach (e :: es) X.env)) []) _ _ _
  refine PyProof.Rows.callWith_method1 (thn (ha.run pos pins _ σ H _ (I.tok _) h) fun us s1 ⟨vs, H1, I1, r1, a, C, ws, ev, hl, T, ea, q⟩ => ?_) he hpl
  subst ev
  cases r1 with
  | @cons _ u0 _ ur ra rw' =>
    obtain rfl : u0 = Value.ref a := ra
    have hlen : ur.length ≤ sizeLine := by
      rw [← Paired.length rw', sizeLine_eq]
      omega
    exact oinit_ok T I1 ea hlen fun s' J => ⟨.non, H1, J, rfl, q⟩
end
/-- __init__ of a class with one field f: self, v -/
def spI1 (K : PySem.W.Frag) (C : Addr) (f : Str) : Sp := fun vs H Q _ => ∃ (a : Addr) (v : V), vs = [.ref a, v] ∧ OexC K C ∧ PySem.W.findIn K (.ref C) f = some none ∧ H a = some (exo a C none) ∧ ∀ d, H d = none → d ≠ a → Q .non (upd (upd H d (exd d [(f, v)])) a (exo a C (some d)))
def spI2 (K : PySem.W.Frag) (C : Addr) (f g : Str) : Sp := fun vs H Q _ => ∃ (a : Addr) (v u : V), vs = [.ref a, v, u] ∧ OexC K C ∧ PySem.W.findIn K (.ref C) f = some none ∧ PySem.W.findIn K (.ref C) g = some none ∧ H a = some (exo a C none) ∧
  ∀ d, H d = none → d ≠ a → Q .non (upd (upd (upd H d (exd d [(f, v)])) a (exo a C (some d))) d (exd d [(g, u), (f, v)]))
/-- what the written part says of the base class -/
structure BaseC (K : PySem.W.Frag) (mg : Str → Option Value) (xb : Str) (CM : Addr) : Prop where
  m : mg xb = some (.ref CM)
  g1 : PySem.W.specialIn K (.ref CM) "__getattribute__" = some (some (.builtin "type.__getattribute__"))
  g2 : PySem.W.typeIn K (.ref CM) = some (.type "type")
  g3 : PySem.W.readsIn K CM (.type "type") = true
  vV : PySem.W.findCls K (.ref CM) (.type "type") "__init__" = some (.val (.builtin "ValueError.__init__"))
/-- an error class with one or two fields, without fields -/
structure Er1 (P : Program) (w : World) (K : PySem.W.Frag) (mg : Str → Option Value) (base : Heap) (x f : Str) : Prop where
  ex : ∃ (C fI : Addr) (fd : FuncData) (ps : List Str), mg x = some (.ref C) ∧ OexC K C ∧ PySem.W.isClsIn K C = true ∧ PySem.W.findIn K (.ref C) "__init__" = some (some (.ref fI)) ∧ PySem.W.typeIn K (.ref fI) = some (.type "function") ∧ PySem.W.findIn K (.ref C) f = some none ∧ FnOk P w K mg base CX0 1 fI fd ps (spI1 K C f) ∧ Binds K fd ps []
structure Er2 (P : Program) (w : World) (K : PySem.W.Frag) (mg : Str → Option Value) (base : Heap) (x f g : Str) : Prop where
  ex : ∃ (C fI : Addr) (fd : FuncData) (ps : List Str), mg x = some (.ref C) ∧ OexC K C ∧ PySem.W.isClsIn K C = true ∧ PySem.W.findIn K (.ref C) "__init__" = some (some (.ref fI)) ∧ PySem.W.typeIn K (.ref fI) = some (.type "function") ∧ PySem.W.findIn K (.ref C) f = some none ∧ PySem.W.findIn K (.ref C) g = some none ∧ FnOk P w K mg base CX0 1 fI fd ps (spI2 K C f g) ∧ Binds K fd ps []
structure Er0 (K : PySem.W.Frag) (mg : Str → Option Value) (x : Str) : Prop where
  ex : ∃ (C : Addr), mg x = some (.ref C) ∧ PySem.W.excIn K C [.type "ValueError", .type "Exception", .type "BaseException", .type "object"] "ValueError.__new__" = true ∧ PySem.W.keepIn K (.ref C) = true ∧ PySem.W.subIn K (.ref C) (.type "BaseException") = some true ∧ PySem.W.typeIn K (.ref C) = some (.type "type") ∧ PySem.W.isClsIn K C = true
section
variable {P : Program} {w : World} {K : PySem.W.Frag} {mg : Str → Option Value} {base : Heap} {xb qual : Str} {st : Stmt} {fI C CM : Addr} {fd : FuncData} {a1 a2 a3 f g : Str}
def tI1 (K : PySem.W.Frag) (f : Str) : TS := tSeq (tDrop (tVeI K (tCons (tVar 0) (tCons (tVar 1) tNil)))) (tOst K f (tVar 0) (tVar 1))
def tI2 (K : PySem.W.Frag) (f g : Str) : TS := tSeq (tDrop (tVeI K (tCons (tVar 0) (tCons (tVar 1) (tCons (tVar 2) tNil))))) (tSeq (tOst K f (tVar 0) (tVar 1)) (tOst K g (tVar 0) (tVar 2)))
omit [kf : KF] in
theorem init1 (F : Fun K "__init__" qual st fI fd) (S : FnScope [a1, a2] [a1, a2] (defScope st)) (hb : ∀ (cdv : Value) (A : Around) (outer : List Env) (s : Shared) (H : Hp) (E : XK), PSs (cxOf CX0 P w K mg base [a1, a2] qual (defScope st) fI cdv A outer s H E).nox (defBody st) (tI1 K f)) :
    FnOk P w K mg base CX0 1 fI fd [a1, a2] (spI1 K C f) := by
  refine F.ok S (fun vs H Q E h => ?_) (fun cdv A outer s H vs Q E hr h => ?_)
  · obtain ⟨a, v, rfl, _⟩ := h
    rfl
  · obtain ⟨a, v, rfl, T, no, ha, k⟩ := h
    refine ⟨_, hb cdv A outer s H E, ?_⟩
    refine ⟨_, rfl, _, rfl, a, C, _, rfl, by show 1 ≤ 1000; decide, T, ha, ?_⟩
    refine ⟨_, rfl, _, rfl, a, C, rfl, T, no, .inl ⟨ha, fun d hd hne => k d hd hne⟩⟩
omit [kf : KF] in
theorem init2 (F : Fun K "__init__" qual st fI fd) (S : FnScope [a1, a2, a3] [a1, a2, a3] (defScope st)) (hb : ∀ (cdv : Value) (A : Around) (outer : List Env) (s : Shared) (H : Hp) (E : XK), PSs (cxOf CX0 P w K mg base [a1, a2, a3] qual (defScope st) fI cdv A outer s H E).nox (defBody st) (tI2 K f g)) :
    FnOk P w K mg base CX0 1 fI fd [a1, a2, a3] (spI2 K C f g) := by
  refine F.ok S (fun vs H Q E h => ?_) (fun cdv A outer s H vs Q E hr h => ?_)
  · obtain ⟨a, v, u, rfl, _⟩ := h
    rfl
  · obtain ⟨a, v, u, rfl, T, no, no2, ha, k⟩ := h
    refine ⟨_, hb cdv A outer s H E, ?_⟩
    refine ⟨_, rfl, _, rfl, _, rfl, a, C, _, rfl, by show 2 ≤ 1000; decide, T, ha, ?_⟩
    refine ⟨_, rfl, _, rfl, a, C, rfl, T, no, .inl ⟨ha, fun d hd hne => ?_⟩⟩
    refine ⟨_, rfl, _, rfl, a, C, rfl, T, no2, .inr ⟨d, _, upd_same, by rw [upd_ne hne, upd_same], by show 1 ≤ 900; decide, k d hd hne⟩⟩
end
/-! ### raise -/
def mk0 : List D → List (Str × D) := fun _ => []
def mk1 (f : Str) : List D → List (Str × D)
  | [d] => [(f, d)]
  | _ => []
def mk2 (f g : Str) : List D → List (Str × D)
  | [d, e] => [(f, d), (g, e)]
  | _ => []
section
variable {X : Cx} {E : XK} {n k : Nat} {e ea eb : Expr} {es : List Expr} {ir ia ib : Ex} {is : Exs} {pos pos' p p1 p2 : Pos} {x m f g : Str} {i j : Nat} {C CM : Addr} {ta : L2.TA}
theorem dst_raise0 (hc : X.calm = true) (tk : Takes X (wE E)) (c : Er0 X.K X.mg x) (hg : Gl X x := by rfl) (hdb : (x == ("__debug__" : Str)) = false := by decide) :
    DSt X E n (.Raise (some (.Call (.Name x p) [.Constant (.str m) j p2] [] pos)) none pos') (.raise x mk0 .nil) := by
  obtain ⟨C, hm, q, kC, bC, tC, iC⟩ := c.ex
  refine (ps_raise hc tk (pmk_own PySem.F.excBase_ValueError q hm kC (raises_own bC tC) hg hdb)).imp fun D σ H ⟨t, S, eH, R, h⟩ => ?_
  subst eH
  exact h _ _ _ R.keep ⟨C, hm, rfl, fun z => absurd rfl z⟩
omit [kf : KF] in
theorem same_two {H : Hp} {a d : Addr} {u : HO} {H2 : Hp} (ha : H a = none) (hd : H d = none) (h : ∀ b o, H b = some o → b ≠ a → b ≠ d → H2 b = some o) : Same H (upd (del H2 a) d u) := fun b o e => by
  have na := ne_of_none e ha
  have nd := ne_of_none e hd
  rw [upd_ne nd, del_ne na]
  exact h b o e na nd
theorem dst_raise1 (hc : X.calm = true) (hr : Room 2 X.A) (tk : Takes X (wE E)) (c : Er1 X.prog X.w X.K X.mg X.base x f) (ha : DA X (wE E) [e] is) (hl : lenS is = 1 := by rfl) (hg : Gl X x := by rfl) (hdb : (x == ("__debug__" : Str)) = false := by decide)
    (he : starEach [e] X.env = (false, eval e X.env) :: starEach [] X.env := by rfl) : DSt X E n (.Raise (some (.Call (.Name x p) [e] [] pos)) none pos') (.raise x (mk1 f) is) := by
  obtain ⟨C, fI, fd, ps, hm, T, iC0, iC, tI, no, F, bd⟩ := c.ex
  refine (ps_raise hc tk (pmk_oex T iC tI F hr bd .nil (fun _ _ _ _ _ _ _ z => z.elim) hg hm ha hdb he rfl)).imp fun D σ H ⟨t, S, eH, R, h⟩ => ?_
  subst eH
  simp only [exec, post_bind] at h
  refine ⟨t, S, rfl, R, post_imp h fun p hp k vs S1 e1 R1 l1 r1 => ?_⟩
  have hlen : p.1.length = 1 := (evalA_len is p.1 S.en p.2 hp).trans hl
  obtain ⟨ds, en⟩ := p
  cases r1 with
  | nil => cases hlen
  | cons h1 r2 =>
    cases r2 with
    | cons _ _ => simp at hlen
    | nil =>
      rename_i v d
      refine ⟨by show 1 ≤ 1000; decide, fun a ha => ?_⟩
      refine ⟨a, v, rfl, T, no, upd_same, fun dd hd hne => ⟨rfl, dd, [(f, v)], ?_⟩⟩
      have hd1 : S1.H dd = none := by rw [upd_ne hne] at hd; exact hd
      refine ⟨upd_same, by rw [upd_ne hne, upd_same], hd1, ?_⟩
      have sm : Same S1.H (upd (del (upd (upd (upd S1.H a (exo a C none)) dd (exd dd [(f, v)])) a (exo a C (some dd))) a) dd (.xd [(f, v)])) := same_two ha hd1 fun b o e na nd => by rw [upd_ne na, upd_ne nd, upd_ne na]; exact e
      refine k _ _ _ (fun b o q m => sm _ _ (R1.keep b o q m)) ⟨C, hm, rfl, fun _ => ⟨dd, [(f, v)], rfl, upd_same, fun nn y hy => ?_⟩⟩
      have e3 : (nn, y) = (f, d) := by simpa [mk1] using hy
      cases e3
      exact ⟨v, by simp [List.lookup], (h1.mono hid_le).mono sm⟩
theorem dst_raise2 (hc : X.calm = true) (hr : Room 2 X.A) (tk : Takes X (wE E)) (c : Er2 X.prog X.w X.K X.mg X.base x f g) (hfg : f ≠ g) (ha : DA X (wE E) [ea, eb] is) (hl : lenS is = 2 := by rfl) (hg : Gl X x := by rfl) (hdb : (x == ("__debug__" : Str)) = false := by decide)
    (he : starEach [ea, eb] X.env = (false, eval ea X.env) :: starEach [eb] X.env := by rfl) (hpl : (backTo pos (starEach [eb] X.env)).any (·.1) = false := by rfl) : DSt X E n (.Raise (some (.Call (.Name x p) [ea, eb] [] pos)) none pos') (.raise x (mk2 f g) is) := by
  obtain ⟨C, fI, fd, ps, hm, T, iC0, iC, tI, no, no2, F, bd⟩ := c.ex
  refine (ps_raise hc tk (pmk_oex T iC tI F hr bd .nil (fun _ _ _ _ _ _ _ z => z.elim) hg hm ha hdb he hpl)).imp fun D σ H ⟨t, S, eH, R, h⟩ => ?_
  subst eH
  simp only [exec, post_bind] at h
  refine ⟨t, S, rfl, R, post_imp h fun p hp k vs S1 e1 R1 l1 r1 => ?_⟩
  have hlen : p.1.length = 2 := (evalA_len is p.1 S.en p.2 hp).trans hl
  obtain ⟨ds, en⟩ := p
  cases r1 with
  | nil => cases hlen
  | cons h1 r2 =>
    cases r2 with
    | nil => simp at hlen
    | cons h2 r3 =>
      cases r3 with
      | cons _ _ => simp at hlen
      | nil =>
        rename_i v d u d'
        refine ⟨by show 2 ≤ 1000; decide, fun a ha => ?_⟩
        refine ⟨a, v, u, rfl, T, no, no2, upd_same, fun dd hd hne => ⟨rfl, dd, [(g, u), (f, v)], ?_⟩⟩
        have hd1 : S1.H dd = none := by rw [upd_ne hne] at hd; exact hd
        refine ⟨by rw [upd_ne hne.symm, upd_same], upd_same, hd1, ?_⟩
        have sm : Same S1.H (upd (del (upd (upd (upd (upd S1.H a (exo a C none)) dd (exd dd [(f, v)])) a (exo a C (some dd))) dd (exd dd [(g, u), (f, v)])) a) dd (.xd [(g, u), (f, v)])) := same_two ha hd1 fun b o e na nd => by rw [upd_ne nd, upd_ne na, upd_ne nd, upd_ne na]; exact e
        refine k _ _ _ (fun b o q m => sm _ _ (R1.keep b o q m)) ⟨C, hm, rfl, fun _ => ⟨dd, [(g, u), (f, v)], rfl, upd_same, fun nn y hy => ?_⟩⟩
        have e3 : (nn, y) = (f, d) ∨ (nn, y) = (g, d') := by simpa [mk2] using hy
        rcases e3 with e3 | e3
        · cases e3
          refine ⟨v, ?_, (h1.mono hid_le).mono sm⟩
          have : (f == g) = false := by simpa using hfg
          simp [List.lookup, this]
        · cases e3
          exact ⟨u, by simp [List.lookup], (h2.mono hid_le).mono sm⟩
/-! ### isinstance(x, T) -/
def Ty.nm : Ty → String
  | .int => "int"
  | .bool => "bool"
  | .str => "str"
  | .tuple => "tuple"
  | .list => "list"
def tyN : D → String
  | .none => "NoneType"
  | .bool _ => "bool"
  | .int _ => "int"
  | .str _ => "str"
  | .list _ => "list"
  | .tuple _ => "tuple"
  | .dict _ => "dict"
omit [kf : KF] in
theorem kit_isi {T : Ty} {d : D} {b : Bool} (h : isiD T d = .ok b) : kitB (tyN d) T.nm = some b := by
  cases T <;> cases d <;> first | (cases h; done) | (cases h; dsimp only [tyN, Ty.nm]; decide +kernel)
theorem tyX_of {K : PySem.W.Frag} (hk : K = kf.K) {S : Sn} {x : V} {d : D} (h : SB S x d) : TyX K S.H x (.type (tyN d)) := by
  have r := h.rp
  cases r with
  | non => exact .base .non
  | bl b => exact .base (.bl b)
  | int i => exact .base (.int i)
  | str s => exact .base (.str s)
  | lst h1 r => exact .base (.lst h1)
  | tup h1 r =>
    subst hk
    rcases h1 with ⟨o, e, _⟩ | ⟨o, its, n, e, c, _⟩
    · exact .fTuple e
    · exact .kTuple e c
theorem de_isi {W : WX} {T : Ty} (hm : X.mg "isinstance" = none) (ha : DB X W ea ia) (hT : PE X eb (tC (.ty T.nm))) (hg : Gl X "isinstance" := by rfl)
    (he : starEach [ea, eb] X.env = (false, eval ea X.env) :: starEach [eb] X.env := by rfl) (he2 : starEach [eb] X.env = (false, eval eb X.env) :: starEach [] X.env := by rfl) (hpl : (backTo pos (starEach [eb] X.env)).any (·.1) = false := by rfl) (hk : X.K = kf.K := by rfl) :
    DE X W (.Call (.Name "isinstance" p) [ea, eb] [] pos) (.isi T ia) :=
  (pe_callB call_isi hg hm (by decide +kernel) (pa_cons ha (pa_cons hT pa_nil he2) he) (by decide) (by decide) he hpl).imp fun σ H Q h => by
    refine one_post (X := X) (W := W) (ia := ia) (g := fun d => isiD T d >>= fun r => .ok (.fr (.bool r))) (r := fun x H Q => rIsi X.K [x, .ty T.nm] H Q) (ev := evalE (.isi T ia)) ?_ ?_ ?_ h
    · funext en
      simp only [evalE]
      congr 1
      funext p
      obtain ⟨d, e1⟩ := p
      show (isiD T d >>= _) = ((isiD T d >>= _) >>= _)
      cases isiD T d <;> rfl
    · intro t S σ x dx rr Q R hx z k
      cases q : isiD T dx with
      | no => rw [q] at z; cases z
      | ex e => rw [q] at z; cases z
      | ok b =>
        rw [q] at z
        have e := Ou.ok.inj z
        subst e
        exact ⟨x, .ty T.nm, .type (tyN dx), .type T.nm, b, rfl, .ty _, tyX_of hk hx, kit_ty (kit_isi q), ans_bl R k⟩
    · intro dx e z
      cases q : isiD T dx with
      | no => rw [q] at z; cases z
      | ex e => unfold isiD at q; split at q <;> cases q
      | ok b => rw [q] at z; cases z
end
end VS

/-! Several names at once. -/
namespace VS
open PySem PySem.Spec PyProof.Rows L2
variable [kf : KF]
inductive VRs (t : Ent) (S : Sn) : List V → List Sl → Prop where
  | nil : VRs t S [] []
  | cons {v : V} {vs : List V} {r : Sl} {rs : List Sl} : VR t S v r → VRs t S vs rs → (∀ ds, r = .own ds → ∀ (j : Nat) ds', rs[j]? = some (.own ds') → vs[j]? ≠ some v) → VRs t S (v :: vs) (r :: rs)
theorem VRs.length {t : Ent} {S : Sn} {vs : List V} {rs : List Sl} (h : VRs t S vs rs) : vs.length = rs.length := by
  induction h with
  | nil => rfl
  | cons _ _ _ ih => simp [ih]
theorem VR.to {t : Ent} {A B : Sn} {v : V} {r : Sl} (h : VR t A v r) (x : Le A B) : VR t B v r := by
  cases r with
  | fr d => exact Rp.mono x.le h
  | mb ds => exact h
  | own ds =>
    obtain ⟨p, xs, e, hp, h0, hO, hx, hr, hn⟩ := h
    obtain ⟨h1, e1⟩ := x.tmp p hp hn
    exact ⟨p, xs, e, h1, h0, hO, e1.trans hx, hr.mono x.le, x.ntmp hn⟩
theorem Rel.put' {t : Ent} {S : Sn} {σ : L2.St} (R : Rel t S σ) {v : V} {r : Sl} (h : VR t S v r) {i : Nat} {en' : En} (e : putE S.en i r = .ok en') : ∃ S', S'.H = S.H ∧ S'.en = en' ∧ Rel t S' (σ.set i (some v)) ∧ S'.F = S.F ∧ S'.O = S.O ∧ ∀ k, isL S'.en k → (isL S.en k ∧ S'.ad k = S.ad k) ∨ ∃ ds, r = .own ds ∧ v = .ref (S'.ad k) := by
  obtain ⟨e1, hi, nm⟩ := putE_ok e
  subst e1
  cases r with
  | fr d =>
    refine ⟨{ S with en := S.en.set i (some (.fr d)) }, rfl, rfl, (R.setFr h i).1, rfl, rfl, fun k hk => .inl ⟨?_, rfl⟩⟩
    obtain ⟨es, hk⟩ := hk
    have hk : (S.en.set i (some (Sl.fr d)))[k]? = some (some (Sl.own es)) ∨ (S.en.set i (some (Sl.fr d)))[k]? = some (some (Sl.mb es)) := hk
    rw [en_set hi] at hk
    split at hk
    · rcases hk with hk | hk <;> (have := Option.some.inj (Option.some.inj hk); cases this)
    · exact ⟨es, hk⟩
  | own ds =>
    obtain ⟨p, e1, R'⟩ := R.setOwn h hi
    refine ⟨S.putO i ds p, rfl, rfl, R', rfl, rfl, fun k hk => ?_⟩
    by_cases q : k = i
    · refine .inr ⟨ds, rfl, ?_⟩
      rw [e1, show (S.putO i ds p).ad k = p from if_pos q]
    · refine .inl ⟨?_, if_neg q⟩
      obtain ⟨es, hk⟩ := hk
      have hk : (S.en.set i (some (Sl.own ds)))[k]? = some (some (Sl.own es)) ∨ (S.en.set i (some (Sl.own ds)))[k]? = some (some (Sl.mb es)) := hk
      rw [en_set hi, if_neg (fun z => q z.symm)] at hk
      exact ⟨es, hk⟩
  | mb ds => exact absurd rfl (nm ds)
theorem VRs.to {t : Ent} {A B : Sn} {vs : List V} {rs : List Sl} (h : VRs t A vs rs) (x : Le A B) : VRs t B vs rs := by
  induction h with
  | nil => exact .nil
  | cons a b c ih => exact .cons (a.to x) ih c
theorem VRs.stored {t : Ent} {S S1 : Sn} {v : V} {r : Sl} {vs : List V} {rs : List Sl} (b : VRs t S vs rs) (c : ∀ ds, r = .own ds → ∀ (j : Nat) ds', rs[j]? = some (.own ds') → vs[j]? ≠ some v) (q1 : S1.H = S.H) (q3 : S1.F = S.F) (q4 : S1.O = S.O)
    (q5 : ∀ k, isL S1.en k → (isL S.en k ∧ S1.ad k = S.ad k) ∨ ∃ ds, r = .own ds ∧ v = .ref (S1.ad k)) : VRs t S1 vs rs := by
  induction b with
  | nil => exact .nil
  | cons x y z ih =>
    rename_i v' vs' r' rs'
    refine .cons ?_ (ih fun ds e j ds' k => c ds e (j + 1) ds' (by simpa using k)) z
    cases r' with
    | fr d => exact (show Rp S1.F v' d from q3 ▸ x)
    | mb ds => exact x
    | own ds =>
      obtain ⟨p, xs, e, hp, h0, hO, hx, hr, hn⟩ := x
      refine ⟨p, xs, e, q4 ▸ hp, h0, hO, q1 ▸ hx, q3 ▸ hr, fun k hk w => ?_⟩
      rcases q5 k hk with ⟨h1, h2⟩ | ⟨ds2, h1, h2⟩
      · exact hn k h1 (h2.symm.trans w)
      · refine c ds2 h1 0 ds rfl ?_
        rw [h2, w, e]
        rfl
def setsV : L2.St → List Nat → List V → L2.St
  | σ, i :: is, v :: vs => setsV (σ.set i (some v)) is vs
  | σ, _, _ => σ
theorem Rel.puts {t : Ent} : ∀ {is : List Nat} {vs : List V} {rs : List Sl} {S : Sn} {σ : L2.St} {en' : En}, Rel t S σ → VRs t S vs rs → putsE is rs S.en = .ok en' → ∃ S', S'.H = S.H ∧ S'.en = en' ∧ Rel t S' (setsV σ is vs) ∧ S'.F = S.F
  | [], _, _, S, σ, en', R, .nil, h => ⟨S, rfl, Ou.ok.inj h, R, rfl⟩
  | [], _, _, S, σ, en', R, .cons _ _ _, h => by cases h
  | _ :: _, _, _, S, σ, en', R, .nil, h => by cases h
  | i :: is, v :: vs, r :: rs, S, σ, en', R, .cons a b c, h => by
    obtain ⟨e1, hp, h⟩ := bind_ok h
    obtain ⟨S1, q1, q2, R1, q3, q4, q5⟩ := R.put' a hp
    have b' : VRs t S1 vs rs := b.stored c q1 q3 q4 q5
    obtain ⟨S', a1, a2, a3, a4⟩ := R1.puts b' (by rw [q2]; exact h)
    exact ⟨S', a1.trans q1, a2, a3, a4.trans q3⟩
structure LPost (t : Ent) (S S' : Sn) (σ : L2.St) (vs : List V) (rs : List Sl) : Prop where
  rel : Rel t S' σ
  le : Le S S'
  val : VRs t S' vs rs
  tmp : ∀ (j : Nat) ds p, rs[j]? = some (.own ds) → vs[j]? = some (.ref p) → S.H p = none ∨ ∃ i, isL S.en i ∧ S.ad i = p
def tAL (mg : Str → Option Value) (W : WX) (is : Exs) : L2.TA := fun σ H Q =>
  ∃ t S, S.H = H ∧ Rel t S σ ∧ (evalL is S.en).post (fun p => ∀ vs S', S'.en = p.2 → LPost t S S' σ vs p.1 → Q vs S'.H) (RW mg W t σ)
abbrev DAL (X : Cx) (W : WX) (es : List Expr) (is : Exs) : Prop := PA X es (tAL X.mg W is)
section
variable {X : Cx} {W : WX} {E : XK} {n : Nat} {e ea eb ec : Expr} {es : List Expr} {ir ia ib ic : Ex} {is : Exs} {pos pos' p1 p2 p3 pt pt2 : Pos} {x y z : Str} {i j l : Nat}
theorem dal_nil : DAL X W [] .nil := pa_nil.imp fun σ H Q ⟨t, S, eH, R, h⟩ => by
  subst eH
  exact h [] S rfl ⟨R, Le.refl _, .nil, fun j ds p e => by cases e⟩
theorem dal_cons (ha : DE X W e ir) (hr : DAL X W es is) (hs : starEach (e :: es) X.env = (false, eval e X.env) :: starEach es X.env := by rfl) : DAL X W (e :: es) (.cons ir is) := (pa_cons ha hr hs).imp fun σ H Q ⟨t, S, eH, R, h⟩ => by
  subst eH
  simp only [evalL, post_bind] at h
  refine ⟨t, S, rfl, R, post_imp h fun p hp k1 v S1 e1 P1 => ⟨t, S1, rfl, P1.rel, ?_⟩⟩
  rw [show S1.en = p.2 from e1]
  refine post_imp k1 fun q hq k2 vs S2 e2 P2 => ?_
  refine k2 (v :: vs) S2 e2 ⟨P2.rel, P1.le.trans P2.le, .cons (P1.val.to P2.le) P2.val ?_, ?_⟩
  · intro ds er j ds' hj hv
    have hv1 := P1.val
    have er : p.1 = .own ds := er
    rw [er] at hv1
    obtain ⟨a, xs, e, ha, h0, hO, hx, hr, hn⟩ := hv1
    rw [e] at hv
    rcases P2.tmp j ds' a hj hv with q | ⟨i, q, q'⟩
    · rw [hx] at q; cases q
    · exact hn i q q'
  · intro j ds a hj hv
    cases j with
    | zero => exact P1.tmp a ds (by simpa using hj) (by simpa using hv)
    | succ j =>
      rcases P2.tmp j ds a (by simpa using hj) (by simpa using hv) with q | ⟨i, q, q'⟩
      · refine .inl ?_
        cases w : S.H a with
        | none => rfl
        | some o => exact absurd q (P1.le.per a (by rw [w]; simp))
      · exact .inr ⟨i, (P1.le.sl i q).1, (P1.le.sl i q).2.symm.trans q'⟩
omit [kf : KF] in
theorem evalL_puts_post {α : Type} {is : List Nat} {rs : List Sl} {en : En} {f : En → Ou α} {P : α → Prop} {E : Exn → Prop} (h : (putsE is rs en).post (fun d => (f d).post P E) E) : ∃ d, putsE is rs en = .ok d ∧ (f d).post P E := by
  cases q : putsE is rs en with
  | ok d => rw [q] at h; exact ⟨d, rfl, h⟩
  | no => rw [q] at h; exact h.elim
  | ex e =>
    exfalso
    clear h
    induction is generalizing rs en with
    | nil => cases rs <;> cases q
    | cons i is ih =>
      cases rs with
      | nil => cases q
      | cons r rs =>
        have q : (putE en i r >>= fun e1 => putsE is rs e1) = .ex e := q
        cases w : putE en i r with
        | ok e1 => rw [w] at q; exact ih q
        | ex e => unfold putE at w; split at w <;> cases w
        | no => rw [w] at q; cases q
theorem par_end {t : Ent} {S : Sn} {σ : L2.St} {D : Ends} {ls : List Nat} {p : List Sl × En} (k : ((putsE ls p.1 p.2).post (fun e2 => (Ou.ok (Fl.nx e2)).post (SF t S D) (RX X.mg E t)) (RX X.mg E t))) {vs : List V} {S1 : Sn} (e1 : S1.en = p.2) (P1 : LPost t S S1 σ vs p.1) : D.nx (setsV σ ls vs) S1.H := by
  obtain ⟨en', hq, k⟩ := evalL_puts_post (f := fun e2 => Ou.ok (Fl.nx e2)) k
  obtain ⟨S2, a, b, R2, eF⟩ := P1.rel.puts P1.val (is := ls) (en' := en') (by rw [e1]; exact hq)
  rw [← a]
  exact k _ S2 b R2 (by rw [eF]; exact P1.le.le)
omit [kf : KF] in
theorem putsE_len : ∀ {is : List Nat} {rs : List Sl} {en en' : En}, putsE is rs en = .ok en' → rs.length = is.length
  | [], [], _, _, _ => rfl
  | i :: is, r :: rs, en, en', h => by
    obtain ⟨e1, _, h⟩ := bind_ok h
    simp [putsE_len h]
  | [], _ :: _, _, _, h => by cases h
  | _ :: _, [], _, _, h => by cases h
theorem putsE_len' {t : Ent} {S : Sn} {D : Ends} {ls : List Nat} {p : List Sl × En} (k : ((putsE ls p.1 p.2).post (fun e2 => (Ou.ok (Fl.nx e2)).post (SF t S D) (RX X.mg E t)) (RX X.mg E t))) : p.1.length = ls.length := by
  obtain ⟨en', hq, k⟩ := evalL_puts_post (f := fun e2 => Ou.ok (Fl.nx e2)) k
  exact putsE_len hq
theorem dst_par2 {a b : Expr} {kt k2} (hc : X.calm = true) (hN : X.N.Nodup) (ha : DAL X (wE E) [a, b] is)
    (hi : X.N[i]? = some x := by rfl) (hj : X.N[j]? = some y := by rfl) (hij : i ≠ j := by decide) (hx : X.env.scope.names.lookup x = some .local := by rfl) (hy : X.env.scope.names.lookup y = some .local := by rfl)
    (hw : swappedStores [.Tuple [.Name x p1, .Name y p2] kt pt] (.Tuple [a, b] k2 pt2) X.env = pure (some [x, y]) := by rfl)
    (hs : swapsWithSole [.Tuple [.Name x p1, .Name y p2] kt pt] (.Tuple [a, b] k2 pt2) pos.line X.env = pure false := by rfl) :
    DSt X E n (.Assign [.Tuple [.Name x p1, .Name y p2] kt pt] (.Tuple [a, b] k2 pt2) pos) (.par [i, j] is) := (ps_par hc hN hi hj hij hx hy ha hw hs).imp fun D σ H ⟨t, S, eH, R, h⟩ => by
  subst eH
  simp only [exec, post_bind] at h
  refine ⟨t, S, rfl, R, post_imp h fun p hp k vs S1 e1 P1 => ?_⟩
  have hl : vs.length = 2 := P1.val.length.trans (putsE_len' (X := X) (E := E) k)
  match vs, hl with
  | [v, w], _ => exact ⟨v, w, rfl, par_end k e1 P1⟩
theorem dst_par3 {a b c : Expr} {kt k2} (hc : X.calm = true) (hN : X.N.Nodup) (ha : DAL X (wE E) [a, b, c] is)
    (hi : X.N[i]? = some x := by rfl) (hj : X.N[j]? = some y := by rfl) (hl : X.N[l]? = some z := by rfl) (hij : i ≠ j := by decide) (hil : i ≠ l := by decide) (hjl : j ≠ l := by decide)
    (hx : X.env.scope.names.lookup x = some .local := by rfl) (hy : X.env.scope.names.lookup y = some .local := by rfl) (hz : X.env.scope.names.lookup z = some .local := by rfl)
    (hw : swappedStores [.Tuple [.Name x p1, .Name y p2, .Name z p3] kt pt] (.Tuple [a, b, c] k2 pt2) X.env = pure (some [x, y, z]) := by rfl)
    (hs : swapsWithSole [.Tuple [.Name x p1, .Name y p2, .Name z p3] kt pt] (.Tuple [a, b, c] k2 pt2) pos.line X.env = pure false := by rfl) :
    DSt X E n (.Assign [.Tuple [.Name x p1, .Name y p2, .Name z p3] kt pt] (.Tuple [a, b, c] k2 pt2) pos) (.par [i, j, l] is) := (ps_par3 hc hN hi hj hl hij hil hjl hx hy hz ha hw hs).imp fun D σ H ⟨t, S, eH, R, h⟩ => by
  subst eH
  simp only [exec, post_bind] at h
  refine ⟨t, S, rfl, R, post_imp h fun p hp k vs S1 e1 P1 => ?_⟩
  have hl : vs.length = 3 := P1.val.length.trans (putsE_len' (X := X) (E := E) k)
  match vs, hl with
  | [u, v, w], _ => exact ⟨u, v, w, rfl, par_end k e1 P1⟩
def GN (ls : List Nat) (gs : TGs) : Prop := ∀ vs σ H (Q : L2.St → Hp → Prop), vs.length = ls.length → Q (setsV σ ls vs) H → gs vs σ H Q
omit [kf : KF] in
theorem gn_nil : GN [] gNil := fun vs σ H Q hl q => by
  match vs, hl with
  | [], _ => exact ⟨rfl, q⟩
omit [kf : KF] in
theorem gn_cons {ls : List Nat} {gs : TGs} {i : Nat} (h : GN ls gs) : GN (i :: ls) (gCons (gName i) gs) := fun vs σ H Q hl q => by
  match vs, hl with
  | v :: vs, hl => exact ⟨v, vs, rfl, h vs _ H Q (by simpa using hl) q⟩
theorem dst_parT {elts : List Expr} {kt k2 m : Nat} {ls : List Nat} {gs : TGs} (hc : X.calm = true) (ha : DAL X (wE E) es is) (hgs : PGs X elts gs) (ok : GN ls gs) (hl : ls.length = m := by rfl) (hm : ls.length ≤ 100 := by decide)
    (hn : (assignEach elts X.env).length = m := by rfl) (hst : (assignEach elts X.env).findIdx? (·.1) = none := by rfl)
    (hs : swapsWithSole [.Tuple elts kt pt] (.Tuple es k2 pt2) pos.line X.env = pure false := by rfl) (hw : swappedStores [.Tuple elts kt pt] (.Tuple es k2 pt2) X.env = pure none := by rfl) (h1 : (assignEach [.Tuple elts kt pt] X.env).map (·.2) = [assign (.Tuple elts kt pt) X.env] := by rfl) :
    DSt X E n (.Assign [.Tuple elts kt pt] (.Tuple es k2 pt2) pos) (.par ls is) := (ps_asg (pe_tup ha) (pg_tup hc hgs hn hst) hs hw h1).imp fun D σ H ⟨t, S, eH, R, h⟩ => by
  subst eH
  simp only [exec, post_bind] at h
  refine ⟨t, S, rfl, R, post_imp h fun p hp k vs S1 e1 P1 => ?_⟩
  have hl' : vs.length = ls.length := P1.val.length.trans (putsE_len' (X := X) (E := E) k)
  refine ⟨by rw [hl', sizeLine_eq]; omega, fun a ha => ?_⟩
  obtain ⟨R2, l2⟩ := P1.rel.grow (same_upd (o := .tup vs) ha)
  have P2 : LPost t S { S1 with H := upd S1.H a (.tup vs) } σ vs p.1 := ⟨R2, P1.le.trans l2, ?_, P1.tmp⟩
  · refine ⟨a, vs, rfl, .of upd_same, hl'.trans hl, ok vs σ _ _ hl' ?_⟩
    exact par_end (S1 := { S1 with H := upd S1.H a (.tup vs) }) k e1 P2
  · exact P1.val.to l2
end
end VS

/-! xs.pop(k). -/
namespace VS
open PySem PySem.Spec PyProof.Rows L2
variable [kf : KF]
section
variable {X : Cx} {W : WX} {eo : Expr} {apos cpos ipos : Pos} {i k j : Nat}
theorem de_popI (hv : PE X eo (tVar i)) (hk : (k : Int) < 2 ^ 63 := by decide) (hbase : attributeBase eo "pop" X.env (eval eo X.env) = eval eo X.env := by rfl)
    (hfew : ((backTo cpos (starEach [.Constant (.int (k : Int)) j ipos] X.env)).all (fun x => !x.1) && (backToKw cpos (keywordEach [] X.env)).all (fun x => x.1.isSome)
      && decide ([Expr.Constant (.int (k : Int)) j ipos].length + ([] : List Keyword).length + (if ([] : List Keyword).isEmpty then 0 else 1) < 30)) = true := by rfl)
    (hline : (apos.endLine == cpos.line) = true := by rfl) (hs : starEach [.Constant (.int (k : Int)) j ipos] X.env = (false, eval (.Constant (.int (k : Int)) j ipos) X.env) :: starEach [] X.env := by rfl) :
    DE X W (.Call (.Attribute eo "pop" apos) [.Constant (.int (k : Int)) j ipos] [] cpos) (.popI i k) :=
  (pe_bm PySem.F.plainAttrs_list PySem.F.slot_list_pop PySem.F.type_list_pop mt_popAt hv (pa_cons (pe_int (i := (k : Int))) pa_nil hs) hbase hfew hline hs rfl).imp fun σ H Q ⟨t, S, eH, R, h⟩ => by
    subst eH
    simp only [evalE] at h
    have core : ∀ {c : List D → Sl} {ms : List D} {d : D}, c = Sl.own ∨ c = Sl.mb → S.en[i]? = some (some (c ms)) → ms[k]? = some d → (∀ v S', S'.en = S.en.set i (some (c (ms.eraseIdx k))) → EPost t S S' σ v (.fr d) → Q v S'.H) →
        ∃ xs, S.H (S.ad i) = some (.lst xs) ∧ σ[i]? = some (some (V.ref (S.ad i))) ∧ rPopAt (.ref (S.ad i)) [.int k] S.H Q := by
      intro c ms d hc hi hd q
      have hi' : S.en[i]? = some (some (Sl.own ms)) ∨ S.en[i]? = some (some (Sl.mb ms)) := by rcases hc with hc | hc <;> subst hc <;> simp [hi]
      obtain ⟨h1, h2, xs, h3, h4⟩ := R.li i ms hi'
      obtain ⟨v, hv, rv⟩ := h4.get hd
      obtain ⟨R', l⟩ := R.lend (ms' := ms.eraseIdx k) (xs' := xs.eraseIdx k) hc hi (H' := upd S.H (S.ad i) (.lst (xs.eraseIdx k))) (fun b o e n => by rw [upd_ne n]; exact e) upd_same (by rw [hid_upd h2]; exact h4.erase k)
      refine ⟨xs, h3, h1, S.ad i, xs, k, k, v, rfl, rfl, h3, by omega, hk, ?_, hv, ?_⟩
      · have lt := lt_of_some hv
        unfold seqIndex?
        have h0 : ¬ ((k : Int) < 0) := by omega
        simp only [h0, if_false]
        rw [if_pos (by simp; omega)]
        simp
      · exact q v { S with H := upd S.H (S.ad i) (.lst (xs.eraseIdx k)), en := S.en.set i (some (c (ms.eraseIdx k))) } rfl (.fr R' l (rv.mono l.le))
    have fin : (∃ xs, S.H (S.ad i) = some (.lst xs) ∧ σ[i]? = some (some (V.ref (S.ad i))) ∧ rPopAt (.ref (S.ad i)) [.int k] S.H Q) → tBM X.K "list" rPopAt (tVar i) (tCons (tC (.int k)) tNil) σ S.H Q := by
      rintro ⟨xs, a, b, c⟩
      exact ⟨_, b, .inl ⟨rfl, _, SqL.of a⟩, c⟩
    split at h
    · rename_i ms hi
      split at h
      · rename_i d hd
        exact fin (core (.inl rfl) hi hd h)
      · exact h.elim
    · rename_i ms hi
      split at h
      · rename_i d hd
        exact fin (core (.inr rfl) hi hd h)
      · exact h.elim
    · exact h.elim
omit [kf : KF] in
theorem popL_ok {k : Int} {ms ms' : List D} {d : D} (h : popL k ms = some (d, ms')) : ∃ j, ixN ms.length k = some j ∧ ms[j]? = some d ∧ ms' = ms.eraseIdx j := by
  unfold popL at h
  split at h
  · rename_i j hj
    split at h
    · rename_i d' hd
      injection h with h
      injection h with h1 h2
      exact ⟨j, hj, by rw [← h1]; exact hd, h2.symm⟩
    · cases h
  · cases h
omit [kf : KF] in
theorem popA_post {α : Type} {k : Int} {ms : List D} {f : D × List D → Ou α} {P : α → Prop} {E : Exn → Prop} (h : (popA k ms >>= f).post P E) : ∃ d ms', ms.length ≤ SZ ∧ popL k ms = some (d, ms') ∧ (f (d, ms')).post P E := by
  unfold popA at h
  by_cases hz : ms.length ≤ SZ
  · rw [if_pos hz] at h
    cases q : popL k ms with
    | none => rw [q] at h; exact h.elim
    | some p => rw [q] at h; exact ⟨p.1, p.2, hz, rfl, h⟩
  · rw [if_neg hz] at h; exact h.elim
/-- xs.pop(e) -/
theorem de_popE {e : Expr} {ir : Ex} (hv : PE X eo (tVar i)) (he : DB X W e ir) (hbase : attributeBase eo "pop" X.env (eval eo X.env) = eval eo X.env := by rfl)
    (hfew : ((backTo cpos (starEach [e] X.env)).all (fun x => !x.1) && (backToKw cpos (keywordEach [] X.env)).all (fun x => x.1.isSome)
      && decide ([e].length + ([] : List Keyword).length + (if ([] : List Keyword).isEmpty then 0 else 1) < 30)) = true := by rfl)
    (hline : (apos.endLine == cpos.line) = true := by rfl) (hs : starEach [e] X.env = (false, eval e X.env) :: starEach [] X.env := by rfl) :
    DE X W (.Call (.Attribute eo "pop" apos) [e] [] cpos) (.popE i ir) :=
  (pe_bm PySem.F.plainAttrs_list PySem.F.slot_list_pop PySem.F.type_list_pop mt_popAt hv (pa_cons he pa_nil hs) hbase hfew hline hs rfl).imp fun σ H Q ⟨t, S, eH, R, h⟩ => by
    subst eH
    simp only [evalE] at h
    have h' := h
    rw [post_bind] at h
    obtain ⟨d0, q0, h⟩ : ∃ d0, rdL S.en i = .ok d0 ∧ _ := by
      cases q : rdL S.en i with
      | ok d => rw [q] at h; exact ⟨d, rfl, h⟩
      | ex e => exact absurd q rdL_ex
      | no => rw [q] at h; exact h.elim
    obtain ⟨hv0, xs0, hx0, _⟩ := R.lst q0
    refine ⟨_, hv0, .inl ⟨rfl, _, SqL.of hx0⟩, t, S, rfl, R, ?_⟩
    rw [post_bind] at h
    refine post_imp h fun p hp k v S1 e1 P1 => ?_
    have e1 : S1.en = p.2 := e1
    have core : ∀ {c : List D → Sl} {ms ms' : List D} {d : D} {k : Int}, c = Sl.own ∨ c = Sl.mb → S1.en[i]? = some (some (c ms)) → ms.length ≤ SZ → popL k ms = some (d, ms') → (∀ v S', S'.en = S1.en.set i (some (c ms')) → EPost t S S' σ v (.fr d) → Q v S'.H) →
        rPopAt (.ref (S.ad i)) [.int k] S1.H Q := by
      intro c ms ms' d k hc hi hz hp q
      obtain ⟨j, h1, h2, h3⟩ := popL_ok hp
      subst h3
      have hi' : S1.en[i]? = some (some (Sl.own ms)) ∨ S1.en[i]? = some (some (Sl.mb ms)) := by rcases hc with hc | hc <;> subst hc <;> simp [hi]
      obtain ⟨g1, g2, xs, g3, g4⟩ := P1.rel.li i ms hi'
      obtain ⟨v, hv, rv⟩ := g4.get h2
      obtain ⟨R', l⟩ := P1.rel.lend (ms' := ms.eraseIdx j) (xs' := xs.eraseIdx j) hc hi (H' := upd S1.H (S1.ad i) (.lst (xs.eraseIdx j))) (fun b o e n => by rw [upd_ne n]; exact e) upd_same (by rw [hid_upd g2]; exact g4.erase j)
      obtain ⟨k1, k2, k3, k4⟩ := ixN_seq h1
      have hz' : ms.length ≤ 16777216 := by rw [← SZ_lit]; exact hz
      have ea : S.ad i = S1.ad i := by rw [hv0] at g1; simpa using g1
      rw [ea]
      refine ⟨S1.ad i, xs, k, j, v, rfl, rfl, g3, by omega, by omega, by rw [g4.length]; exact k1, hv, ?_⟩
      exact q v { S1 with H := upd S1.H (S1.ad i) (.lst (xs.eraseIdx j)), en := S1.en.set i (some (c (ms.eraseIdx j))) } rfl (.trans P1.le (.fr R' l (rv.mono l.le)))
    obtain ⟨d, en⟩ := p
    have hv := P1.val
    cases d <;> (try exact k.elim)
    rename_i z
    rw [hv.int]
    simp only at e1 k
    split at k
    · rename_i ms hi
      obtain ⟨d, ms', hz, hp', k⟩ := popA_post k
      exact core (.inl rfl) (by rw [e1]; exact hi) hz hp' fun v S' e' P => k v S' (by rw [e', e1]) P
    · rename_i ms hi
      obtain ⟨d, ms', hz, hp', k⟩ := popA_post k
      exact core (.inr rfl) (by rw [e1]; exact hi) hz hp' fun v S' e' P => k v S' (by rw [e', e1]) P
    · exact k.elim
end
end VS

/-! The law's own numbers, from the script. -/
namespace VS
open PySem PySem.Spec PyProof.Rows L2
variable [kf : KF]
omit [kf : KF] in
theorem natAbs_lt {z : Int} {n : Nat} (h1 : -(n : Int) < z) (h2 : z < n) : z.natAbs < n := by omega
/-- the seed behind some cells -/
def seedOf (z : Int) : List Int → Int
  | [] => z
  | c :: r => seedOf ((z * 31 + (if c < 0 then -c else c)).fmod 2147483647) r
def bigs (ns : List Int) : List Int := ns.filter fun c => decide ((10 : Int) ^ (18 : Int).toNat ≤ c)
def rnd (ns : List Int) (z : Int) : List Int := seedOf z ns :: 0 :: bigs ns
omit [kf : KF] in
theorem seedOf_append (z : Int) : ∀ (a b : List Int), seedOf z (a ++ b) = seedOf (seedOf z a) b
  | [], b => rfl
  | c :: r, b => by show seedOf _ (r ++ b) = _; rw [seedOf_append _ r b]; rfl
def okSeed (z : Int) : Prop := 0 ≤ z ∧ z < 2147483647
omit [kf : KF] in
theorem okSeed_step (z c : Int) : okSeed ((z * 31 + (if c < 0 then -c else c)).fmod 2147483647) := ⟨Int.fmod_nonneg_of_pos _ (by decide), Int.fmod_lt_of_pos _ (by decide)⟩
omit [kf : KF] in
theorem okSeed_of {z : Int} (h : okSeed z) : ∀ ns, okSeed (seedOf z ns)
  | [] => h
  | c :: r => okSeed_of (okSeed_step z c) r
omit [kf : KF] in
theorem okSeed_mul {z : Int} (h : okSeed z) : wInt z := ⟨by have := h.1; omega, by have := h.2; omega⟩
omit [kf : KF] in
theorem take_succ {α : Type} {xs : List α} {i : Nat} {x : α} (h : xs[i]? = some x) : xs.take (i + 1) = xs.take i ++ [x] := by
  rw [List.take_succ, h]
  rfl
/-- the promise -/
def spRand (K : PySem.W.Frag) : Sp := fun vs H Q _ => ∃ a ns z, vs = [.ref a, .int z] ∧ SqL K H a (ns.map V.int) ∧ ns.length ≤ 63 ∧ okSeed z ∧ ∀ p H', Same H H' → H p = none → H' p = some (.lst ((rnd ns z).map V.int)) → Q (.ref p) H'
omit [kf : KF] in
theorem SqL.same {K : PySem.W.Frag} {H H' : Hp} {a : Addr} {xs : List V} (h : SqL K H a xs) (s : Same H H') : SqL K H' a xs := by
  rcases h with (h | ⟨o, h⟩) | h
  · exact .inl (.inl (s _ _ h))
  · exact .inl (.inr ⟨o, s _ _ h⟩)
  · exact .inr h
omit [kf : KF] in
theorem bigs_app (a b : List Int) : bigs (a ++ b) = bigs a ++ bigs b := List.filter_append ..
omit [kf : KF] in
theorem bigs_one (c : Int) : bigs [c] = if decide ((10 : Int) ^ (18 : Int).toNat ≤ c) = true then [c] else [] := by
  unfold bigs
  cases q : decide ((10 : Int) ^ (18 : Int).toNat ≤ c) with
  | true => rw [if_pos rfl]; simp only [List.filter, q]
  | false => rw [if_neg (by simp)]; simp only [List.filter, q]
omit [kf : KF] in
theorem bigs_len (ns : List Int) : (bigs ns).length ≤ ns.length := List.length_filter_le _ _
omit [kf : KF] in
theorem iteT' {c : Prop} [Decidable c] {A B : Prop} (h : c) (a : A) : if c then A else B := by rw [if_pos h]; exact a
omit [kf : KF] in
theorem iteF' {c : Prop} [Decidable c] {A B : Prop} (h : ¬ c) (b : B) : if c then A else B := by rw [if_neg h]; exact b
end VS

/-! The law's def: the first row makes the numbers, the rest is in the language. -/
namespace VS
open PySem PySem.Spec PyProof.Rows L2
variable [kf : KF]
/-- the outcome of a fuelled run, where there is one -/
noncomputable def lim {α : Type} (g : Nat → Ou α) : Ou α := by
  classical
  exact if h : ∃ n, g n ≠ .no then g h.choose else .no
omit [kf : KF] in
theorem lim_ex {α : Type} {g : Nat → Ou α} (h : lim g ≠ .no) : ∃ n, g n = lim g := by
  unfold lim at h ⊢
  split at h
  · rename_i e
    rw [dif_pos e]
    exact ⟨_, rfl⟩
  · exact absurd rfl h
omit [kf : KF] in
theorem lim_eq {α : Type} {g : Nat → Ou α} {n : Nat} {x : Ou α} (hx : x ≠ .no) (h : ∀ m, g m ≠ .no → g m = x) (hn : g n = x) : lim g = x := by
  unfold lim
  split
  · rename_i e
    exact h _ e.choose_spec
  · rename_i e
    exact absurd ⟨n, by rw [hn]; exact hx⟩ e
def spLaw (K : PySem.W.Frag) : Sp := fun vs H Q _ => ∃ (a : Addr) (ns : List Int), vs = [.ref a] ∧ SqL K H a (ns.map V.int) ∧ ns.length ≤ 63 ∧ ∀ H', Q (.bl true) H'
/-- the slots behind the first row -/
def lawEn (m : Nat) (ns : List Int) (z : Int) : En := none :: some (.own ((rnd ns z).map PyData.int)) :: List.replicate m none
theorem RpA.of_ints {H : Hp} : ∀ ns : List Int, RpA H (ns.map V.int) (ns.map PyData.int)
  | [] => .nil
  | n :: r => .cons (.int n) (RpA.of_ints r)
theorem law_start {mg : Str → Option Value} {E : XK} {b : Sxs} {n m : Nat} {ns : List Int} {z : Int} {H : Hp} {p : Addr} {v0 : Option V} {D : Ends} {en' : En} (hp : H p = some (.lst ((rnd ns z).map V.int))) (h : execs n b (lawEn m ns z) = .ok (.rt (.fr (.bool true)) en')) (hq : ∀ H', D.rt (.bl true) H') :
    tST mg E (execs n b) D (v0 :: some (.ref p) :: List.replicate m none) H := by
  have get : ∀ i s, (lawEn m ns z)[i]? = some (some s) → i = 1 ∧ s = .own ((rnd ns z).map PyData.int) := by
    intro i s e
    match i with
    | 0 => cases e
    | 1 => exact ⟨rfl, by simpa [lawEn] using e.symm⟩
    | i + 2 =>
      have e : (List.replicate m (none : Option Sl))[i]? = some (some s) := e
      rw [List.getElem?_replicate] at e
      split at e <;> simp at e
  have isl : ∀ i, isL (lawEn m ns z) i → i = 1 := by
    rintro i ⟨es, e | e⟩
    · exact (get _ _ e).1
    · exact (get _ _ e).1
  refine ⟨⟨fun _ => none, [], []⟩, ⟨H, lawEn m ns z, [p], fun _ => p⟩, rfl, ⟨?_, fun b o e => (by cases e), fun a h => (by cases h), fun a h => (by cases h), fun a h => .inr rfl, fun a h => ?_, fun i d e => ?_, fun i ds e => ?_, fun i ds e => ⟨rfl, fun h => (by cases h)⟩, fun i ds e => ?_, fun i j hi hj _ => ?_⟩, ?_⟩
  · show (lawEn m ns z).length = _
    simp [lawEn]
  · rw [List.mem_singleton.mp h]
    show H p ≠ none
    rw [hp]
    simp
  · obtain ⟨_, q⟩ := get _ _ e
    cases q
  · have q : i = 1 ∧ ds = (rnd ns z).map PyData.int := by
      rcases e with e | e
      · obtain ⟨a, b⟩ := get _ _ e
        injection b with b
        exact ⟨a, b⟩
      · obtain ⟨a, b⟩ := get _ _ e
        cases b
    obtain ⟨q1, q2⟩ := q
    subst q1 q2
    exact ⟨rfl, List.mem_singleton.mpr rfl, _, hp, RpA.of_ints _⟩
  · obtain ⟨_, q⟩ := get _ _ e
    cases q
  · rw [isl i hi, isl j hj]
  · refine post_ok h ?_
    intro v σ' S' e R hv
    cases (show Rp S'.F v (.bool true) from hv)
    exact hq _
theorem ok_law {P : Program} {w : World} {K : PySem.W.Frag} {mg : Str → Option Value} {base : Heap} {st st0 : Stmt} {rest : List Stmt} {f : Addr} {fd : FuncData} {N : List Str} {k m : Nat} {b : Sxs} {z : Int} {E' : XK → L2.St → XK}
    (F : Fun K "law" "law" st f fd) (S : FnScope N ["_law_script"] (defScope st)) (hN : N.length = m + 2) (hb : defBody st = st0 :: rest) (hz : okSeed z)
    (h0 : ∀ (f : Addr) (cdv : Value) (A : Around) (outer : List Env) (s : Shared) (H : Hp) (E : XK), Room k (A.deeper (envOfC "law" (defScope st) s.heap.objs.size f cdv)) →
      PS (cxOf (L2.CX P w) P w K mg base N "law" (defScope st) f cdv A outer s H E) st0 (tAsg (tCallSD (spRand K) [] (E' E) (tCons (tVar 0) (tCons (tC (.int z)) tNil))) (gName 1)))
    (h1 : ∀ (n : Nat) (f : Addr) (cdv : Value) (A : Around) (outer : List Env) (s : Shared) (H : Hp) (E : XK), Room k (A.deeper (envOfC "law" (defScope st) s.heap.objs.size f cdv)) →
      DSs (cxOf (L2.CX P w) P w K mg base N "law" (defScope st) f cdv A outer s H E) E n rest b)
    (h2 : ∀ ns : List Int, ns.length ≤ 63 → ∃ n en', execs n b (lawEn m ns z) = .ok (.rt (.fr (.bool true)) en')) : FnOk P w K mg base (L2.CX P w) (k + 1) f fd ["_law_script"] (spLaw K) := by
  refine F.okX S (fun vs H Q E h => ?_) (fun cdv A outer s H vs Q E hr h => ?_)
  · obtain ⟨a, ns, rfl, _⟩ := h
    rfl
  · obtain ⟨a, ns, rfl, hS, hl, hq⟩ := h
    obtain ⟨n, en', h2⟩ := h2 ns hl
    refine ⟨_, hb ▸ pss_cons (h0 f cdv A outer s H E hr) (h1 n f cdv A outer s H E hr), ?_⟩
    have h3 : L2.start N [.ref a] = some (.ref a) :: none :: List.replicate m none := by
      unfold L2.start
      rw [hN]
      rfl
    rw [h3]
    show tCallSD (spRand K) [] (E' E) (tCons (tVar 0) (tCons (tC (.int z)) tNil)) _ _ _
    refine ⟨_, rfl, ?_⟩
    refine ⟨a, ns, z, rfl, hS, hl, hz, fun p H' s' hp hx => ?_⟩
    exact law_start hx h2 hq
omit [kf : KF] in
theorem walk {l : PySem.W.OpenLaw} {q : Program} {loose : List Str} {XP : (Str → Option Value) → Heap → Prop} {YP : World → Heap → Prop} {d : DefRec} {K : Params → PySem.W.Frag} (k : Nat) (hk : Room k callerA) (hn : l.most = some 63) (hdf : d.params.defaults = [])
    (hY : ∀ (w : World) (h : Heap), YP w h → (K w.params).In h)
    (F : ∀ (w : World) (mg : Str → Option Value) (fa : Addr) (h : Heap), (K w.params).In h → h.Ns mainGlobals mg → mg d.name = some (.ref fa) →
      ∃ fd : FuncData, (∀ (s : Shared) (u : Value), BindsTo s fd ⟨[u], []⟩ [("_law_script", u)]) ∧ ∀ base : Heap, (K w.params).In base → base.Ns mainGlobals mg → FnOk l.prog w (K w.params) mg base (L2.CX l.prog w) k fa fd ["_law_script"] (spLaw (K w.params))) :
    PySem.W.WalkO q loose XP YP l.row.toRowW d [] (fun f vs => PySem.call f vs) :=
  L2.walk_of (n := 63) (k := k) (x := "_law_script") (CX := fun w => L2.CX l.prog w) (sp := fun w => spLaw (K w.params)) hn (by decide) hdf hk hY F (fun _ _ a ns hl _ hS => ⟨a, ns, rfl, hS, hl, fun _ => rfl⟩) fun _ _ _ _ _ ⟨_, _, _, _, _, _, _, _, _, _, _, _, z⟩ => z
end VS

/-! More fuel, the same outcome. -/
namespace VS
open PySem PySem.Spec PyProof.Rows L2
theorem dst_nev [kf : KF] {X : Cx} {E : XK} {n : Nat} {st : Stmt} : DSt X E n st .nev := ⟨fun pins s σ H D I ⟨t, S, _, _, h⟩ => h.elim⟩
def OL {α : Type} (x y : Ou α) : Prop := x = .no ∨ x = y
theorem OL.rfl {α : Type} {x : Ou α} : OL x x := .inr (Eq.refl _)
theorem OL.trans {α : Type} {x y z : Ou α} (h : OL x y) (k : OL y z) : OL x z := by
  rcases h with h | h
  · exact .inl h
  · subst h; exact k
theorem OL.bind {α β : Type} {x y : Ou α} {f g : α → Ou β} (h : OL x y) (k : ∀ a, OL (f a) (g a)) : OL (x >>= f) (y >>= g) := by
  rcases h with h | h
  · subst h; exact .inl (Eq.refl _)
  · subst h
    cases x with
    | ok a => exact k a
    | ex e => exact .inr (Eq.refl _)
    | no => exact .inl (Eq.refl _)
theorem whl_le {c : En → Ou (D × En)} {f g : En → Ou Fl} (h : ∀ en, OL (f en) (g en)) : ∀ (n : Nat) (en : En), OL (whlGo c f n en) (whlGo c g (n + 1) en)
  | 0, en => .inl rfl
  | n + 1, en => by
    unfold whlGo
    refine OL.bind .rfl fun p => ?_
    obtain ⟨b, e1⟩ := p
    cases b with
    | bool b =>
      cases b with
      | false => exact .rfl
      | true =>
        refine OL.bind (h e1) fun r => ?_
        cases r with
        | nx e2 => exact whl_le h n e2
        | ct e2 => exact whl_le h n e2
        | bk e2 => exact .rfl
        | rt v e2 => exact .rfl
    | _ => exact .rfl
theorem for_le {f g : En → Ou Fl} (h : ∀ en, OL (f en) (g en)) (t : Tg) : ∀ (ds : List D) (en : En), OL (forGo f t ds en) (forGo g t ds en)
  | [], en => .rfl
  | d :: r, en => by
    unfold forGo
    refine OL.bind .rfl fun e1 => OL.bind (h e1) fun z => ?_
    cases z with
    | nx e2 => exact for_le h t r e2
    | ct e2 => exact for_le h t r e2
    | bk e2 => exact .rfl
    | rt v e2 => exact .rfl
mutual
theorem exec_le (n : Nat) : ∀ (s : Sx) (en : En), OL (exec n s en) (exec (n + 1) s en)
  | .asg i e, en => by unfold exec; exact .rfl
  | .par is es, en => by unfold exec; exact .rfl
  | .unp ts e, en => by unfold exec; exact .rfl
  | .setI i ix e, en => by unfold exec; exact .rfl
  | .aug i op e, en => by unfold exec; exact .rfl
  | .augI i ix op e, en => by unfold exec; exact .rfl
  | .app i e, en => by unfold exec; exact .rfl
  | .rem i e, en => by unfold exec; exact .rfl
  | .ext i e, en => by unfold exec; exact .rfl
  | .expr e, en => by unfold exec; exact .rfl
  | .ret e, en => by unfold exec; exact .rfl
  | .retN, en => by unfold exec; exact .rfl
  | .iff c a b, en => by
    unfold exec
    refine OL.bind .rfl fun p => ?_
    obtain ⟨d, e1⟩ := p
    cases d with
    | bool x => cases x with
      | true => exact execs_le n a e1
      | false => exact execs_le n b e1
    | _ => exact .rfl
  | .whl c b, en => by unfold exec; exact whl_le (fun en => execs_le n b en) n en
  | .forr tg src b, en => by
    unfold exec
    refine OL.bind .rfl fun p => ?_
    exact for_le (fun en => execs_le n b en) tg p.1 p.2
  | .brk, en => by unfold exec; exact .rfl
  | .cnt, en => by unfold exec; exact .rfl
  | .pass, en => by unfold exec; exact .rfl
  | .raise C mk es, en => by unfold exec; exact .rfl
  | .nev, en => by unfold exec; exact .rfl
theorem execs_le (n : Nat) : ∀ (s : Sxs) (en : En), OL (execs n s en) (execs (n + 1) s en)
  | .nil, en => by unfold execs; exact .rfl
  | .cons s r, en => by
    unfold execs
    refine OL.bind (exec_le n s en) fun f => ?_
    cases f with
    | nx e1 => exact execs_le n r e1
    | _ => exact .rfl
end
theorem execs_mono {n m : Nat} (h : n ≤ m) (s : Sxs) (en : En) : OL (execs n s en) (execs m s en) := by
  obtain ⟨k, rfl⟩ := Nat.le.dest h
  induction k with
  | zero => exact .rfl
  | succ k ih => exact (ih (Nat.le_add_right _ _)).trans (execs_le (n + k) s en)
theorem runD_mono {n m : Nat} (h : n ≤ m) (s : Sxs) (k : Nat) (ds : List D) : OL (runD n s k ds) (runD m s k ds) := by
  unfold runD
  exact OL.bind (execs_mono h s _) fun f => .rfl
theorem runM_mono {n m : Nat} (h : n ≤ m) (s : Sxs) (k : Nat) (ms ds : List D) : OL (runM n s k ms ds) (runM m s k ms ds) := by
  unfold runM
  exact OL.bind (execs_mono h s _) fun f => .rfl
theorem OL.eq {α : Type} {x y : Ou α} (h : OL x y) (n : x ≠ .no) : y = x := by
  rcases h with h | h
  · exact absurd h n
  · exact h.symm
theorem lim_of {α : Type} {g : Nat → Ou α} (hm : ∀ n m, n ≤ m → OL (g n) (g m)) {n : Nat} {x : Ou α} (h : g n = x) (hx : x ≠ .no) : lim g = x := by
  refine lim_eq hx (fun m hmn => ?_) h
  rcases Nat.le_total n m with l | l
  · have := (hm n m l).eq (by rw [h]; exact hx)
    rw [this, h]
  · have := (hm m n l).eq hmn
    rw [← this, h]
/-- a def's function: its body, run with fuel enough -/
noncomputable def fnOf (b : Sxs) (m : Nat) (ds : List D) : Ou Sl := lim fun n => runD n b m ds
noncomputable def fmOf (b : Sxs) (m : Nat) (ms ds : List D) : Ou (D × List D) := lim fun n => runM n b m ms ds
theorem fnOf_eq {b : Sxs} {m : Nat} {ds : List D} {n : Nat} {x : Ou Sl} (h : runD n b m ds = x) (hx : x ≠ .no) : fnOf b m ds = x := lim_of (fun _ _ l => runD_mono l b m ds) h hx
theorem fmOf_eq {b : Sxs} {m : Nat} {ms ds : List D} {n : Nat} {x : Ou (D × List D)} (h : runM n b m ms ds = x) (hx : x ≠ .no) : fmOf b m ms ds = x := lim_of (fun _ _ l => runM_mono l b m ms ds) h hx
variable [kf : KF]
section
variable {P : Program} {w : World} {K : PySem.W.Frag} {mg : Str → Option Value} {base : Heap} {x qual y : Str} {st : Stmt} {f : Addr} {fd : FuncData} {N ps qs : List Str} {k m : Nat} {b : Sxs}
theorem fnD_fn (F : Fun K x qual st f fd) (hm : mg x = some (.ref f)) (S : FnScope N ps (defScope st)) (bd : Binds K fd ps []) (hN : N.length - ps.length = m)
    (body : Bd P w K mg base N qual st k b) : FnD P w K mg base (k + 1) x ps.length (fnOf b m) := by
  subst hN
  exact fnD_of F hm S bd body fun ds _ h => lim_ex h
theorem fnM_fm (F : Fun K x qual st f fd) (hm : mg x = some (.ref f)) (S : FnScope N (y :: qs) (defScope st)) (bd : Binds K fd (y :: qs) []) (hN : N.length - (qs.length + 1) = m)
    (body : Bd P w K mg base N qual st k b) : FnM P w K mg base (k + 1) x qs.length (fmOf b m) := by
  subst hN
  refine fnM_of F hm S bd body fun ms ds r _ h => ?_
  obtain ⟨n, e⟩ := lim_ex (g := fun n => runM n b (N.length - (qs.length + 1)) ms ds) (by
    have : fmOf b (N.length - (qs.length + 1)) ms ds ≠ .no := by rw [h]; simp
    exact this)
  exact ⟨n, e.trans h⟩
theorem fnD_no (F : Fun K x qual st f fd) (hm : mg x = some (.ref f)) (S : FnScope N ps (defScope st)) (bd : Binds K fd ps []) : FnD P w K mg base (k + 1) x ps.length (fun _ => .no) :=
  ⟨f, fd, ps, hm, F.kp, F.okX (k := k) (sp := spD mg ps.length fun _ => .no) S (fun vs H Q E h => by obtain ⟨O, ds, h1, h2, h3, h4⟩ := h; exact h4.elim) (fun cdv A outer s H vs Q E hr h => by obtain ⟨O, ds, h1, h2, h3, h4⟩ := h; exact h4.elim), bd⟩
end
end VS

/-! Comparisons as tests. -/
namespace VS
open PySem PySem.Spec PyProof.Rows L2
variable [kf : KF]
omit [kf : KF] in
theorem rel_int {i : Int} {t : Tok} : RelV (.int i) (.int i t) := ⟨t, rfl⟩
section
variable {X : Cx} {W : WX} {ea eb ec : Expr} {ia ib ic ir : Ex} {pos : Pos}
theorem tTT_E {mg : Str → Option Value} (hv : asVar ir = none) {σ : L2.St} {H : Hp} {Q : Bool → Hp → Prop} (h : tTT mg W ir σ H Q) : tEE mg W ir σ H fun x H' => ∃ k, x = .bl k ∧ Q k H' := by
  obtain ⟨t, S, eH, R, h⟩ := h
  subst eH
  rw [brw_none hv, post_bind] at h
  refine ⟨t, S, rfl, R, post_imp h fun p hp ⟨b, eb, k⟩ v S' e1 P => ?_⟩
  have eb : toD p.1 = .bool b := eb
  have ev : v = .bl b := by
    have := P.val
    obtain ⟨r, en⟩ := p
    cases r with
    | fr d => 
      have ed : d = .bool b := eb
      subst ed
      cases (show Rp S'.F v (.bool b) from this)
      rfl
    | own ds => cases eb
    | mb ds => cases eb
  exact ⟨b, ev, k S' e1 P.rel P.le⟩
theorem dt_cmp {op : CmpOp} {r : R2} (ho : OpR X (compareOp op) r) (hop : HopC op r) (ha : DL X W ea ia) (hb : DB X W eb ib) (hm : behindInMarks op eb = false) : DT X W (.Compare ea [op] [eb] pos) (.cmp op ia ib) :=
  (pt_cmpR ho ha hb hm).imp fun σ H Q h => two_post (g := cmpD op) (fin := fun r => .fr (.bool r)) (by funext en; simp only [evalE] <;> rfl) hop cmpD_ex (tTT_E rfl h)
theorem dt_eq (hu : X.A.units + 64 < cLine) (ha : DL X W ea ia) (hb : DB X W eb ib) (hk : X.K = kf.K := by rfl) : DT X W (.Compare ea [.Eq] [eb] pos) (.cmp .Eq ia ib) := dt_cmp (r := rEqV X.K) (op_eq.or (op_eqD hu)) (hop_eq hk) ha hb (nomark _)
theorem dt_ne (hu : X.A.units + 64 < cLine) (ha : DL X W ea ia) (hb : DB X W eb ib) (hk : X.K = kf.K := by rfl) : DT X W (.Compare ea [.NotEq] [eb] pos) (.cmp .NotEq ia ib) := dt_cmp (r := rNeV X.K) (op_ne.or (op_neD hu)) (hop_ne hk) ha hb (nomark _)
theorem dt_lt (hu : X.A.units < cLine) (ha : DL X W ea ia) (hb : DB X W eb ib) (hk : X.K = kf.K := by rfl) : DT X W (.Compare ea [.Lt] [eb] pos) (.cmp .Lt ia ib) := dt_cmp (r := rLtV X.K) (op_lt.or (op_ltT hu)) (hop_lt hk) ha hb (nomark _)
theorem dt_le (ha : DL X W ea ia) (hb : DB X W eb ib) : DT X W (.Compare ea [.LtE] [eb] pos) (.cmp .LtE ia ib) := dt_cmp op_le hop_le ha hb (nomark _)
theorem dt_gt (ha : DL X W ea ia) (hb : DB X W eb ib) : DT X W (.Compare ea [.Gt] [eb] pos) (.cmp .Gt ia ib) := dt_cmp op_gt hop_gt ha hb (nomark _)
theorem dt_ge (ha : DL X W ea ia) (hb : DB X W eb ib) : DT X W (.Compare ea [.GtE] [eb] pos) (.cmp .GtE ia ib) := dt_cmp op_ge hop_ge ha hb (nomark _)
theorem dt_is (ha : DL X W ea ia) (hb : DB X W eb ib) : DT X W (.Compare ea [.Is] [eb] pos) (.cmp .Is ia ib) := dt_cmp op_isN hop_is ha hb (nomark _)
theorem dt_isnot (ha : DL X W ea ia) (hb : DB X W eb ib) : DT X W (.Compare ea [.IsNot] [eb] pos) (.cmp .IsNot ia ib) := dt_cmp op_notN hop_isnot ha hb (nomark _)
theorem dt_in (ha : DL X W ea ia) (hb : DB X W eb ib) (hm : behindInMarks .In eb = false) (hk : X.K = kf.K := by rfl) : DT X W (.Compare ea [.In] [eb] pos) (.cmp .In ia ib) := dt_cmp op_in_seq (hop_in hk) ha hb hm
theorem dt_notin (ha : DL X W ea ia) (hb : DB X W eb ib) (hm : behindInMarks .NotIn eb = false) (hk : X.K = kf.K := by rfl) : DT X W (.Compare ea [.NotIn] [eb] pos) (.cmp .NotIn ia ib) := dt_cmp op_notIn_seq (hop_notin hk) ha hb hm
end
end VS

/-! A def whose last parameter is keyword-only, by default the empty tuple. -/
namespace VS
open PySem PySem.Spec PyProof.Rows L2
variable [kf : KF]
/-- a def of n positional parameters and one that is keyword-only, () where it lacks -/
structure FnK (P : Program) (w : World) (K : PySem.W.Frag) (mg : Str → Option Value) (base : Heap) (k : Nat) (x : Str) (n : Nat) (kw : Str) (φ : List D → Ou Sl) : Prop where
  ex : ∃ f fd ps T, mg x = some (.ref f) ∧ PySem.W.keepIn K (.ref f) = true ∧ FnOk P w K mg base (L2.CX P w) k f fd ps (spD mg (n + 1) φ) ∧ Binds K fd ps [.ref T] ∧ (∀ H, Rp H (.ref T) (.tuple [])) ∧ KBn K fd ps n [kw] (fun us ws => us ++ ws) (fun vs zs => vs ++ zs)
section
variable {X : Cx} {W : WX} {e ea eb ec : Expr} {es : List Expr} {ir ia ib ic : Ex} {is : Exs} {pos p kp : Pos} {k n : Nat} {x kw : Str} {kws : List Keyword}
def tCallND (n m : Nat) (sp : Sp) (gV : List V → List V → List V) (E : L2.St → XK) (t tk : L2.TA) : TE := fun σ H Q => t σ H fun vs H1 => tk σ H1 fun zs H2 => vs.length = n ∧ zs.length = m ∧ sp (gV vs zs) H2 Q (E σ)
omit [kf : KF] in
theorem pe_callND {CX : CXT} {f : Addr} {fd : FuncData} {ps ks : List Str} {sp : Sp} {E : L2.St → XK} {t tk : L2.TA} {g : List Value → List Value → List Value} {gV : List V → List V → List V}
    (F : FnOk X.prog X.w X.K X.mg X.base CX k f fd ps sp) (hr : Room k X.A) (hg : Gl X x) (hm : X.mg x = some (.ref f)) (hk : PySem.W.keepIn X.K (.ref f) = true) (hb : KBn X.K fd ps n ks g gV) (hx : ∀ σ, PassesAt CX X σ (E σ))
    (ha : PA X (e :: es) t) (hkw : PK X kws tk) (hall : (backToKw pos (keywordEach kws X.env)).all (·.1.isSome) = true := by rfl) (hks : (backToKw pos (keywordEach kws X.env)).filterMap (·.1) = ks := by rfl)
    (hdb : (x == ("__debug__" : Str)) = false := by decide) (he : starEach (e :: es) X.env = (false, eval e X.env) :: starEach es X.env := by rfl)
    (hpl : ((backTo pos (starEach (e :: es) X.env)).any (·.1) || (backToKw pos (keywordEach kws X.env)).any (·.1.isNone)) = false := by rfl) :
    PE X (.Call (.Name x p) (e :: es) kws pos) (tCallND n ks.length sp gV E t tk) := by
  refine ⟨fun pins s σ H Q I h => ?_⟩
  refine wpAny_Call_Name_kw (ld_glob I hg hm ?_ hdb)
  refine PySem.W.callWith_KW (h₀ := X.base) I.ok.mod.kin hk hall (thn (ha.run pos pins s σ H _ I h) fun us s1 ⟨vs, H1, I1, r, q⟩ => ?_) hpl he
  refine thn (hkw.run pos pins s1 σ H1 _ I1 q) fun ws s2 ⟨zs, H2, I2, rz, l1, l2, q2⟩ => ⟨I2.kIn, ?_⟩
  rw [hks]
  have r2 := hb.rel r rz
  refine wpAny_call (codeAny_mono (F.run X.A X.stack s2 H2 ⟨us, ks.zip ws⟩ (g us ws) (gV vs zs) Q (E σ) hr I2.env0 (hb.to s2 us ws I2.kIn (r.length.symm.trans l1) (rz.length.symm.trans l2)) r2 q2) fun r s' hq => ?_)
  cases r with
  | error e => exact hx σ pins H2 s2 e s' I2 hq
  | ok fl =>
    cases fl with
    | ret u => exact I2.after hq
    | next => exact False.elim hq
    | brk => exact False.elim hq
    | cont => exact False.elim hq
def appS : Exs → Ex → Exs
  | .nil, e => .cons e .nil
  | .cons a r, e => .cons a (appS r e)
omit [kf : KF] in
theorem evalA_app : ∀ (is : Exs) (ik : Ex) (en : En), evalA (appS is ik) en = (do let (ds, e1) ← evalA is en; let (r, e2) ← evalE ik e1; .ok (ds ++ [toD r], e2))
  | .nil, ik, en => by
    simp only [appS, evalA, ok_bind]
    cases evalE ik en <;> rfl
  | .cons a r, ik, en => by
    simp only [appS, evalA]
    cases evalE a en with
    | no => rfl
    | ex e => rfl
    | ok q =>
      simp only [ok_bind, evalA_app r ik q.2]
      cases evalA r q.2 with
      | no => rfl
      | ex e => rfl
      | ok z =>
        simp only [ok_bind]
        cases evalE ik z.2 <;> rfl
theorem call_end {φ : List D → Ou Sl} {t : Ent} {S S1 : Sn} {σ : L2.St} {q : List D × En} {vs : List V} {Q : VK} (R1 : Rel t S1 σ) (l1 : Le S S1) (r1 : RpA S1.F vs q.1) (e1 : S1.en = q.2) (hn : q.1.length = n)
    (k1 : (φ q.1 >>= fun r => Ou.ok (r, q.2)).post (fun p => ∀ v S', S'.en = p.2 → EPost t S S' σ v p.1 → Q v S'.H) (RW X.mg W t σ)) : spD X.mg n φ vs S1.H Q (WE W σ) := by
  rw [post_bind] at k1
  refine ⟨S1.O, q.1, R1.trk, r1, hn, ?_⟩
  cases z : φ q.1 with
  | no => rw [z] at k1; exact k1.elim
  | ex ee =>
    rw [z] at k1
    exact fun cls d H' s E => k1 cls d H' (ret_keep R1 s) E
  | ok r =>
    rw [z] at k1
    intro v H' s hr'
    obtain ⟨S', a1, a2, P⟩ := R1.ret s hr'
    rw [← a1]
    exact k1 v S' (a2.trans e1) (P.trans l1)
omit [kf : KF] in
theorem lenS_app : ∀ (is : Exs) (e : Ex), lenS (appS is e) = lenS is + 1
  | .nil, _ => rfl
  | .cons _ r, e => by simp only [appS, lenS, lenS_app r e]
/-- f(e, .., kw = e') -/
theorem de_callK {φ : List D → Ou Sl} {ik : Ex} {ek : Expr} (F : FnK X.prog X.w X.K X.mg X.base k x n kw φ) (hr : Room k X.A) (tk : Takes X W) (ha : DA X W (e :: es) is) (hkw : DF X W ek ik) (hn : lenS is = n := by rfl) (hg : Gl X x := by rfl)
    (hall : (backToKw pos (keywordEach [⟨some kw, ek, kp⟩] X.env)).all (·.1.isSome) = true := by rfl) (hks : (backToKw pos (keywordEach [⟨some kw, ek, kp⟩] X.env)).filterMap (·.1) = [kw] := by rfl)
    (hdb : (x == ("__debug__" : Str)) = false := by decide) (he : starEach (e :: es) X.env = (false, eval e X.env) :: starEach es X.env := by rfl)
    (hpl : ((backTo pos (starEach (e :: es) X.env)).any (·.1) || (backToKw pos (keywordEach [⟨some kw, ek, kp⟩] X.env)).any (·.1.isNone)) = false := by rfl) :
    DE X W (.Call (.Name x p) (e :: es) [⟨some kw, ek, kp⟩] pos) (.call φ (appS is ik)) := by
  obtain ⟨f, fd, ps, T, hm, hk, ok, _, _, hb⟩ := F.ex
  refine (pe_callND ok hr hg hm hk hb (fun σ => passAt tk σ) ha (pk_cons hkw pk_nil) hall hks hdb he hpl).imp fun σ H Q ⟨t, S, eH, R, h⟩ => ?_
  subst eH
  simp only [evalE, evalA_app, post_bind] at h
  refine ⟨t, S, rfl, R, post_imp h fun q hq k1 vs S1 e1 R1 l1 r1 => ⟨t, S1, rfl, R1, ?_⟩⟩
  have e1 : S1.en = q.2 := e1
  rw [e1]
  unfold evF
  rw [post_bind]
  refine post_imp k1 fun z hz k2 v S2 e2 P2 => ?_
  have e2 : S2.en = z.2 := e2
  have hq1 : q.1.length = n := (evalA_len is q.1 S.en q.2 hq).trans hn
  have ra : RpA S2.F (vs ++ [v]) (q.1 ++ [toD z.1]) := (r1.mono P2.le.le).append (.cons P2.val .nil)
  refine ⟨r1.length.trans hq1, rfl, ?_⟩
  exact call_end (n := n + 1) (q := (q.1 ++ [toD z.1], z.2)) (S := S) P2.rel (l1.trans P2.le) ra e2 (by rw [List.length_append, hq1]; rfl) (by rw [post_bind]; exact k2)
/-- f(e, ..), the keyword lacks -/
theorem de_callK0 {φ : List D → Ou Sl} (F : FnK X.prog X.w X.K X.mg X.base k x n kw φ) (hr : Room k X.A) (tk : Takes X W) (ha : DA X W (e :: es) is) (hn : lenS is = n := by rfl) (hg : Gl X x := by rfl)
    (hdb : (x == ("__debug__" : Str)) = false := by decide) (he : starEach (e :: es) X.env = (false, eval e X.env) :: starEach es X.env := by rfl) (hpl : (backTo pos (starEach es X.env)).any (·.1) = false := by rfl) :
    DE X W (.Call (.Name x p) (e :: es) [] pos) (.call φ (appS is (.cst (.tuple [])))) := by
  obtain ⟨f, fd, ps, T, hm, hk, ok, hb, hT, _⟩ := F.ex
  refine (pe_callSD ok hr hg hm hk hb (.cons (show L2.RelV (.ref T) (.ref T) from rfl) .nil) (fun σ => passAt tk σ) ha hdb he hpl).imp fun σ H Q ⟨t, S, eH, R, h⟩ => ?_
  subst eH
  simp only [evalE, evalA_app, post_bind] at h
  refine ⟨t, S, rfl, R, post_imp h fun q hq k1 vs S1 e1 R1 l1 r1 => ?_⟩
  have e1 : S1.en = q.2 := e1
  have hq1 : q.1.length = n := (evalA_len is q.1 S.en q.2 hq).trans hn
  show spD X.mg (n + 1) φ (vs ++ [.ref T]) S1.H Q (WE W σ)
  exact call_end (n := n + 1) (q := (q.1 ++ [.tuple []], q.2)) (S := S) R1 l1 (r1.append (.cons (hT _) .nil)) e1 (by rw [List.length_append, hq1]; rfl) (by rw [post_bind]; exact k1)
end
section
variable {P : Program} {w : World} {K : PySem.W.Frag} {mg : Str → Option Value} {base : Heap} {x qual y kw : Str} {st : Stmt} {f : Addr} {fd : FuncData} {N ps qs : List Str} {k m n : Nat} {b : Sxs}
theorem rp_empty {T : Addr} {o : Obj} {z : Nat} (hk : K = kf.K) (e : K.lookup T = some o) (c : o.cls = .type "tuple") (hd : o.dict = none) (hs : o.data = .seq #[] z) (H : Hp) : Rp H (.ref T) (.tuple []) := by
  subst hk
  exact .tup (.inr ⟨o, #[], z, e, c, hd, hs, Nat.zero_le _, .nil⟩) .nil
theorem fnK_fn {T : Addr} (F : Fun K x qual st f fd) (hm : mg x = some (.ref f)) (S : FnScope N ps (defScope st)) (hT : ∀ H, Rp H (.ref T) (.tuple [])) (bd : Binds K fd ps [.ref T]) (kb : KBn K fd ps n [kw] (fun us ws => us ++ ws) (fun vs zs => vs ++ zs)) (hl : ps.length = n + 1) (hN : N.length - ps.length = m)
    (body : Bd P w K mg base N qual st k b) : FnK P w K mg base (k + 1) x n kw (fnOf b m) := by
  subst hN
  obtain ⟨φ, eφ⟩ : ∃ φ, φ = fnOf b (N.length - ps.length) := ⟨_, rfl⟩
  rw [← eφ]
  have ok := okD_of (P := P) (w := w) (mg := mg) (base := base) (φ := φ) F S body fun ds _ h => by
    subst eφ
    exact lim_ex h
  rw [hl] at ok
  exact ⟨f, fd, ps, T, hm, F.kp, ok, bd, hT, kb⟩
omit [kf : KF] in
theorem funD_kw {params : Arguments} {body : List Stmt} {scope : Scope} {oc : Value} {od an : Option Addr} {osl : Array (Option Value)} {doc pm cdv ct : Value} {D T : Addr}
    (l : K.lookup f = some ⟨oc, od, .func (PySem.W.fnOf x qual params body scope .none (.ref D) doc pm an cdv ct), osl⟩) (c : PySem.W.codeIn K cdv qual = true) (k : PySem.W.keepIn K (.ref f) = true) (d : PySem.W.nsIn K D kw = some (some (.ref T))) :
    FunD K x qual params body scope [] [(kw, V.ref T)] f (PySem.W.fnOf x qual params body scope .none (.ref D) doc pm an cdv ct) :=
  ⟨⟨oc, od, .none, .ref D, doc, pm, an, cdv, ct, osl, rfl, l, c, .inl ⟨rfl, rfl⟩, .inr ⟨D, rfl, fun q hq => by
    rw [List.mem_singleton.mp hq]
    exact ⟨.ref T, d, rfl⟩⟩⟩, k⟩
omit [kf : KF] in
theorem binds_kw {params : Arguments} {body : List Stmt} {scope : Scope} {T : Addr} (F : FunD K x qual params body scope [] [(kw, V.ref T)] f fd) (n : Nat) (hn : n + 1 = ps.length)
    (h : ∀ (D : Addr) (doc pm : Value) (an : Option Addr) (cdv ct : Value) (us : List Value) (k : Value), us.length = n →
      KwChain D [(kw, k)] (bindArgs (PySem.W.fnOf x qual params body scope .none (.ref D) doc pm an cdv ct) ⟨us, []⟩) (ps.zip (us ++ [k]))) : Binds K fd ps [.ref T] := by
  obtain ⟨ds, r, b⟩ := F.binds0 n (by simp) hn fun D doc pm an cdv ct us ks hl hk => match ks, hk with
    | [k], _ => h D doc pm an cdv ct us k hl
  cases r with
  | cons r rr =>
    cases rr
    cases r
    exact b
omit [kf : KF] in
theorem kb_kw {n : Nat} (h : ∀ (us : List Value) (c : Value), us.length = n → bindArgs fd ⟨us, [(kw, c)]⟩ = pure (ps.zip (us ++ [c]))) : KBn K fd ps n [kw] (fun us ws => us ++ ws) (fun vs zs => vs ++ zs) :=
  ⟨fun s us ws X hl hw => match ws, hw with
    | [c], _ => .of_eq (h us c hl), fun r1 r2 => r1.append r2⟩
end
end VS

/-! Running the language: loops and comprehensions by invariants. -/
namespace VS
open PySem L2
/-- simp looks at what is done first, not at what follows -/
theorem bind_congr1 {α β : Type} {x y : Ou α} {f : α → Ou β} (h : x = y) : (x >>= f) = (y >>= f) := by rw [h]
/-- a raise that is reached or not -/
@[reducible] def rz (q : Bool) (s : Sx) : Sx := match q with
  | true => s
  | false => .nev
theorem whl_run {c : En → Ou (D × En)} {f : En → Ou Fl} (I : Nat → En → Prop) (P : En → Prop) (h : ∀ m en, I m en → (∃ e1, c en = .ok (.bool false, e1) ∧ P e1) ∨ ∃ e1 e2 m', c en = .ok (.bool true, e1) ∧ (f e1 = .ok (.nx e2) ∨ f e1 = .ok (.ct e2)) ∧ m' < m ∧ I m' e2) : ∀ n m en, m < n → I m en → ∃ en' , whlGo c f n en = .ok (.nx en') ∧ P en' := by
  intro n
  induction n with
  | zero => intro m en hm; omega
  | succ n ih =>
    intro m en hm hI
    rcases h m en hI with ⟨e1, h1, h2⟩ | ⟨e1, e2, m', h1, h2, h3, h4⟩
    · exact ⟨e1, by unfold whlGo; rw [h1]; rfl, h2⟩
    · obtain ⟨en', h5, h6⟩ := ih m' e2 (by omega) h4
      refine ⟨en', ?_, h6⟩
      unfold whlGo
      rw [h1]
      rcases h2 with h2 | h2
      · simp only [ok_bind, h2, h5]
      · simp only [ok_bind, h2, h5]
theorem for_run {f : En → Ou Fl} {t : Tg} {ds : List D} (I : Nat → En → Prop) (h : ∀ i d en, ds[i]? = some d → I i en → ∃ e1 e2, bindT t d en = .ok e1 ∧ (f e1 = .ok (.nx e2) ∨ f e1 = .ok (.ct e2)) ∧ I (i + 1) e2) {en : En} (h0 : I 0 en) : ∃ en', forGo f t ds en = .ok (.nx en') ∧ I ds.length en' := by
  have main : ∀ k i en, k + i = ds.length → I i en → ∃ en', forGo f t (ds.drop i) en = .ok (.nx en') ∧ I ds.length en' := by
    intro k
    induction k with
    | zero =>
      intro i en hi hI
      have e : i = ds.length := by omega
      subst e
      rw [List.drop_length]
      exact ⟨en, rfl, hI⟩
    | succ k ih =>
      intro i en hi hI
      have hlt : i < ds.length := by omega
      obtain ⟨e1, e2, h1, h2, h3⟩ := h i ds[i] en (List.getElem?_eq_getElem hlt) hI
      obtain ⟨en', h4, h5⟩ := ih (i + 1) e2 (by omega) h3
      refine ⟨en', ?_, h5⟩
      rw [List.drop_eq_getElem_cons hlt]
      simp only [forGo, h1, ok_bind]
      rcases h2 with h2 | h2
      · simp only [h2, ok_bind, h4]
      · simp only [h2, ok_bind, h4]
  have := main ds.length 0 en (by omega) h0
  rw [List.drop_zero] at this
  exact this
theorem backE_wipe {en e' e'' : En} {vs : List Nat} (h : wipeE e' vs = wipeE e'' vs) : backE en e' vs = backE en e'' vs := by
  have hl : e'.length = e''.length := by
    have := congrArg List.length h
    rw [wipeE_len, wipeE_len] at this
    exact this
  apply List.ext_getElem?
  intro j
  by_cases q : j ∈ vs
  · induction vs with
    | nil => cases q
    | cons a vs ih =>
      show ((backE en e' vs).set a _)[j]? = ((backE en e'' vs).set a _)[j]?
      rw [List.getElem?_set, List.getElem?_set, backE_len, backE_len, hl]
      split
      · rfl
      · rename_i ne
        have q' : j ∈ vs := by
          rcases List.mem_cons.mp q with q | q
          · exact absurd q.symm ne
          · exact q
        clear ih h
        clear q ne
        induction vs with
        | nil => cases q'
        | cons b vs ih =>
          show ((backE en e' vs).set b _)[j]? = ((backE en e'' vs).set b _)[j]?
          rw [List.getElem?_set, List.getElem?_set, backE_len, backE_len, hl]
          split
          · rfl
          · rename_i ne
            rcases List.mem_cons.mp q' with q | q
            · exact absurd q.symm ne
            · exact ih q
  · rw [backE_get q, backE_get q, ← wipeE_get (en := e') q, ← wipeE_get (en := e'') q, h]
theorem backE_self {en : En} {vs : List Nat} : backE en en vs = en := by
  apply List.ext_getElem?
  intro j
  by_cases q : j ∈ vs
  · exact backE_in rfl q
  · exact backE_get q
/-- [elt for tg in src if cond], state threaded: E of a state -/
theorem lc_run {α : Type} {elt : Ex} {tg : Tg} {src : Sr} {cond : Exo} {vs : List Nat} {en : En} {items : List D} (E : α → En) (I : Nat → List D → α → Prop) {s0 : α} (hs : evalS src en = .ok (items, E s0)) (hz : items.length ≤ SZ)
    (h : ∀ i d acc s, items[i]? = some d → I i acc s → ∃ e1 b e2, bindT tg d (wipeE (E s) vs) = .ok e1 ∧ evalC cond e1 = .ok (b, e2) ∧
      (b = true → ∃ r e3 s', evalE elt e2 = .ok (r, e3) ∧ I (i + 1) (acc ++ [toD r]) s' ∧ wipeE e3 vs = wipeE (E s') vs) ∧ (b = false → ∃ s', I (i + 1) acc s' ∧ wipeE e2 vs = wipeE (E s') vs))
    (h0 : I 0 [] s0) : ∃ xs s', evalE (.lc elt tg src cond vs) en = .ok (.own xs, backE (E s0) (E s') vs) ∧ I items.length xs s' := by
  have main : ∀ k i acc e s, k + i = items.length → I i acc s → wipeE e vs = wipeE (E s) vs → ∃ xs e' s', lcGo (fun e => do let (r, e') ← evalE elt e; .ok (toD r, e')) (evalC cond) tg vs (items.drop i) e acc = .ok (xs, e') ∧ I items.length xs s' ∧ wipeE e' vs = wipeE (E s') vs := by
    intro k
    induction k with
    | zero =>
      intro i acc e s hi hI hw
      have q : i = items.length := by omega
      subst q
      rw [List.drop_length]
      exact ⟨acc, e, s, rfl, hI, hw⟩
    | succ k ih =>
      intro i acc e s hi hI hw
      have hlt : i < items.length := by omega
      obtain ⟨e1, b, e2, h1, h2, h3, h4⟩ := h i items[i] acc s (List.getElem?_eq_getElem hlt) hI
      rw [List.drop_eq_getElem_cons hlt]
      simp only [lcGo]
      rw [hw, h1]
      simp only [ok_bind, h2]
      cases b with
      | true =>
        obtain ⟨r, e3, s', h5, h6, h7⟩ := h3 rfl
        obtain ⟨xs, e', s2, h8, h9, h10⟩ := ih (i + 1) (acc ++ [toD r]) e3 s' (by omega) h6 h7
        refine ⟨xs, e', s2, ?_, h9, h10⟩
        simp only [if_true, h5, ok_bind]
        exact h8
      | false =>
        obtain ⟨s', h6, h7⟩ := h4 rfl
        obtain ⟨xs, e', s2, h8, h9, h10⟩ := ih (i + 1) acc e2 s' (by omega) h6 h7
        refine ⟨xs, e', s2, ?_, h9, h10⟩
        simp only [Bool.false_eq_true, if_false]
        exact h8
  obtain ⟨xs, e', s', h1, h2, h3⟩ := main items.length 0 [] (E s0) s0 (by omega) h0 rfl
  rw [List.drop_zero] at h1
  refine ⟨xs, s', ?_, h2⟩
  simp only [evalE, hs, ok_bind, if_pos hz, h1, strict]
  rw [backE_wipe h3]
/-- .. the state stands still -/
theorem lc_map {elt : Ex} {tg : Tg} {src : Sr} {vs : List Nat} {en en1 : En} {items : List D} (g : D → D) (hs : evalS src en = .ok (items, en1)) (hz : items.length ≤ SZ)
    (h : ∀ d ∈ items, ∃ e1 r e2, bindT tg d (wipeE en1 vs) = .ok e1 ∧ evalE elt e1 = .ok (r, e2) ∧ toD r = g d ∧ wipeE e2 vs = wipeE en1 vs) :
    evalE (.lc elt tg src .none vs) en = .ok (.own (items.map g), en1) := by
  obtain ⟨xs, s', h1, h2, h3⟩ := lc_run (α := Unit) (cond := .none) (fun _ => en1) (fun i acc _ => i ≤ items.length ∧ acc = (items.take i).map g) (s0 := ()) hs hz (fun i d acc s hd ⟨hi, ha⟩ => by
    obtain ⟨e1, r, e2, q1, q2, q3, q4⟩ := h d (List.mem_of_getElem? hd)
    refine ⟨e1, true, e1, q1, rfl, fun _ => ⟨r, e2, (), q2, ⟨?_, ?_⟩, q4⟩, fun z => by cases z⟩
    · have := (List.getElem?_eq_some_iff.mp hd).1; omega
    · rw [take_succ hd, List.map_append, ha, q3]; rfl) ⟨Nat.zero_le _, rfl⟩
  rw [h1, h3, List.take_length, backE_self]
/-- .. by places -/
theorem lc_idx {elt : Ex} {tg : Tg} {src : Sr} {vs : List Nat} {en en1 : En} {items : List D} (G : Nat → D) (hs : evalS src en = .ok (items, en1)) (hz : items.length ≤ SZ)
    (h : ∀ i d, items[i]? = some d → ∃ e1 r e2, bindT tg d (wipeE en1 vs) = .ok e1 ∧ evalE elt e1 = .ok (r, e2) ∧ toD r = G i ∧ wipeE e2 vs = wipeE en1 vs) :
    evalE (.lc elt tg src .none vs) en = .ok (.own ((List.range items.length).map G), en1) := by
  obtain ⟨xs, s', h1, h2⟩ := lc_run (α := Unit) (cond := .none) (fun _ => en1) (fun i acc _ => acc = (List.range i).map G) (s0 := ()) hs hz (fun i d acc s hd ha => by
    obtain ⟨e1, r, e2, q1, q2, q3, q4⟩ := h i d hd
    refine ⟨e1, true, e1, q1, rfl, fun _ => ⟨r, e2, (), q2, ?_, q4⟩, fun z => by cases z⟩
    rw [List.range_succ, List.map_append, ha, q3]; rfl) rfl
  rw [h1, h2, backE_self]
/-- .. kept: those that c says -/
theorem lc_filter {elt : Ex} {tg : Tg} {src : Sr} {vs : List Nat} {en en1 : En} {items : List D} {ic : Ex} (g : D → D) (c : D → Bool) (hs : evalS src en = .ok (items, en1)) (hz : items.length ≤ SZ)
    (h : ∀ d ∈ items, ∃ e1 e2, bindT tg d (wipeE en1 vs) = .ok e1 ∧ evalB ic e1 = .ok (.bool (c d), e2) ∧ wipeE e2 vs = wipeE en1 vs ∧ (c d = true → ∃ r e3, evalE elt e2 = .ok (r, e3) ∧ toD r = g d ∧ wipeE e3 vs = wipeE en1 vs)) :
    evalE (.lc elt tg src (.some ic) vs) en = .ok (.own ((items.filter c).map g), en1) := by
  obtain ⟨xs, s', h1, h2, h3⟩ := lc_run (α := Unit) (cond := .some ic) (fun _ => en1) (fun i acc _ => i ≤ items.length ∧ acc = ((items.take i).filter c).map g) (s0 := ()) hs hz (fun i d acc s hd ⟨hi, ha⟩ => by
    obtain ⟨e1, e2, q1, q2, q3, q4⟩ := h d (List.mem_of_getElem? hd)
    have hi' : i + 1 ≤ items.length := by have := (List.getElem?_eq_some_iff.mp hd).1; omega
    have hf : (items.take (i + 1)).filter c = (items.take i).filter c ++ (if c d = true then [d] else []) := by
      rw [take_succ hd, List.filter_append]
      congr 1
      cases q : c d <;> simp [List.filter, q]
    refine ⟨e1, c d, e2, q1, by simp only [evalC]; show (evalB ic e1 >>= _) = _; rw [q2]; rfl, fun z => ?_, fun z => ⟨(), ⟨hi', ?_⟩, q3⟩⟩
    · obtain ⟨r, e3, q5, q6, q7⟩ := q4 z
      refine ⟨r, e3, (), q5, ⟨hi', ?_⟩, q7⟩
      rw [hf, if_pos z, List.map_append, ha, q6]
      rfl
    · rw [hf, if_neg (by rw [z]; simp), List.append_nil, ha]) ⟨Nat.zero_le _, rfl⟩
  rw [h1, h3, List.take_length, backE_self]
theorem enumD_len : ∀ {xs : List D} {k : Nat}, (enumD k xs).length = xs.length
  | [], _ => rfl
  | x :: r, k => by simp [enumD, enumD_len]
theorem rngD_len : ∀ {n : Nat} {lo : Int}, (rngD lo n).length = n
  | 0, _ => rfl
  | n + 1, lo => by simp [rngD, rngD_len]
theorem ex_nx {n : Nat} {s : Sx} {r : Sxs} {en e1 : En} (h : exec n s en = .ok (.nx e1)) : execs n (.cons s r) en = execs n r e1 := by
  rw [execs, h]
  rfl
theorem ex_rt {n : Nat} {s : Sx} {r : Sxs} {en e1 : En} {v : Sl} (h : exec n s en = .ok (.rt v e1)) : execs n (.cons s r) en = .ok (.rt v e1) := by
  rw [execs, h]
  rfl
theorem iff_T {n : Nat} {c : Ex} {a b : Sxs} {en e1 : En} (h : evalB c en = .ok (.bool true, e1)) : exec n (.iff c a b) en = execs n a e1 := by
  rw [exec]
  show (evalB c en >>= _) = _
  rw [h]
  rfl
theorem iff_F {n : Nat} {c : Ex} {a b : Sxs} {en e1 : En} (h : evalB c en = .ok (.bool false, e1)) : exec n (.iff c a b) en = execs n b e1 := by
  rw [exec]
  show (evalB c en >>= _) = _
  rw [h]
  rfl
theorem iff_skip {n : Nat} {c : Ex} {a r : Sxs} {en e1 : En} (h : evalB c en = .ok (.bool false, e1)) : execs n (.cons (.iff c a .nil) r) en = execs n r e1 := ex_nx ((iff_F h).trans (by rw [execs]))
theorem iff_ret {n : Nat} {c : Ex} {a r : Sxs} {en e1 e2 : En} {v : Sl} (h : evalB c en = .ok (.bool true, e1)) (h2 : execs n a e1 = .ok (.rt v e2)) : execs n (.cons (.iff c a .nil) r) en = .ok (.rt v e2) := ex_rt ((iff_T h).trans h2)
theorem runD_rt {n m : Nat} {b : Sxs} {ds : List D} {v : Sl} {e1 : En} (h : execs n b (ds.map (fun d => some (.fr d)) ++ List.replicate m none) = .ok (.rt v e1)) : runD n b m ds = .ok v := by
  unfold runD
  rw [h]
  rfl
theorem runM_rt {n m : Nat} {b : Sxs} {ms ms' ds : List D} {v : Sl} {e1 : En} (h : execs n b (some (.mb ms) :: (ds.map (fun d => some (.fr d)) ++ List.replicate m none)) = .ok (.rt v (some (.mb ms') :: e1))) : runM n b m ms ds = .ok (toD v, ms') := by
  unfold runM
  rw [h]
  rfl
theorem evalS_rng1 {a : Ex} {en e1 : En} {k : Nat} (h : evalB a en = .ok (.int (k : Int), e1)) (hz : k ≤ SZ) : evalS (.rng1 a) en = .ok (rngD 0 k, e1) := by
  have hr : -(2 ^ 62) ≤ (k : Int) ∧ (k : Int) < 2 ^ 62 := by have : SZ = 16777216 := SZ_lit; omega
  rw [evalS]
  show (evalB a en >>= _) = _
  rw [h, ok_bind]
  dsimp only
  rw [if_pos hr, Int.toNat_natCast]
theorem evalS_rngI {a : Ex} {en e1 : En} {n : Int} (h : evalB a en = .ok (.int n, e1)) (h0 : n ≤ 1000000) (h1 : -1000000 ≤ n) : evalS (.rng1 a) en = .ok (rngD 0 n.toNat, e1) := by
  have hr : -(2 ^ 62) ≤ n ∧ n < 2 ^ 62 := by omega
  rw [evalS]
  show (evalB a en >>= _) = _
  rw [h, ok_bind]
  dsimp only
  rw [if_pos hr]
theorem asVar_var (i : Nat) : asVar (.var i) = some i := rfl
theorem asVar_cst (d : D) : asVar (.cst d) = none := rfl
theorem asVar_mv (i : Nat) : asVar (.mv i) = none := rfl
theorem asVar_bin (op : PySem.Operator) (a b : Ex) : asVar (.bin op a b) = none := rfl
theorem asVar_neg (a : Ex) : asVar (.neg a) = none := rfl
theorem asVar_nt (a : Ex) : asVar (.nt a) = none := rfl
theorem asVar_cmp (op : PySem.CmpOp) (a b : Ex) : asVar (.cmp op a b) = none := rfl
theorem asVar_chain (o1 o2 : PySem.CmpOp) (a b c : Ex) : asVar (.chain o1 o2 a b c) = none := rfl
theorem asVar_andE (a b : Ex) : asVar (.andE a b) = none := rfl
theorem asVar_orE (a b : Ex) : asVar (.orE a b) = none := rfl
theorem asVar_ife (a b c : Ex) : asVar (.ife a b c) = none := rfl
theorem asVar_tupE (a : Exs) : asVar (.tupE a) = none := rfl
theorem asVar_lstE (a : Exs) : asVar (.lstE a) = none := rfl
theorem asVar_idx (a b : Ex) : asVar (.idx a b) = none := rfl
theorem asVar_slc (a : Ex) (l h : Exo) : asVar (.slc a l h) = none := rfl
theorem asVar_call (φ : List D → Ou Sl) (a : Exs) : asVar (.call φ a) = none := rfl
theorem asVar_callM (φ : List D → List D → Ou (D × List D)) (i : Nat) (a : Exs) : asVar (.callM φ i a) = none := rfl
theorem asVar_popI (i k : Nat) : asVar (.popI i k) = none := rfl
theorem asVar_bi (b : Bi) (a : Ex) : asVar (.bi b a) = none := rfl
theorem asVar_bi2 (b : Bi) (a c : Ex) : asVar (.bi2 b a c) = none := rfl
theorem asVar_isi (T : Ty) (a : Ex) : asVar (.isi T a) = none := rfl
theorem eqD_int {i j : Int} : eqD (.int i) (.int j) = .ok (i == j) := rfl
theorem eqD_str {i j : Str} : eqD (.str i) (.str j) = .ok (i == j) := rfl
theorem eqD_bool {i j : Bool} : eqD (.bool i) (.bool j) = .ok (i == j) := rfl
theorem asVar_lrng (a : Ex) : asVar (.lrng a) = none := rfl
theorem asVar_rev (a : Ex) : asVar (.rev a) = none := rfl
theorem asVar_idx3 (i : Nat) (a b : Ex) : asVar (.idx3 i a b) = none := rfl
theorem asVar_popE (i : Nat) (a : Ex) : asVar (.popE i a) = none := rfl
theorem ixN_zero {n : Nat} : ixN (n + 1) 0 = some 0 := by
  unfold ixN
  rw [if_pos (by decide), if_pos (by omega)]
  rfl
theorem ixN_one {n : Nat} : ixN (n + 2) 1 = some 1 := by
  unfold ixN
  rw [if_pos (by decide), if_pos (by omega)]
  rfl
theorem ixN_nat {n i : Nat} (h : i < n) : ixN n (i : Int) = some i := by
  unfold ixN
  rw [if_pos (by omega), if_pos (by omega)]
  rfl
theorem ixN_neg {n : Nat} : ixN (n + 1) (-1) = some n := by
  unfold ixN
  rw [if_neg (by decide), if_pos (by omega)]
  congr 1
  omega
theorem atI_zero {α : Type} {a : α} {r : List α} : atI (a :: r) 0 = some a := by
  unfold atI
  rw [List.length_cons, ixN_zero]
  rfl
theorem atI_one {α : Type} {a b : α} {r : List α} : atI (a :: b :: r) 1 = some b := by
  unfold atI
  rw [List.length_cons, List.length_cons, ixN_one]
  rfl
theorem atI_nat {α : Type} {xs : List α} {i : Nat} (h : i < xs.length) : atI xs (i : Int) = some xs[i] := by
  unfold atI
  rw [ixN_nat h]
  exact List.getElem?_eq_getElem h
theorem setL_at0 {d a : D} {r : List D} : setL 0 d (a :: r) = .ok (d :: r) := by
  unfold setL
  rw [List.length_cons, ixN_zero]
  rfl
theorem setL_at1 {d a b : D} {r : List D} : setL 1 d (a :: b :: r) = .ok (a :: d :: r) := by
  unfold setL
  rw [List.length_cons, List.length_cons, ixN_one]
  rfl
end VS

/-! Each def in the language. -/
namespace VS
open PySem (PyData)
noncomputable def ir__law_reflected : Sxs := .cons (.par [2, 3] (.cons (.idx (.var 0) (.bin .Sub (.var 1) (.cst (.int 1)))) (.cons (.idx (.var 0) (.bin .Mod (.bin .Add (.var 1) (.cst (.int 1))) (.bi .len (.var 0)))) (.nil))))
    (.cons (.ret (.bin .Add (.bin .Add (.slc (.var 0) (.none) (.some (.var 1))) (.tupE (.cons (.bin .Sub (.bin .Add (.var 2) (.var 3)) (.idx (.var 0) (.var 1))) (.nil)))) (.slc (.var 0) (.some (.bin .Add (.var 1) (.cst (.int 1)))) (.none))))
    (.nil))
noncomputable def phi__law_reflected : List D → Ou Sl := fnOf (ir__law_reflected) 2
noncomputable def b0__law_all_reflected : Sxs := .cons (.asg 0 (.call phi__law_reflected (.cons (.var 0) (.cons (.var 2) (.nil)))))
    (.nil)
noncomputable def ir__law_all_reflected : Sxs := .cons (.forr (.one 2) (.seq (.var 1)) (b0__law_all_reflected))
    (.cons (.ret (.mv 0))
    (.nil))
noncomputable def phi__law_all_reflected : List D → Ou Sl := fnOf (ir__law_all_reflected) 1
noncomputable def c0__law_differences : Ex := .lc (.bin .Sub (.idx (.var 0) (.bin .Mod (.bin .Add (.var 1) (.cst (.int 1))) (.bi .len (.var 0)))) (.idx (.var 0) (.var 1))) (.one 1) (.rng1 (.bi .len (.var 0))) (.none) [1]
theorem c0__law_differences_v : asVar (c0__law_differences) = none := rfl
noncomputable def ir__law_differences : Sxs := .cons (.ret (c0__law_differences))
    (.nil)
noncomputable def phi__law_differences : List D → Ou Sl := fnOf (ir__law_differences) 1
noncomputable def c0__law_arcs : Ex := .lc (.idx (.var 2) (.bin .Mod (.var 6) (.bi .len (.var 0)))) (.one 6) (.rng2 (.idx (.var 1) (.var 4)) (.var 5)) (.none) [6]
theorem c0__law_arcs_v : asVar (c0__law_arcs) = none := rfl
noncomputable def b0__law_arcs : Sxs := .cons (.asg 5 (.ife (.cmp .Lt (.bin .Add (.var 4) (.cst (.int 1))) (.bi .len (.var 1))) (.idx (.var 1) (.bin .Add (.var 4) (.cst (.int 1)))) (.bin .Add (.idx (.var 1) (.cst (.int 0))) (.bi .len (.var 0)))))
    (.cons (.app 3 (c0__law_arcs))
    (.nil))
noncomputable def ir__law_arcs : Sxs := .cons (.par [2, 3] (.cons (.call phi__law_differences (.cons (.var 0) (.nil))) (.cons (.lstE (.nil)) (.nil))))
    (.cons (.forr (.one 4) (.rng1 (.bi .len (.var 1))) (b0__law_arcs))
    (.cons (.ret (.mv 3))
    (.nil)))
noncomputable def phi__law_arcs : List D → Ou Sl := fnOf (ir__law_arcs) 5
noncomputable def ir__law_below : Sxs := .cons (.iff (.andE (.cmp .Eq (.idx (.var 0) (.cst (.int 1))) (.cst (.int 0))) (.cmp .Gt (.bi .len (.var 0)) (.cst (.int 2)))) (.cons (.setI 0 (.cst (.int 1)) (.popI 0 2))
    (.nil)) (.nil))
    (.cons (.iff (.cmp .Gt (.idx (.var 0) (.cst (.int 1))) (.cst (.int 0))) (.cons (.asg 2 (.bin .Mod (.idx (.var 0) (.cst (.int 1))) (.var 1)))
    (.cons (.setI 0 (.cst (.int 1)) (.bin .FloorDiv (.idx (.var 0) (.cst (.int 1))) (.var 1)))
    (.cons (.ret (.mv 2))
    (.nil)))) (.nil))
    (.cons (.setI 0 (.cst (.int 0)) (.bin .Mod (.bin .Add (.bin .Mult (.idx (.var 0) (.cst (.int 0))) (.cst (.int 48271))) (.cst (.int 11))) (.cst (.int 2147483647))))
    (.cons (.ret (.bin .Mod (.bin .FloorDiv (.idx (.var 0) (.cst (.int 0))) (.cst (.int 64))) (.var 1)))
    (.nil))))
noncomputable def phi__law_below : List D → List D → Ou (D × List D) := fmOf (ir__law_below) 1
noncomputable def c0__law_marks : Ex := .lc (.bin .Sub (.callM phi__law_below 0 (.cons (.idx (.lstE (.cons (.cst (.int 3)) (.cons (.cst (.int 20)) (.nil)))) (.callM phi__law_below 0 (.cons (.cst (.int 2)) (.nil)))) (.nil))) (.cst (.int 2))) (.one 5) (.rng1 (.var 1)) (.none) [5]
theorem c0__law_marks_v : asVar (c0__law_marks) = none := rfl
noncomputable def c1__law_marks : Ex := .lc (.bin .Add (.var 3) (.bin .Mult (.var 4) (.callM phi__law_below 0 (.cons (.cst (.int 4)) (.nil))))) (.one 5) (.rng1 (.var 1)) (.none) [5]
theorem c1__law_marks_v : asVar (c1__law_marks) = none := rfl
noncomputable def c2__law_marks : Ex := .lc (.bin .Sub (.callM phi__law_below 0 (.cons (.cst (.int 2000001)) (.nil))) (.cst (.int 1000000))) (.one 5) (.rng1 (.var 1)) (.none) [5]
theorem c2__law_marks_v : asVar (c2__law_marks) = none := rfl
noncomputable def ir__law_marks : Sxs := .cons (.par [1, 2] (.cons (.bin .Add (.cst (.int 3)) (.callM phi__law_below 0 (.cons (.cst (.int 6)) (.nil)))) (.cons (.callM phi__law_below 0 (.cons (.cst (.int 5)) (.nil))) (.nil))))
    (.cons (.iff (.cmp .Eq (.var 2) (.cst (.int 0))) (.cons (.ret (.bi .tuple (c2__law_marks)))
    (.nil)) (.nil))
    (.cons (.iff (.cmp .Eq (.var 2) (.cst (.int 1))) (.cons (.par [3, 4] (.cons (.bin .Sub (.callM phi__law_below 0 (.cons (.cst (.int 9)) (.nil))) (.cst (.int 4))) (.cons (.bin .Add (.cst (.int 1)) (.callM phi__law_below 0 (.cons (.cst (.int 5)) (.nil)))) (.nil))))
    (.cons (.ret (.bi .tuple (c1__law_marks)))
    (.nil))) (.nil))
    (.cons (.iff (.cmp .Eq (.var 2) (.cst (.int 2))) (.cons (.ret (.bin .Mult (.tupE (.cons (.callM phi__law_below 0 (.cons (.cst (.int 9)) (.nil))) (.nil))) (.var 1)))
    (.nil)) (.nil))
    (.cons (.ret (.bi .tuple (c0__law_marks)))
    (.nil)))))
noncomputable def phi__law_marks : List D → List D → Ou (D × List D) := fmOf (ir__law_marks) 5
noncomputable def ir__law_bad_marks : Sxs := .cons (.par [1, 2] (.cons (.callM phi__law_marks 0 (.nil)) (.cons (.callM phi__law_below 0 (.cons (.cst (.int 6)) (.nil))) (.nil))))
    (.cons (.iff (.cmp .Eq (.var 2) (.cst (.int 0))) (.cons (.ret (.tupE (.cons (.idx (.lstE (.cons (.cst .none) (.cons (.cst (.int 5)) (.cons (.bi .list (.var 1)) (.cons (.cst (.str "1")) (.cons (.cst (.bool true)) (.nil))))))) (.callM phi__law_below 0 (.cons (.cst (.int 5)) (.nil)))) (.cons (.cst (.int 0)) (.nil)))))
    (.nil)) (.nil))
    (.cons (.iff (.cmp .Eq (.var 2) (.cst (.int 1))) (.cons (.asg 3 (.callM phi__law_below 0 (.cons (.cst (.int 3)) (.nil))))
    (.cons (.ret (.tupE (.cons (.slc (.var 1) (.none) (.some (.var 3))) (.cons (.var 3) (.nil)))))
    (.nil))) (.nil))
    (.cons (.iff (.cmp .Eq (.var 2) (.cst (.int 2))) (.cons (.ret (.tupE (.cons (.slc (.bin .Add (.bin .Add (.var 1) (.var 1)) (.var 1)) (.none) (.some (.bin .Add (.cst (.int 9)) (.callM phi__law_below 0 (.cons (.cst (.int 2)) (.nil)))))) (.cons (.cst (.int 8)) (.nil)))))
    (.nil)) (.nil))
    (.cons (.asg 4 (.callM phi__law_below 0 (.cons (.bi .len (.var 1)) (.nil))))
    (.cons (.asg 5 (.idx (.lstE (.cons (.cst .none) (.cons (.cst (.bool true)) (.cons (.cst (.str "1")) (.cons (.bin .Add (.cst (.int 1000001)) (.callM phi__law_below 0 (.cons (.cst (.int 99)) (.nil)))) (.cons (.bin .Sub (.bin .Sub (.cst (.int 0)) (.cst (.int 1000001))) (.callM phi__law_below 0 (.cons (.cst (.int 99)) (.nil)))) (.cons (.tupE (.cons (.cst (.int 1)) (.nil))) (.nil)))))))) (.callM phi__law_below 0 (.cons (.cst (.int 6)) (.nil)))))
    (.cons (.ret (.tupE (.cons (.bin .Add (.bin .Add (.bin .Add (.slc (.var 1) (.none) (.some (.var 4))) (.tupE (.cons (.var 5) (.nil)))) (.slc (.var 1) (.some (.bin .Add (.var 4) (.cst (.int 1)))) (.none))) (.bin .Mult (.tupE (.cons (.cst .none) (.nil))) (.callM phi__law_below 0 (.cons (.cst (.int 2)) (.nil))))) (.cons (.var 4) (.nil)))))
    (.nil)))))))
noncomputable def phi__law_bad_marks : List D → List D → Ou (D × List D) := fmOf (ir__law_bad_marks) 5
noncomputable def b0__law_common : Sxs := .cons (.par [4, 5] (.cons (.bin .Mod (.var 5) (.var 4)) (.cons (.var 4) (.nil))))
    (.nil)
noncomputable def b1__law_common : Sxs := .cons (.par [4, 5] (.cons (.bi .abs (.bin .Sub (.var 3) (.idx (.var 1) (.cst (.int 0))))) (.cons (.var 2) (.nil))))
    (.cons (.whl (.cmp .Gt (.var 4) (.cst (.int 0))) (b0__law_common))
    (.cons (.asg 2 (.var 5))
    (.nil)))
noncomputable def ir__law_common : Sxs := .cons (.par [1, 2] (.cons (.call phi__law_differences (.cons (.var 0) (.nil))) (.cons (.cst (.int 0)) (.nil))))
    (.cons (.forr (.one 3) (.seq (.var 1)) (b1__law_common))
    (.cons (.ret (.mv 2))
    (.nil)))
noncomputable def phi__law_common : List D → Ou Sl := fnOf (ir__law_common) 5
noncomputable def b0__law_difference : Sxs := .cons (.iff (.cmp .NotEq (.bi2 .count (.var 2) (.var 4)) (.bi2 .count (.var 3) (.var 4))) (.cons (.ret (.tupE (.cons (.cst (.str "step")) (.cons (.var 4) (.cons (.bi2 .count (.var 2) (.var 4)) (.cons (.bi2 .count (.var 3) (.var 4)) (.nil)))))))
    (.nil)) (.nil))
    (.nil)
noncomputable def ir__law_difference : Sxs := .cons (.iff (.cmp .NotEq (.bi .len (.var 0)) (.bi .len (.var 1))) (.cons (.ret (.tupE (.cons (.cst (.str "seats")) (.cons (.bi .len (.var 0)) (.cons (.bi .len (.var 1)) (.nil))))))
    (.nil)) (.nil))
    (.cons (.par [2, 3] (.cons (.call phi__law_differences (.cons (.var 0) (.nil))) (.cons (.call phi__law_differences (.cons (.var 1) (.nil))) (.nil))))
    (.cons (.forr (.one 4) (.seq (.bi .sset (.bin .Add (.var 2) (.var 3)))) (b0__law_difference))
    (.cons (.asg 5 (.call phi__law_common (.cons (.var 0) (.nil))))
    (.cons (.asg 6 (.ife (.cmp .Eq (.var 5) (.cst (.int 0))) (.tupE (.cons (.idx (.var 0) (.cst (.int 0))) (.cons (.idx (.var 1) (.cst (.int 0))) (.nil)))) (.tupE (.cons (.bin .Mod (.idx (.var 0) (.cst (.int 0))) (.var 5)) (.cons (.bin .Mod (.idx (.var 1) (.cst (.int 0))) (.var 5)) (.nil))))))
    (.cons (.ret (.ife (.cmp .Eq (.idx (.var 6) (.cst (.int 0))) (.idx (.var 6) (.cst (.int 1)))) (.cst .none) (.tupE (.cons (.cst (.str "mark")) (.cons (.idx (.var 6) (.cst (.int 0))) (.cons (.idx (.var 6) (.cst (.int 1))) (.nil)))))))
    (.nil))))))
noncomputable def phi__law_difference : List D → Ou Sl := fnOf (ir__law_difference) 5
noncomputable def c0__law_equal (φself : List D → Ou Sl) : Ex := .lc (.call φself (.cons (.idx (.var 0) (.var 2)) (.cons (.idx (.var 1) (.var 2)) (.nil)))) (.one 2) (.rng1 (.bi .len (.var 1))) (.none) [2]
theorem c0__law_equal_v (φself : List D → Ou Sl) : asVar (c0__law_equal φself) = none := rfl
noncomputable def ir__law_equal (φself : List D → Ou Sl) : Sxs := .cons (.iff (.cmp .Is (.var 1) (.cst .none)) (.cons (.ret (.cmp .Is (.var 0) (.cst .none)))
    (.nil)) (.nil))
    (.cons (.iff (.isi .bool (.var 1)) (.cons (.ret (.andE (.isi .bool (.var 0)) (.cmp .Eq (.var 0) (.var 1))))
    (.nil)) (.nil))
    (.cons (.iff (.isi .int (.var 1)) (.cons (.ret (.andE (.isi .int (.var 0)) (.andE (.nt (.isi .bool (.var 0))) (.cmp .Eq (.var 0) (.var 1)))))
    (.nil)) (.nil))
    (.cons (.iff (.isi .str (.var 1)) (.cons (.ret (.andE (.isi .str (.var 0)) (.cmp .Eq (.var 0) (.var 1))))
    (.nil)) (.nil))
    (.cons (.iff (.cmp .NotEq (.isi .tuple (.var 1)) (.isi .tuple (.var 0))) (.cons (.ret (.cst (.bool false)))
    (.nil)) (.nil))
    (.cons (.iff (.cmp .NotEq (.isi .list (.var 1)) (.isi .list (.var 0))) (.cons (.ret (.cst (.bool false)))
    (.nil)) (.nil))
    (.cons (.iff (.cmp .NotEq (.bi .len (.var 0)) (.bi .len (.var 1))) (.cons (.ret (.cst (.bool false)))
    (.nil)) (.nil))
    (.cons (.ret (.bi .all (c0__law_equal φself)))
    (.nil))))))))
noncomputable def phi__law_equal : Nat → List D → Ou Sl
  | 0 => fun _ => .no
  | d + 1 => fnOf (ir__law_equal (phi__law_equal d)) 1
noncomputable def b0__law_shuffled : Sxs := .cons (.app 3 (.popE 2 (.callM phi__law_below 0 (.cons (.bi .len (.var 2)) (.nil)))))
    (.nil)
noncomputable def ir__law_shuffled : Sxs := .cons (.asg 2 (.bi .list (.var 1)))
    (.cons (.asg 3 (.lstE (.nil)))
    (.cons (.whl (.cmp .NotEq (.var 2) (.lstE (.nil))) (b0__law_shuffled))
    (.cons (.ret (.mv 3))
    (.nil))))
noncomputable def phi__law_shuffled : List D → List D → Ou (D × List D) := fmOf (ir__law_shuffled) 2
noncomputable def ir__law_pins : Sxs := .cons (.asg 2 (.slc (.callM phi__law_shuffled 0 (.cons (.lrng (.var 1)) (.nil))) (.none) (.some (.bin .Add (.cst (.int 1)) (.callM phi__law_below 0 (.cons (.idx (.lstE (.cons (.cst (.int 1)) (.cons (.cst (.int 3)) (.nil)))) (.callM phi__law_below 0 (.cons (.cst (.int 2)) (.nil)))) (.nil)))))))
    (.cons (.ret (.bi .tuple (.bi .sorted (.var 2))))
    (.nil))
noncomputable def phi__law_pins : List D → List D → Ou (D × List D) := fmOf (ir__law_pins) 1
noncomputable def c0__law_few : Ex := .lc (.bin .Mod (.bin .Add (.var 2) (.bin .Mult (.cst (.int 3)) (.var 4))) (.var 3)) (.one 4) (.rng1 (.bin .FloorDiv (.bin .Add (.var 3) (.cst (.int 2))) (.cst (.int 3)))) (.none) [4]
theorem c0__law_few_v : asVar (c0__law_few) = none := rfl
noncomputable def ir__law_few : Sxs := .cons (.asg 1 (.callM phi__law_marks 0 (.nil)))
    (.cons (.iff (.cmp .Gt (.callM phi__law_below 0 (.cons (.cst (.int 3)) (.nil))) (.cst (.int 0))) (.cons (.ret (.tupE (.cons (.slc (.var 1) (.none) (.some (.cst (.int 5)))) (.cons (.callM phi__law_pins 0 (.cons (.bi .len (.slc (.var 1) (.none) (.some (.cst (.int 5))))) (.nil))) (.nil)))))
    (.nil)) (.nil))
    (.cons (.par [2, 3] (.cons (.callM phi__law_below 0 (.cons (.bi .len (.var 1)) (.nil))) (.cons (.bi .len (.var 1)) (.nil))))
    (.cons (.ret (.tupE (.cons (.var 1) (.cons (.bi .tuple (.bi .sset (c0__law_few))) (.nil)))))
    (.nil))))
noncomputable def phi__law_few : List D → List D → Ou (D × List D) := fmOf (ir__law_few) 4
noncomputable def c0__law_inversions : Ex := .lc (.var 5) (.one 5) (.seq (.slc (.var 2) (.some (.bin .Add (.var 7) (.cst (.int 1)))) (.none))) (.some (.cmp .Lt (.var 5) (.idx (.var 2) (.var 7)))) [5]
theorem c0__law_inversions_v : asVar (c0__law_inversions) = none := rfl
noncomputable def b0__law_inversions : Sxs := .cons (.asg 6 (.bin .Add (.var 6) (.bi .len (c0__law_inversions))))
    (.nil)
noncomputable def c1__law_inversions : Ex := .lc (.var 8) (.one 8) (.seq (.var 3)) (.some (.cmp .Eq (.idx (.var 1) (.var 8)) (.var 4))) [8]
theorem c1__law_inversions_v : asVar (c1__law_inversions) = none := rfl
noncomputable def b1__law_inversions : Sxs := .cons (.asg 5 (.idx (c1__law_inversions) (.cst (.int 0))))
    (.cons (.rem 3 (.var 5))
    (.cons (.app 2 (.var 5))
    (.nil)))
noncomputable def ir__law_inversions : Sxs := .cons (.par [2, 3] (.cons (.lstE (.nil)) (.cons (.lrng (.bi .len (.var 1))) (.nil))))
    (.cons (.forr (.one 4) (.seq (.var 0)) (b1__law_inversions))
    (.cons (.asg 6 (.cst (.int 0)))
    (.cons (.forr (.one 7) (.rng1 (.bi .len (.var 2))) (b0__law_inversions))
    (.cons (.ret (.mv 6))
    (.nil)))))
noncomputable def phi__law_inversions : List D → Ou Sl := fnOf (ir__law_inversions) 7
noncomputable def c0__law_is_number : Ex := .lc (.var 2) (.one 2) (.seq (.var 1)) (.some (.cmp .NotIn (.var 2) (.cst (.str "0123456789")))) [2]
theorem c0__law_is_number_v : asVar (c0__law_is_number) = none := rfl
noncomputable def ir__law_is_number : Sxs := .cons (.asg 1 (.ife (.cmp .Eq (.slc (.var 0) (.none) (.some (.cst (.int 1)))) (.cst (.str "-"))) (.slc (.var 0) (.some (.cst (.int 1))) (.none)) (.var 0)))
    (.cons (.iff (.orE (.nt (.chain .LtE .LtE (.cst (.int 1)) (.bi .len (.var 1)) (.cst (.int 19)))) (.cmp .NotEq (c0__law_is_number) (.lstE (.nil)))) (.cons (.ret (.cst (.bool false)))
    (.nil)) (.nil))
    (.cons (.ret (.orE (.cmp .Eq (.var 0) (.cst (.str "0"))) (.cmp .NotEq (.idx (.var 1) (.cst (.int 0))) (.cst (.str "0")))))
    (.nil)))
noncomputable def phi__law_is_number : List D → Ou Sl := fnOf (ir__law_is_number) 2
noncomputable def c0__law_little : Ex := .lc (.callM phi__law_below 0 (.cons (.idx (.lstE (.cons (.cst (.int 3)) (.cons (.cst (.int 9)) (.cons (.cst (.int 30)) (.nil))))) (.callM phi__law_below 0 (.cons (.cst (.int 3)) (.nil)))) (.nil))) (.one 2) (.rng1 (.bin .Add (.cst (.int 3)) (.callM phi__law_below 0 (.cons (.bin .Sub (.var 1) (.cst (.int 2))) (.nil))))) (.none) [2]
theorem c0__law_little_v : asVar (c0__law_little) = none := rfl
noncomputable def ir__law_little : Sxs := .cons (.ret (.bi .tuple (c0__law_little)))
    (.nil)
noncomputable def phi__law_little : List D → List D → Ou (D × List D) := fmOf (ir__law_little) 1
noncomputable def c0__law_operation : Ex := .lc (.idx (.var 6) (.callM phi__law_below 0 (.cons (.bi .len (.var 6)) (.nil)))) (.one 9) (.rng1 (.callM phi__law_below 0 (.cons (.cst (.int 5)) (.nil)))) (.none) [9]
theorem c0__law_operation_v : asVar (c0__law_operation) = none := rfl
noncomputable def c1__law_operation : Ex := .lc (.var 8) (.one 8) (.rng1 (.var 2)) (.some (.cmp .NotIn (.var 8) (.idx (.var 1) (.cst (.int 1))))) [8]
theorem c1__law_operation_v : asVar (c1__law_operation) = none := rfl
noncomputable def ir__law_operation : Sxs := .cons (.par [2, 3] (.cons (.bi .len (.idx (.var 1) (.cst (.int 0)))) (.cons (.callM phi__law_below 0 (.cons (.cst (.int 12)) (.nil))) (.nil))))
    (.cons (.iff (.cmp .Lt (.var 3) (.cst (.int 3))) (.cons (.ret (.tupE (.cons (.cst (.str "reflect")) (.cons (.ife (.cmp .Gt (.callM phi__law_below 0 (.cons (.cst (.int 9)) (.nil))) (.cst (.int 0))) (.callM phi__law_below 0 (.cons (.var 2) (.nil))) (.var 2)) (.nil)))))
    (.nil)) (.nil))
    (.cons (.iff (.cmp .Eq (.var 3) (.cst (.int 3))) (.cons (.asg 4 (.callM phi__law_pins 0 (.cons (.var 2) (.nil))))
    (.cons (.ret (.tupE (.cons (.cst (.str "pin")) (.cons (.idx (.lstE (.cons (.var 4) (.cons (.var 4) (.cons (.tupE (.nil)) (.cons (.bin .Add (.rev (.var 4)) (.tupE (.cons (.var 2) (.nil)))) (.nil)))))) (.callM phi__law_below 0 (.cons (.cst (.int 4)) (.nil)))) (.nil)))))
    (.nil))) (.nil))
    (.cons (.iff (.cmp .Eq (.var 3) (.cst (.int 4))) (.cons (.ret (.tupE (.cons (.cst (.str "shift")) (.cons (.idx (.lstE (.cons (.bin .Sub (.callM phi__law_below 0 (.cons (.cst (.int 20)) (.nil))) (.cst (.int 9))) (.cons (.bin .Sub (.callM phi__law_below 0 (.cons (.cst (.int 20)) (.nil))) (.cst (.int 9))) (.cons (.cst (.int 1000001)) (.nil))))) (.callM phi__law_below 0 (.cons (.cst (.int 3)) (.nil)))) (.nil)))))
    (.nil)) (.nil))
    (.cons (.iff (.cmp .Eq (.var 3) (.cst (.int 5))) (.cons (.ret (.tupE (.cons (.cst (.str "turn")) (.cons (.idx (.lstE (.cons (.callM phi__law_below 0 (.cons (.var 2) (.nil))) (.cons (.callM phi__law_below 0 (.cons (.var 2) (.nil))) (.cons (.var 2) (.nil))))) (.callM phi__law_below 0 (.cons (.cst (.int 3)) (.nil)))) (.nil)))))
    (.nil)) (.nil))
    (.cons (.iff (.cmp .Lt (.var 3) (.cst (.int 8))) (.cons (.asg 5 (.idx (.lstE (.cons (.callM phi__law_below 0 (.cons (.cst (.int 9)) (.nil))) (.cons (.callM phi__law_below 0 (.cons (.cst (.int 9)) (.nil))) (.cons (.bin .Pow (.cst (.int 10)) (.cst (.int 18))) (.cons (.bin .Sub (.cst (.int 0)) (.cst (.int 1))) (.nil)))))) (.callM phi__law_below 0 (.cons (.cst (.int 4)) (.nil)))))
    (.cons (.asg 6 (c1__law_operation))
    (.cons (.asg 7 (.ife (.cmp .NotEq (.var 6) (.lstE (.nil))) (c0__law_operation) (.lstE (.nil))))
    (.cons (.iff (.cmp .Eq (.callM phi__law_below 0 (.cons (.cst (.int 6)) (.nil))) (.cst (.int 0))) (.cons (.app 7 (.callM phi__law_below 0 (.cons (.bin .Add (.var 2) (.cst (.int 1))) (.nil))))
    (.nil)) (.nil))
    (.cons (.ret (.tupE (.cons (.cst (.str "repeat")) (.cons (.var 7) (.cons (.var 5) (.nil))))))
    (.nil)))))) (.nil))
    (.cons (.ret (.tupE (.cons (.idx (.lstE (.cons (.cst (.str "undo")) (.cons (.cst (.str "undo")) (.cons (.cst (.str "redo")) (.cons (.cst (.str "redo")) (.nil)))))) (.bin .Sub (.var 3) (.cst (.int 8)))) (.nil))))
    (.nil)))))))
noncomputable def phi__law_operation : List D → List D → Ou (D × List D) := fmOf (ir__law_operation) 8
noncomputable def c0__law_orders (φself : List D → Ou Sl) : Ex := .lc (.bin .Add (.tupE (.cons (.var 2) (.nil))) (.var 4)) (.one 4) (.seq (.call φself (.cons (.var 3) (.nil)))) (.none) [4]
theorem c0__law_orders_v (φself : List D → Ou Sl) : asVar (c0__law_orders φself) = none := rfl
noncomputable def b0__law_orders (φself : List D → Ou Sl) : Sxs := .cons (.asg 3 (.bi .list (.var 0)))
    (.cons (.rem 3 (.var 2))
    (.cons (.asg 1 (.bin .Add (.var 1) (c0__law_orders φself)))
    (.nil)))
noncomputable def ir__law_orders (φself : List D → Ou Sl) : Sxs := .cons (.iff (.cmp .Eq (.var 0) (.lstE (.nil))) (.cons (.ret (.lstE (.cons (.tupE (.nil)) (.nil))))
    (.nil)) (.nil))
    (.cons (.asg 1 (.lstE (.nil)))
    (.cons (.forr (.one 2) (.seq (.bi .sset (.var 0))) (b0__law_orders φself))
    (.cons (.ret (.mv 1))
    (.nil))))
noncomputable def phi__law_orders : Nat → List D → Ou Sl
  | 0 => fun _ => .no
  | d + 1 => fnOf (ir__law_orders (phi__law_orders d)) 4
noncomputable def c0__law_seats : Ex := .lc (.callM phi__law_below 0 (.cons (.var 1) (.nil))) (.one 3) (.rng1 (.callM phi__law_below 0 (.cons (.bin .Add (.var 2) (.cst (.int 1))) (.nil)))) (.none) [3]
theorem c0__law_seats_v : asVar (c0__law_seats) = none := rfl
noncomputable def ir__law_seats : Sxs := .cons (.ret (c0__law_seats))
    (.nil)
noncomputable def phi__law_seats : List D → List D → Ou (D × List D) := fmOf (ir__law_seats) 1
noncomputable def c0__law_other : Ex := .lc (.bin .Add (.var 8) (.var 6)) (.one 8) (.seq (.var 3)) (.none) [8]
theorem c0__law_other_v : asVar (c0__law_other) = none := rfl
noncomputable def b0__law_other : Sxs := .cons (.asg 3 (.bin .Add (.var 3) (.tupE (.cons (.bin .Add (.idx (.var 3) (.neg (.cst (.int 1)))) (.var 5)) (.nil)))))
    (.nil)
noncomputable def ir__law_other : Sxs := .cons (.asg 2 (.callM phi__law_below 0 (.cons (.cst (.int 5)) (.nil))))
    (.cons (.iff (.cmp .Eq (.var 2) (.cst (.int 0))) (.cons (.ret (.callM phi__law_marks 0 (.nil)))
    (.nil)) (.nil))
    (.cons (.asg 3 (.call phi__law_all_reflected (.cons (.var 1) (.cons (.callM phi__law_seats 0 (.cons (.bi .len (.var 1)) (.cons (.cst (.int 9)) (.nil)))) (.nil)))))
    (.cons (.iff (.cmp .Eq (.var 2) (.cst (.int 1))) (.cons (.asg 4 (.callM phi__law_shuffled 0 (.cons (.call phi__law_differences (.cons (.var 1) (.nil))) (.nil))))
    (.cons (.asg 3 (.tupE (.cons (.idx (.var 1) (.cst (.int 0))) (.nil))))
    (.cons (.forr (.one 5) (.seq (.slc (.var 4) (.none) (.some (.neg (.cst (.int 1)))))) (b0__law_other))
    (.nil)))) (.nil))
    (.cons (.iff (.cmp .Eq (.var 2) (.cst (.int 2))) (.cons (.asg 6 (.idx (.lstE (.cons (.bin .Sub (.callM phi__law_below 0 (.cons (.cst (.int 7)) (.nil))) (.cst (.int 3))) (.cons (.bin .Mult (.call phi__law_common (.cons (.var 1) (.nil))) (.bin .Sub (.callM phi__law_below 0 (.cons (.cst (.int 5)) (.nil))) (.cst (.int 2)))) (.nil)))) (.callM phi__law_below 0 (.cons (.cst (.int 2)) (.nil)))))
    (.cons (.asg 3 (.bi .tuple (c0__law_other)))
    (.nil))) (.nil))
    (.cons (.iff (.cmp .Eq (.var 2) (.cst (.int 3))) (.cons (.asg 7 (.callM phi__law_below 0 (.cons (.bi .len (.var 3)) (.nil))))
    (.cons (.asg 3 (.bin .Add (.bin .Add (.slc (.var 3) (.none) (.some (.var 7))) (.tupE (.cons (.bin .Add (.bin .Add (.idx (.var 3) (.var 7)) (.cst (.int 1))) (.callM phi__law_below 0 (.cons (.cst (.int 3)) (.nil)))) (.nil)))) (.slc (.var 3) (.some (.bin .Add (.var 7) (.cst (.int 1)))) (.none))))
    (.nil))) (.nil))
    (.cons (.ret (.ife (.andE (.cmp .LtE (.bi .max1 (.var 3)) (.cst (.int 1000000))) (.cmp .GtE (.bi .min1 (.var 3)) (.bin .Sub (.cst (.int 0)) (.cst (.int 1000000))))) (.var 3) (.var 1)))
    (.nil)))))))
noncomputable def phi__law_other : List D → List D → Ou (D × List D) := fmOf (ir__law_other) 7
noncomputable def ir__law_parsed : Sxs := .cons (.iff (.cmp .Eq (.var 2) (.cst (.int 0))) (.cons (.ret (.ife (.cmp .Eq (.var 0) (.cst (.str "marks"))) (.bi .tuple (.var 1)) (.cst .none)))
    (.nil)) (.nil))
    (.cons (.iff (.cmp .In (.var 0) (.lstE (.cons (.cst (.str "undo")) (.cons (.cst (.str "redo")) (.nil))))) (.cons (.ret (.ife (.cmp .Eq (.var 1) (.lstE (.nil))) (.tupE (.cons (.var 0) (.nil))) (.cst .none)))
    (.nil)) (.nil))
    (.cons (.iff (.cmp .Eq (.var 0) (.cst (.str "pin"))) (.cons (.ret (.tupE (.cons (.cst (.str "pin")) (.cons (.bi .tuple (.var 1)) (.nil)))))
    (.nil)) (.nil))
    (.cons (.iff (.cmp .Eq (.var 0) (.cst (.str "repeat"))) (.cons (.ret (.ife (.cmp .NotEq (.var 1) (.lstE (.nil))) (.tupE (.cons (.cst (.str "repeat")) (.cons (.slc (.var 1) (.some (.cst (.int 1))) (.none)) (.cons (.idx (.var 1) (.cst (.int 0))) (.nil))))) (.cst .none)))
    (.nil)) (.nil))
    (.cons (.ret (.ife (.andE (.cmp .In (.var 0) (.lstE (.cons (.cst (.str "reflect")) (.cons (.cst (.str "shift")) (.cons (.cst (.str "turn")) (.nil)))))) (.cmp .Eq (.bi .len (.var 1)) (.cst (.int 1)))) (.tupE (.cons (.var 0) (.cons (.idx (.var 1) (.cst (.int 0))) (.nil)))) (.cst .none)))
    (.nil)))))
noncomputable def phi__law_parsed : List D → Ou Sl := fnOf (ir__law_parsed) 0
noncomputable def ir_is_int_in : Sxs := .cons (.ret (.andE (.isi .int (.var 0)) (.andE (.nt (.isi .bool (.var 0))) (.chain .LtE .LtE (.var 1) (.var 0) (.var 2)))))
    (.nil)
noncomputable def phi_is_int_in : List D → Ou Sl := fnOf (ir_is_int_in) 0
noncomputable def b0_check_marks (q : Bool) : Sxs := .cons (.iff (.orE (.cmp .Eq (.var 1) (.cst (.int 8))) (.nt (.call phi_is_int_in (.cons (.var 2) (.cons (.bin .Sub (.cst (.int 0)) (.cst (.int 1000000))) (.cons (.cst (.int 1000000)) (.nil))))))) (.cons (rz q (.raise "InvalidMarks" (mk1 "position") (.cons (.var 1) (.nil))))
    (.nil)) (.nil))
    (.nil)
noncomputable def ir_check_marks (q : Bool) : Sxs := .cons (.iff (.nt (.isi .tuple (.var 0))) (.cons (rz q (.raise "InvalidMarks" (mk1 "position") (.cons (.cst (.int 0)) (.nil))))
    (.nil)) (.nil))
    (.cons (.forr (.tup [1, 2]) (.enum (.var 0)) (b0_check_marks q))
    (.cons (.iff (.cmp .Lt (.bi .len (.var 0)) (.cst (.int 3))) (.cons (rz q (.raise "InvalidMarks" (mk1 "position") (.cons (.bi .len (.var 0)) (.nil))))
    (.nil)) (.nil))
    (.nil)))
noncomputable def phi_check_marks (q : Bool) : List D → Ou Sl := fnOf (ir_check_marks q) 2
noncomputable def c0_check_pins (q : Bool) : Ex := .lc (.cmp .Lt (.var 2) (.var 3)) (.tup [2, 3]) (.zip (.var 0) (.slc (.var 0) (.some (.cst (.int 1))) (.none))) (.none) [2, 3]
theorem c0_check_pins_v (q : Bool) : asVar (c0_check_pins q) = none := rfl
noncomputable def c1_check_pins (q : Bool) : Ex := .lc (.call phi_is_int_in (.cons (.var 4) (.cons (.cst (.int 0)) (.cons (.bin .Sub (.var 1) (.cst (.int 1))) (.nil))))) (.one 4) (.seq (.var 0)) (.none) [4]
theorem c1_check_pins_v (q : Bool) : asVar (c1_check_pins q) = none := rfl
noncomputable def ir_check_pins (q : Bool) : Sxs := .cons (.iff (.orE (.nt (.isi .tuple (.var 0))) (.nt (.bi .all (c1_check_pins q)))) (.cons (rz q (.raise "InvalidPins" mk0 .nil))
    (.nil)) (.nil))
    (.cons (.iff (.nt (.bi .all (c0_check_pins q))) (.cons (rz q (.raise "InvalidPins" mk0 .nil))
    (.nil)) (.nil))
    (.nil))
noncomputable def phi_check_pins (q : Bool) : List D → Ou Sl := fnOf (ir_check_pins q) 3
noncomputable def ir_check_pinned (q : Bool) : Sxs := .cons (.expr (.call (phi_check_marks q) (.cons (.var 0) (.nil))))
    (.cons (.expr (.call (phi_check_pins q) (.cons (.var 1) (.cons (.bi .len (.var 0)) (.nil)))))
    (.cons (.iff (.cmp .Eq (.var 1) (.tupE (.nil))) (.cons (rz q (.raise "InvalidPins" mk0 .nil))
    (.nil)) (.nil))
    (.nil)))
noncomputable def phi_check_pinned (q : Bool) : List D → Ou Sl := fnOf (ir_check_pinned q) 0
noncomputable def c0_steps_of : Ex := .lc (.bin .Sub (.idx (.var 0) (.bin .Mod (.bin .Add (.var 1) (.cst (.int 1))) (.bi .len (.var 0)))) (.var 2)) (.tup [1, 2]) (.enum (.var 0)) (.none) [1, 2]
theorem c0_steps_of_v : asVar (c0_steps_of) = none := rfl
noncomputable def ir_steps_of : Sxs := .cons (.ret (.bi .tuple (c0_steps_of)))
    (.nil)
noncomputable def phi_steps_of : List D → Ou Sl := fnOf (ir_steps_of) 2
noncomputable def c0_arcs_of : Ex := .lc (.idx (.var 2) (.bin .Mod (.var 6) (.bi .len (.var 0)))) (.one 6) (.rng2 (.var 4) (.var 5)) (.none) [6]
theorem c0_arcs_of_v : asVar (c0_arcs_of) = none := rfl
noncomputable def b0_arcs_of : Sxs := .cons (.app 3 (.bi .tuple (c0_arcs_of)))
    (.nil)
noncomputable def ir_arcs_of : Sxs := .cons (.asg 2 (.call phi_steps_of (.cons (.var 0) (.nil))))
    (.cons (.asg 3 (.lstE (.nil)))
    (.cons (.forr (.tup [4, 5]) (.zip (.var 1) (.bin .Add (.slc (.var 1) (.some (.cst (.int 1))) (.none)) (.tupE (.cons (.bin .Add (.idx (.var 1) (.cst (.int 0))) (.bi .len (.var 0))) (.nil))))) (b0_arcs_of))
    (.cons (.ret (.mv 3))
    (.nil))))
noncomputable def phi_arcs_of : List D → Ou Sl := fnOf (ir_arcs_of) 5
noncomputable def c0_find_arcs (q : Bool) : Ex := .lc (.bi .list (.var 2)) (.one 2) (.seq (.call phi_arcs_of (.cons (.var 0) (.cons (.var 1) (.nil))))) (.none) [2]
theorem c0_find_arcs_v (q : Bool) : asVar (c0_find_arcs q) = none := rfl
noncomputable def ir_find_arcs (q : Bool) : Sxs := .cons (.expr (.call (phi_check_pinned q) (.cons (.var 0) (.cons (.var 1) (.nil)))))
    (.cons (.ret (c0_find_arcs q))
    (.nil))
noncomputable def phi_find_arcs (q : Bool) : List D → Ou Sl := fnOf (ir_find_arcs q) 1
noncomputable def b0_pinned_difference : Sxs := .cons (.iff (.cmp .NotEq (.bi .sorted (.var 4)) (.bi .sorted (.var 5))) (.cons (.ret (.tupE (.cons (.cst (.str "arc")) (.cons (.var 3) (.cons (.bi .sorted (.var 4)) (.cons (.bi .sorted (.var 5)) (.nil)))))))
    (.nil)) (.nil))
    (.nil)
noncomputable def b1_pinned_difference : Sxs := .cons (.iff (.cmp .NotEq (.idx (.var 0) (.var 3)) (.idx (.var 1) (.var 3))) (.cons (.ret (.tupE (.cons (.cst (.str "pin")) (.cons (.var 3) (.cons (.idx (.var 0) (.var 3)) (.cons (.idx (.var 1) (.var 3)) (.nil)))))))
    (.nil)) (.nil))
    (.nil)
noncomputable def ir_pinned_difference : Sxs := .cons (.iff (.cmp .NotEq (.bi .len (.var 0)) (.bi .len (.var 1))) (.cons (.ret (.tupE (.cons (.cst (.str "seats")) (.cons (.bi .len (.var 0)) (.cons (.bi .len (.var 1)) (.nil))))))
    (.nil)) (.nil))
    (.cons (.forr (.one 3) (.seq (.var 2)) (b1_pinned_difference))
    (.cons (.forr (.tup [3, 4, 5]) (.zip3 (.var 2) (.call phi_arcs_of (.cons (.var 0) (.cons (.var 2) (.nil)))) (.call phi_arcs_of (.cons (.var 1) (.cons (.var 2) (.nil))))) (b0_pinned_difference))
    (.cons (.ret (.cst .none))
    (.nil))))
noncomputable def phi_pinned_difference : List D → Ou Sl := fnOf (ir_pinned_difference) 3
noncomputable def ir_find_pinned_difference (q : Bool) : Sxs := .cons (.expr (.call (phi_check_marks q) (.cons (.var 0) (.nil))))
    (.cons (.expr (.call (phi_check_marks q) (.cons (.var 1) (.nil))))
    (.cons (.expr (.call (phi_check_pinned q) (.cons (.var 0) (.cons (.var 2) (.nil)))))
    (.cons (.ret (.call phi_pinned_difference (.cons (.var 0) (.cons (.var 1) (.cons (.var 2) (.nil))))))
    (.nil))))
noncomputable def phi_find_pinned_difference (q : Bool) : List D → Ou Sl := fnOf (ir_find_pinned_difference q) 0
noncomputable def b0_sort_arc : Sxs := .cons (.unp [.sub 2 (.bin .Sub (.var 6) (.cst (.int 1))), .sub 2 (.var 6)] (.tupE (.cons (.idx (.var 2) (.var 6)) (.cons (.idx (.var 2) (.bin .Sub (.var 6) (.cst (.int 1)))) (.nil)))))
    (.cons (.app 3 (.var 6))
    (.cons (.aug 6 .Sub (.cst (.int 1)))
    (.nil)))
noncomputable def b1_sort_arc : Sxs := .cons (.asg 6 (.idx3 2 (.var 5) (.var 4)))
    (.cons (.whl (.cmp .Gt (.var 6) (.var 4)) (b0_sort_arc))
    (.nil))
noncomputable def ir_sort_arc : Sxs := .cons (.par [2, 3] (.cons (.bi .list (.var 0)) (.cons (.lstE (.nil)) (.nil))))
    (.cons (.forr (.tup [4, 5]) (.enum (.var 1)) (b1_sort_arc))
    (.cons (.ret (.mv 3))
    (.nil)))
noncomputable def phi_sort_arc : List D → Ou Sl := fnOf (ir_sort_arc) 5
noncomputable def c0_pinned_moves (q : Bool) : Ex := .lc (.bin .Mod (.bin .Add (.var 4) (.var 7)) (.bi .len (.var 0))) (.one 7) (.seq (.call phi_sort_arc (.cons (.var 5) (.cons (.var 6) (.nil))))) (.none) [7]
theorem c0_pinned_moves_v (q : Bool) : asVar (c0_pinned_moves q) = none := rfl
noncomputable def b0_pinned_moves (q : Bool) : Sxs := .cons (.ext 3 (c0_pinned_moves q))
    (.nil)
noncomputable def ir_pinned_moves (q : Bool) : Sxs := .cons (.expr (.call (phi_check_marks q) (.cons (.var 0) (.nil))))
    (.cons (.expr (.call (phi_check_marks q) (.cons (.var 1) (.nil))))
    (.cons (.expr (.call (phi_check_pinned q) (.cons (.var 0) (.cons (.var 2) (.nil)))))
    (.cons (.iff (.cmp .IsNot (.call phi_pinned_difference (.cons (.var 0) (.cons (.var 1) (.cons (.var 2) (.nil))))) (.cst .none)) (.cons (rz q (.raise "NotReachable" mk0 .nil))
    (.nil)) (.nil))
    (.cons (.asg 3 (.lstE (.nil)))
    (.cons (.forr (.tup [4, 5, 6]) (.zip3 (.var 2) (.call phi_arcs_of (.cons (.var 0) (.cons (.var 2) (.nil)))) (.call phi_arcs_of (.cons (.var 1) (.cons (.var 2) (.nil))))) (b0_pinned_moves q))
    (.cons (.ret (.mv 3))
    (.nil)))))))
noncomputable def phi_pinned_moves (q : Bool) : List D → Ou Sl := fnOf (ir_pinned_moves q) 5
noncomputable def b0_factorial : Sxs := .cons (.aug 1 .Mult (.var 2))
    (.nil)
noncomputable def ir_factorial : Sxs := .cons (.asg 1 (.cst (.int 1)))
    (.cons (.forr (.one 2) (.rng2 (.cst (.int 2)) (.bin .Add (.var 0) (.cst (.int 1)))) (b0_factorial))
    (.cons (.ret (.mv 1))
    (.nil)))
noncomputable def phi_factorial : List D → Ou Sl := fnOf (ir_factorial) 2
noncomputable def b0_count_orders : Sxs := .cons (.aug 1 .FloorDiv (.call phi_factorial (.cons (.bi2 .count (.var 0) (.var 2)) (.nil))))
    (.nil)
noncomputable def ir_count_orders : Sxs := .cons (.asg 1 (.call phi_factorial (.cons (.bi .len (.var 0)) (.nil))))
    (.cons (.forr (.one 2) (.seq (.bi .sset (.var 0))) (b0_count_orders))
    (.cons (.ret (.mv 1))
    (.nil)))
noncomputable def phi_count_orders : List D → Ou Sl := fnOf (ir_count_orders) 2
noncomputable def b0_count_pinned (q : Bool) : Sxs := .cons (.aug 2 .Mult (.call phi_count_orders (.cons (.bi .list (.var 3)) (.nil))))
    (.nil)
noncomputable def ir_count_pinned (q : Bool) : Sxs := .cons (.expr (.call (phi_check_pinned q) (.cons (.var 0) (.cons (.var 1) (.nil)))))
    (.cons (.asg 2 (.cst (.int 1)))
    (.cons (.forr (.one 3) (.seq (.call phi_arcs_of (.cons (.var 0) (.cons (.var 1) (.nil))))) (b0_count_pinned q))
    (.cons (.ret (.mv 2))
    (.nil))))
noncomputable def phi_count_pinned (q : Bool) : List D → Ou Sl := fnOf (ir_count_pinned q) 2
noncomputable def b0_order_rank : Sxs := .cons (.iff (.cmp .Lt (.var 4) (.var 3)) (.cons (.asg 5 (.bi .list (.var 2)))
    (.cons (.rem 5 (.var 4))
    (.cons (.aug 1 .Add (.call phi_count_orders (.cons (.var 5) (.nil))))
    (.nil)))) (.nil))
    (.nil)
noncomputable def b1_order_rank : Sxs := .cons (.forr (.one 4) (.seq (.bi .sset (.var 2))) (b0_order_rank))
    (.cons (.rem 2 (.var 3))
    (.nil))
noncomputable def ir_order_rank : Sxs := .cons (.par [1, 2] (.cons (.cst (.int 0)) (.cons (.bi .sorted (.var 0)) (.nil))))
    (.cons (.forr (.one 3) (.seq (.var 0)) (b1_order_rank))
    (.cons (.ret (.mv 1))
    (.nil)))
noncomputable def phi_order_rank : List D → Ou Sl := fnOf (ir_order_rank) 5
noncomputable def b0_rank_pinned (q : Bool) : Sxs := .cons (.asg 2 (.bin .Add (.bin .Mult (.var 2) (.call phi_count_orders (.cons (.bi .list (.var 3)) (.nil)))) (.call phi_order_rank (.cons (.var 3) (.nil)))))
    (.nil)
noncomputable def ir_rank_pinned (q : Bool) : Sxs := .cons (.expr (.call (phi_check_pinned q) (.cons (.var 0) (.cons (.var 1) (.nil)))))
    (.cons (.asg 2 (.cst (.int 0)))
    (.cons (.forr (.one 3) (.seq (.call phi_arcs_of (.cons (.var 0) (.cons (.var 1) (.nil))))) (b0_rank_pinned q))
    (.cons (.ret (.mv 2))
    (.nil))))
noncomputable def phi_rank_pinned (q : Bool) : List D → Ou Sl := fnOf (ir_rank_pinned q) 2
noncomputable def b0_marks_of : Sxs := .cons (.app 2 (.bin .Add (.idx (.var 2) (.neg (.cst (.int 1)))) (.var 3)))
    (.nil)
noncomputable def ir_marks_of : Sxs := .cons (.asg 2 (.lstE (.cons (.var 0) (.nil))))
    (.cons (.forr (.one 3) (.seq (.slc (.var 1) (.none) (.some (.neg (.cst (.int 1)))))) (b0_marks_of))
    (.cons (.ret (.bi .tuple (.var 2)))
    (.nil)))
noncomputable def phi_marks_of : List D → Ou Sl := fnOf (ir_marks_of) 2
noncomputable def c0_ring_of : Ex := .lc (.idx (.var 3) (.bin .Mod (.bin .Sub (.var 7) (.var 5)) (.bi .len (.var 3)))) (.one 7) (.rng1 (.bi .len (.var 3))) (.none) [7]
theorem c0_ring_of_v : asVar (c0_ring_of) = none := rfl
noncomputable def b0_ring_of : Sxs := .cons (.ext 3 (.bi .list (.var 4)))
    (.nil)
noncomputable def ir_ring_of : Sxs := .cons (.asg 3 (.lstE (.nil)))
    (.cons (.forr (.one 4) (.seq (.var 0)) (b0_ring_of))
    (.cons (.asg 5 (.idx (.var 1) (.cst (.int 0))))
    (.cons (.asg 6 (.bi .tuple (c0_ring_of)))
    (.cons (.ret (.call phi_marks_of (.cons (.bin .Sub (.var 2) (.bi .sum (.slc (.var 6) (.none) (.some (.var 5))))) (.cons (.var 6) (.nil)))))
    (.nil)))))
noncomputable def phi_ring_of : List D → Ou Sl := fnOf (ir_ring_of) 5
noncomputable def b0_order_at : Sxs := .cons (.asg 5 (.bi .list (.var 3)))
    (.cons (.rem 5 (.var 4))
    (.cons (.asg 6 (.call phi_count_orders (.cons (.var 5) (.nil))))
    (.cons (.iff (.cmp .Lt (.var 1) (.var 6)) (.cons (.brk)
    (.nil)) (.nil))
    (.cons (.aug 1 .Sub (.var 6))
    (.nil)))))
noncomputable def b1_order_at : Sxs := .cons (.forr (.one 4) (.seq (.bi .sset (.var 3))) (b0_order_at))
    (.cons (.app 2 (.var 4))
    (.cons (.asg 3 (.var 5))
    (.nil)))
noncomputable def ir_order_at : Sxs := .cons (.par [2, 3] (.cons (.lstE (.nil)) (.cons (.bi .sorted (.var 0)) (.nil))))
    (.cons (.whl (.cmp .NotEq (.var 3) (.lstE (.nil))) (b1_order_at))
    (.cons (.ret (.bi .tuple (.var 2)))
    (.nil)))
noncomputable def phi_order_at : List D → Ou Sl := fnOf (ir_order_at) 5
noncomputable def b0_pinned_at (q : Bool) : Sxs := .cons (.unp [.nm 2, .nm 7] (.bi2 .dvm (.var 2) (.call phi_count_orders (.cons (.bi .list (.var 5)) (.nil)))))
    (.cons (.app 6 (.call phi_order_at (.cons (.bi .list (.var 5)) (.cons (.var 7) (.nil)))))
    (.nil))
noncomputable def b1_pinned_at (q : Bool) : Sxs := .cons (.aug 4 .Mult (.call phi_count_orders (.cons (.bi .list (.var 5)) (.nil))))
    (.nil)
noncomputable def ir_pinned_at (q : Bool) : Sxs := .cons (.expr (.call (phi_check_pinned q) (.cons (.var 0) (.cons (.var 1) (.nil)))))
    (.cons (.asg 3 (.call phi_arcs_of (.cons (.var 0) (.cons (.var 1) (.nil)))))
    (.cons (.asg 4 (.cst (.int 1)))
    (.cons (.forr (.one 5) (.seq (.var 3)) (b1_pinned_at q))
    (.cons (.iff (.nt (.call phi_is_int_in (.cons (.var 2) (.cons (.cst (.int 0)) (.cons (.bin .Sub (.var 4) (.cst (.int 1))) (.nil)))))) (.cons (rz q (.raise "InvalidIndex" mk0 .nil))
    (.nil)) (.nil))
    (.cons (.asg 6 (.lstE (.nil)))
    (.cons (.forr (.one 5) (.seq (.rev (.var 3))) (b0_pinned_at q))
    (.cons (.ret (.call phi_ring_of (.cons (.rev (.var 6)) (.cons (.var 1) (.cons (.idx (.var 0) (.idx (.var 1) (.cst (.int 0)))) (.nil))))))
    (.nil))))))))
noncomputable def phi_pinned_at (q : Bool) : List D → Ou Sl := fnOf (ir_pinned_at q) 5
noncomputable def b0__law_ring_of : Sxs := .cons (.par [5, 6] (.cons (.bin .Add (.var 5) (.var 7)) (.cons (.bin .Mod (.bin .Add (.var 6) (.cst (.int 1))) (.bi .len (.var 0))) (.nil))))
    (.cons (.setI 3 (.var 6) (.var 5))
    (.nil))
noncomputable def b1__law_ring_of : Sxs := .cons (.par [5, 6] (.cons (.idx (.var 0) (.idx (.var 1) (.var 4))) (.cons (.idx (.var 1) (.var 4)) (.nil))))
    (.cons (.forr (.one 7) (.seq (.slc (.idx (.var 2) (.var 4)) (.none) (.some (.neg (.cst (.int 1)))))) (b0__law_ring_of))
    (.nil))
noncomputable def ir__law_ring_of : Sxs := .cons (.asg 3 (.bi .list (.var 0)))
    (.cons (.forr (.one 4) (.rng1 (.bi .len (.var 1))) (b1__law_ring_of))
    (.cons (.ret (.bi .tuple (.var 3)))
    (.nil)))
noncomputable def phi__law_ring_of : List D → Ou Sl := fnOf (ir__law_ring_of) 5
noncomputable def c0__law_reachable : Ex := .lc (.call phi__law_ring_of (.cons (.var 0) (.cons (.var 1) (.cons (.var 6) (.nil))))) (.one 6) (.seq (.var 2)) (.none) [6]
theorem c0__law_reachable_v : asVar (c0__law_reachable) = none := rfl
noncomputable def c1__law_reachable : Ex := .lc (.bin .Add (.var 6) (.lstE (.cons (.var 7) (.nil)))) (.one 7) (.seq (.var 4)) (.none) [7]
theorem c1__law_reachable_v : asVar (c1__law_reachable) = none := rfl
noncomputable def b0__law_reachable : Sxs := .cons (.asg 5 (.bin .Add (.var 5) (c1__law_reachable)))
    (.nil)
noncomputable def b1__law_reachable : Sxs := .cons (.par [4, 5] (.cons (.call (phi__law_orders 6) (.cons (.var 3) (.nil))) (.cons (.lstE (.nil)) (.nil))))
    (.cons (.forr (.one 6) (.seq (.var 2)) (b0__law_reachable))
    (.cons (.asg 2 (.var 5))
    (.nil)))
noncomputable def ir__law_reachable : Sxs := .cons (.asg 2 (.lstE (.cons (.lstE (.nil)) (.nil))))
    (.cons (.forr (.one 3) (.seq (.call phi__law_arcs (.cons (.var 0) (.cons (.var 1) (.nil))))) (b1__law_reachable))
    (.cons (.ret (c0__law_reachable))
    (.nil)))
noncomputable def phi__law_reachable : List D → Ou Sl := fnOf (ir__law_reachable) 6
noncomputable def c0__law_repeated : Ex := .lc (.bin .Add (.var 6) (.var 5)) (.one 6) (.seq (.idx (.var 4) (.bin .Mod (.bi .int (.var 2)) (.bi .len (.var 4))))) (.none) [6]
theorem c0__law_repeated_v : asVar (c0__law_repeated) = none := rfl
noncomputable def b0__law_repeated : Sxs := .cons (.app 4 (.var 3))
    (.cons (.asg 3 (.call phi__law_all_reflected (.cons (.var 3) (.cons (.var 1) (.nil)))))
    (.nil))
noncomputable def ir__law_repeated : Sxs := .cons (.par [3, 4] (.cons (.call phi__law_all_reflected (.cons (.var 0) (.cons (.var 1) (.nil)))) (.cons (.lstE (.cons (.var 0) (.nil))) (.nil))))
    (.cons (.whl (.cmp .NotEq (.call phi__law_differences (.cons (.var 3) (.nil))) (.call phi__law_differences (.cons (.var 0) (.nil)))) (b0__law_repeated))
    (.cons (.asg 5 (.bin .Mult (.bin .FloorDiv (.var 2) (.bi .len (.var 4))) (.bin .Sub (.idx (.var 3) (.cst (.int 0))) (.idx (.var 0) (.cst (.int 0))))))
    (.cons (.ret (.bi .tuple (c0__law_repeated)))
    (.nil))))
noncomputable def phi__law_repeated : List D → Ou Sl := fnOf (ir__law_repeated) 4
noncomputable def ir_find_steps (q : Bool) : Sxs := .cons (.expr (.call (phi_check_marks q) (.cons (.var 0) (.nil))))
    (.cons (.ret (.call phi_steps_of (.cons (.var 0) (.nil))))
    (.nil))
noncomputable def phi_find_steps (q : Bool) : List D → Ou Sl := fnOf (ir_find_steps q) 0
noncomputable def c0_active_seats (q : Bool) : Ex := .lc (.var 3) (.one 3) (.rng1 (.bi .len (.var 0))) (.some (.andE (.cmp .NotIn (.var 3) (.var 1)) (.cmp .NotEq (.idx (.var 2) (.bin .Sub (.var 3) (.cst (.int 1)))) (.idx (.var 2) (.var 3))))) [3]
theorem c0_active_seats_v (q : Bool) : asVar (c0_active_seats q) = none := rfl
noncomputable def ir_active_seats (q : Bool) : Sxs := .cons (.expr (.call (phi_check_marks q) (.cons (.var 0) (.nil))))
    (.cons (.expr (.call (phi_check_pins q) (.cons (.var 1) (.cons (.bi .len (.var 0)) (.nil)))))
    (.cons (.asg 2 (.call phi_steps_of (.cons (.var 0) (.nil))))
    (.cons (.ret (c0_active_seats q))
    (.nil))))
noncomputable def phi_active_seats (q : Bool) : List D → Ou Sl := fnOf (ir_active_seats q) 2
noncomputable def b0_descents : Sxs := .cons (.asg 4 (.ife (.cmp .Gt (.var 2) (.cst (.int 0))) (.idx (.var 0) (.bin .Sub (.var 2) (.cst (.int 1)))) (.bin .Sub (.idx (.var 0) (.neg (.cst (.int 1)))) (.bi .len (.var 0)))))
    (.cons (.iff (.cmp .Gt (.var 4) (.var 3)) (.cons (.app 1 (.var 2))
    (.nil)) (.nil))
    (.nil))
noncomputable def ir_descents : Sxs := .cons (.asg 1 (.lstE (.nil)))
    (.cons (.forr (.tup [2, 3]) (.enum (.var 0)) (b0_descents))
    (.cons (.ret (.mv 1))
    (.nil)))
noncomputable def phi_descents : List D → Ou Sl := fnOf (ir_descents) 4
noncomputable def ir_exchanged : Sxs := .cons (.asg 2 (.bi .len (.var 0)))
    (.cons (.asg 3 (.bi .list (.var 0)))
    (.cons (.iff (.cmp .Gt (.var 1) (.cst (.int 0))) (.cons (.unp [.sub 3 (.bin .Sub (.var 1) (.cst (.int 1))), .sub 3 (.var 1)] (.tupE (.cons (.idx (.var 0) (.var 1)) (.cons (.idx (.var 0) (.bin .Sub (.var 1) (.cst (.int 1)))) (.nil)))))
    (.nil)) (.cons (.unp [.sub 3 (.cst (.int 0)), .sub 3 (.neg (.cst (.int 1)))] (.tupE (.cons (.bin .Sub (.idx (.var 0) (.neg (.cst (.int 1)))) (.var 2)) (.cons (.bin .Add (.idx (.var 0) (.cst (.int 0))) (.var 2)) (.nil)))))
    (.nil)))
    (.cons (.ret (.mv 3))
    (.nil))))
noncomputable def phi_exchanged : List D → Ou Sl := fnOf (ir_exchanged) 2
noncomputable def b0_sort_goals : Sxs := .cons (.app 1 (.idx (.var 2) (.cst (.int 0))))
    (.cons (.asg 0 (.call phi_exchanged (.cons (.var 0) (.cons (.idx (.var 2) (.cst (.int 0))) (.nil)))))
    (.cons (.asg 2 (.call phi_descents (.cons (.var 0) (.nil))))
    (.nil)))
noncomputable def ir_sort_goals : Sxs := .cons (.par [1, 2] (.cons (.lstE (.nil)) (.cons (.call phi_descents (.cons (.var 0) (.nil))) (.nil))))
    (.cons (.whl (.cmp .NotEq (.var 2) (.lstE (.nil))) (b0_sort_goals))
    (.cons (.ret (.mv 1))
    (.nil)))
noncomputable def phi_sort_goals : List D → Ou Sl := fnOf (ir_sort_goals) 2
noncomputable def b0_greatest_common : Sxs := .cons (.par [1, 2] (.cons (.var 2) (.cons (.bin .Mod (.var 1) (.var 2)) (.nil))))
    (.nil)
noncomputable def b1_greatest_common : Sxs := .cons (.asg 2 (.bi .abs (.var 2)))
    (.cons (.whl (.cmp .Gt (.var 2) (.cst (.int 0))) (b0_greatest_common))
    (.nil))
noncomputable def ir_greatest_common : Sxs := .cons (.asg 1 (.cst (.int 0)))
    (.cons (.forr (.one 2) (.seq (.var 0)) (b1_greatest_common))
    (.cons (.ret (.mv 1))
    (.nil)))
noncomputable def phi_greatest_common : List D → Ou Sl := fnOf (ir_greatest_common) 2
noncomputable def c0_modulus_of : Ex := .lc (.bin .Sub (.var 1) (.idx (.var 0) (.cst (.int 0)))) (.one 1) (.seq (.var 0)) (.none) [1]
theorem c0_modulus_of_v : asVar (c0_modulus_of) = none := rfl
noncomputable def ir_modulus_of : Sxs := .cons (.ret (.call phi_greatest_common (.cons (c0_modulus_of) (.nil))))
    (.nil)
noncomputable def phi_modulus_of : List D → Ou Sl := fnOf (ir_modulus_of) 1
noncomputable def b0_difference : Sxs := .cons (.iff (.cmp .NotEq (.bi2 .count (.var 2) (.var 4)) (.bi2 .count (.var 3) (.var 4))) (.cons (.ret (.tupE (.cons (.cst (.str "step")) (.cons (.var 4) (.cons (.bi2 .count (.var 2) (.var 4)) (.cons (.bi2 .count (.var 3) (.var 4)) (.nil)))))))
    (.nil)) (.nil))
    (.nil)
noncomputable def ir_difference : Sxs := .cons (.iff (.cmp .NotEq (.bi .len (.var 0)) (.bi .len (.var 1))) (.cons (.ret (.tupE (.cons (.cst (.str "seats")) (.cons (.bi .len (.var 0)) (.cons (.bi .len (.var 1)) (.nil))))))
    (.nil)) (.nil))
    (.cons (.par [2, 3] (.cons (.call phi_steps_of (.cons (.var 0) (.nil))) (.cons (.call phi_steps_of (.cons (.var 1) (.nil))) (.nil))))
    (.cons (.forr (.one 4) (.seq (.bi .sorted (.bin .Add (.var 2) (.var 3)))) (b0_difference))
    (.cons (.asg 5 (.call phi_modulus_of (.cons (.var 2) (.nil))))
    (.cons (.par [6, 7] (.cons (.idx (.var 0) (.cst (.int 0))) (.cons (.idx (.var 1) (.cst (.int 0))) (.nil))))
    (.cons (.iff (.cmp .Gt (.var 5) (.cst (.int 0))) (.cons (.par [6, 7] (.cons (.bin .Mod (.var 6) (.var 5)) (.cons (.bin .Mod (.var 7) (.var 5)) (.nil))))
    (.nil)) (.nil))
    (.cons (.ret (.ife (.cmp .Eq (.var 6) (.var 7)) (.cst .none) (.tupE (.cons (.cst (.str "mark")) (.cons (.var 6) (.cons (.var 7) (.nil)))))))
    (.nil)))))))
noncomputable def phi_difference : List D → Ou Sl := fnOf (ir_difference) 6
noncomputable def c0_match_steps : Ex := .lc (.var 6) (.one 6) (.seq (.var 2)) (.some (.cmp .Eq (.idx (.var 1) (.var 6)) (.var 4))) [6]
theorem c0_match_steps_v : asVar (c0_match_steps) = none := rfl
noncomputable def b0_match_steps : Sxs := .cons (.asg 5 (.idx (c0_match_steps) (.cst (.int 0))))
    (.cons (.rem 2 (.var 5))
    (.cons (.app 3 (.var 5))
    (.nil)))
noncomputable def ir_match_steps : Sxs := .cons (.asg 2 (.lrng (.bi .len (.var 1))))
    (.cons (.asg 3 (.lstE (.nil)))
    (.cons (.forr (.one 4) (.seq (.var 0)) (b0_match_steps))
    (.cons (.ret (.mv 3))
    (.nil))))
noncomputable def phi_match_steps : List D → Ou Sl := fnOf (ir_match_steps) 5
noncomputable def b0_reduce_windings : Sxs := .cons (.par [4, 5] (.cons (.bin .Sub (.idx (.var 0) (.idx (.var 2) (.cst (.int 0)))) (.idx (.var 0) (.cst (.int 0)))) (.cons (.bin .Sub (.idx (.var 0) (.var 3)) (.idx (.var 0) (.cst (.int 0)))) (.nil))))
    (.cons (.asg 6 (.call phi_greatest_common (.cons (.lstE (.cons (.var 4) (.cons (.var 5) (.nil)))) (.nil))))
    (.cons (.asg 7 (.bin .Mult (.bin .FloorDiv (.idx (.var 1) (.var 3)) (.bin .FloorDiv (.bi .abs (.var 4)) (.var 6))) (.ife (.cmp .Gt (.var 4) (.cst (.int 0))) (.cst (.int 1)) (.neg (.cst (.int 1))))))
    (.cons (.augI 1 (.var 3) .Sub (.bin .Mult (.var 7) (.bin .FloorDiv (.var 4) (.var 6))))
    (.cons (.augI 1 (.idx (.var 2) (.cst (.int 0))) .Add (.bin .Mult (.var 7) (.bin .FloorDiv (.var 5) (.var 6))))
    (.cons (.augI 1 (.cst (.int 0)) .Add (.bin .Sub (.bin .Mult (.var 7) (.bin .FloorDiv (.var 4) (.var 6))) (.bin .Mult (.var 7) (.bin .FloorDiv (.var 5) (.var 6)))))
    (.nil))))))
noncomputable def c0_reduce_windings : Ex := .lc (.var 3) (.tup [3, 8]) (.enum (.var 0)) (.some (.cmp .NotEq (.var 8) (.idx (.var 0) (.cst (.int 0))))) [3, 8]
theorem c0_reduce_windings_v : asVar (c0_reduce_windings) = none := rfl
noncomputable def ir_reduce_windings : Sxs := .cons (.asg 2 (c0_reduce_windings))
    (.cons (.forr (.one 3) (.seq (.slc (.var 2) (.some (.cst (.int 1))) (.none))) (b0_reduce_windings))
    (.cons (.ret (.mv 1))
    (.nil)))
noncomputable def phi_reduce_windings : List D → Ou Sl := fnOf (ir_reduce_windings) 7
noncomputable def b0_extended : Sxs := .cons (.asg 6 (.bin .FloorDiv (.var 0) (.var 1)))
    (.cons (.par [0, 1] (.cons (.var 1) (.cons (.bin .Sub (.var 0) (.bin .Mult (.var 6) (.var 1))) (.nil))))
    (.cons (.par [2, 4] (.cons (.var 4) (.cons (.bin .Sub (.var 2) (.bin .Mult (.var 6) (.var 4))) (.nil))))
    (.cons (.par [3, 5] (.cons (.var 5) (.cons (.bin .Sub (.var 3) (.bin .Mult (.var 6) (.var 5))) (.nil))))
    (.nil))))
noncomputable def ir_extended : Sxs := .cons (.par [2, 3, 4, 5] (.cons (.cst (.int 1)) (.cons (.cst (.int 0)) (.cons (.cst (.int 0)) (.cons (.cst (.int 1)) (.nil))))))
    (.cons (.whl (.cmp .NotEq (.var 1) (.cst (.int 0))) (b0_extended))
    (.cons (.ret (.ife (.cmp .GtE (.var 0) (.cst (.int 0))) (.tupE (.cons (.var 0) (.cons (.var 2) (.cons (.var 3) (.nil))))) (.tupE (.cons (.bin .Sub (.cst (.int 0)) (.var 0)) (.cons (.bin .Sub (.cst (.int 0)) (.var 2)) (.cons (.bin .Sub (.cst (.int 0)) (.var 3)) (.nil)))))))
    (.nil)))
noncomputable def phi_extended : List D → Ou Sl := fnOf (ir_extended) 5
noncomputable def c0_find_windings : Ex := .lc (.bin .Mult (.var 7) (.var 8)) (.one 8) (.seq (.var 2)) (.none) [8]
theorem c0_find_windings_v : asVar (c0_find_windings) = none := rfl
noncomputable def c1_find_windings : Ex := .lc (.bin .Mult (.var 5) (.var 8)) (.one 8) (.seq (.var 2)) (.none) [8]
theorem c1_find_windings_v : asVar (c1_find_windings) = none := rfl
noncomputable def b0_find_windings : Sxs := .cons (.unp [.nm 3, .nm 5, .nm 6] (.call phi_extended (.cons (.var 3) (.cons (.bin .Sub (.idx (.var 0) (.var 4)) (.idx (.var 0) (.cst (.int 0)))) (.nil)))))
    (.cons (.asg 2 (c1_find_windings))
    (.cons (.augI 2 (.var 4) .Add (.var 6))
    (.cons (.augI 2 (.cst (.int 0)) .Sub (.var 6))
    (.nil))))
noncomputable def ir_find_windings : Sxs := .cons (.par [2, 3] (.cons (.bin .Mult (.lstE (.cons (.cst (.int 0)) (.nil))) (.bi .len (.var 0))) (.cons (.cst (.int 0)) (.nil))))
    (.cons (.forr (.one 4) (.rng2 (.cst (.int 1)) (.bi .len (.var 0))) (b0_find_windings))
    (.cons (.asg 7 (.ife (.cmp .NotEq (.var 3) (.cst (.int 0))) (.bin .FloorDiv (.var 1) (.var 3)) (.cst (.int 0))))
    (.cons (.ret (.call phi_reduce_windings (.cons (.var 0) (.cons (c0_find_windings) (.nil)))))
    (.nil))))
noncomputable def phi_find_windings : List D → Ou Sl := fnOf (ir_find_windings) 7
noncomputable def c0_lifted_goals : Ex := .lc (.bin .Add (.var 6) (.bin .Mult (.bi .len (.var 0)) (.var 7))) (.tup [6, 7]) (.zip (.var 4) (.var 5)) (.none) [6, 7]
theorem c0_lifted_goals_v : asVar (c0_lifted_goals) = none := rfl
noncomputable def ir_lifted_goals : Sxs := .cons (.par [2, 3] (.cons (.call phi_steps_of (.cons (.var 0) (.nil))) (.cons (.call phi_steps_of (.cons (.var 1) (.nil))) (.nil))))
    (.cons (.asg 4 (.call phi_match_steps (.cons (.var 2) (.cons (.var 3) (.nil)))))
    (.cons (.asg 5 (.call phi_find_windings (.cons (.var 2) (.cons (.bin .Sub (.idx (.var 0) (.cst (.int 0))) (.idx (.var 1) (.cst (.int 0)))) (.nil)))))
    (.cons (.ret (c0_lifted_goals))
    (.nil))))
noncomputable def phi_lifted_goals : List D → Ou Sl := fnOf (ir_lifted_goals) 6
noncomputable def ir_find_moves (q : Bool) : Sxs := .cons (.expr (.call (phi_check_marks q) (.cons (.var 0) (.nil))))
    (.cons (.expr (.call (phi_check_marks q) (.cons (.var 1) (.nil))))
    (.cons (.iff (.cmp .IsNot (.call phi_difference (.cons (.var 0) (.cons (.var 1) (.nil)))) (.cst .none)) (.cons (rz q (.raise "NotReachable" mk0 .nil))
    (.nil)) (.nil))
    (.cons (.ret (.call phi_sort_goals (.cons (.call phi_lifted_goals (.cons (.var 0) (.cons (.var 1) (.nil)))) (.nil))))
    (.nil))))
noncomputable def phi_find_moves (q : Bool) : List D → Ou Sl := fnOf (ir_find_moves q) 0
noncomputable def ir_reject_reason : Sxs := .cons (.iff (.nt (.call phi_is_int_in (.cons (.var 2) (.cons (.cst (.int 0)) (.cons (.bin .Sub (.var 0) (.cst (.int 1))) (.nil)))))) (.cons (.ret (.cst (.str "seat")))
    (.nil)) (.nil))
    (.cons (.ret (.ife (.cmp .In (.var 2) (.var 1)) (.cst (.str "pinned")) (.cst (.str ""))))
    (.nil))
noncomputable def phi_reject_reason : List D → Ou Sl := fnOf (ir_reject_reason) 0
noncomputable def b0_check_block (q : Bool) : Sxs := .cons (.asg 4 (.call phi_reject_reason (.cons (.bi .len (.var 0)) (.cons (.tupE (.nil)) (.cons (.var 3) (.nil))))))
    (.cons (.iff (.cmp .NotEq (.var 4) (.cst (.str ""))) (.cons (rz q (.raise "InvalidMove" (mk2 "position" "reason") (.cons (.var 2) (.cons (.var 4) (.nil)))))
    (.nil)) (.nil))
    (.nil))
noncomputable def ir_check_block (q : Bool) : Sxs := .cons (.expr (.call (phi_check_marks q) (.cons (.var 0) (.nil))))
    (.cons (.forr (.tup [2, 3]) (.enum (.var 1)) (b0_check_block q))
    (.nil))
noncomputable def phi_check_block (q : Bool) : List D → Ou Sl := fnOf (ir_check_block q) 3
noncomputable def ir__law_sign : Sxs := .cons (.asg 2 (.bin .Sub (.idx (.call phi__law_reflected (.cons (.var 0) (.cons (.var 1) (.nil)))) (.var 1)) (.idx (.var 0) (.var 1))))
    (.cons (.ret (.bin .Sub (.bi .int (.cmp .Gt (.var 2) (.cst (.int 0)))) (.bi .int (.cmp .Lt (.var 2) (.cst (.int 0))))))
    (.nil))
noncomputable def phi__law_sign : List D → Ou Sl := fnOf (ir__law_sign) 1
noncomputable def b0__law_worked_on : Sxs := .cons (.iff (.orE (.cmp .GtE (.idx (.var 8) (.var 9)) (.var 5)) (.cmp .In (.idx (.var 8) (.var 9)) (.var 1))) (.cons (.ret (.tupE (.cons (.tupE (.cons (.cst (.str "move")) (.cons (.tupE (.cons (.var 9) (.cons (.ife (.cmp .GtE (.idx (.var 8) (.var 9)) (.var 5)) (.cst (.str "seat")) (.cst (.str "pinned"))) (.nil)))) (.nil)))) (.cons (.lstE (.nil)) (.nil)))))
    (.nil)) (.nil))
    (.nil)
noncomputable def c0__law_worked_on : Ex := .lc (.bin .Mod (.bin .Sub (.var 10) (.var 4)) (.var 5)) (.one 10) (.seq (.var 1)) (.none) [10]
theorem c0__law_worked_on_v : asVar (c0__law_worked_on) = none := rfl
noncomputable def c1__law_worked_on : Ex := .lc (.bin .Add (.var 11) (.var 4)) (.one 11) (.seq (.var 0)) (.none) [11]
theorem c1__law_worked_on_v : asVar (c1__law_worked_on) = none := rfl
noncomputable def ir__law_worked_on : Sxs := .cons (.par [3, 4] (.cons (.idx (.var 2) (.cst (.int 0))) (.cons (.idx (.var 2) (.cst (.int 1))) (.nil))))
    (.cons (.asg 5 (.bi .len (.var 0)))
    (.cons (.iff (.cmp .Eq (.var 3) (.cst (.str "pin"))) (.cons (.asg 6 (.andE (.cmp .Eq (.var 4) (.bi .tuple (.bi .sset (.var 4)))) (.orE (.cmp .Eq (.var 4) (.tupE (.nil))) (.cmp .Lt (.idx (.var 4) (.neg (.cst (.int 1)))) (.var 5)))))
    (.cons (.ret (.tupE (.cons (.ife (.var 6) (.cst .none) (.tupE (.cons (.cst (.str "pins")) (.cons (.cst (.int 0)) (.nil))))) (.cons (.lstE (.cons (.var 0) (.cons (.var 4) (.nil)))) (.nil)))))
    (.nil))) (.nil))
    (.cons (.iff (.cmp .Eq (.var 3) (.cst (.str "shift"))) (.cons (.ret (.tupE (.cons (.ife (.cmp .Lt (.var 4) (.cst (.int 1000001))) (.cst .none) (.tupE (.cons (.cst (.str "amount")) (.cons (.cst (.int 0)) (.nil))))) (.cons (.lstE (.cons (.bi .tuple (c1__law_worked_on)) (.cons (.var 1) (.nil)))) (.nil)))))
    (.nil)) (.nil))
    (.cons (.iff (.cmp .Eq (.var 3) (.cst (.str "turn"))) (.cons (.asg 7 (.bi .tuple (.bi .sorted (c0__law_worked_on))))
    (.cons (.ret (.tupE (.cons (.ife (.cmp .Lt (.var 4) (.var 5)) (.cst .none) (.tupE (.cons (.cst (.str "amount")) (.cons (.cst (.int 0)) (.nil))))) (.cons (.lstE (.cons (.bin .Add (.slc (.var 0) (.some (.var 4)) (.none)) (.slc (.var 0) (.none) (.some (.var 4)))) (.cons (.var 7) (.nil)))) (.nil)))))
    (.nil))) (.nil))
    (.cons (.asg 8 (.ife (.cmp .Eq (.var 3) (.cst (.str "reflect"))) (.lstE (.cons (.var 4) (.nil))) (.var 4)))
    (.cons (.forr (.one 9) (.rng1 (.bi .len (.var 8))) (b0__law_worked_on))
    (.cons (.iff (.cmp .Eq (.var 3) (.cst (.str "reflect"))) (.cons (.ret (.tupE (.cons (.cst .none) (.cons (.lstE (.cons (.call phi__law_reflected (.cons (.var 0) (.cons (.var 4) (.nil)))) (.cons (.var 1) (.nil)))) (.nil)))))
    (.nil)) (.nil))
    (.cons (.iff (.cmp .Lt (.idx (.var 2) (.cst (.int 2))) (.cst (.int 0))) (.cons (.ret (.tupE (.cons (.tupE (.cons (.cst (.str "times")) (.cons (.cst (.int 0)) (.nil)))) (.cons (.lstE (.nil)) (.nil)))))
    (.nil)) (.nil))
    (.cons (.ret (.tupE (.cons (.cst .none) (.cons (.lstE (.cons (.call phi__law_repeated (.cons (.var 0) (.cons (.var 8) (.cons (.idx (.var 2) (.cst (.int 2))) (.nil))))) (.cons (.var 1) (.nil)))) (.nil)))))
    (.nil))))))))))
noncomputable def phi__law_worked_on : List D → Ou Sl := fnOf (ir__law_worked_on) 9
noncomputable def ir__law_worked : Sxs := .cons (.unp [.nm 2, .nm 3, .nm 4, .nm 5] (.var 0))
    (.cons (.asg 6 (.idx (.var 1) (.cst (.int 0))))
    (.cons (.iff (.cmp .Eq (.var 6) (.cst (.str "undo"))) (.cons (.iff (.cmp .Eq (.var 4) (.lstE (.nil))) (.cons (.ret (.tupE (.cons (.cst (.str "")) (.cons (.cst (.bool false)) (.cons (.var 0) (.nil))))))
    (.nil)) (.nil))
    (.cons (.ret (.tupE (.cons (.cst (.str "")) (.cons (.cst (.bool true)) (.cons (.bin .Add (.idx (.idx (.var 4) (.neg (.cst (.int 1)))) (.cst (.int 1))) (.lstE (.cons (.slc (.var 4) (.none) (.some (.neg (.cst (.int 1))))) (.cons (.bin .Add (.var 5) (.lstE (.cons (.tupE (.cons (.idx (.var 4) (.neg (.cst (.int 1)))) (.cons (.slc (.var 0) (.none) (.some (.cst (.int 2)))) (.nil)))) (.nil)))) (.nil))))) (.nil))))))
    (.nil))) (.nil))
    (.cons (.iff (.cmp .Eq (.var 6) (.cst (.str "redo"))) (.cons (.iff (.cmp .Eq (.var 5) (.lstE (.nil))) (.cons (.ret (.tupE (.cons (.cst (.str "")) (.cons (.cst (.bool false)) (.cons (.var 0) (.nil))))))
    (.nil)) (.nil))
    (.cons (.unp [.nm 7, .nm 8] (.idx (.var 5) (.neg (.cst (.int 1)))))
    (.cons (.ret (.tupE (.cons (.cst (.str "")) (.cons (.cst (.bool true)) (.cons (.bin .Add (.var 8) (.lstE (.cons (.bin .Add (.var 4) (.lstE (.cons (.var 7) (.nil)))) (.cons (.slc (.var 5) (.none) (.some (.neg (.cst (.int 1))))) (.nil))))) (.nil))))))
    (.nil)))) (.nil))
    (.cons (.unp [.nm 9, .nm 8] (.call phi__law_worked_on (.cons (.var 2) (.cons (.var 3) (.cons (.var 1) (.nil))))))
    (.cons (.iff (.cmp .IsNot (.var 9) (.cst .none)) (.cons (.ret (.mv 9))
    (.nil)) (.nil))
    (.cons (.ret (.tupE (.cons (.cst (.str "")) (.cons (.idx (.var 8) (.cst (.int 0))) (.cons (.bin .Add (.var 8) (.lstE (.cons (.bin .Add (.var 4) (.lstE (.cons (.tupE (.cons (.var 6) (.cons (.slc (.var 0) (.none) (.some (.cst (.int 2)))) (.nil)))) (.nil)))) (.cons (.lstE (.nil)) (.nil))))) (.nil))))))
    (.nil)))))))
noncomputable def phi__law_worked : List D → Ou Sl := fnOf (ir__law_worked) 8
noncomputable def ir_reflect_at : Sxs := .cons (.asg 2 (.bin .Sub (.bin .Add (.idx (.var 0) (.bin .Sub (.var 1) (.cst (.int 1)))) (.idx (.var 0) (.bin .Mod (.bin .Add (.var 1) (.cst (.int 1))) (.bi .len (.var 0))))) (.idx (.var 0) (.var 1))))
    (.cons (.ret (.bin .Add (.bin .Add (.slc (.var 0) (.none) (.some (.var 1))) (.tupE (.cons (.var 2) (.nil)))) (.slc (.var 0) (.some (.bin .Add (.var 1) (.cst (.int 1)))) (.none))))
    (.nil))
noncomputable def phi_reflect_at : List D → Ou Sl := fnOf (ir_reflect_at) 1
noncomputable def b0_apply_moves (q : Bool) : Sxs := .cons (.asg 5 (.call phi_reject_reason (.cons (.bi .len (.var 0)) (.cons (.var 2) (.cons (.var 4) (.nil))))))
    (.cons (.iff (.cmp .NotEq (.var 5) (.cst (.str ""))) (.cons (rz q (.raise "InvalidMove" (mk2 "position" "reason") (.cons (.var 3) (.cons (.var 5) (.nil)))))
    (.nil)) (.nil))
    (.cons (.asg 0 (.call phi_reflect_at (.cons (.var 0) (.cons (.var 4) (.nil)))))
    (.nil)))
noncomputable def ir_apply_moves (q : Bool) : Sxs := .cons (.expr (.call (phi_check_marks q) (.cons (.var 0) (.nil))))
    (.cons (.expr (.call (phi_check_pins q) (.cons (.var 2) (.cons (.bi .len (.var 0)) (.nil)))))
    (.cons (.forr (.tup [3, 4]) (.enum (.var 1)) (b0_apply_moves q))
    (.cons (.ret (.mv 0))
    (.nil))))
noncomputable def phi_apply_moves (q : Bool) : List D → Ou Sl := fnOf (ir_apply_moves q) 3
noncomputable def b0_build_ring (q : Bool) : Sxs := .cons (.iff (.orE (.cmp .Eq (.var 2) (.cst (.int 8))) (.nt (.call phi_is_int_in (.cons (.var 3) (.cons (.bin .Sub (.cst (.int 0)) (.bin .Mult (.cst (.int 2)) (.cst (.int 1000000)))) (.cons (.bin .Mult (.cst (.int 2)) (.cst (.int 1000000))) (.nil))))))) (.cons (rz q (.raise "InvalidSteps" (mk1 "position") (.cons (.var 2) (.nil))))
    (.nil)) (.nil))
    (.nil)
noncomputable def ir_build_ring (q : Bool) : Sxs := .cons (.iff (.nt (.isi .tuple (.var 1))) (.cons (rz q (.raise "InvalidSteps" (mk1 "position") (.cons (.cst (.int 0)) (.nil))))
    (.nil)) (.nil))
    (.cons (.forr (.tup [2, 3]) (.enum (.var 1)) (b0_build_ring q))
    (.cons (.iff (.orE (.cmp .Lt (.bi .len (.var 1)) (.cst (.int 3))) (.cmp .NotEq (.bi .sum (.var 1)) (.cst (.int 0)))) (.cons (rz q (.raise "InvalidSteps" (mk1 "position") (.cons (.bi .len (.var 1)) (.nil))))
    (.nil)) (.nil))
    (.cons (.iff (.nt (.call phi_is_int_in (.cons (.var 0) (.cons (.bin .Sub (.cst (.int 0)) (.cst (.int 1000000))) (.cons (.cst (.int 1000000)) (.nil)))))) (.cons (rz q (.raise "InvalidMarks" (mk1 "position") (.cons (.cst (.int 0)) (.nil))))
    (.nil)) (.nil))
    (.cons (.asg 4 (.call phi_marks_of (.cons (.var 0) (.cons (.var 1) (.nil)))))
    (.cons (.expr (.call (phi_check_marks q) (.cons (.var 4) (.nil))))
    (.cons (.ret (.mv 4))
    (.nil)))))))
noncomputable def phi_build_ring (q : Bool) : List D → Ou Sl := fnOf (ir_build_ring q) 3
noncomputable def ir_find_difference (q : Bool) : Sxs := .cons (.expr (.call (phi_check_marks q) (.cons (.var 0) (.nil))))
    (.cons (.expr (.call (phi_check_marks q) (.cons (.var 1) (.nil))))
    (.cons (.ret (.call phi_difference (.cons (.var 0) (.cons (.var 1) (.nil)))))
    (.nil)))
noncomputable def phi_find_difference (q : Bool) : List D → Ou Sl := fnOf (ir_find_difference q) 0
noncomputable def ir_find_modulus (q : Bool) : Sxs := .cons (.expr (.call (phi_check_marks q) (.cons (.var 0) (.nil))))
    (.cons (.ret (.call phi_modulus_of (.cons (.call phi_steps_of (.cons (.var 0) (.nil))) (.nil))))
    (.nil))
noncomputable def phi_find_modulus (q : Bool) : List D → Ou Sl := fnOf (ir_find_modulus q) 0
noncomputable def b0_lifted_targets : Sxs := .cons (.setI 4 (.bin .Mod (.var 6) (.var 0)) (.bin .Sub (.var 5) (.bin .Mult (.bin .FloorDiv (.var 6) (.var 0)) (.var 0))))
    (.nil)
noncomputable def b1_lifted_targets : Sxs := .cons (.iff (.cmp .Gt (.var 3) (.cst (.int 0))) (.cons (.unp [.sub 2 (.bin .Sub (.var 3) (.cst (.int 1))), .sub 2 (.var 3)] (.tupE (.cons (.idx (.var 2) (.var 3)) (.cons (.idx (.var 2) (.bin .Sub (.var 3) (.cst (.int 1)))) (.nil)))))
    (.nil)) (.cons (.unp [.sub 2 (.cst (.int 0)), .sub 2 (.neg (.cst (.int 1)))] (.tupE (.cons (.bin .Sub (.idx (.var 2) (.neg (.cst (.int 1)))) (.var 0)) (.cons (.bin .Add (.idx (.var 2) (.cst (.int 0))) (.var 0)) (.nil)))))
    (.nil)))
    (.nil)
noncomputable def ir_lifted_targets : Sxs := .cons (.asg 2 (.lrng (.var 0)))
    (.cons (.forr (.one 3) (.seq (.var 1)) (b1_lifted_targets))
    (.cons (.asg 4 (.bin .Mult (.lstE (.cons (.cst (.int 0)) (.nil))) (.var 0)))
    (.cons (.forr (.tup [5, 6]) (.enum (.var 2)) (b0_lifted_targets))
    (.cons (.ret (.mv 4))
    (.nil)))))
noncomputable def phi_lifted_targets : List D → Ou Sl := fnOf (ir_lifted_targets) 5
noncomputable def ir_is_identity : Sxs := .cons (.ret (.cmp .Eq (.call phi_lifted_targets (.cons (.var 0) (.cons (.var 1) (.nil)))) (.lrng (.var 0))))
    (.nil)
noncomputable def phi_is_identity : List D → Ou Sl := fnOf (ir_is_identity) 0
noncomputable def ir_sign_at : Sxs := .cons (.asg 2 (.bin .Sub (.bin .Add (.idx (.var 0) (.bin .Sub (.var 1) (.cst (.int 1)))) (.idx (.var 0) (.bin .Mod (.bin .Add (.var 1) (.cst (.int 1))) (.bi .len (.var 0))))) (.bin .Mult (.cst (.int 2)) (.idx (.var 0) (.var 1)))))
    (.cons (.ret (.bin .Sub (.bi .int (.cmp .Gt (.var 2) (.cst (.int 0)))) (.bi .int (.cmp .Lt (.var 2) (.cst (.int 0))))))
    (.nil))
noncomputable def phi_sign_at : List D → Ou Sl := fnOf (ir_sign_at) 1
end VS

/-! sorted(set(xs)) of a list of ints. -/
namespace VS
open PySem PySem.Spec PyProof.Rows L2
abbrev emptySetO (w : World) : Obj := { cls := .type "set", dict := none, data := .set #[] 0 (.fresh 0 0 (!w.params.followText "set-order")) }
section
variable {P : Program} {w : World} {A : Around} {E : Value → Shared → Prop} {s : Shared}
set_option maxRecDepth 100000 in
set_option maxHeartbeats 3200000 in
theorem call_set_lstI {l : Addr} {items : Array Value} (ns : List Int) {Q : Value → Shared → Prop} (hh : A.handled = none) (hl : s.heap.IsList l items) (hit : IntsAre items.toList ns) (hb : ns.length + 1 < scanBound)
    (h : ∀ (h' : Heap) (tk c : Nat), SetR w h' s.heap.objs.size (fun j => decide (j ∈ ns)) c → c ≤ ns.length → (∀ b o, s.heap.get? b = some o → h'.get? b = some o) → Q (.ref s.heap.objs.size) { s with heap := h', toks := tk }) :
    wpAny (model P w) A (call (.type "set") [.ref l]) Q E s := by
  have hcount : items.size = ns.length := by
    have q := IntsAre.length hit
    rw [Array.length_toList] at q
    exact q
  obtain ⟨c, tl, hmr⟩ := F.called_set.mro
  have hmd := F.called_set.made
  have hsb0 := F.called_set.sub
  refine wpAny_call (codeAny_of_tree ?_)
  show wpAny _ _ (callAny (.type "set") _) _ _ _
  refine wpAny_pure ⟨Code.quiet_builtin _ (by decide +kernel), codeAny_builtin F.entry_type_call ?_⟩
  rw [Around.under_plain (weight_type_call_type "set" [.ref l] []) rfl]
  have h1 := F.called_set.notType
  have h2 := F.called_set.canCreate
  have hct := F.typeCall_set_1 (.ref l)
  repeat (any_goals (first | assumption | wp_step))

  refine codeAny_mono (code_set_led1 (.ref l) (E := E) (Q₁ := fun obj s₁ => obj = .ref s.heap.objs.size ∧ s₁ = { s with heap := s.heap.push (emptySetO w) }) ⟨rfl, rfl⟩) fun r s₁ hr => ?_
  cases r with
  | error e => exact hr
  | ok fl =>
    cases fl with
    | ret obj =>
      obtain ⟨rfl, rfl⟩ := hr
      have hS : (s.heap.push (emptySetO w)).get? s.heap.objs.size = some (emptySetO w) := Heap.get?_push_size _ rfl
      have hT : Shared.TypeIs { s with heap := s.heap.push (emptySetO w) } (.ref s.heap.objs.size) "set" := ⟨_, hS, rfl⟩
      have hli := F.called_set.init.lookup
      have hbi := F.called_set.init.bind (.ref s.heap.objs.size)
      repeat (any_goals (first | assumption | wp_step))

      refine codeAny_mono (codeAny_call_builtin (R := wants (fun r s₂ => r = .none ∧ ∃ h' tk c, s₂ = { s with heap := h', toks := tk } ∧ SetR w h' s.heap.objs.size (fun j => decide (j ∈ ns)) c ∧ c ≤ ns.length ∧
          (∀ b o, s.heap.get? b = some o → h'.get? b = some o)) E) F.called_set.init.plain F.entry_set_init (check_set_init_1 hT ?_)) fun r₂ s₂ hr₂ => ?_
      · obtain ⟨ol, hob, hcl, nl, hdl⟩ := hl
        obtain ⟨ocls, odict, odata, oslots⟩ := ol
        simp only at hcl hdl
        subst hcl; subst hdl
        have hob' : (s.heap.push (emptySetO w)).get? l = some { cls := .type "list", dict := odict, data := .seq items nl, slots := oslots } := Heap.get?_push_of_some _ hob
        have hs1l := F.sub_list_set
        have hs2l := F.sub_list_frozenset
        have hnd : (Value.type "list" == Value.type "dict") = false := by decide
        have hla : (s.heap.push (emptySetO w)).IsList l items := ⟨_, hob', rfl, nl, rfl⟩
        unfold Builtin.«set.__init__» noKeywords Builtin.Frozenset.updateFrom
        generalize hPI : pyIter = PI
        wp_walk
        subst hPI

        refine wpAny_pyIter_list hla ?_
        refine wpAny_bind (wpAny_runValue ?_)
        have hlt : l < s.heap.objs.size := Heap.lt_size hob
        have hq3 : A.in1.in1.in1.handled = none := by simp [hh]
        have hzz : (s.heap.push (emptySetO w)).objs.size = s.heap.objs.size + 1 := Heap.size_push ..
        have hni : l ≠ (s.heap.push (emptySetO w)).objs.size := by
          rw [Heap.size_push]; exact Nat.ne_of_lt (Nat.lt_succ_of_lt hlt)
        have hfr : s.heap.objs.size ∉ [(s.heap.push (emptySetO w)).objs.size, l] := by
          rw [Heap.size_push]; simp only [List.mem_cons, List.mem_singleton, List.not_mem_nil, or_false, not_or]
          exact ⟨Nat.ne_of_lt (Nat.lt_succ_self _), Nat.ne_of_gt hlt⟩
        have hvl : ∀ (i : Nat) (v : Value), items[i]? = some v → ∃ k t, ns[i]? = some k ∧ v = .int k t := fun i v hv => by
          have hi : i < ns.length := by rw [← hcount]; exact (Array.getElem?_eq_some_iff.mp hv).1
          obtain ⟨t, e⟩ := PyProof.Rows.IntsAre.int_at hit i v (by rw [Array.getElem?_toList]; exact hv)
          refine ⟨ns[i], t, List.getElem?_eq_getElem hi, ?_⟩
          rw [e, List.getD_eq_getElem?_getD, List.getElem?_eq_getElem hi] <;> rfl
        refine set_update_ints ((Walks.list hq3 _ l hni items).toS) s.heap.objs.size
          hfr ns hcount hb hvl (items.size - 0) 0 _ (by omega) (Nat.zero_le _)
          ⟨⟨_, Heap.get?_push_size _ rfl, rfl, rfl⟩, (hla.push _)⟩ ?hS0 ?hR
        case hS0 =>
          have hgt : ((s.heap.push (emptySetO w)).push { cls := .type "list_iterator", data := .fields #[.ref l, .int 0 0] }).get? s.heap.objs.size
              = some (emptySetO w) := Heap.get?_push_of_some _ hS
          exact ⟨0, Nat.le_refl 0, setR_new_at hgt⟩
        case hR =>
          intro s' c' hm hc' hT'
          obtain ⟨h', g2, d', tk', os'⟩ := s'
          have eg : g2 = s.gens := hm.gens
          have ed : d' = s.drawn := hm.drawn
          have eo : os' = s.os := hm.os
          subst eg; subst ed; subst eo
          show wpAny _ _ _ _ _ _
          refine wpAny_pure ?_
          show wpAny _ _ (ret Value.none) _ _ _
          rw [hcount] at hc'
          refine wpAny_pure ⟨rfl, h', tk', c', rfl, hT', hc', fun b o e => ?_⟩
          have hb0 : b < s.heap.objs.size := Heap.lt_size e
          have hb1 : b ≠ s.heap.objs.size := Nat.ne_of_lt hb0
          have hb2 : b ≠ (s.heap.push (emptySetO w)).objs.size := by
            rw [Heap.size_push]; exact Nat.ne_of_lt (Nat.lt_succ_of_lt hb0)
          exact hm.heap b o (by simp only [List.mem_cons, List.mem_singleton, List.not_mem_nil, or_false, not_or]; exact ⟨hb1, hb2⟩) (Heap.get?_push_of_some _ (Heap.get?_push_of_some _ e))

      · cases r₂ with
        | error e => exact hr₂
        | ok fl₂ =>
          cases fl₂ with
          | ret r =>
            obtain ⟨rfl, h', tk, c', rfl, hT', hc', hk'⟩ := hr₂
            repeat (any_goals (first | assumption | wp_step))
            exact h _ _ _ hT' hc' hk'
          | _ => exact hr₂.elim
    | _ => exact hr.elim

end
end VS

/-! sorted(set(xs)). -/
namespace VS
open PySem PySem.Spec PyProof.Rows L2
theorem ddp_mem {k : Int} : ∀ {ns : List Int}, k ∈ ddp ns ↔ k ∈ ns
  | [] => Iff.rfl
  | a :: r => by
    unfold ddp
    have ih := ddp_mem (k := k) (ns := r)
    split
    · rename_i h
      rw [ih, List.mem_cons]
      exact ⟨.inr, fun q => q.elim (fun e => by rw [e]; exact ddp_mem.mp h) id⟩
    · rw [List.mem_cons, List.mem_cons, ih]
theorem ddp_nodup : ∀ (ns : List Int), (ddp ns).Nodup
  | [] => List.nodup_nil
  | a :: r => by
    unfold ddp
    split
    · exact ddp_nodup r
    · rename_i h
      exact List.nodup_cons.mpr ⟨h, ddp_nodup r⟩
theorem sset_mem {k : Int} {ns : List Int} : k ∈ sset ns ↔ k ∈ ns := (srt_perm _).mem_iff.trans ddp_mem
theorem lt_nodup {ns : List Int} (h : ns.Pairwise (· < ·)) : ns.Nodup := h.imp fun q => Int.ne_of_lt q
theorem sset_uniq {ns ms : List Int} (h1 : ms.Pairwise (· < ·)) (h2 : ∀ k, k ∈ ms ↔ k ∈ ns) : ms = sset ns := by
  refine srt_uniq ?_ (h1.imp fun q => Int.le_of_lt q)
  exact (List.perm_ext_iff_of_nodup (lt_nodup h1) (ddp_nodup ns)).mpr fun k => (h2 k).trans ddp_mem.symm
def rSetOf (K : PySem.W.Frag) (w : World) : List V → Hp → VK → Prop := fun vs H Q => ∃ (a : Addr) (ns : List Int), vs = [V.ref a] ∧ (SqL K H a (ns.map V.int) ∨ SqT K H a (ns.map V.int)) ∧ ns.length < 64 ∧
  ∀ p n, H p = none → n < 64 → Q (.ref p) (upd H p (SetO w p (fun j => decide (j ∈ ns)) n))
section
variable {X : Cx} {W : WX} {ea : Expr} {ia : Ex} {pos p p2 pos2 : Pos}
theorem cr_setOf (hc : X.calm = true) : CallR X (.type "set") (rSetOf X.K X.w) := by
  intro pins s σ H vs us Q I r h
  obtain ⟨a, ns, rfl, hs, hl, q⟩ := h
  rw [Vals.ref1 r]
  have hsc : ns.length + 1 < scanBound := by unfold scanBound; omega
  have fin : ∀ (h' : Heap) (tk c : Nat), SetR X.w h' s.heap.objs.size (fun j => decide (j ∈ ns)) c → c ≤ ns.length → (∀ b o, s.heap.get? b = some o → h'.get? b = some o) → EP X pins σ Q (.ref s.heap.objs.size) { s with heap := h', toks := tk } := by
    intro h' tk c R hc' hk
    exact ⟨.ref _, upd H s.heap.objs.size (SetO X.w s.heap.objs.size (fun j => decide (j ∈ ns)) c), I.laid (t' := tk) hk (Nat.le_refl _) (setO_new R), rfl, q _ c (I.hok.fresh (Nat.le_refl _)) (by omega)⟩
  rcases hs with hs | hs
  · obtain ⟨its, rv, hl', _⟩ := I.list hs
    exact call_set_lstI ns (I.ok.hd hc) hl'.isList (by simpa using rv.ints) hsc fin
  · obtain ⟨its, rv, hl', _⟩ := I.tuple hs
    exact call_set_tupI ns (I.ok.hd hc) hl' (by simpa using rv.ints) hsc fin
variable [kf : KF]
theorem de_sset (hc : X.calm = true) (hm : X.mg "sorted" = none) (hm2 : X.mg "set" = none) (ha : DB X W ea ia) (hg : Gl X "sorted" := by rfl) (hg2 : Gl X "set" := by rfl)
    (he : starEach [ea] X.env = (false, eval ea X.env) :: starEach [] X.env := by rfl) (he2 : starEach [.Call (.Name "set" p2) [ea] [] pos2] X.env = (false, eval (.Call (.Name "set" p2) [ea] [] pos2) X.env) :: starEach [] X.env := by rfl) (hk : X.K = kf.K := by rfl) :
    DE X W (.Call (.Name "sorted" p) [.Call (.Name "set" p2) [ea] [] pos2] [] pos) (.bi .sset ia) :=
  (pe_callB (cr_sortedSet hc) hg hm (by decide +kernel) (pa_cons (pe_callTy (cr_setOf hc) hg2 hm2 (by decide +kernel) (pa_cons ha pa_nil he) (by decide) (by decide) he rfl) pa_nil he2) (by decide) (by decide) he2 rfl).imp fun σ H Q h =>
    one_post (X := X) (W := W) (ia := ia) (g := fun d => biD .sset [d]) (r := fun x H Q => rSetOf X.K X.w [x] H fun v H1 => rSortedSet X.w [v] H1 Q) (ev := evalE (.bi .sset ia)) (by funext en; simp only [evalE] <;> rfl) (by
      intro t S σ x dx rr Q R hx z k
      simp only [biD] at z
      split at z <;> simp only [reduceCtorEq, List.cons.injEq, and_true, and_false] at *
      · rename_i xs e
        subst e
        split at z
        · rename_i ns hz
          split at z
          · rename_i h64
            have e := Ou.ok.inj z
            subst e
            obtain ⟨a, us, rfl, h1, h2⟩ := hx
            have u := h2.ints hz
            subst u
            refine ⟨a, ns, rfl, .inl (.of h1), h64, fun p n hp hn => ⟨p, _, n, rfl, upd_same, hn, fun ms q h3 h4 _ hq => ?_⟩⟩
            have e2 : ms = sset ns := sset_uniq h3 fun j => (h4 j).trans (by simp)
            subst e2
            obtain ⟨R2, l2⟩ := R.grow (same_upd (o := SetO X.w p (fun j => decide (j ∈ ns)) n) hp)
            exact ans_own (S := { S with H := upd S.H p (SetO X.w p (fun j => decide (j ∈ ns)) n) }) R2 hq (rp_ints _) fun v S' e' P => k v S' e' (P.trans l2)
          · cases z
        · cases z
      · rename_i xs e
        subst e
        split at z
        · rename_i ns hz
          split at z
          · rename_i h64
            have e := Ou.ok.inj z
            subst e
            obtain ⟨a, us, rfl, h1, h2, _⟩ := hx.tup
            have u := h2.ints hz
            subst u
            refine ⟨a, ns, rfl, .inr (h1.sq hk), h64, fun p n hp hn => ⟨p, _, n, rfl, upd_same, hn, fun ms q h3 h4 _ hq => ?_⟩⟩
            have e2 : ms = sset ns := sset_uniq h3 fun j => (h4 j).trans (by simp)
            subst e2
            obtain ⟨R2, l2⟩ := R.grow (same_upd (o := SetO X.w p (fun j => decide (j ∈ ns)) n) hp)
            exact ans_own (S := { S with H := upd S.H p (SetO X.w p (fun j => decide (j ∈ ns)) n) }) R2 hq (rp_ints _) fun v S' e' P => k v S' e' (P.trans l2)
          · cases z
        · cases z) (fun dx e => biD_ex _ _) h
end
end VS

/-! What the law's own helpers give. -/
namespace VS
open PySem (PyData)
theorem is_int_in_val (k lo hi : Int) : phi_is_int_in [.int k, .int lo, .int hi] = .ok (.fr (.bool (decide (lo ≤ k) && decide (k ≤ hi)))) := by
  refine fnOf_eq (n := 0) ?_ (by simp)
  unfold ir_is_int_in
  simp only [runD, runM, evalB, execs, exec, evalE, evalA, evalO, evalC, evalS, evalL, brw, two, three, asVar_var, asVar_cst, asVar_mv, asVar_bin, asVar_neg, asVar_nt, asVar_cmp, asVar_chain, asVar_andE, asVar_orE, asVar_ife, asVar_tupE, asVar_lstE, asVar_idx, asVar_slc, asVar_call, asVar_callM, asVar_popI, asVar_bi, asVar_bi2, asVar_isi, rdE, rdL, putE, updE, putsE, mb0, setL_at0, setL_at1, intOf, bindT, augD, toD, binD, cmpD, eqD_int, eqD_str, eqD_bool, idxD, biD, isiD, isNone, itemsD, slcD, atI_zero, atI_one, strict, ok_bind, ex_bind, no_bind, List.map_cons, List.map_nil, List.replicate_succ, List.replicate_zero, List.cons_append, List.nil_append, List.append_nil, List.getElem?_cons_zero, List.getElem?_cons_succ, List.getElem?_nil, List.set_cons_zero, List.set_cons_succ, List.length_cons, List.length_nil, List.length_map, Bool.not_false, Bool.not_true, if_true, if_false, Bool.false_eq_true, List.eraseIdx_cons_succ, List.eraseIdx_cons_zero, and_self, true_and, and_true, ite_true, ite_false, decide_true, decide_false, ne_eq, not_false_eq_true, not_true_eq_false, true_or, or_true, reduceCtorEq, asVar_lrng, asVar_rev, asVar_idx3, asVar_popE, revD, lstD]
  by_cases h : lo ≤ k
  · simp [h]
  · simp [h]
theorem is_int_yes {k lo hi : Int} (h1 : lo ≤ k) (h2 : k ≤ hi) : phi_is_int_in [.int k, .int lo, .int hi] = .ok (.fr (.bool true)) := by
  rw [is_int_in_val]
  simp [h1, h2]
/-- the numbers that the law draws from -/
def okD (ms : List D) : Prop := ∃ a b : Int, ∃ ns : List Int, ms = .int a :: .int b :: ns.map PyData.int ∧ okSeed a ∧ 0 ≤ b ∧ (∀ z ∈ ns, 0 < z) ∧ ns.length ≤ 1000
theorem okD_start (ns : List Int) (hl : ns.length ≤ 63) {z : Int} (hz : okSeed z) : okD ((rnd ns z).map PyData.int) := by
  refine ⟨_, 0, bigs ns, rfl, okSeed_of hz ns, Int.le_refl _, fun c hc => ?_, Nat.le_trans (bigs_len ns) (by omega)⟩
  have := (List.mem_filter.mp hc).2
  have h : (10 : Int) ^ (18 : Int).toNat ≤ c := by simpa using this
  have h2 : (0 : Int) < (10 : Int) ^ (18 : Int).toNat := by decide
  omega
theorem below_case {a b : Int} {ns : List Int} {L r : Int} {ms' : List D} (h : runM 0 ir__law_below 1 (.int a :: .int b :: ns.map PyData.int) [.int L] = .ok (.int r, ms')) : phi__law_below (.int a :: .int b :: ns.map PyData.int) [.int L] = .ok (.int r, ms') := fmOf_eq h (by simp)
theorem below_pos {a b : Int} {ns : List Int} {L : Int} (hb : 0 < b) (h1 : 0 < L) (h2 : L < 2 ^ 30) : phi__law_below (.int a :: .int b :: ns.map PyData.int) [.int L] = .ok (.int (b.fmod L), .int a :: .int (b.fdiv L) :: ns.map PyData.int) := by
  refine below_case ?_
  have L0 : L ≠ 0 := by omega
  have L1 : L.natAbs < 1073741824 := by omega
  have b0 : (b == 0) = false := by simp; omega
  unfold ir__law_below
  simp only [runD, runM, evalB, execs, exec, evalE, evalA, evalO, evalC, evalS, evalL, brw, two, three, asVar_var, asVar_cst, asVar_mv, asVar_bin, asVar_neg, asVar_nt, asVar_cmp, asVar_chain, asVar_andE, asVar_orE, asVar_ife, asVar_tupE, asVar_lstE, asVar_idx, asVar_slc, asVar_call, asVar_callM, asVar_popI, asVar_bi, asVar_bi2, asVar_isi, rdE, rdL, putE, updE, putsE, mb0, setL_at0, setL_at1, intOf, bindT, augD, toD, binD, cmpD, eqD_int, eqD_str, eqD_bool, idxD, biD, isiD, isNone, itemsD, slcD, atI_zero, atI_one, strict, ok_bind, ex_bind, no_bind, List.map_cons, List.map_nil, List.replicate_succ, List.replicate_zero, List.cons_append, List.nil_append, List.append_nil, List.getElem?_cons_zero, List.getElem?_cons_succ, List.getElem?_nil, List.set_cons_zero, List.set_cons_succ, List.length_cons, List.length_nil, List.length_map, Bool.not_false, Bool.not_true, if_true, if_false, Bool.false_eq_true, List.eraseIdx_cons_succ, List.eraseIdx_cons_zero, and_self, true_and, and_true, ite_true, ite_false, decide_true, decide_false, ne_eq, not_false_eq_true, not_true_eq_false, true_or, or_true, reduceCtorEq, asVar_lrng, asVar_rev, asVar_idx3, asVar_popE, revD, lstD, b0, hb, L0, L1]
theorem nextseed (a : Int) : okSeed ((a * 48271 + 11).fmod 2147483647) := ⟨Int.fmod_nonneg_of_pos _ (by decide), Int.fmod_lt_of_pos _ (by decide)⟩
theorem below_nil {a : Int} {L : Int} (ha : okSeed a) (h1 : 0 < L) : phi__law_below [.int a, .int 0] [.int L] = .ok (.int ((((a * 48271 + 11).fmod 2147483647).fdiv 64).fmod L), [.int ((a * 48271 + 11).fmod 2147483647), .int 0]) := by
  refine below_case (ns := []) ?_
  have L0 : L ≠ 0 := by omega
  have wa : wInt a := okSeed_mul ha
  unfold ir__law_below
  simp only [runD, runM, evalB, execs, exec, evalE, evalA, evalO, evalC, evalS, evalL, brw, two, three, asVar_var, asVar_cst, asVar_mv, asVar_bin, asVar_neg, asVar_nt, asVar_cmp, asVar_chain, asVar_andE, asVar_orE, asVar_ife, asVar_tupE, asVar_lstE, asVar_idx, asVar_slc, asVar_call, asVar_callM, asVar_popI, asVar_bi, asVar_bi2, asVar_isi, rdE, rdL, putE, updE, putsE, mb0, setL_at0, setL_at1, intOf, bindT, augD, toD, binD, cmpD, eqD_int, eqD_str, eqD_bool, idxD, biD, isiD, isNone, itemsD, slcD, atI_zero, atI_one, strict, ok_bind, ex_bind, no_bind, List.map_cons, List.map_nil, List.replicate_succ, List.replicate_zero, List.cons_append, List.nil_append, List.append_nil, List.getElem?_cons_zero, List.getElem?_cons_succ, List.getElem?_nil, List.set_cons_zero, List.set_cons_succ, List.length_cons, List.length_nil, List.length_map, Bool.not_false, Bool.not_true, if_true, if_false, Bool.false_eq_true, List.eraseIdx_cons_succ, List.eraseIdx_cons_zero, and_self, true_and, and_true, ite_true, ite_false, decide_true, decide_false, ne_eq, not_false_eq_true, not_true_eq_false, true_or, or_true, reduceCtorEq, asVar_lrng, asVar_rev, asVar_idx3, asVar_popE, revD, lstD, L0, wa, beq_self_eq_true, Int.lt_irrefl, show ¬ ((2 : Int) < ((0 + 1 + 1 : Nat) : Int)) from by decide, show ¬ ((2147483647 : Int) = 0) from by decide, show ((64 : Int) ≠ 0 ∧ (64 : Int).natAbs < 1073741824) from by decide]
theorem below_big {a c : Int} {ns : List Int} {L : Int} (hc : 0 < c) (h1 : 0 < L) (h2 : L < 2 ^ 30) : phi__law_below (.int a :: .int 0 :: .int c :: ns.map PyData.int) [.int L] = .ok (.int (c.fmod L), .int a :: .int (c.fdiv L) :: ns.map PyData.int) := by
  refine below_case (ns := c :: ns) ?_
  have L0 : L ≠ 0 := by omega
  have L1 : L.natAbs < 1073741824 := by omega
  have hl : (2 : Int) < ((ns.length + 1 + 1 + 1 : Nat) : Int) := by omega
  unfold ir__law_below
  simp only [runD, runM, evalB, execs, exec, evalE, evalA, evalO, evalC, evalS, evalL, brw, two, three, asVar_var, asVar_cst, asVar_mv, asVar_bin, asVar_neg, asVar_nt, asVar_cmp, asVar_chain, asVar_andE, asVar_orE, asVar_ife, asVar_tupE, asVar_lstE, asVar_idx, asVar_slc, asVar_call, asVar_callM, asVar_popI, asVar_bi, asVar_bi2, asVar_isi, rdE, rdL, putE, updE, putsE, mb0, setL_at0, setL_at1, intOf, bindT, augD, toD, binD, cmpD, eqD_int, eqD_str, eqD_bool, idxD, biD, isiD, isNone, itemsD, slcD, atI_zero, atI_one, strict, ok_bind, ex_bind, no_bind, List.map_cons, List.map_nil, List.replicate_succ, List.replicate_zero, List.cons_append, List.nil_append, List.append_nil, List.getElem?_cons_zero, List.getElem?_cons_succ, List.getElem?_nil, List.set_cons_zero, List.set_cons_succ, List.length_cons, List.length_nil, List.length_map, Bool.not_false, Bool.not_true, if_true, if_false, Bool.false_eq_true, List.eraseIdx_cons_succ, List.eraseIdx_cons_zero, and_self, true_and, and_true, ite_true, ite_false, decide_true, decide_false, ne_eq, not_false_eq_true, not_true_eq_false, true_or, or_true, reduceCtorEq, asVar_lrng, asVar_rev, asVar_idx3, asVar_popE, revD, lstD, L0, L1, hc, hl, beq_self_eq_true]
theorem below_ok {ms : List D} {L : Int} (h : okD ms) (h1 : 0 < L) (h2 : L < 2 ^ 30) : ∃ r ms', phi__law_below ms [.int L] = .ok (.int r, ms') ∧ okD ms' ∧ 0 ≤ r ∧ r < L := by
  obtain ⟨a, b, ns, rfl, ha, hb, hn, hl⟩ := h
  have fm : ∀ x : Int, 0 ≤ x.fmod L ∧ x.fmod L < L := fun x => ⟨Int.fmod_nonneg_of_pos _ h1, Int.fmod_lt_of_pos _ h1⟩
  have fd : ∀ x : Int, 0 ≤ x → 0 ≤ x.fdiv L := fun x hx => Int.fdiv_nonneg hx (Int.le_of_lt h1)
  by_cases hb0 : b = 0
  · subst hb0
    cases ns with
    | nil => exact ⟨_, _, below_nil ha h1, ⟨_, 0, [], rfl, nextseed a, Int.le_refl _, hn, hl⟩, fm _⟩
    | cons c ns =>
      have hc := Int.le_of_lt (hn c (List.mem_cons_self ..))
      exact ⟨_, _, below_big (hn c (List.mem_cons_self ..)) h1 h2, ⟨a, _, ns, rfl, ha, fd _ hc, fun z hz => hn z (List.mem_cons_of_mem _ hz), by simp at hl; omega⟩, fm _⟩
  · exact ⟨_, _, below_pos (by omega) h1 h2, ⟨a, _, ns, rfl, ha, fd _ hb, hn, hl⟩, fm _⟩
/-! ### rings -/
def iL (ns : List Int) : List D := ns.map PyData.int
def okMarks (ns : List Int) : Prop := 3 ≤ ns.length ∧ ns.length ≤ 8 ∧ ∀ m ∈ ns, -1000000 ≤ m ∧ m ≤ 1000000
theorem lc_marks {elt : Ex} {a b c d : Option Sl} {n : Int} (h0 : 0 ≤ n) (h8 : n ≤ 8) (ha : a = some (.fr (.int n)))
    (h : ∀ ms v, okD ms → ∃ r ms', evalE elt [some (.mb ms), a, b, c, d, v] = .ok (.fr (.int r), [some (.mb ms'), a, b, c, d, v]) ∧ okD ms' ∧ -1000000 ≤ r ∧ r ≤ 1000000) {ms : List D} (hm : okD ms) :
    ∃ ns ms', evalE (.lc elt (.one 5) (.rng1 (.var 1)) .none [5]) [some (.mb ms), a, b, c, d, none] = .ok (.own (iL ns), [some (.mb ms'), a, b, c, d, none]) ∧ okD ms' ∧ ns.length = n.toNat ∧ ∀ m ∈ ns, -1000000 ≤ m ∧ m ≤ 1000000 := by
  subst ha
  obtain ⟨xs, s', h1, h2, ⟨ns, h3, h4, h5⟩⟩ := lc_run (elt := elt) (tg := .one 5) (src := .rng1 (.var 1)) (cond := .none) (vs := [5]) (en := [some (.mb ms), some (.fr (.int n)), b, c, d, none]) (items := rngD 0 n.toNat) (fun ms => [some (.mb ms), some (.fr (.int n)), b, c, d, none])
    (fun i acc ms => okD ms ∧ ∃ ns : List Int, acc = iL ns ∧ ns.length = i ∧ ∀ m ∈ ns, -1000000 ≤ m ∧ m ≤ 1000000) (s0 := ms)
    (evalS_rngI (by simp only [runD, runM, evalB, execs, exec, evalE, evalA, evalO, evalC, evalS, evalL, brw, two, three, asVar_var, asVar_cst, asVar_mv, asVar_bin, asVar_neg, asVar_nt, asVar_cmp, asVar_chain, asVar_andE, asVar_orE, asVar_ife, asVar_tupE, asVar_lstE, asVar_idx, asVar_slc, asVar_call, asVar_callM, asVar_popI, asVar_bi, asVar_bi2, asVar_isi, rdE, rdL, putE, updE, putsE, mb0, setL_at0, setL_at1, intOf, bindT, augD, toD, binD, cmpD, eqD_int, eqD_str, eqD_bool, idxD, biD, isiD, isNone, itemsD, slcD, atI_zero, atI_one, strict, ok_bind, ex_bind, no_bind, List.map_cons, List.map_nil, List.replicate_succ, List.replicate_zero, List.cons_append, List.nil_append, List.append_nil, List.getElem?_cons_zero, List.getElem?_cons_succ, List.getElem?_nil, List.set_cons_zero, List.set_cons_succ, List.length_cons, List.length_nil, List.length_map, Bool.not_false, Bool.not_true, if_true, if_false, Bool.false_eq_true, List.eraseIdx_cons_succ, List.eraseIdx_cons_zero, and_self, true_and, and_true, ite_true, ite_false, decide_true, decide_false, ne_eq, not_false_eq_true, not_true_eq_false, true_or, or_true, reduceCtorEq, asVar_lrng, asVar_rev, asVar_idx3, asVar_popE, revD, lstD]) (by omega) (by omega))
    (by rw [rngD_len]; have : SZ = 16777216 := SZ_lit; omega)
    (fun i z acc s hi ⟨q1, ns, q2, q3, q4⟩ => by
      obtain ⟨r, ms', w1, w2, w3⟩ := h s (some (.fr z)) q1
      refine ⟨_, true, _, rfl, rfl, fun _ => ⟨.fr (.int r), _, ms', w1, ⟨w2, ns ++ [r], ?_, by simp [q3], fun m hm => ?_⟩, rfl⟩, fun z => by cases z⟩
      · rw [q2]; simp [iL, toD]
      · rcases List.mem_append.mp hm with hm | hm
        · exact q4 m hm
        · rw [List.mem_singleton.mp hm]; exact w3)
    ⟨hm, [], rfl, rfl, fun m hm => by cases hm⟩
  refine ⟨ns, s', ?_, h2, by rw [h4, rngD_len], h5⟩
  rw [h1, h3]
  rfl
end VS

/-! The law's rings. -/
namespace VS
open PySem (PyData)
theorem marks_ok {ms : List D} (hm : okD ms) : ∃ ns ms', phi__law_marks ms [] = .ok (.tuple (iL ns), ms') ∧ okD ms' ∧ okMarks ns := by
  obtain ⟨r1, ms1, e1, m1, l1, u1⟩ := below_ok hm (L := 6) (by decide) (by decide)
  obtain ⟨r2, ms2, e2, m2, l2, u2⟩ := below_ok m1 (L := 5) (by decide) (by decide)
  have fin : ∀ {ns : List Int}, ns.length = (3 + r1).toNat → (∀ m ∈ ns, -1000000 ≤ m ∧ m ≤ 1000000) → okMarks ns := fun {ns} h1 h2 => ⟨by omega, by omega, h2⟩
  by_cases k0 : r2 = 0
  · subst k0
    obtain ⟨ns, ms', hE, hm', hl, hb⟩ := lc_marks (elt := .bin .Sub (.callM phi__law_below 0 (.cons (.cst (.int 2000001)) .nil)) (.cst (.int 1000000))) (a := some (.fr (.int (3 + r1)))) (b := some (.fr (.int 0))) (c := none) (d := none) (n := 3 + r1) (by omega) (by omega) rfl
      (fun ms v h => by
        obtain ⟨r, ms', e, h', lo, hi⟩ := below_ok h (L := 2000001) (by decide) (by decide)
        exact ⟨r - 1000000, ms', by simp only [runD, runM, evalB, execs, exec, evalE, evalA, evalO, evalC, evalS, evalL, brw, two, three, asVar_var, asVar_cst, asVar_mv, asVar_bin, asVar_neg, asVar_nt, asVar_cmp, asVar_chain, asVar_andE, asVar_orE, asVar_ife, asVar_tupE, asVar_lstE, asVar_idx, asVar_slc, asVar_call, asVar_callM, asVar_popI, asVar_bi, asVar_bi2, asVar_isi, rdE, rdL, putE, updE, putsE, mb0, setL_at0, setL_at1, intOf, bindT, augD, toD, binD, cmpD, eqD_int, eqD_str, eqD_bool, idxD, biD, isiD, isNone, itemsD, slcD, atI_zero, atI_one, strict, ok_bind, ex_bind, no_bind, List.map_cons, List.map_nil, List.replicate_succ, List.replicate_zero, List.cons_append, List.nil_append, List.append_nil, List.getElem?_cons_zero, List.getElem?_cons_succ, List.getElem?_nil, List.set_cons_zero, List.set_cons_succ, List.length_cons, List.length_nil, List.length_map, Bool.not_false, Bool.not_true, if_true, if_false, Bool.false_eq_true, List.eraseIdx_cons_succ, List.eraseIdx_cons_zero, and_self, true_and, and_true, ite_true, ite_false, decide_true, decide_false, ne_eq, not_false_eq_true, not_true_eq_false, true_or, or_true, reduceCtorEq, asVar_lrng, asVar_rev, asVar_idx3, asVar_popE, revD, lstD, e], h', by omega, by omega⟩) m2
    have hE : evalE c2__law_marks _ = _ := hE
    refine ⟨ns, ms', fmOf_eq (n := 0) ?_ (by simp), hm', fin hl hb⟩
    unfold ir__law_marks
    simp only [runD, runM, evalB, execs, exec, evalE, evalA, evalO, evalC, evalS, evalL, brw, two, three, asVar_var, asVar_cst, asVar_mv, asVar_bin, asVar_neg, asVar_nt, asVar_cmp, asVar_chain, asVar_andE, asVar_orE, asVar_ife, asVar_tupE, asVar_lstE, asVar_idx, asVar_slc, asVar_call, asVar_callM, asVar_popI, asVar_bi, asVar_bi2, asVar_isi, rdE, rdL, putE, updE, putsE, mb0, setL_at0, setL_at1, intOf, bindT, augD, toD, binD, cmpD, eqD_int, eqD_str, eqD_bool, idxD, biD, isiD, isNone, itemsD, slcD, atI_zero, atI_one, strict, ok_bind, ex_bind, no_bind, List.map_cons, List.map_nil, List.replicate_succ, List.replicate_zero, List.cons_append, List.nil_append, List.append_nil, List.getElem?_cons_zero, List.getElem?_cons_succ, List.getElem?_nil, List.set_cons_zero, List.set_cons_succ, List.length_cons, List.length_nil, List.length_map, Bool.not_false, Bool.not_true, if_true, if_false, Bool.false_eq_true, List.eraseIdx_cons_succ, List.eraseIdx_cons_zero, and_self, true_and, and_true, ite_true, ite_false, decide_true, decide_false, ne_eq, not_false_eq_true, not_true_eq_false, true_or, or_true, reduceCtorEq, asVar_lrng, asVar_rev, asVar_idx3, asVar_popE, revD, lstD, e1, e2, beq_self_eq_true, hE, c2__law_marks_v]
  · by_cases k1 : r2 = 1
    · subst k1
      obtain ⟨r3, ms3, e3, m3, l3, u3⟩ := below_ok m2 (L := 9) (by decide) (by decide)
      obtain ⟨r4, ms4, e4, m4, l4, u4⟩ := below_ok m3 (L := 5) (by decide) (by decide)
      obtain ⟨ns, ms', hE, hm', hl, hb⟩ := lc_marks (elt := .bin .Add (.var 3) (.bin .Mult (.var 4) (.callM phi__law_below 0 (.cons (.cst (.int 4)) .nil)))) (a := some (.fr (.int (3 + r1)))) (b := some (.fr (.int 1))) (c := some (.fr (.int (r3 - 4)))) (d := some (.fr (.int (1 + r4)))) (n := 3 + r1) (by omega) (by omega) rfl
        (fun ms v h => by
          obtain ⟨r, ms', e, h', lo, hi⟩ := below_ok h (L := 4) (by decide) (by decide)
          have w : wInt (1 + r4) := ⟨by omega, by omega⟩
          have b1 : 0 ≤ (1 + r4) * r := Int.mul_nonneg (by omega) lo
          have b2 : (1 + r4) * r ≤ 5 * 3 := Int.mul_le_mul (by omega) (by omega) lo (by omega)
          exact ⟨r3 - 4 + (1 + r4) * r, ms', by simp only [runD, runM, evalB, execs, exec, evalE, evalA, evalO, evalC, evalS, evalL, brw, two, three, asVar_var, asVar_cst, asVar_mv, asVar_bin, asVar_neg, asVar_nt, asVar_cmp, asVar_chain, asVar_andE, asVar_orE, asVar_ife, asVar_tupE, asVar_lstE, asVar_idx, asVar_slc, asVar_call, asVar_callM, asVar_popI, asVar_bi, asVar_bi2, asVar_isi, rdE, rdL, putE, updE, putsE, mb0, setL_at0, setL_at1, intOf, bindT, augD, toD, binD, cmpD, eqD_int, eqD_str, eqD_bool, idxD, biD, isiD, isNone, itemsD, slcD, atI_zero, atI_one, strict, ok_bind, ex_bind, no_bind, List.map_cons, List.map_nil, List.replicate_succ, List.replicate_zero, List.cons_append, List.nil_append, List.append_nil, List.getElem?_cons_zero, List.getElem?_cons_succ, List.getElem?_nil, List.set_cons_zero, List.set_cons_succ, List.length_cons, List.length_nil, List.length_map, Bool.not_false, Bool.not_true, if_true, if_false, Bool.false_eq_true, List.eraseIdx_cons_succ, List.eraseIdx_cons_zero, and_self, true_and, and_true, ite_true, ite_false, decide_true, decide_false, ne_eq, not_false_eq_true, not_true_eq_false, true_or, or_true, reduceCtorEq, asVar_lrng, asVar_rev, asVar_idx3, asVar_popE, revD, lstD, e, w], h', by omega, by omega⟩) m4
      have hE : evalE c1__law_marks _ = _ := hE
      refine ⟨ns, ms', fmOf_eq (n := 0) ?_ (by simp), hm', fin hl hb⟩
      unfold ir__law_marks
      simp only [runD, runM, evalB, execs, exec, evalE, evalA, evalO, evalC, evalS, evalL, brw, two, three, asVar_var, asVar_cst, asVar_mv, asVar_bin, asVar_neg, asVar_nt, asVar_cmp, asVar_chain, asVar_andE, asVar_orE, asVar_ife, asVar_tupE, asVar_lstE, asVar_idx, asVar_slc, asVar_call, asVar_callM, asVar_popI, asVar_bi, asVar_bi2, asVar_isi, rdE, rdL, putE, updE, putsE, mb0, setL_at0, setL_at1, intOf, bindT, augD, toD, binD, cmpD, eqD_int, eqD_str, eqD_bool, idxD, biD, isiD, isNone, itemsD, slcD, atI_zero, atI_one, strict, ok_bind, ex_bind, no_bind, List.map_cons, List.map_nil, List.replicate_succ, List.replicate_zero, List.cons_append, List.nil_append, List.append_nil, List.getElem?_cons_zero, List.getElem?_cons_succ, List.getElem?_nil, List.set_cons_zero, List.set_cons_succ, List.length_cons, List.length_nil, List.length_map, Bool.not_false, Bool.not_true, if_true, if_false, Bool.false_eq_true, List.eraseIdx_cons_succ, List.eraseIdx_cons_zero, and_self, true_and, and_true, ite_true, ite_false, decide_true, decide_false, ne_eq, not_false_eq_true, not_true_eq_false, true_or, or_true, reduceCtorEq, asVar_lrng, asVar_rev, asVar_idx3, asVar_popE, revD, lstD, e1, e2, e3, e4, beq_self_eq_true, show ((1 : Int) == 0) = false from by decide, hE, c1__law_marks_v]
    · have k0' : (r2 == 0) = false := by simp; omega
      have k1' : (r2 == 1) = false := by simp; omega
      by_cases k2 : r2 = 2
      · subst k2
        obtain ⟨r3, ms3, e3, m3, l3, u3⟩ := below_ok m2 (L := 9) (by decide) (by decide)
        have hk1 : 2 ≤ 3 + r1 := by omega
        have hk2 : 3 + r1 ≤ 1000 := by omega
        refine ⟨List.replicate (3 + r1).toNat r3, ms3, fmOf_eq (n := 0) ?_ (by simp), m3, fin (by simp) (fun m h => ?_)⟩
        · unfold ir__law_marks
          have hrep : repD (3 + r1) [PyData.int r3] = iL (List.replicate (3 + r1).toNat r3) := by
            unfold repD iL
            rw [List.map_replicate]
            generalize (3 + r1).toNat = k
            induction k with
            | zero => rfl
            | succ k ih => rw [List.replicate_succ, List.replicate_succ, List.flatten_cons, ih]; rfl
          have hs : (0 + 1 ≤ SZ) = True := eq_true (le_SZ (by decide))
          simp only [runD, runM, evalB, execs, exec, evalE, evalA, evalO, evalC, evalS, evalL, brw, two, three, asVar_var, asVar_cst, asVar_mv, asVar_bin, asVar_neg, asVar_nt, asVar_cmp, asVar_chain, asVar_andE, asVar_orE, asVar_ife, asVar_tupE, asVar_lstE, asVar_idx, asVar_slc, asVar_call, asVar_callM, asVar_popI, asVar_bi, asVar_bi2, asVar_isi, rdE, rdL, putE, updE, putsE, mb0, setL_at0, setL_at1, intOf, bindT, augD, toD, binD, cmpD, eqD_int, eqD_str, eqD_bool, idxD, biD, isiD, isNone, itemsD, slcD, atI_zero, atI_one, strict, ok_bind, ex_bind, no_bind, List.map_cons, List.map_nil, List.replicate_succ, List.replicate_zero, List.cons_append, List.nil_append, List.append_nil, List.getElem?_cons_zero, List.getElem?_cons_succ, List.getElem?_nil, List.set_cons_zero, List.set_cons_succ, List.length_cons, List.length_nil, List.length_map, Bool.not_false, Bool.not_true, if_true, if_false, Bool.false_eq_true, List.eraseIdx_cons_succ, List.eraseIdx_cons_zero, and_self, true_and, and_true, ite_true, ite_false, decide_true, decide_false, ne_eq, not_false_eq_true, not_true_eq_false, true_or, or_true, reduceCtorEq, asVar_lrng, asVar_rev, asVar_idx3, asVar_popE, revD, lstD, e1, e2, e3, k0', k1', beq_self_eq_true, hs, hk1, hk2, hrep, show (0 + 1 ≤ 1000) = True from eq_true (by decide)]
        · have := (List.mem_replicate.mp h).2
          subst this
          exact ⟨by omega, by omega⟩
      · have k2' : (r2 == 2) = false := by simp; omega
        obtain ⟨ns, ms', hE, hm', hl, hb⟩ := lc_marks (elt := .bin .Sub (.callM phi__law_below 0 (.cons (.idx (.lstE (.cons (.cst (.int 3)) (.cons (.cst (.int 20)) .nil))) (.callM phi__law_below 0 (.cons (.cst (.int 2)) .nil))) .nil)) (.cst (.int 2))) (a := some (.fr (.int (3 + r1)))) (b := some (.fr (.int r2))) (c := none) (d := none) (n := 3 + r1) (by omega) (by omega) rfl
          (fun ms v h => by
            obtain ⟨r, ms', e, h', lo, hi⟩ := below_ok h (L := 2) (by decide) (by decide)
            have hs : (0 + 1 + 1 ≤ SZ) = True := eq_true (le_SZ (by decide))
            by_cases q : r = 0
            · subst q
              obtain ⟨z, ms2, f, g, lz, hz⟩ := below_ok h' (L := 3) (by decide) (by decide)
              exact ⟨z - 2, ms2, by simp only [runD, runM, evalB, execs, exec, evalE, evalA, evalO, evalC, evalS, evalL, brw, two, three, asVar_var, asVar_cst, asVar_mv, asVar_bin, asVar_neg, asVar_nt, asVar_cmp, asVar_chain, asVar_andE, asVar_orE, asVar_ife, asVar_tupE, asVar_lstE, asVar_idx, asVar_slc, asVar_call, asVar_callM, asVar_popI, asVar_bi, asVar_bi2, asVar_isi, rdE, rdL, putE, updE, putsE, mb0, setL_at0, setL_at1, intOf, bindT, augD, toD, binD, cmpD, eqD_int, eqD_str, eqD_bool, idxD, biD, isiD, isNone, itemsD, slcD, atI_zero, atI_one, strict, ok_bind, ex_bind, no_bind, List.map_cons, List.map_nil, List.replicate_succ, List.replicate_zero, List.cons_append, List.nil_append, List.append_nil, List.getElem?_cons_zero, List.getElem?_cons_succ, List.getElem?_nil, List.set_cons_zero, List.set_cons_succ, List.length_cons, List.length_nil, List.length_map, Bool.not_false, Bool.not_true, if_true, if_false, Bool.false_eq_true, List.eraseIdx_cons_succ, List.eraseIdx_cons_zero, and_self, true_and, and_true, ite_true, ite_false, decide_true, decide_false, ne_eq, not_false_eq_true, not_true_eq_false, true_or, or_true, reduceCtorEq, asVar_lrng, asVar_rev, asVar_idx3, asVar_popE, revD, lstD, e, f, hs], g, by omega, by omega⟩
            · have q1 : r = 1 := by omega
              subst q1
              obtain ⟨z, ms2, f, g, lz, hz⟩ := below_ok h' (L := 20) (by decide) (by decide)
              exact ⟨z - 2, ms2, by simp only [runD, runM, evalB, execs, exec, evalE, evalA, evalO, evalC, evalS, evalL, brw, two, three, asVar_var, asVar_cst, asVar_mv, asVar_bin, asVar_neg, asVar_nt, asVar_cmp, asVar_chain, asVar_andE, asVar_orE, asVar_ife, asVar_tupE, asVar_lstE, asVar_idx, asVar_slc, asVar_call, asVar_callM, asVar_popI, asVar_bi, asVar_bi2, asVar_isi, rdE, rdL, putE, updE, putsE, mb0, setL_at0, setL_at1, intOf, bindT, augD, toD, binD, cmpD, eqD_int, eqD_str, eqD_bool, idxD, biD, isiD, isNone, itemsD, slcD, atI_zero, atI_one, strict, ok_bind, ex_bind, no_bind, List.map_cons, List.map_nil, List.replicate_succ, List.replicate_zero, List.cons_append, List.nil_append, List.append_nil, List.getElem?_cons_zero, List.getElem?_cons_succ, List.getElem?_nil, List.set_cons_zero, List.set_cons_succ, List.length_cons, List.length_nil, List.length_map, Bool.not_false, Bool.not_true, if_true, if_false, Bool.false_eq_true, List.eraseIdx_cons_succ, List.eraseIdx_cons_zero, and_self, true_and, and_true, ite_true, ite_false, decide_true, decide_false, ne_eq, not_false_eq_true, not_true_eq_false, true_or, or_true, reduceCtorEq, asVar_lrng, asVar_rev, asVar_idx3, asVar_popE, revD, lstD, e, f, hs], g, by omega, by omega⟩) m2
        have hE : evalE c0__law_marks _ = _ := hE
        refine ⟨ns, ms', fmOf_eq (n := 0) ?_ (by simp), hm', fin hl hb⟩
        unfold ir__law_marks
        simp only [runD, runM, evalB, execs, exec, evalE, evalA, evalO, evalC, evalS, evalL, brw, two, three, asVar_var, asVar_cst, asVar_mv, asVar_bin, asVar_neg, asVar_nt, asVar_cmp, asVar_chain, asVar_andE, asVar_orE, asVar_ife, asVar_tupE, asVar_lstE, asVar_idx, asVar_slc, asVar_call, asVar_callM, asVar_popI, asVar_bi, asVar_bi2, asVar_isi, rdE, rdL, putE, updE, putsE, mb0, setL_at0, setL_at1, intOf, bindT, augD, toD, binD, cmpD, eqD_int, eqD_str, eqD_bool, idxD, biD, isiD, isNone, itemsD, slcD, atI_zero, atI_one, strict, ok_bind, ex_bind, no_bind, List.map_cons, List.map_nil, List.replicate_succ, List.replicate_zero, List.cons_append, List.nil_append, List.append_nil, List.getElem?_cons_zero, List.getElem?_cons_succ, List.getElem?_nil, List.set_cons_zero, List.set_cons_succ, List.length_cons, List.length_nil, List.length_map, Bool.not_false, Bool.not_true, if_true, if_false, Bool.false_eq_true, List.eraseIdx_cons_succ, List.eraseIdx_cons_zero, and_self, true_and, and_true, ite_true, ite_false, decide_true, decide_false, ne_eq, not_false_eq_true, not_true_eq_false, true_or, or_true, reduceCtorEq, asVar_lrng, asVar_rev, asVar_idx3, asVar_popE, revD, lstD, e1, e2, k0', k1', k2', hE, c0__law_marks_v]
end VS

/-! Steps of rings. -/
namespace VS
open PySem (PyData)
open L2 (atI ixN)
theorem rngD_eq : ∀ (n : Nat) (lo : Int), rngD lo n = (List.range n).map fun (i : Nat) => PyData.int (lo + (i : Int))
  | 0, _ => rfl
  | n + 1, lo => by
    rw [List.range_succ_eq_map, List.map_cons, List.map_map]
    simp only [rngD]
    rw [rngD_eq n (lo + 1)]
    congr 1
    · congr 1; simp
    · apply List.map_congr_left
      intro i _
      show PyData.int _ = PyData.int _
      congr 1
      show lo + 1 + (i : Int) = lo + ((i + 1 : Nat) : Int)
      omega
theorem enumD_eq : ∀ (xs : List D) (k : Nat), enumD k xs = (List.range xs.length).map fun (i : Nat) => PyData.tuple [.int ((k + i : Nat) : Int), xs.getD i .none]
  | [], _ => rfl
  | x :: r, k => by
    rw [List.length_cons, List.range_succ_eq_map, List.map_cons, List.map_map]
    simp only [enumD]
    rw [enumD_eq r (k + 1)]
    congr 1
    apply List.map_congr_left
    intro i _
    show PyData.tuple [PyData.int ((k + 1 + i : Nat) : Int), _] = PyData.tuple [PyData.int ((k + (i + 1) : Nat) : Int), _]
    rw [show k + 1 + i = k + (i + 1) by omega]
    rfl
def gI (ns : List Int) (i : Nat) : Int := ns.getD i 0
theorem gI_get {ns : List Int} {i : Nat} (h : i < ns.length) : ns[i]? = some (gI ns i) := by
  unfold gI
  rw [List.getD_eq_getElem?_getD, List.getElem?_eq_getElem h]
  rfl
theorem iL_len {ns : List Int} : (iL ns).length = ns.length := List.length_map _
theorem iL_getD {ns : List Int} {i : Nat} (h : i < ns.length) : (iL ns).getD i .none = .int (gI ns i) := by
  rw [List.getD_eq_getElem?_getD]
  show ((ns.map PyData.int)[i]?).getD .none = _
  rw [List.getElem?_map, gI_get h]
  rfl
theorem iL_get {ns : List Int} {i : Nat} (h : i < ns.length) : (iL ns)[i]? = some (.int (gI ns i)) := by
  show (ns.map PyData.int)[i]? = _
  rw [List.getElem?_map, gI_get h]
  rfl
theorem iL_mem {ns : List Int} {d : D} (h : d ∈ iL ns) : ∃ n ∈ ns, d = .int n := by
  obtain ⟨n, h1, h2⟩ := List.mem_map.mp h
  exact ⟨n, h1, h2.symm⟩
theorem at_iL {ns : List Int} {k : Int} (h0 : 0 ≤ k) (h : k < ns.length) : atI (iL ns) k = some (.int (gI ns k.toNat)) := by
  unfold atI
  have e : ixN (iL ns).length k = some k.toNat := by
    unfold ixN
    rw [if_pos h0, if_pos (by rw [iL_len]; exact h)]
  rw [e]
  show (iL ns)[k.toNat]? = _
  exact iL_get (by omega)
theorem at_iL' {ns : List Int} {i : Nat} (h : i < ns.length) : atI (iL ns) (i : Int) = some (.int (gI ns i)) := by
  rw [at_iL (by omega) (by omega)]
  rfl
theorem fmod_nat (a n : Nat) : ((a : Int)).fmod (n : Int) = ((a % n : Nat) : Int) := by
  rw [Int.fmod_eq_emod_of_nonneg _ (by omega)]
  rfl
/-- the steps of a ring -/
def dif (ns : List Int) : List Int := (List.range ns.length).map fun i => gI ns ((i + 1) % ns.length) - gI ns i
theorem dif_len {ns : List Int} : (dif ns).length = ns.length := by simp [dif]
theorem small_SZ {n : Nat} (h : n ≤ 8) : n ≤ SZ := by have : SZ = 16777216 := SZ_lit; omega
theorem small_rng {n : Nat} (h : n ≤ SZ) : -(2 ^ 62) ≤ (n : Int) ∧ (n : Int) < 2 ^ 62 := by have : SZ = 16777216 := SZ_lit; omega
theorem differences_val {ns : List Int} (h0 : 0 < ns.length) (hz : ns.length ≤ SZ) : phi__law_differences [.tuple (iL ns)] = .ok (.own (iL (dif ns))) := by
  refine fnOf_eq (n := 0) ?_ (by simp)
  have hE : evalE c0__law_differences [some (.fr (.tuple (iL ns))), none] = .ok (.own (iL (dif ns)), [some (.fr (.tuple (iL ns))), none]) := by
    unfold c0__law_differences
    refine (lc_idx (en1 := [some (.fr (.tuple (iL ns))), none]) (items := rngD 0 ns.length)
      (fun i => .int (gI ns ((i + 1) % ns.length) - gI ns i))
      (evalS_rng1 (by simp only [runD, runM, evalB, execs, exec, evalE, evalA, evalO, evalC, evalS, evalL, brw, two, three, asVar_var, asVar_cst, asVar_mv, asVar_bin, asVar_neg, asVar_nt, asVar_cmp, asVar_chain, asVar_andE, asVar_orE, asVar_ife, asVar_tupE, asVar_lstE, asVar_idx, asVar_slc, asVar_call, asVar_callM, asVar_popI, asVar_bi, asVar_bi2, asVar_isi, rdE, rdL, putE, updE, putsE, mb0, setL_at0, setL_at1, intOf, bindT, augD, toD, binD, cmpD, eqD_int, eqD_str, eqD_bool, idxD, biD, isiD, isNone, itemsD, slcD, atI_zero, atI_one, strict, ok_bind, ex_bind, no_bind, List.map_cons, List.map_nil, List.replicate_succ, List.replicate_zero, List.cons_append, List.nil_append, List.append_nil, List.getElem?_cons_zero, List.getElem?_cons_succ, List.getElem?_nil, List.set_cons_zero, List.set_cons_succ, List.length_cons, List.length_nil, List.length_map, Bool.not_false, Bool.not_true, if_true, if_false, Bool.false_eq_true, List.eraseIdx_cons_succ, List.eraseIdx_cons_zero, and_self, true_and, and_true, ite_true, ite_false, decide_true, decide_false, ne_eq, not_false_eq_true, not_true_eq_false, true_or, or_true, reduceCtorEq, asVar_lrng, asVar_rev, asVar_idx3, asVar_popE, revD, lstD, iL_len]) hz) (by rw [rngD_len]; exact hz) (fun i d hd => by
        obtain ⟨hi, rfl⟩ := rngD_get _ _ _ _ hd
        have hm : (i + 1) % ns.length < ns.length := Nat.mod_lt _ h0
        have e1 : (((i : Int) + 1)).fmod (ns.length : Int) = (((i + 1) % ns.length : Nat) : Int) := fmod_nat (i + 1) ns.length
        have n0 : ¬ ((ns.length : Int) = 0) := by omega
        refine ⟨[some (.fr (.tuple (iL ns))), some (.fr (.int (i : Int)))], .fr (.int (gI ns ((i + 1) % ns.length) - gI ns i)), [some (.fr (.tuple (iL ns))), some (.fr (.int (i : Int)))], ?_, ?_, rfl, rfl⟩
        · rw [Int.zero_add]; rfl
        · simp only [runD, runM, evalB, execs, exec, evalE, evalA, evalO, evalC, evalS, evalL, brw, two, three, asVar_var, asVar_cst, asVar_mv, asVar_bin, asVar_neg, asVar_nt, asVar_cmp, asVar_chain, asVar_andE, asVar_orE, asVar_ife, asVar_tupE, asVar_lstE, asVar_idx, asVar_slc, asVar_call, asVar_callM, asVar_popI, asVar_bi, asVar_bi2, asVar_isi, rdE, rdL, putE, updE, putsE, mb0, setL_at0, setL_at1, intOf, bindT, augD, toD, binD, cmpD, eqD_int, eqD_str, eqD_bool, idxD, biD, isiD, isNone, itemsD, slcD, atI_zero, atI_one, strict, ok_bind, ex_bind, no_bind, List.map_cons, List.map_nil, List.replicate_succ, List.replicate_zero, List.cons_append, List.nil_append, List.append_nil, List.getElem?_cons_zero, List.getElem?_cons_succ, List.getElem?_nil, List.set_cons_zero, List.set_cons_succ, List.length_cons, List.length_nil, List.length_map, Bool.not_false, Bool.not_true, if_true, if_false, Bool.false_eq_true, List.eraseIdx_cons_succ, List.eraseIdx_cons_zero, and_self, true_and, and_true, ite_true, ite_false, decide_true, decide_false, ne_eq, not_false_eq_true, not_true_eq_false, true_or, or_true, reduceCtorEq, asVar_lrng, asVar_rev, asVar_idx3, asVar_popE, revD, lstD, iL_len, e1, n0, at_iL' hm, at_iL' hi])).trans ?_
    rw [rngD_len]
    unfold dif
    show _ = Ou.ok (Sl.own (List.map PyData.int _), _)
    rw [List.map_map]
    rfl
  unfold ir__law_differences
  simp only [runD, runM, evalB, execs, exec, evalE, evalA, evalO, evalC, evalS, evalL, brw, two, three, asVar_var, asVar_cst, asVar_mv, asVar_bin, asVar_neg, asVar_nt, asVar_cmp, asVar_chain, asVar_andE, asVar_orE, asVar_ife, asVar_tupE, asVar_lstE, asVar_idx, asVar_slc, asVar_call, asVar_callM, asVar_popI, asVar_bi, asVar_bi2, asVar_isi, rdE, rdL, putE, updE, putsE, mb0, setL_at0, setL_at1, intOf, bindT, augD, toD, binD, cmpD, eqD_int, eqD_str, eqD_bool, idxD, biD, isiD, isNone, itemsD, slcD, atI_zero, atI_one, strict, ok_bind, ex_bind, no_bind, List.map_cons, List.map_nil, List.replicate_succ, List.replicate_zero, List.cons_append, List.nil_append, List.append_nil, List.getElem?_cons_zero, List.getElem?_cons_succ, List.getElem?_nil, List.set_cons_zero, List.set_cons_succ, List.length_cons, List.length_nil, List.length_map, Bool.not_false, Bool.not_true, if_true, if_false, Bool.false_eq_true, List.eraseIdx_cons_succ, List.eraseIdx_cons_zero, and_self, true_and, and_true, ite_true, ite_false, decide_true, decide_false, ne_eq, not_false_eq_true, not_true_eq_false, true_or, or_true, reduceCtorEq, asVar_lrng, asVar_rev, asVar_idx3, asVar_popE, revD, lstD, hE, c0__law_differences_v]
theorem steps_of_val {ns : List Int} (h0 : 0 < ns.length) (hz : ns.length ≤ SZ) : phi_steps_of [.tuple (iL ns)] = .ok (.fr (.tuple (iL (dif ns)))) := by
  refine fnOf_eq (n := 0) ?_ (by simp)
  have hE : evalE c0_steps_of [some (.fr (.tuple (iL ns))), none, none] = .ok (.own (iL (dif ns)), [some (.fr (.tuple (iL ns))), none, none]) := by
    unfold c0_steps_of
    refine (lc_idx (en1 := [some (.fr (.tuple (iL ns))), none, none]) (items := enumD 0 (iL ns))
      (fun i => .int (gI ns ((i + 1) % ns.length) - gI ns i))
      (by simp only [runD, runM, evalB, execs, exec, evalE, evalA, evalO, evalC, evalS, evalL, brw, two, three, asVar_var, asVar_cst, asVar_mv, asVar_bin, asVar_neg, asVar_nt, asVar_cmp, asVar_chain, asVar_andE, asVar_orE, asVar_ife, asVar_tupE, asVar_lstE, asVar_idx, asVar_slc, asVar_call, asVar_callM, asVar_popI, asVar_bi, asVar_bi2, asVar_isi, rdE, rdL, putE, updE, putsE, mb0, setL_at0, setL_at1, intOf, bindT, augD, toD, binD, cmpD, eqD_int, eqD_str, eqD_bool, idxD, biD, isiD, isNone, itemsD, slcD, atI_zero, atI_one, strict, ok_bind, ex_bind, no_bind, List.map_cons, List.map_nil, List.replicate_succ, List.replicate_zero, List.cons_append, List.nil_append, List.append_nil, List.getElem?_cons_zero, List.getElem?_cons_succ, List.getElem?_nil, List.set_cons_zero, List.set_cons_succ, List.length_cons, List.length_nil, List.length_map, Bool.not_false, Bool.not_true, if_true, if_false, Bool.false_eq_true, List.eraseIdx_cons_succ, List.eraseIdx_cons_zero, and_self, true_and, and_true, ite_true, ite_false, decide_true, decide_false, ne_eq, not_false_eq_true, not_true_eq_false, true_or, or_true, reduceCtorEq, asVar_lrng, asVar_rev, asVar_idx3, asVar_popE, revD, lstD]) (by rw [enumD_len, iL_len]; exact hz) (fun i d hd => by
        obtain ⟨x, hx, rfl⟩ := enumD_get _ _ _ _ hd
        have hi : i < ns.length := by
          have := (List.getElem?_eq_some_iff.mp hx).1
          rw [iL_len] at this
          exact this
        rw [iL_get hi] at hx
        have hx := Option.some.inj hx
        subst hx
        have hm : (i + 1) % ns.length < ns.length := Nat.mod_lt _ h0
        have e1 : (((i : Int) + 1)).fmod (ns.length : Int) = (((i + 1) % ns.length : Nat) : Int) := fmod_nat (i + 1) ns.length
        have n0 : ¬ ((ns.length : Int) = 0) := by omega
        refine ⟨[some (.fr (.tuple (iL ns))), some (.fr (.int (i : Int))), some (.fr (.int (gI ns i)))], .fr (.int (gI ns ((i + 1) % ns.length) - gI ns i)), [some (.fr (.tuple (iL ns))), some (.fr (.int (i : Int))), some (.fr (.int (gI ns i)))], ?_, ?_, rfl, rfl⟩
        · rw [Nat.zero_add]; rfl
        · simp only [runD, runM, evalB, execs, exec, evalE, evalA, evalO, evalC, evalS, evalL, brw, two, three, asVar_var, asVar_cst, asVar_mv, asVar_bin, asVar_neg, asVar_nt, asVar_cmp, asVar_chain, asVar_andE, asVar_orE, asVar_ife, asVar_tupE, asVar_lstE, asVar_idx, asVar_slc, asVar_call, asVar_callM, asVar_popI, asVar_bi, asVar_bi2, asVar_isi, rdE, rdL, putE, updE, putsE, mb0, setL_at0, setL_at1, intOf, bindT, augD, toD, binD, cmpD, eqD_int, eqD_str, eqD_bool, idxD, biD, isiD, isNone, itemsD, slcD, atI_zero, atI_one, strict, ok_bind, ex_bind, no_bind, List.map_cons, List.map_nil, List.replicate_succ, List.replicate_zero, List.cons_append, List.nil_append, List.append_nil, List.getElem?_cons_zero, List.getElem?_cons_succ, List.getElem?_nil, List.set_cons_zero, List.set_cons_succ, List.length_cons, List.length_nil, List.length_map, Bool.not_false, Bool.not_true, if_true, if_false, Bool.false_eq_true, List.eraseIdx_cons_succ, List.eraseIdx_cons_zero, and_self, true_and, and_true, ite_true, ite_false, decide_true, decide_false, ne_eq, not_false_eq_true, not_true_eq_false, true_or, or_true, reduceCtorEq, asVar_lrng, asVar_rev, asVar_idx3, asVar_popE, revD, lstD, iL_len, e1, n0, at_iL' hm])).trans ?_
    rw [enumD_len, iL_len]
    unfold dif
    show _ = Ou.ok (Sl.own (List.map PyData.int _), _)
    rw [List.map_map]
    rfl
  unfold ir_steps_of
  simp only [runD, runM, evalB, execs, exec, evalE, evalA, evalO, evalC, evalS, evalL, brw, two, three, asVar_var, asVar_cst, asVar_mv, asVar_bin, asVar_neg, asVar_nt, asVar_cmp, asVar_chain, asVar_andE, asVar_orE, asVar_ife, asVar_tupE, asVar_lstE, asVar_idx, asVar_slc, asVar_call, asVar_callM, asVar_popI, asVar_bi, asVar_bi2, asVar_isi, rdE, rdL, putE, updE, putsE, mb0, setL_at0, setL_at1, intOf, bindT, augD, toD, binD, cmpD, eqD_int, eqD_str, eqD_bool, idxD, biD, isiD, isNone, itemsD, slcD, atI_zero, atI_one, strict, ok_bind, ex_bind, no_bind, List.map_cons, List.map_nil, List.replicate_succ, List.replicate_zero, List.cons_append, List.nil_append, List.append_nil, List.getElem?_cons_zero, List.getElem?_cons_succ, List.getElem?_nil, List.set_cons_zero, List.set_cons_succ, List.length_cons, List.length_nil, List.length_map, Bool.not_false, Bool.not_true, if_true, if_false, Bool.false_eq_true, List.eraseIdx_cons_succ, List.eraseIdx_cons_zero, and_self, true_and, and_true, ite_true, ite_false, decide_true, decide_false, ne_eq, not_false_eq_true, not_true_eq_false, true_or, or_true, reduceCtorEq, asVar_lrng, asVar_rev, asVar_idx3, asVar_popE, revD, lstD, hE, c0_steps_of_v]
theorem check_marks_val (q : Bool) {ns : List Int} (h : okMarks ns) : phi_check_marks q [.tuple (iL ns)] = .ok (.fr .none) := by
  obtain ⟨h3, h8, hb⟩ := h
  obtain ⟨en', hf, a, b, he⟩ := for_run (f := execs 0 (b0_check_marks q)) (t := .tup [1, 2]) (ds := enumD 0 (iL ns)) (fun i en => ∃ a b, en = [some (.fr (.tuple (iL ns))), a, b]) (en := [some (.fr (.tuple (iL ns))), none, none]) (fun i d en hd ⟨a, b, he⟩ => by
    subst he
    obtain ⟨x, hx, rfl⟩ := enumD_get _ _ _ _ hd
    have hi : i < ns.length := by
      have := (List.getElem?_eq_some_iff.mp hx).1
      rw [iL_len] at this
      exact this
    rw [iL_get hi] at hx
    have hx := Option.some.inj hx
    subst hx
    have hm := hb (gI ns i) (List.mem_of_getElem? (gI_get hi))
    refine ⟨[some (.fr (.tuple (iL ns))), some (.fr (.int (i : Int))), some (.fr (.int (gI ns i)))], [some (.fr (.tuple (iL ns))), some (.fr (.int (i : Int))), some (.fr (.int (gI ns i)))], by rw [Nat.zero_add]; rfl, .inl ?_, _, _, rfl⟩
    have i8 : ((i : Int) == 8) = false := by simp; omega
    unfold b0_check_marks
    simp only [runD, runM, evalB, execs, exec, evalE, evalA, evalO, evalC, evalS, evalL, brw, two, three, asVar_var, asVar_cst, asVar_mv, asVar_bin, asVar_neg, asVar_nt, asVar_cmp, asVar_chain, asVar_andE, asVar_orE, asVar_ife, asVar_tupE, asVar_lstE, asVar_idx, asVar_slc, asVar_call, asVar_callM, asVar_popI, asVar_bi, asVar_bi2, asVar_isi, rdE, rdL, putE, updE, putsE, mb0, setL_at0, setL_at1, intOf, bindT, augD, toD, binD, cmpD, eqD_int, eqD_str, eqD_bool, idxD, biD, isiD, isNone, itemsD, slcD, atI_zero, atI_one, strict, ok_bind, ex_bind, no_bind, List.map_cons, List.map_nil, List.replicate_succ, List.replicate_zero, List.cons_append, List.nil_append, List.append_nil, List.getElem?_cons_zero, List.getElem?_cons_succ, List.getElem?_nil, List.set_cons_zero, List.set_cons_succ, List.length_cons, List.length_nil, List.length_map, Bool.not_false, Bool.not_true, if_true, if_false, Bool.false_eq_true, List.eraseIdx_cons_succ, List.eraseIdx_cons_zero, and_self, true_and, and_true, ite_true, ite_false, decide_true, decide_false, ne_eq, not_false_eq_true, not_true_eq_false, true_or, or_true, reduceCtorEq, asVar_lrng, asVar_rev, asVar_idx3, asVar_popE, revD, lstD, i8, is_int_yes (lo := 0 - 1000000) (hi := 1000000) (k := gI ns i) (by omega) (by omega)]) ⟨none, none, rfl⟩
  subst he
  refine fnOf_eq (n := 0) ?_ (by simp)
  have hl : ¬ ((ns.length : Int) < 3) := by omega
  unfold ir_check_marks
  simp only [runD, runM, evalB, execs, exec, evalE, evalA, evalO, evalC, evalS, evalL, brw, two, three, asVar_var, asVar_cst, asVar_mv, asVar_bin, asVar_neg, asVar_nt, asVar_cmp, asVar_chain, asVar_andE, asVar_orE, asVar_ife, asVar_tupE, asVar_lstE, asVar_idx, asVar_slc, asVar_call, asVar_callM, asVar_popI, asVar_bi, asVar_bi2, asVar_isi, rdE, rdL, putE, updE, putsE, mb0, setL_at0, setL_at1, intOf, bindT, augD, toD, binD, cmpD, eqD_int, eqD_str, eqD_bool, idxD, biD, isiD, isNone, itemsD, slcD, atI_zero, atI_one, strict, ok_bind, ex_bind, no_bind, List.map_cons, List.map_nil, List.replicate_succ, List.replicate_zero, List.cons_append, List.nil_append, List.append_nil, List.getElem?_cons_zero, List.getElem?_cons_succ, List.getElem?_nil, List.set_cons_zero, List.set_cons_succ, List.length_cons, List.length_nil, List.length_map, Bool.not_false, Bool.not_true, if_true, if_false, Bool.false_eq_true, List.eraseIdx_cons_succ, List.eraseIdx_cons_zero, and_self, true_and, and_true, ite_true, ite_false, decide_true, decide_false, ne_eq, not_false_eq_true, not_true_eq_false, true_or, or_true, reduceCtorEq, asVar_lrng, asVar_rev, asVar_idx3, asVar_popE, revD, lstD, hf, iL_len, hl]
theorem find_steps_val (q : Bool) {ns : List Int} (h : okMarks ns) : phi_find_steps q [.tuple (iL ns)] = .ok (.fr (.tuple (iL (dif ns)))) := by
  refine fnOf_eq (n := 0) ?_ (by simp)
  unfold ir_find_steps
  simp only [runD, runM, evalB, execs, exec, evalE, evalA, evalO, evalC, evalS, evalL, brw, two, three, asVar_var, asVar_cst, asVar_mv, asVar_bin, asVar_neg, asVar_nt, asVar_cmp, asVar_chain, asVar_andE, asVar_orE, asVar_ife, asVar_tupE, asVar_lstE, asVar_idx, asVar_slc, asVar_call, asVar_callM, asVar_popI, asVar_bi, asVar_bi2, asVar_isi, rdE, rdL, putE, updE, putsE, mb0, setL_at0, setL_at1, intOf, bindT, augD, toD, binD, cmpD, eqD_int, eqD_str, eqD_bool, idxD, biD, isiD, isNone, itemsD, slcD, atI_zero, atI_one, strict, ok_bind, ex_bind, no_bind, List.map_cons, List.map_nil, List.replicate_succ, List.replicate_zero, List.cons_append, List.nil_append, List.append_nil, List.getElem?_cons_zero, List.getElem?_cons_succ, List.getElem?_nil, List.set_cons_zero, List.set_cons_succ, List.length_cons, List.length_nil, List.length_map, Bool.not_false, Bool.not_true, if_true, if_false, Bool.false_eq_true, List.eraseIdx_cons_succ, List.eraseIdx_cons_zero, and_self, true_and, and_true, ite_true, ite_false, decide_true, decide_false, ne_eq, not_false_eq_true, not_true_eq_false, true_or, or_true, reduceCtorEq, asVar_lrng, asVar_rev, asVar_idx3, asVar_popE, revD, lstD, check_marks_val q h, steps_of_val (by have := h.1; omega) (small_SZ h.2.1)]
end VS

/-! Equality of data, common divisors, rings from steps. -/
namespace VS
open PySem (PyData)
open L2 (atI ixN)
/-- data that the law compares: not deeper than d -/
def fits : Nat → D → Prop
  | 0, _ => False
  | d + 1, a => match a with
    | .list xs => xs.length ≤ SZ ∧ ∀ x ∈ xs, fits d x
    | .tuple xs => xs.length ≤ SZ ∧ ∀ x ∈ xs, fits d x
    | .dict _ => False
    | _ => True
theorem fits_mono : ∀ {d : Nat} {a : D}, fits d a → fits (d + 1) a
  | 0, _, h => h.elim
  | d + 1, a, h => by
    cases a with
    | list xs => exact ⟨h.1, fun x hx => fits_mono (h.2 x hx)⟩
    | tuple xs => exact ⟨h.1, fun x hx => fits_mono (h.2 x hx)⟩
    | dict k => exact h.elim
    | none => trivial
    | bool b => trivial
    | int i => trivial
    | str s => trivial
theorem fits_int {d : Nat} {i : Int} : fits (d + 1) (.int i) := trivial
theorem fits_iL {d : Nat} {ns : List Int} (h : ns.length ≤ SZ) : fits (d + 2) (.tuple (iL ns)) := ⟨by rw [iL_len]; exact h, fun x hx => by obtain ⟨n, _, rfl⟩ := iL_mem hx; trivial⟩
theorem fits_iLl {d : Nat} {ns : List Int} (h : ns.length ≤ SZ) : fits (d + 2) (.list (iL ns)) := ⟨by rw [iL_len]; exact h, fun x hx => by obtain ⟨n, _, rfl⟩ := iL_mem hx; trivial⟩
theorem blsD_rep : ∀ n : Nat, blsD (List.replicate n (.bool true)) = some (List.replicate n true)
  | 0 => rfl
  | n + 1 => by rw [List.replicate_succ]; show (blsD _).map _ = _; rw [blsD_rep n]; rfl
theorem atI_get {xs : List D} {i : Nat} (h : i < xs.length) : atI xs (i : Int) = some xs[i] := atI_nat h
theorem equal_seq {φ : List D → Ou Sl} {xs : List D} {a : D} (ha : a = .list xs ∨ a = .tuple xs) (hz : xs.length ≤ SZ) (h : ∀ x ∈ xs, φ [x, x] = .ok (.fr (.bool true))) :
    evalE (c0__law_equal φ) [some (.fr a), some (.fr a), none] = .ok (.own (List.replicate xs.length (.bool true)), [some (.fr a), some (.fr a), none]) := by
  unfold c0__law_equal
  refine (lc_idx (en1 := [some (.fr a), some (.fr a), none]) (items := rngD 0 xs.length) (fun i => .bool true)
    (evalS_rng1 (by rcases ha with ha | ha <;> subst ha <;> simp only [runD, runM, evalB, execs, exec, evalE, evalA, evalO, evalC, evalS, evalL, brw, two, three, asVar_var, asVar_cst, asVar_mv, asVar_bin, asVar_neg, asVar_nt, asVar_cmp, asVar_chain, asVar_andE, asVar_orE, asVar_ife, asVar_tupE, asVar_lstE, asVar_idx, asVar_slc, asVar_call, asVar_callM, asVar_popI, asVar_bi, asVar_bi2, asVar_isi, rdE, rdL, putE, updE, putsE, mb0, setL_at0, setL_at1, intOf, bindT, augD, toD, binD, cmpD, eqD_int, eqD_str, eqD_bool, idxD, biD, isiD, isNone, itemsD, slcD, atI_zero, atI_one, strict, ok_bind, ex_bind, no_bind, List.map_cons, List.map_nil, List.replicate_succ, List.replicate_zero, List.cons_append, List.nil_append, List.append_nil, List.getElem?_cons_zero, List.getElem?_cons_succ, List.getElem?_nil, List.set_cons_zero, List.set_cons_succ, List.length_cons, List.length_nil, List.length_map, Bool.not_false, Bool.not_true, if_true, if_false, Bool.false_eq_true, List.eraseIdx_cons_succ, List.eraseIdx_cons_zero, and_self, true_and, and_true, ite_true, ite_false, decide_true, decide_false, ne_eq, not_false_eq_true, not_true_eq_false, true_or, or_true, reduceCtorEq, asVar_lrng, asVar_rev, asVar_idx3, asVar_popE, revD, lstD]) hz) (by rw [rngD_len]; exact hz) (fun i d hd => by
      obtain ⟨hi, rfl⟩ := rngD_get _ _ _ _ hd
      refine ⟨[some (.fr a), some (.fr a), some (.fr (.int (i : Int)))], .fr (.bool true), [some (.fr a), some (.fr a), some (.fr (.int (i : Int)))], by rw [Int.zero_add]; rfl, ?_, rfl, rfl⟩
      have := h xs[i] (List.getElem_mem hi)
      rcases ha with ha | ha <;> subst ha <;> simp only [runD, runM, evalB, execs, exec, evalE, evalA, evalO, evalC, evalS, evalL, brw, two, three, asVar_var, asVar_cst, asVar_mv, asVar_bin, asVar_neg, asVar_nt, asVar_cmp, asVar_chain, asVar_andE, asVar_orE, asVar_ife, asVar_tupE, asVar_lstE, asVar_idx, asVar_slc, asVar_call, asVar_callM, asVar_popI, asVar_bi, asVar_bi2, asVar_isi, rdE, rdL, putE, updE, putsE, mb0, setL_at0, setL_at1, intOf, bindT, augD, toD, binD, cmpD, eqD_int, eqD_str, eqD_bool, idxD, biD, isiD, isNone, itemsD, slcD, atI_zero, atI_one, strict, ok_bind, ex_bind, no_bind, List.map_cons, List.map_nil, List.replicate_succ, List.replicate_zero, List.cons_append, List.nil_append, List.append_nil, List.getElem?_cons_zero, List.getElem?_cons_succ, List.getElem?_nil, List.set_cons_zero, List.set_cons_succ, List.length_cons, List.length_nil, List.length_map, Bool.not_false, Bool.not_true, if_true, if_false, Bool.false_eq_true, List.eraseIdx_cons_succ, List.eraseIdx_cons_zero, and_self, true_and, and_true, ite_true, ite_false, decide_true, decide_false, ne_eq, not_false_eq_true, not_true_eq_false, true_or, or_true, reduceCtorEq, asVar_lrng, asVar_rev, asVar_idx3, asVar_popE, revD, lstD, atI_get hi, this])).trans ?_
  rw [rngD_len]
  congr 3
  rw [List.map_const', List.length_range]
theorem equal_step {φ : List D → Ou Sl} {d : Nat} (ih : ∀ x, fits d x → φ [x, x] = .ok (.fr (.bool true))) {a : D} (h : fits (d + 1) a) : runD 0 (ir__law_equal φ) 1 [a, a] = .ok (.fr (.bool true)) := by
  cases a with
  | list xs =>
    have hE := equal_seq (φ := φ) (a := .list xs) (.inl rfl) h.1 fun x hx => ih x (h.2 x hx)
    refine runD_rt (e1 := [some (.fr (.list xs)), some (.fr (.list xs)), none]) ?_
    show execs 0 (ir__law_equal φ) [some (.fr (.list xs)), some (.fr (.list xs)), none] = _
    unfold ir__law_equal
    rw [iff_skip (e1 := [some (.fr (.list xs)), some (.fr (.list xs)), none]) (by simp only [runD, runM, evalB, execs, exec, evalE, evalA, evalO, evalC, evalS, evalL, brw, two, three, asVar_var, asVar_cst, asVar_mv, asVar_bin, asVar_neg, asVar_nt, asVar_cmp, asVar_chain, asVar_andE, asVar_orE, asVar_ife, asVar_tupE, asVar_lstE, asVar_idx, asVar_slc, asVar_call, asVar_callM, asVar_popI, asVar_bi, asVar_bi2, asVar_isi, rdE, rdL, putE, updE, putsE, mb0, setL_at0, setL_at1, intOf, bindT, augD, toD, binD, cmpD, eqD_int, eqD_str, eqD_bool, idxD, biD, isiD, isNone, itemsD, slcD, atI_zero, atI_one, strict, ok_bind, ex_bind, no_bind, List.map_cons, List.map_nil, List.replicate_succ, List.replicate_zero, List.cons_append, List.nil_append, List.append_nil, List.getElem?_cons_zero, List.getElem?_cons_succ, List.getElem?_nil, List.set_cons_zero, List.set_cons_succ, List.length_cons, List.length_nil, List.length_map, Bool.not_false, Bool.not_true, if_true, if_false, Bool.false_eq_true, List.eraseIdx_cons_succ, List.eraseIdx_cons_zero, and_self, true_and, and_true, ite_true, ite_false, decide_true, decide_false, ne_eq, not_false_eq_true, not_true_eq_false, true_or, or_true, reduceCtorEq, asVar_lrng, asVar_rev, asVar_idx3, asVar_popE, revD, lstD])]
    rw [iff_skip (e1 := [some (.fr (.list xs)), some (.fr (.list xs)), none]) (by simp only [runD, runM, evalB, execs, exec, evalE, evalA, evalO, evalC, evalS, evalL, brw, two, three, asVar_var, asVar_cst, asVar_mv, asVar_bin, asVar_neg, asVar_nt, asVar_cmp, asVar_chain, asVar_andE, asVar_orE, asVar_ife, asVar_tupE, asVar_lstE, asVar_idx, asVar_slc, asVar_call, asVar_callM, asVar_popI, asVar_bi, asVar_bi2, asVar_isi, rdE, rdL, putE, updE, putsE, mb0, setL_at0, setL_at1, intOf, bindT, augD, toD, binD, cmpD, eqD_int, eqD_str, eqD_bool, idxD, biD, isiD, isNone, itemsD, slcD, atI_zero, atI_one, strict, ok_bind, ex_bind, no_bind, List.map_cons, List.map_nil, List.replicate_succ, List.replicate_zero, List.cons_append, List.nil_append, List.append_nil, List.getElem?_cons_zero, List.getElem?_cons_succ, List.getElem?_nil, List.set_cons_zero, List.set_cons_succ, List.length_cons, List.length_nil, List.length_map, Bool.not_false, Bool.not_true, if_true, if_false, Bool.false_eq_true, List.eraseIdx_cons_succ, List.eraseIdx_cons_zero, and_self, true_and, and_true, ite_true, ite_false, decide_true, decide_false, ne_eq, not_false_eq_true, not_true_eq_false, true_or, or_true, reduceCtorEq, asVar_lrng, asVar_rev, asVar_idx3, asVar_popE, revD, lstD])]
    rw [iff_skip (e1 := [some (.fr (.list xs)), some (.fr (.list xs)), none]) (by simp only [runD, runM, evalB, execs, exec, evalE, evalA, evalO, evalC, evalS, evalL, brw, two, three, asVar_var, asVar_cst, asVar_mv, asVar_bin, asVar_neg, asVar_nt, asVar_cmp, asVar_chain, asVar_andE, asVar_orE, asVar_ife, asVar_tupE, asVar_lstE, asVar_idx, asVar_slc, asVar_call, asVar_callM, asVar_popI, asVar_bi, asVar_bi2, asVar_isi, rdE, rdL, putE, updE, putsE, mb0, setL_at0, setL_at1, intOf, bindT, augD, toD, binD, cmpD, eqD_int, eqD_str, eqD_bool, idxD, biD, isiD, isNone, itemsD, slcD, atI_zero, atI_one, strict, ok_bind, ex_bind, no_bind, List.map_cons, List.map_nil, List.replicate_succ, List.replicate_zero, List.cons_append, List.nil_append, List.append_nil, List.getElem?_cons_zero, List.getElem?_cons_succ, List.getElem?_nil, List.set_cons_zero, List.set_cons_succ, List.length_cons, List.length_nil, List.length_map, Bool.not_false, Bool.not_true, if_true, if_false, Bool.false_eq_true, List.eraseIdx_cons_succ, List.eraseIdx_cons_zero, and_self, true_and, and_true, ite_true, ite_false, decide_true, decide_false, ne_eq, not_false_eq_true, not_true_eq_false, true_or, or_true, reduceCtorEq, asVar_lrng, asVar_rev, asVar_idx3, asVar_popE, revD, lstD])]
    rw [iff_skip (e1 := [some (.fr (.list xs)), some (.fr (.list xs)), none]) (by simp only [runD, runM, evalB, execs, exec, evalE, evalA, evalO, evalC, evalS, evalL, brw, two, three, asVar_var, asVar_cst, asVar_mv, asVar_bin, asVar_neg, asVar_nt, asVar_cmp, asVar_chain, asVar_andE, asVar_orE, asVar_ife, asVar_tupE, asVar_lstE, asVar_idx, asVar_slc, asVar_call, asVar_callM, asVar_popI, asVar_bi, asVar_bi2, asVar_isi, rdE, rdL, putE, updE, putsE, mb0, setL_at0, setL_at1, intOf, bindT, augD, toD, binD, cmpD, eqD_int, eqD_str, eqD_bool, idxD, biD, isiD, isNone, itemsD, slcD, atI_zero, atI_one, strict, ok_bind, ex_bind, no_bind, List.map_cons, List.map_nil, List.replicate_succ, List.replicate_zero, List.cons_append, List.nil_append, List.append_nil, List.getElem?_cons_zero, List.getElem?_cons_succ, List.getElem?_nil, List.set_cons_zero, List.set_cons_succ, List.length_cons, List.length_nil, List.length_map, Bool.not_false, Bool.not_true, if_true, if_false, Bool.false_eq_true, List.eraseIdx_cons_succ, List.eraseIdx_cons_zero, and_self, true_and, and_true, ite_true, ite_false, decide_true, decide_false, ne_eq, not_false_eq_true, not_true_eq_false, true_or, or_true, reduceCtorEq, asVar_lrng, asVar_rev, asVar_idx3, asVar_popE, revD, lstD])]
    rw [iff_skip (e1 := [some (.fr (.list xs)), some (.fr (.list xs)), none]) (by simp only [runD, runM, evalB, execs, exec, evalE, evalA, evalO, evalC, evalS, evalL, brw, two, three, asVar_var, asVar_cst, asVar_mv, asVar_bin, asVar_neg, asVar_nt, asVar_cmp, asVar_chain, asVar_andE, asVar_orE, asVar_ife, asVar_tupE, asVar_lstE, asVar_idx, asVar_slc, asVar_call, asVar_callM, asVar_popI, asVar_bi, asVar_bi2, asVar_isi, rdE, rdL, putE, updE, putsE, mb0, setL_at0, setL_at1, intOf, bindT, augD, toD, binD, cmpD, eqD_int, eqD_str, eqD_bool, idxD, biD, isiD, isNone, itemsD, slcD, atI_zero, atI_one, strict, ok_bind, ex_bind, no_bind, List.map_cons, List.map_nil, List.replicate_succ, List.replicate_zero, List.cons_append, List.nil_append, List.append_nil, List.getElem?_cons_zero, List.getElem?_cons_succ, List.getElem?_nil, List.set_cons_zero, List.set_cons_succ, List.length_cons, List.length_nil, List.length_map, Bool.not_false, Bool.not_true, if_true, if_false, Bool.false_eq_true, List.eraseIdx_cons_succ, List.eraseIdx_cons_zero, and_self, true_and, and_true, ite_true, ite_false, decide_true, decide_false, ne_eq, not_false_eq_true, not_true_eq_false, true_or, or_true, reduceCtorEq, asVar_lrng, asVar_rev, asVar_idx3, asVar_popE, revD, lstD, beq_self_eq_true])]
    rw [iff_skip (e1 := [some (.fr (.list xs)), some (.fr (.list xs)), none]) (by simp only [runD, runM, evalB, execs, exec, evalE, evalA, evalO, evalC, evalS, evalL, brw, two, three, asVar_var, asVar_cst, asVar_mv, asVar_bin, asVar_neg, asVar_nt, asVar_cmp, asVar_chain, asVar_andE, asVar_orE, asVar_ife, asVar_tupE, asVar_lstE, asVar_idx, asVar_slc, asVar_call, asVar_callM, asVar_popI, asVar_bi, asVar_bi2, asVar_isi, rdE, rdL, putE, updE, putsE, mb0, setL_at0, setL_at1, intOf, bindT, augD, toD, binD, cmpD, eqD_int, eqD_str, eqD_bool, idxD, biD, isiD, isNone, itemsD, slcD, atI_zero, atI_one, strict, ok_bind, ex_bind, no_bind, List.map_cons, List.map_nil, List.replicate_succ, List.replicate_zero, List.cons_append, List.nil_append, List.append_nil, List.getElem?_cons_zero, List.getElem?_cons_succ, List.getElem?_nil, List.set_cons_zero, List.set_cons_succ, List.length_cons, List.length_nil, List.length_map, Bool.not_false, Bool.not_true, if_true, if_false, Bool.false_eq_true, List.eraseIdx_cons_succ, List.eraseIdx_cons_zero, and_self, true_and, and_true, ite_true, ite_false, decide_true, decide_false, ne_eq, not_false_eq_true, not_true_eq_false, true_or, or_true, reduceCtorEq, asVar_lrng, asVar_rev, asVar_idx3, asVar_popE, revD, lstD, beq_self_eq_true])]
    rw [iff_skip (e1 := [some (.fr (.list xs)), some (.fr (.list xs)), none]) (by simp only [runD, runM, evalB, execs, exec, evalE, evalA, evalO, evalC, evalS, evalL, brw, two, three, asVar_var, asVar_cst, asVar_mv, asVar_bin, asVar_neg, asVar_nt, asVar_cmp, asVar_chain, asVar_andE, asVar_orE, asVar_ife, asVar_tupE, asVar_lstE, asVar_idx, asVar_slc, asVar_call, asVar_callM, asVar_popI, asVar_bi, asVar_bi2, asVar_isi, rdE, rdL, putE, updE, putsE, mb0, setL_at0, setL_at1, intOf, bindT, augD, toD, binD, cmpD, eqD_int, eqD_str, eqD_bool, idxD, biD, isiD, isNone, itemsD, slcD, atI_zero, atI_one, strict, ok_bind, ex_bind, no_bind, List.map_cons, List.map_nil, List.replicate_succ, List.replicate_zero, List.cons_append, List.nil_append, List.append_nil, List.getElem?_cons_zero, List.getElem?_cons_succ, List.getElem?_nil, List.set_cons_zero, List.set_cons_succ, List.length_cons, List.length_nil, List.length_map, Bool.not_false, Bool.not_true, if_true, if_false, Bool.false_eq_true, List.eraseIdx_cons_succ, List.eraseIdx_cons_zero, and_self, true_and, and_true, ite_true, ite_false, decide_true, decide_false, ne_eq, not_false_eq_true, not_true_eq_false, true_or, or_true, reduceCtorEq, asVar_lrng, asVar_rev, asVar_idx3, asVar_popE, revD, lstD, beq_self_eq_true])]
    have hA : evalE (.bi .all (c0__law_equal φ)) [some (.fr (.list xs)), some (.fr (.list xs)), none] = .ok (.fr (.bool true), [some (.fr (.list xs)), some (.fr (.list xs)), none]) := by
      simp only [runD, runM, evalB, execs, exec, evalE, evalA, evalO, evalC, evalS, evalL, brw, two, three, asVar_var, asVar_cst, asVar_mv, asVar_bin, asVar_neg, asVar_nt, asVar_cmp, asVar_chain, asVar_andE, asVar_orE, asVar_ife, asVar_tupE, asVar_lstE, asVar_idx, asVar_slc, asVar_call, asVar_callM, asVar_popI, asVar_bi, asVar_bi2, asVar_isi, rdE, rdL, putE, updE, putsE, mb0, setL_at0, setL_at1, intOf, bindT, augD, toD, binD, cmpD, eqD_int, eqD_str, eqD_bool, idxD, biD, isiD, isNone, itemsD, slcD, atI_zero, atI_one, strict, ok_bind, ex_bind, no_bind, List.map_cons, List.map_nil, List.replicate_succ, List.replicate_zero, List.cons_append, List.nil_append, List.append_nil, List.getElem?_cons_zero, List.getElem?_cons_succ, List.getElem?_nil, List.set_cons_zero, List.set_cons_succ, List.length_cons, List.length_nil, List.length_map, Bool.not_false, Bool.not_true, if_true, if_false, Bool.false_eq_true, List.eraseIdx_cons_succ, List.eraseIdx_cons_zero, and_self, true_and, and_true, ite_true, ite_false, decide_true, decide_false, ne_eq, not_false_eq_true, not_true_eq_false, true_or, or_true, reduceCtorEq, asVar_lrng, asVar_rev, asVar_idx3, asVar_popE, revD, lstD, hE, c0__law_equal_v, blsD_rep]
      simp
    refine ex_rt ?_
    rw [exec, hA]
    rfl
  | tuple xs =>
    have hE := equal_seq (φ := φ) (a := .tuple xs) (.inr rfl) h.1 fun x hx => ih x (h.2 x hx)
    refine runD_rt (e1 := [some (.fr (.tuple xs)), some (.fr (.tuple xs)), none]) ?_
    show execs 0 (ir__law_equal φ) [some (.fr (.tuple xs)), some (.fr (.tuple xs)), none] = _
    unfold ir__law_equal
    rw [iff_skip (e1 := [some (.fr (.tuple xs)), some (.fr (.tuple xs)), none]) (by simp only [runD, runM, evalB, execs, exec, evalE, evalA, evalO, evalC, evalS, evalL, brw, two, three, asVar_var, asVar_cst, asVar_mv, asVar_bin, asVar_neg, asVar_nt, asVar_cmp, asVar_chain, asVar_andE, asVar_orE, asVar_ife, asVar_tupE, asVar_lstE, asVar_idx, asVar_slc, asVar_call, asVar_callM, asVar_popI, asVar_bi, asVar_bi2, asVar_isi, rdE, rdL, putE, updE, putsE, mb0, setL_at0, setL_at1, intOf, bindT, augD, toD, binD, cmpD, eqD_int, eqD_str, eqD_bool, idxD, biD, isiD, isNone, itemsD, slcD, atI_zero, atI_one, strict, ok_bind, ex_bind, no_bind, List.map_cons, List.map_nil, List.replicate_succ, List.replicate_zero, List.cons_append, List.nil_append, List.append_nil, List.getElem?_cons_zero, List.getElem?_cons_succ, List.getElem?_nil, List.set_cons_zero, List.set_cons_succ, List.length_cons, List.length_nil, List.length_map, Bool.not_false, Bool.not_true, if_true, if_false, Bool.false_eq_true, List.eraseIdx_cons_succ, List.eraseIdx_cons_zero, and_self, true_and, and_true, ite_true, ite_false, decide_true, decide_false, ne_eq, not_false_eq_true, not_true_eq_false, true_or, or_true, reduceCtorEq, asVar_lrng, asVar_rev, asVar_idx3, asVar_popE, revD, lstD])]
    rw [iff_skip (e1 := [some (.fr (.tuple xs)), some (.fr (.tuple xs)), none]) (by simp only [runD, runM, evalB, execs, exec, evalE, evalA, evalO, evalC, evalS, evalL, brw, two, three, asVar_var, asVar_cst, asVar_mv, asVar_bin, asVar_neg, asVar_nt, asVar_cmp, asVar_chain, asVar_andE, asVar_orE, asVar_ife, asVar_tupE, asVar_lstE, asVar_idx, asVar_slc, asVar_call, asVar_callM, asVar_popI, asVar_bi, asVar_bi2, asVar_isi, rdE, rdL, putE, updE, putsE, mb0, setL_at0, setL_at1, intOf, bindT, augD, toD, binD, cmpD, eqD_int, eqD_str, eqD_bool, idxD, biD, isiD, isNone, itemsD, slcD, atI_zero, atI_one, strict, ok_bind, ex_bind, no_bind, List.map_cons, List.map_nil, List.replicate_succ, List.replicate_zero, List.cons_append, List.nil_append, List.append_nil, List.getElem?_cons_zero, List.getElem?_cons_succ, List.getElem?_nil, List.set_cons_zero, List.set_cons_succ, List.length_cons, List.length_nil, List.length_map, Bool.not_false, Bool.not_true, if_true, if_false, Bool.false_eq_true, List.eraseIdx_cons_succ, List.eraseIdx_cons_zero, and_self, true_and, and_true, ite_true, ite_false, decide_true, decide_false, ne_eq, not_false_eq_true, not_true_eq_false, true_or, or_true, reduceCtorEq, asVar_lrng, asVar_rev, asVar_idx3, asVar_popE, revD, lstD])]
    rw [iff_skip (e1 := [some (.fr (.tuple xs)), some (.fr (.tuple xs)), none]) (by simp only [runD, runM, evalB, execs, exec, evalE, evalA, evalO, evalC, evalS, evalL, brw, two, three, asVar_var, asVar_cst, asVar_mv, asVar_bin, asVar_neg, asVar_nt, asVar_cmp, asVar_chain, asVar_andE, asVar_orE, asVar_ife, asVar_tupE, asVar_lstE, asVar_idx, asVar_slc, asVar_call, asVar_callM, asVar_popI, asVar_bi, asVar_bi2, asVar_isi, rdE, rdL, putE, updE, putsE, mb0, setL_at0, setL_at1, intOf, bindT, augD, toD, binD, cmpD, eqD_int, eqD_str, eqD_bool, idxD, biD, isiD, isNone, itemsD, slcD, atI_zero, atI_one, strict, ok_bind, ex_bind, no_bind, List.map_cons, List.map_nil, List.replicate_succ, List.replicate_zero, List.cons_append, List.nil_append, List.append_nil, List.getElem?_cons_zero, List.getElem?_cons_succ, List.getElem?_nil, List.set_cons_zero, List.set_cons_succ, List.length_cons, List.length_nil, List.length_map, Bool.not_false, Bool.not_true, if_true, if_false, Bool.false_eq_true, List.eraseIdx_cons_succ, List.eraseIdx_cons_zero, and_self, true_and, and_true, ite_true, ite_false, decide_true, decide_false, ne_eq, not_false_eq_true, not_true_eq_false, true_or, or_true, reduceCtorEq, asVar_lrng, asVar_rev, asVar_idx3, asVar_popE, revD, lstD])]
    rw [iff_skip (e1 := [some (.fr (.tuple xs)), some (.fr (.tuple xs)), none]) (by simp only [runD, runM, evalB, execs, exec, evalE, evalA, evalO, evalC, evalS, evalL, brw, two, three, asVar_var, asVar_cst, asVar_mv, asVar_bin, asVar_neg, asVar_nt, asVar_cmp, asVar_chain, asVar_andE, asVar_orE, asVar_ife, asVar_tupE, asVar_lstE, asVar_idx, asVar_slc, asVar_call, asVar_callM, asVar_popI, asVar_bi, asVar_bi2, asVar_isi, rdE, rdL, putE, updE, putsE, mb0, setL_at0, setL_at1, intOf, bindT, augD, toD, binD, cmpD, eqD_int, eqD_str, eqD_bool, idxD, biD, isiD, isNone, itemsD, slcD, atI_zero, atI_one, strict, ok_bind, ex_bind, no_bind, List.map_cons, List.map_nil, List.replicate_succ, List.replicate_zero, List.cons_append, List.nil_append, List.append_nil, List.getElem?_cons_zero, List.getElem?_cons_succ, List.getElem?_nil, List.set_cons_zero, List.set_cons_succ, List.length_cons, List.length_nil, List.length_map, Bool.not_false, Bool.not_true, if_true, if_false, Bool.false_eq_true, List.eraseIdx_cons_succ, List.eraseIdx_cons_zero, and_self, true_and, and_true, ite_true, ite_false, decide_true, decide_false, ne_eq, not_false_eq_true, not_true_eq_false, true_or, or_true, reduceCtorEq, asVar_lrng, asVar_rev, asVar_idx3, asVar_popE, revD, lstD])]
    rw [iff_skip (e1 := [some (.fr (.tuple xs)), some (.fr (.tuple xs)), none]) (by simp only [runD, runM, evalB, execs, exec, evalE, evalA, evalO, evalC, evalS, evalL, brw, two, three, asVar_var, asVar_cst, asVar_mv, asVar_bin, asVar_neg, asVar_nt, asVar_cmp, asVar_chain, asVar_andE, asVar_orE, asVar_ife, asVar_tupE, asVar_lstE, asVar_idx, asVar_slc, asVar_call, asVar_callM, asVar_popI, asVar_bi, asVar_bi2, asVar_isi, rdE, rdL, putE, updE, putsE, mb0, setL_at0, setL_at1, intOf, bindT, augD, toD, binD, cmpD, eqD_int, eqD_str, eqD_bool, idxD, biD, isiD, isNone, itemsD, slcD, atI_zero, atI_one, strict, ok_bind, ex_bind, no_bind, List.map_cons, List.map_nil, List.replicate_succ, List.replicate_zero, List.cons_append, List.nil_append, List.append_nil, List.getElem?_cons_zero, List.getElem?_cons_succ, List.getElem?_nil, List.set_cons_zero, List.set_cons_succ, List.length_cons, List.length_nil, List.length_map, Bool.not_false, Bool.not_true, if_true, if_false, Bool.false_eq_true, List.eraseIdx_cons_succ, List.eraseIdx_cons_zero, and_self, true_and, and_true, ite_true, ite_false, decide_true, decide_false, ne_eq, not_false_eq_true, not_true_eq_false, true_or, or_true, reduceCtorEq, asVar_lrng, asVar_rev, asVar_idx3, asVar_popE, revD, lstD, beq_self_eq_true])]
    rw [iff_skip (e1 := [some (.fr (.tuple xs)), some (.fr (.tuple xs)), none]) (by simp only [runD, runM, evalB, execs, exec, evalE, evalA, evalO, evalC, evalS, evalL, brw, two, three, asVar_var, asVar_cst, asVar_mv, asVar_bin, asVar_neg, asVar_nt, asVar_cmp, asVar_chain, asVar_andE, asVar_orE, asVar_ife, asVar_tupE, asVar_lstE, asVar_idx, asVar_slc, asVar_call, asVar_callM, asVar_popI, asVar_bi, asVar_bi2, asVar_isi, rdE, rdL, putE, updE, putsE, mb0, setL_at0, setL_at1, intOf, bindT, augD, toD, binD, cmpD, eqD_int, eqD_str, eqD_bool, idxD, biD, isiD, isNone, itemsD, slcD, atI_zero, atI_one, strict, ok_bind, ex_bind, no_bind, List.map_cons, List.map_nil, List.replicate_succ, List.replicate_zero, List.cons_append, List.nil_append, List.append_nil, List.getElem?_cons_zero, List.getElem?_cons_succ, List.getElem?_nil, List.set_cons_zero, List.set_cons_succ, List.length_cons, List.length_nil, List.length_map, Bool.not_false, Bool.not_true, if_true, if_false, Bool.false_eq_true, List.eraseIdx_cons_succ, List.eraseIdx_cons_zero, and_self, true_and, and_true, ite_true, ite_false, decide_true, decide_false, ne_eq, not_false_eq_true, not_true_eq_false, true_or, or_true, reduceCtorEq, asVar_lrng, asVar_rev, asVar_idx3, asVar_popE, revD, lstD, beq_self_eq_true])]
    rw [iff_skip (e1 := [some (.fr (.tuple xs)), some (.fr (.tuple xs)), none]) (by simp only [runD, runM, evalB, execs, exec, evalE, evalA, evalO, evalC, evalS, evalL, brw, two, three, asVar_var, asVar_cst, asVar_mv, asVar_bin, asVar_neg, asVar_nt, asVar_cmp, asVar_chain, asVar_andE, asVar_orE, asVar_ife, asVar_tupE, asVar_lstE, asVar_idx, asVar_slc, asVar_call, asVar_callM, asVar_popI, asVar_bi, asVar_bi2, asVar_isi, rdE, rdL, putE, updE, putsE, mb0, setL_at0, setL_at1, intOf, bindT, augD, toD, binD, cmpD, eqD_int, eqD_str, eqD_bool, idxD, biD, isiD, isNone, itemsD, slcD, atI_zero, atI_one, strict, ok_bind, ex_bind, no_bind, List.map_cons, List.map_nil, List.replicate_succ, List.replicate_zero, List.cons_append, List.nil_append, List.append_nil, List.getElem?_cons_zero, List.getElem?_cons_succ, List.getElem?_nil, List.set_cons_zero, List.set_cons_succ, List.length_cons, List.length_nil, List.length_map, Bool.not_false, Bool.not_true, if_true, if_false, Bool.false_eq_true, List.eraseIdx_cons_succ, List.eraseIdx_cons_zero, and_self, true_and, and_true, ite_true, ite_false, decide_true, decide_false, ne_eq, not_false_eq_true, not_true_eq_false, true_or, or_true, reduceCtorEq, asVar_lrng, asVar_rev, asVar_idx3, asVar_popE, revD, lstD, beq_self_eq_true])]
    have hA : evalE (.bi .all (c0__law_equal φ)) [some (.fr (.tuple xs)), some (.fr (.tuple xs)), none] = .ok (.fr (.bool true), [some (.fr (.tuple xs)), some (.fr (.tuple xs)), none]) := by
      simp only [runD, runM, evalB, execs, exec, evalE, evalA, evalO, evalC, evalS, evalL, brw, two, three, asVar_var, asVar_cst, asVar_mv, asVar_bin, asVar_neg, asVar_nt, asVar_cmp, asVar_chain, asVar_andE, asVar_orE, asVar_ife, asVar_tupE, asVar_lstE, asVar_idx, asVar_slc, asVar_call, asVar_callM, asVar_popI, asVar_bi, asVar_bi2, asVar_isi, rdE, rdL, putE, updE, putsE, mb0, setL_at0, setL_at1, intOf, bindT, augD, toD, binD, cmpD, eqD_int, eqD_str, eqD_bool, idxD, biD, isiD, isNone, itemsD, slcD, atI_zero, atI_one, strict, ok_bind, ex_bind, no_bind, List.map_cons, List.map_nil, List.replicate_succ, List.replicate_zero, List.cons_append, List.nil_append, List.append_nil, List.getElem?_cons_zero, List.getElem?_cons_succ, List.getElem?_nil, List.set_cons_zero, List.set_cons_succ, List.length_cons, List.length_nil, List.length_map, Bool.not_false, Bool.not_true, if_true, if_false, Bool.false_eq_true, List.eraseIdx_cons_succ, List.eraseIdx_cons_zero, and_self, true_and, and_true, ite_true, ite_false, decide_true, decide_false, ne_eq, not_false_eq_true, not_true_eq_false, true_or, or_true, reduceCtorEq, asVar_lrng, asVar_rev, asVar_idx3, asVar_popE, revD, lstD, hE, c0__law_equal_v, blsD_rep]
      simp
    refine ex_rt ?_
    rw [exec, hA]
    rfl
  | dict k => exact h.elim
  | none => unfold ir__law_equal; simp only [runD, runM, evalB, execs, exec, evalE, evalA, evalO, evalC, evalS, evalL, brw, two, three, asVar_var, asVar_cst, asVar_mv, asVar_bin, asVar_neg, asVar_nt, asVar_cmp, asVar_chain, asVar_andE, asVar_orE, asVar_ife, asVar_tupE, asVar_lstE, asVar_idx, asVar_slc, asVar_call, asVar_callM, asVar_popI, asVar_bi, asVar_bi2, asVar_isi, rdE, rdL, putE, updE, putsE, mb0, setL_at0, setL_at1, intOf, bindT, augD, toD, binD, cmpD, eqD_int, eqD_str, eqD_bool, idxD, biD, isiD, isNone, itemsD, slcD, atI_zero, atI_one, strict, ok_bind, ex_bind, no_bind, List.map_cons, List.map_nil, List.replicate_succ, List.replicate_zero, List.cons_append, List.nil_append, List.append_nil, List.getElem?_cons_zero, List.getElem?_cons_succ, List.getElem?_nil, List.set_cons_zero, List.set_cons_succ, List.length_cons, List.length_nil, List.length_map, Bool.not_false, Bool.not_true, if_true, if_false, Bool.false_eq_true, List.eraseIdx_cons_succ, List.eraseIdx_cons_zero, and_self, true_and, and_true, ite_true, ite_false, decide_true, decide_false, ne_eq, not_false_eq_true, not_true_eq_false, true_or, or_true, reduceCtorEq, asVar_lrng, asVar_rev, asVar_idx3, asVar_popE, revD, lstD, beq_self_eq_true]
  | bool b => unfold ir__law_equal; simp only [runD, runM, evalB, execs, exec, evalE, evalA, evalO, evalC, evalS, evalL, brw, two, three, asVar_var, asVar_cst, asVar_mv, asVar_bin, asVar_neg, asVar_nt, asVar_cmp, asVar_chain, asVar_andE, asVar_orE, asVar_ife, asVar_tupE, asVar_lstE, asVar_idx, asVar_slc, asVar_call, asVar_callM, asVar_popI, asVar_bi, asVar_bi2, asVar_isi, rdE, rdL, putE, updE, putsE, mb0, setL_at0, setL_at1, intOf, bindT, augD, toD, binD, cmpD, eqD_int, eqD_str, eqD_bool, idxD, biD, isiD, isNone, itemsD, slcD, atI_zero, atI_one, strict, ok_bind, ex_bind, no_bind, List.map_cons, List.map_nil, List.replicate_succ, List.replicate_zero, List.cons_append, List.nil_append, List.append_nil, List.getElem?_cons_zero, List.getElem?_cons_succ, List.getElem?_nil, List.set_cons_zero, List.set_cons_succ, List.length_cons, List.length_nil, List.length_map, Bool.not_false, Bool.not_true, if_true, if_false, Bool.false_eq_true, List.eraseIdx_cons_succ, List.eraseIdx_cons_zero, and_self, true_and, and_true, ite_true, ite_false, decide_true, decide_false, ne_eq, not_false_eq_true, not_true_eq_false, true_or, or_true, reduceCtorEq, asVar_lrng, asVar_rev, asVar_idx3, asVar_popE, revD, lstD, beq_self_eq_true]
  | int i => unfold ir__law_equal; simp only [runD, runM, evalB, execs, exec, evalE, evalA, evalO, evalC, evalS, evalL, brw, two, three, asVar_var, asVar_cst, asVar_mv, asVar_bin, asVar_neg, asVar_nt, asVar_cmp, asVar_chain, asVar_andE, asVar_orE, asVar_ife, asVar_tupE, asVar_lstE, asVar_idx, asVar_slc, asVar_call, asVar_callM, asVar_popI, asVar_bi, asVar_bi2, asVar_isi, rdE, rdL, putE, updE, putsE, mb0, setL_at0, setL_at1, intOf, bindT, augD, toD, binD, cmpD, eqD_int, eqD_str, eqD_bool, idxD, biD, isiD, isNone, itemsD, slcD, atI_zero, atI_one, strict, ok_bind, ex_bind, no_bind, List.map_cons, List.map_nil, List.replicate_succ, List.replicate_zero, List.cons_append, List.nil_append, List.append_nil, List.getElem?_cons_zero, List.getElem?_cons_succ, List.getElem?_nil, List.set_cons_zero, List.set_cons_succ, List.length_cons, List.length_nil, List.length_map, Bool.not_false, Bool.not_true, if_true, if_false, Bool.false_eq_true, List.eraseIdx_cons_succ, List.eraseIdx_cons_zero, and_self, true_and, and_true, ite_true, ite_false, decide_true, decide_false, ne_eq, not_false_eq_true, not_true_eq_false, true_or, or_true, reduceCtorEq, asVar_lrng, asVar_rev, asVar_idx3, asVar_popE, revD, lstD, beq_self_eq_true]
  | str s => unfold ir__law_equal; simp only [runD, runM, evalB, execs, exec, evalE, evalA, evalO, evalC, evalS, evalL, brw, two, three, asVar_var, asVar_cst, asVar_mv, asVar_bin, asVar_neg, asVar_nt, asVar_cmp, asVar_chain, asVar_andE, asVar_orE, asVar_ife, asVar_tupE, asVar_lstE, asVar_idx, asVar_slc, asVar_call, asVar_callM, asVar_popI, asVar_bi, asVar_bi2, asVar_isi, rdE, rdL, putE, updE, putsE, mb0, setL_at0, setL_at1, intOf, bindT, augD, toD, binD, cmpD, eqD_int, eqD_str, eqD_bool, idxD, biD, isiD, isNone, itemsD, slcD, atI_zero, atI_one, strict, ok_bind, ex_bind, no_bind, List.map_cons, List.map_nil, List.replicate_succ, List.replicate_zero, List.cons_append, List.nil_append, List.append_nil, List.getElem?_cons_zero, List.getElem?_cons_succ, List.getElem?_nil, List.set_cons_zero, List.set_cons_succ, List.length_cons, List.length_nil, List.length_map, Bool.not_false, Bool.not_true, if_true, if_false, Bool.false_eq_true, List.eraseIdx_cons_succ, List.eraseIdx_cons_zero, and_self, true_and, and_true, ite_true, ite_false, decide_true, decide_false, ne_eq, not_false_eq_true, not_true_eq_false, true_or, or_true, reduceCtorEq, asVar_lrng, asVar_rev, asVar_idx3, asVar_popE, revD, lstD, beq_self_eq_true]
theorem equal_refl (d : Nat) : ∀ a : D, fits d a → phi__law_equal d [a, a] = .ok (.fr (.bool true)) := by
  induction d with
  | zero => intro a h; exact h.elim
  | succ d ih => intro a h; exact fnOf_eq (n := 0) (equal_step ih h) (by simp)
theorem equal_at {d : Nat} {a b : D} (h : fits d a) (e : a = b) : phi__law_equal d [a, b] = .ok (.fr (.bool true)) := by
  subst e
  exact equal_refl d a h
/-! ### greatest common divisors -/
def gcL (vs : List Int) : Nat := vs.foldl (fun g v => Nat.gcd g v.natAbs) 0
theorem gcL_take {vs : List Int} {i : Nat} (h : i < vs.length) : gcL (vs.take (i + 1)) = Nat.gcd (gcL (vs.take i)) (gI vs i).natAbs := by
  unfold gcL
  rw [take_succ (gI_get h), List.foldl_append]
  rfl
theorem abs_nat (v : Int) : (if v < 0 then -v else v) = (v.natAbs : Int) := by split <;> omega
theorem gcd_step (r v : Nat) : Nat.gcd v (r % v) = Nat.gcd r v := by
  rw [Nat.gcd_comm v (r % v), ← Nat.gcd_rec, Nat.gcd_comm]
theorem fuel_of (vs : List Int) : ∃ N, ∀ v ∈ vs, v.natAbs < N := by
  induction vs with
  | nil => exact ⟨0, fun v h => by cases h⟩
  | cons v r ih =>
    obtain ⟨N, h⟩ := ih
    refine ⟨max N (v.natAbs + 1), fun u hu => ?_⟩
    rcases List.mem_cons.mp hu with q | q
    · subst q; omega
    · have := h u q; omega
theorem gc_whl {N : Nat} {x : Option Sl} {r v : Nat} (h : v < N) : whlGo (evalB (.cmp .Gt (.var 2) (.cst (.int 0)))) (execs N b0_greatest_common) N [x, some (.fr (.int (r : Int))), some (.fr (.int (v : Int)))] = .ok (.nx [x, some (.fr (.int ((Nat.gcd r v : Nat) : Int))), some (.fr (.int 0))]) := by
  obtain ⟨en', h1, h2⟩ := whl_run (c := evalB (.cmp .Gt (.var 2) (.cst (.int 0)))) (f := execs N b0_greatest_common) (fun m en => ∃ r' v' : Nat, en = [x, some (.fr (.int (r' : Int))), some (.fr (.int (v' : Int)))] ∧ Nat.gcd r' v' = Nat.gcd r v ∧ m = v') (fun en => en = [x, some (.fr (.int ((Nat.gcd r v : Nat) : Int))), some (.fr (.int 0))])
    (fun m en ⟨r', v', he, hg, hm⟩ => by
      subst he hm
      by_cases h0 : m = 0
      · subst h0
        refine .inl ⟨[x, some (.fr (.int (r' : Int))), some (.fr (.int 0))], by simp only [runD, runM, evalB, execs, exec, evalE, evalA, evalO, evalC, evalS, evalL, brw, two, three, asVar_var, asVar_cst, asVar_mv, asVar_bin, asVar_neg, asVar_nt, asVar_cmp, asVar_chain, asVar_andE, asVar_orE, asVar_ife, asVar_tupE, asVar_lstE, asVar_idx, asVar_slc, asVar_call, asVar_callM, asVar_popI, asVar_bi, asVar_bi2, asVar_isi, rdE, rdL, putE, updE, putsE, mb0, setL_at0, setL_at1, intOf, bindT, augD, toD, binD, cmpD, eqD_int, eqD_str, eqD_bool, idxD, biD, isiD, isNone, itemsD, slcD, atI_zero, atI_one, strict, ok_bind, ex_bind, no_bind, List.map_cons, List.map_nil, List.replicate_succ, List.replicate_zero, List.cons_append, List.nil_append, List.append_nil, List.getElem?_cons_zero, List.getElem?_cons_succ, List.getElem?_nil, List.set_cons_zero, List.set_cons_succ, List.length_cons, List.length_nil, List.length_map, Bool.not_false, Bool.not_true, if_true, if_false, Bool.false_eq_true, List.eraseIdx_cons_succ, List.eraseIdx_cons_zero, and_self, true_and, and_true, ite_true, ite_false, decide_true, decide_false, ne_eq, not_false_eq_true, not_true_eq_false, true_or, or_true, reduceCtorEq, asVar_lrng, asVar_rev, asVar_idx3, asVar_popE, revD, lstD, Int.natCast_zero, Int.lt_irrefl], ?_⟩
        rw [← hg, Nat.gcd_zero_right]
      · refine .inr ⟨[x, some (.fr (.int (r' : Int))), some (.fr (.int (m : Int)))], [x, some (.fr (.int (m : Int))), some (.fr (.int ((r' % m : Nat) : Int)))], r' % m, ?_, .inl ?_, Nat.mod_lt _ (by omega), m, r' % m, rfl, ?_, rfl⟩
        · simp only [runD, runM, evalB, execs, exec, evalE, evalA, evalO, evalC, evalS, evalL, brw, two, three, asVar_var, asVar_cst, asVar_mv, asVar_bin, asVar_neg, asVar_nt, asVar_cmp, asVar_chain, asVar_andE, asVar_orE, asVar_ife, asVar_tupE, asVar_lstE, asVar_idx, asVar_slc, asVar_call, asVar_callM, asVar_popI, asVar_bi, asVar_bi2, asVar_isi, rdE, rdL, putE, updE, putsE, mb0, setL_at0, setL_at1, intOf, bindT, augD, toD, binD, cmpD, eqD_int, eqD_str, eqD_bool, idxD, biD, isiD, isNone, itemsD, slcD, atI_zero, atI_one, strict, ok_bind, ex_bind, no_bind, List.map_cons, List.map_nil, List.replicate_succ, List.replicate_zero, List.cons_append, List.nil_append, List.append_nil, List.getElem?_cons_zero, List.getElem?_cons_succ, List.getElem?_nil, List.set_cons_zero, List.set_cons_succ, List.length_cons, List.length_nil, List.length_map, Bool.not_false, Bool.not_true, if_true, if_false, Bool.false_eq_true, List.eraseIdx_cons_succ, List.eraseIdx_cons_zero, and_self, true_and, and_true, ite_true, ite_false, decide_true, decide_false, ne_eq, not_false_eq_true, not_true_eq_false, true_or, or_true, reduceCtorEq, asVar_lrng, asVar_rev, asVar_idx3, asVar_popE, revD, lstD, show (0 : Int) < (m : Int) from by omega]
        · unfold b0_greatest_common
          simp only [runD, runM, evalB, execs, exec, evalE, evalA, evalO, evalC, evalS, evalL, brw, two, three, asVar_var, asVar_cst, asVar_mv, asVar_bin, asVar_neg, asVar_nt, asVar_cmp, asVar_chain, asVar_andE, asVar_orE, asVar_ife, asVar_tupE, asVar_lstE, asVar_idx, asVar_slc, asVar_call, asVar_callM, asVar_popI, asVar_bi, asVar_bi2, asVar_isi, rdE, rdL, putE, updE, putsE, mb0, setL_at0, setL_at1, intOf, bindT, augD, toD, binD, cmpD, eqD_int, eqD_str, eqD_bool, idxD, biD, isiD, isNone, itemsD, slcD, atI_zero, atI_one, strict, ok_bind, ex_bind, no_bind, List.map_cons, List.map_nil, List.replicate_succ, List.replicate_zero, List.cons_append, List.nil_append, List.append_nil, List.getElem?_cons_zero, List.getElem?_cons_succ, List.getElem?_nil, List.set_cons_zero, List.set_cons_succ, List.length_cons, List.length_nil, List.length_map, Bool.not_false, Bool.not_true, if_true, if_false, Bool.false_eq_true, List.eraseIdx_cons_succ, List.eraseIdx_cons_zero, and_self, true_and, and_true, ite_true, ite_false, decide_true, decide_false, ne_eq, not_false_eq_true, not_true_eq_false, true_or, or_true, reduceCtorEq, asVar_lrng, asVar_rev, asVar_idx3, asVar_popE, revD, lstD, show ¬ ((m : Int) = 0) from by omega, fmod_nat]
        · rw [← hg, gcd_step]) N v _ h ⟨r, v, rfl, rfl, rfl⟩
  rw [h1, h2]
theorem greatest_common_val (vs : List Int) : phi_greatest_common [.list (iL vs)] = .ok (.fr (.int (gcL vs : Int))) := by
  obtain ⟨N, hN⟩ := fuel_of vs
  obtain ⟨en', hf, a, he⟩ := for_run (f := execs N b1_greatest_common) (t := .one 2) (ds := iL vs) (fun i en => ∃ a, en = [some (.fr (.list (iL vs))), some (.fr (.int (gcL (vs.take i) : Int))), a]) (en := [some (.fr (.list (iL vs))), some (.fr (.int 0)), none]) (fun i d en hd ⟨a, he⟩ => by
    subst he
    have hi : i < vs.length := by
      have := (List.getElem?_eq_some_iff.mp hd).1
      rw [iL_len] at this
      exact this
    rw [iL_get hi] at hd
    have hd := Option.some.inj hd
    subst hd
    have hw := gc_whl (N := N) (x := some (.fr (.list (iL vs)))) (r := gcL (vs.take i)) (v := (gI vs i).natAbs) (hN _ (List.mem_of_getElem? (gI_get hi)))
    refine ⟨_, [some (.fr (.list (iL vs))), some (.fr (.int (gcL (vs.take (i + 1)) : Int))), some (.fr (.int 0))], rfl, .inl ?_, _, rfl⟩
    unfold b1_greatest_common
    simp only [runD, runM, evalB, execs, exec, evalE, evalA, evalO, evalC, evalS, evalL, brw, two, three, asVar_var, asVar_cst, asVar_mv, asVar_bin, asVar_neg, asVar_nt, asVar_cmp, asVar_chain, asVar_andE, asVar_orE, asVar_ife, asVar_tupE, asVar_lstE, asVar_idx, asVar_slc, asVar_call, asVar_callM, asVar_popI, asVar_bi, asVar_bi2, asVar_isi, rdE, rdL, putE, updE, putsE, mb0, setL_at0, setL_at1, intOf, bindT, augD, toD, binD, cmpD, eqD_int, eqD_str, eqD_bool, idxD, biD, isiD, isNone, itemsD, slcD, atI_zero, atI_one, strict, ok_bind, ex_bind, no_bind, List.map_cons, List.map_nil, List.replicate_succ, List.replicate_zero, List.cons_append, List.nil_append, List.append_nil, List.getElem?_cons_zero, List.getElem?_cons_succ, List.getElem?_nil, List.set_cons_zero, List.set_cons_succ, List.length_cons, List.length_nil, List.length_map, Bool.not_false, Bool.not_true, if_true, if_false, Bool.false_eq_true, List.eraseIdx_cons_succ, List.eraseIdx_cons_zero, and_self, true_and, and_true, ite_true, ite_false, decide_true, decide_false, ne_eq, not_false_eq_true, not_true_eq_false, true_or, or_true, reduceCtorEq, asVar_lrng, asVar_rev, asVar_idx3, asVar_popE, revD, lstD, abs_nat]
    rw [gcL_take hi]
    exact (congrArg (fun z => z >>= _) hw)) ⟨none, rfl⟩
  subst he
  refine fnOf_eq (n := N) ?_ (by simp)
  rw [iL_len, List.take_length] at hf
  unfold ir_greatest_common
  simp only [runD, runM, evalB, execs, exec, evalE, evalA, evalO, evalC, evalS, evalL, brw, two, three, asVar_var, asVar_cst, asVar_mv, asVar_bin, asVar_neg, asVar_nt, asVar_cmp, asVar_chain, asVar_andE, asVar_orE, asVar_ife, asVar_tupE, asVar_lstE, asVar_idx, asVar_slc, asVar_call, asVar_callM, asVar_popI, asVar_bi, asVar_bi2, asVar_isi, rdE, rdL, putE, updE, putsE, mb0, setL_at0, setL_at1, intOf, bindT, augD, toD, binD, cmpD, eqD_int, eqD_str, eqD_bool, idxD, biD, isiD, isNone, itemsD, slcD, atI_zero, atI_one, strict, ok_bind, ex_bind, no_bind, List.map_cons, List.map_nil, List.replicate_succ, List.replicate_zero, List.cons_append, List.nil_append, List.append_nil, List.getElem?_cons_zero, List.getElem?_cons_succ, List.getElem?_nil, List.set_cons_zero, List.set_cons_succ, List.length_cons, List.length_nil, List.length_map, Bool.not_false, Bool.not_true, if_true, if_false, Bool.false_eq_true, List.eraseIdx_cons_succ, List.eraseIdx_cons_zero, and_self, true_and, and_true, ite_true, ite_false, decide_true, decide_false, ne_eq, not_false_eq_true, not_true_eq_false, true_or, or_true, reduceCtorEq, asVar_lrng, asVar_rev, asVar_idx3, asVar_popE, revD, lstD, hf]
end VS

/-! The modulus, two ways; the ring of its steps. -/
namespace VS
open PySem (PyData)
open L2 (atI ixN)
theorem range_map {α : Type} {xs : List α} {n : Nat} {G : Nat → α} (hl : xs.length = n) (h : ∀ i, i < n → xs[i]? = some (G i)) : xs = (List.range n).map G := by
  apply List.ext_getElem?
  intro i
  by_cases hi : i < n
  · rw [h i hi, List.getElem?_map, List.getElem?_range hi]; rfl
  · rw [List.getElem?_eq_none (by omega), List.getElem?_eq_none (by simp; omega)]
def subAll (ns : List Int) : List Int := ns.map fun s => s - gI ns 0
/-- the modulus -/
def modu (ns : List Int) : Int := (gcL (subAll (dif ns)) : Int)
theorem sub_lc {ns : List Int} (h0 : 0 < ns.length) (hz : ns.length ≤ SZ) : evalE c0_modulus_of [some (.fr (.tuple (iL ns))), none] = .ok (.own (iL (subAll ns)), [some (.fr (.tuple (iL ns))), none]) := by
  unfold c0_modulus_of
  refine (lc_idx (en1 := [some (.fr (.tuple (iL ns))), none]) (items := iL ns) (fun i => .int (gI ns i - gI ns 0)) (by simp only [runD, runM, evalB, execs, exec, evalE, evalA, evalO, evalC, evalS, evalL, brw, two, three, asVar_var, asVar_cst, asVar_mv, asVar_bin, asVar_neg, asVar_nt, asVar_cmp, asVar_chain, asVar_andE, asVar_orE, asVar_ife, asVar_tupE, asVar_lstE, asVar_idx, asVar_slc, asVar_call, asVar_callM, asVar_popI, asVar_bi, asVar_bi2, asVar_isi, rdE, rdL, putE, updE, putsE, mb0, setL_at0, setL_at1, intOf, bindT, augD, toD, binD, cmpD, eqD_int, eqD_str, eqD_bool, idxD, biD, isiD, isNone, itemsD, slcD, atI_zero, atI_one, strict, ok_bind, ex_bind, no_bind, List.map_cons, List.map_nil, List.replicate_succ, List.replicate_zero, List.cons_append, List.nil_append, List.append_nil, List.getElem?_cons_zero, List.getElem?_cons_succ, List.getElem?_nil, List.set_cons_zero, List.set_cons_succ, List.length_cons, List.length_nil, List.length_map, Bool.not_false, Bool.not_true, if_true, if_false, Bool.false_eq_true, List.eraseIdx_cons_succ, List.eraseIdx_cons_zero, and_self, true_and, and_true, ite_true, ite_false, decide_true, decide_false, ne_eq, not_false_eq_true, not_true_eq_false, true_or, or_true, reduceCtorEq, asVar_lrng, asVar_rev, asVar_idx3, asVar_popE, revD, lstD]) (by rw [iL_len]; exact hz) (fun i d hd => by
      have hi : i < ns.length := by
        have := (List.getElem?_eq_some_iff.mp hd).1
        rw [iL_len] at this
        exact this
      rw [iL_get hi] at hd
      have hd := Option.some.inj hd
      subst hd
      refine ⟨[some (.fr (.tuple (iL ns))), some (.fr (.int (gI ns i)))], .fr (.int (gI ns i - gI ns 0)), [some (.fr (.tuple (iL ns))), some (.fr (.int (gI ns i)))], rfl, ?_, rfl, rfl⟩
      have := at_iL' (i := 0) h0
      simp only [runD, runM, evalB, execs, exec, evalE, evalA, evalO, evalC, evalS, evalL, brw, two, three, asVar_var, asVar_cst, asVar_mv, asVar_bin, asVar_neg, asVar_nt, asVar_cmp, asVar_chain, asVar_andE, asVar_orE, asVar_ife, asVar_tupE, asVar_lstE, asVar_idx, asVar_slc, asVar_call, asVar_callM, asVar_popI, asVar_bi, asVar_bi2, asVar_isi, rdE, rdL, putE, updE, putsE, mb0, setL_at0, setL_at1, intOf, bindT, augD, toD, binD, cmpD, eqD_int, eqD_str, eqD_bool, idxD, biD, isiD, isNone, itemsD, slcD, atI_zero, atI_one, strict, ok_bind, ex_bind, no_bind, List.map_cons, List.map_nil, List.replicate_succ, List.replicate_zero, List.cons_append, List.nil_append, List.append_nil, List.getElem?_cons_zero, List.getElem?_cons_succ, List.getElem?_nil, List.set_cons_zero, List.set_cons_succ, List.length_cons, List.length_nil, List.length_map, Bool.not_false, Bool.not_true, if_true, if_false, Bool.false_eq_true, List.eraseIdx_cons_succ, List.eraseIdx_cons_zero, and_self, true_and, and_true, ite_true, ite_false, decide_true, decide_false, ne_eq, not_false_eq_true, not_true_eq_false, true_or, or_true, reduceCtorEq, asVar_lrng, asVar_rev, asVar_idx3, asVar_popE, revD, lstD, show (0 : Int) = ((0 : Nat) : Int) from rfl, this])).trans ?_
  rw [iL_len]
  congr 3
  exact (range_map (by unfold subAll iL; simp) fun i hi => by
    unfold subAll iL
    rw [List.map_map, List.getElem?_map, gI_get hi]
    rfl).symm
theorem modulus_of_val {ns : List Int} (h0 : 0 < ns.length) (hz : ns.length ≤ SZ) : phi_modulus_of [.tuple (iL ns)] = .ok (.fr (.int (gcL (subAll ns) : Int))) := by
  refine fnOf_eq (n := 0) ?_ (by simp)
  unfold ir_modulus_of
  simp only [runD, runM, evalB, execs, exec, evalE, evalA, evalO, evalC, evalS, evalL, brw, two, three, asVar_var, asVar_cst, asVar_mv, asVar_bin, asVar_neg, asVar_nt, asVar_cmp, asVar_chain, asVar_andE, asVar_orE, asVar_ife, asVar_tupE, asVar_lstE, asVar_idx, asVar_slc, asVar_call, asVar_callM, asVar_popI, asVar_bi, asVar_bi2, asVar_isi, rdE, rdL, putE, updE, putsE, mb0, setL_at0, setL_at1, intOf, bindT, augD, toD, binD, cmpD, eqD_int, eqD_str, eqD_bool, idxD, biD, isiD, isNone, itemsD, slcD, atI_zero, atI_one, strict, ok_bind, ex_bind, no_bind, List.map_cons, List.map_nil, List.replicate_succ, List.replicate_zero, List.cons_append, List.nil_append, List.append_nil, List.getElem?_cons_zero, List.getElem?_cons_succ, List.getElem?_nil, List.set_cons_zero, List.set_cons_succ, List.length_cons, List.length_nil, List.length_map, Bool.not_false, Bool.not_true, if_true, if_false, Bool.false_eq_true, List.eraseIdx_cons_succ, List.eraseIdx_cons_zero, and_self, true_and, and_true, ite_true, ite_false, decide_true, decide_false, ne_eq, not_false_eq_true, not_true_eq_false, true_or, or_true, reduceCtorEq, asVar_lrng, asVar_rev, asVar_idx3, asVar_popE, revD, lstD, sub_lc h0 hz, greatest_common_val]
theorem find_modulus_val (q : Bool) {ns : List Int} (h : okMarks ns) : phi_find_modulus q [.tuple (iL ns)] = .ok (.fr (.int (modu ns))) := by
  have h0 : 0 < ns.length := by have := h.1; omega
  refine fnOf_eq (n := 0) ?_ (by simp)
  unfold ir_find_modulus
  simp only [runD, runM, evalB, execs, exec, evalE, evalA, evalO, evalC, evalS, evalL, brw, two, three, asVar_var, asVar_cst, asVar_mv, asVar_bin, asVar_neg, asVar_nt, asVar_cmp, asVar_chain, asVar_andE, asVar_orE, asVar_ife, asVar_tupE, asVar_lstE, asVar_idx, asVar_slc, asVar_call, asVar_callM, asVar_popI, asVar_bi, asVar_bi2, asVar_isi, rdE, rdL, putE, updE, putsE, mb0, setL_at0, setL_at1, intOf, bindT, augD, toD, binD, cmpD, eqD_int, eqD_str, eqD_bool, idxD, biD, isiD, isNone, itemsD, slcD, atI_zero, atI_one, strict, ok_bind, ex_bind, no_bind, List.map_cons, List.map_nil, List.replicate_succ, List.replicate_zero, List.cons_append, List.nil_append, List.append_nil, List.getElem?_cons_zero, List.getElem?_cons_succ, List.getElem?_nil, List.set_cons_zero, List.set_cons_succ, List.length_cons, List.length_nil, List.length_map, Bool.not_false, Bool.not_true, if_true, if_false, Bool.false_eq_true, List.eraseIdx_cons_succ, List.eraseIdx_cons_zero, and_self, true_and, and_true, ite_true, ite_false, decide_true, decide_false, ne_eq, not_false_eq_true, not_true_eq_false, true_or, or_true, reduceCtorEq, asVar_lrng, asVar_rev, asVar_idx3, asVar_popE, revD, lstD, check_marks_val q h, steps_of_val h0 (small_SZ h.2.1), modulus_of_val (ns := dif ns) (by rw [dif_len]; exact h0) (by rw [dif_len]; exact small_SZ h.2.1)]
  rfl
theorem cm_whl {N : Nat} {x y z w : Option Sl} {o v : Nat} (h : v < N) : whlGo (evalB (.cmp .Gt (.var 4) (.cst (.int 0)))) (execs N b0__law_common) N [x, y, z, w, some (.fr (.int (v : Int))), some (.fr (.int (o : Int)))] = .ok (.nx [x, y, z, w, some (.fr (.int 0)), some (.fr (.int ((Nat.gcd o v : Nat) : Int)))]) := by
  obtain ⟨en', h1, h2⟩ := whl_run (c := evalB (.cmp .Gt (.var 4) (.cst (.int 0)))) (f := execs N b0__law_common) (fun m en => ∃ o' v' : Nat, en = [x, y, z, w, some (.fr (.int (v' : Int))), some (.fr (.int (o' : Int)))] ∧ Nat.gcd o' v' = Nat.gcd o v ∧ m = v') (fun en => en = [x, y, z, w, some (.fr (.int 0)), some (.fr (.int ((Nat.gcd o v : Nat) : Int)))])
    (fun m en ⟨o', v', he, hg, hm⟩ => by
      subst he hm
      by_cases h0 : m = 0
      · subst h0
        refine .inl ⟨[x, y, z, w, some (.fr (.int 0)), some (.fr (.int (o' : Int)))], by simp only [runD, runM, evalB, execs, exec, evalE, evalA, evalO, evalC, evalS, evalL, brw, two, three, asVar_var, asVar_cst, asVar_mv, asVar_bin, asVar_neg, asVar_nt, asVar_cmp, asVar_chain, asVar_andE, asVar_orE, asVar_ife, asVar_tupE, asVar_lstE, asVar_idx, asVar_slc, asVar_call, asVar_callM, asVar_popI, asVar_bi, asVar_bi2, asVar_isi, rdE, rdL, putE, updE, putsE, mb0, setL_at0, setL_at1, intOf, bindT, augD, toD, binD, cmpD, eqD_int, eqD_str, eqD_bool, idxD, biD, isiD, isNone, itemsD, slcD, atI_zero, atI_one, strict, ok_bind, ex_bind, no_bind, List.map_cons, List.map_nil, List.replicate_succ, List.replicate_zero, List.cons_append, List.nil_append, List.append_nil, List.getElem?_cons_zero, List.getElem?_cons_succ, List.getElem?_nil, List.set_cons_zero, List.set_cons_succ, List.length_cons, List.length_nil, List.length_map, Bool.not_false, Bool.not_true, if_true, if_false, Bool.false_eq_true, List.eraseIdx_cons_succ, List.eraseIdx_cons_zero, and_self, true_and, and_true, ite_true, ite_false, decide_true, decide_false, ne_eq, not_false_eq_true, not_true_eq_false, true_or, or_true, reduceCtorEq, asVar_lrng, asVar_rev, asVar_idx3, asVar_popE, revD, lstD, Int.natCast_zero, Int.lt_irrefl], ?_⟩
        rw [← hg, Nat.gcd_zero_right]
      · refine .inr ⟨[x, y, z, w, some (.fr (.int (m : Int))), some (.fr (.int (o' : Int)))], [x, y, z, w, some (.fr (.int ((o' % m : Nat) : Int))), some (.fr (.int (m : Int)))], o' % m, ?_, .inl ?_, Nat.mod_lt _ (by omega), m, o' % m, rfl, ?_, rfl⟩
        · simp only [runD, runM, evalB, execs, exec, evalE, evalA, evalO, evalC, evalS, evalL, brw, two, three, asVar_var, asVar_cst, asVar_mv, asVar_bin, asVar_neg, asVar_nt, asVar_cmp, asVar_chain, asVar_andE, asVar_orE, asVar_ife, asVar_tupE, asVar_lstE, asVar_idx, asVar_slc, asVar_call, asVar_callM, asVar_popI, asVar_bi, asVar_bi2, asVar_isi, rdE, rdL, putE, updE, putsE, mb0, setL_at0, setL_at1, intOf, bindT, augD, toD, binD, cmpD, eqD_int, eqD_str, eqD_bool, idxD, biD, isiD, isNone, itemsD, slcD, atI_zero, atI_one, strict, ok_bind, ex_bind, no_bind, List.map_cons, List.map_nil, List.replicate_succ, List.replicate_zero, List.cons_append, List.nil_append, List.append_nil, List.getElem?_cons_zero, List.getElem?_cons_succ, List.getElem?_nil, List.set_cons_zero, List.set_cons_succ, List.length_cons, List.length_nil, List.length_map, Bool.not_false, Bool.not_true, if_true, if_false, Bool.false_eq_true, List.eraseIdx_cons_succ, List.eraseIdx_cons_zero, and_self, true_and, and_true, ite_true, ite_false, decide_true, decide_false, ne_eq, not_false_eq_true, not_true_eq_false, true_or, or_true, reduceCtorEq, asVar_lrng, asVar_rev, asVar_idx3, asVar_popE, revD, lstD, show (0 : Int) < (m : Int) from by omega]
        · unfold b0__law_common
          simp only [runD, runM, evalB, execs, exec, evalE, evalA, evalO, evalC, evalS, evalL, brw, two, three, asVar_var, asVar_cst, asVar_mv, asVar_bin, asVar_neg, asVar_nt, asVar_cmp, asVar_chain, asVar_andE, asVar_orE, asVar_ife, asVar_tupE, asVar_lstE, asVar_idx, asVar_slc, asVar_call, asVar_callM, asVar_popI, asVar_bi, asVar_bi2, asVar_isi, rdE, rdL, putE, updE, putsE, mb0, setL_at0, setL_at1, intOf, bindT, augD, toD, binD, cmpD, eqD_int, eqD_str, eqD_bool, idxD, biD, isiD, isNone, itemsD, slcD, atI_zero, atI_one, strict, ok_bind, ex_bind, no_bind, List.map_cons, List.map_nil, List.replicate_succ, List.replicate_zero, List.cons_append, List.nil_append, List.append_nil, List.getElem?_cons_zero, List.getElem?_cons_succ, List.getElem?_nil, List.set_cons_zero, List.set_cons_succ, List.length_cons, List.length_nil, List.length_map, Bool.not_false, Bool.not_true, if_true, if_false, Bool.false_eq_true, List.eraseIdx_cons_succ, List.eraseIdx_cons_zero, and_self, true_and, and_true, ite_true, ite_false, decide_true, decide_false, ne_eq, not_false_eq_true, not_true_eq_false, true_or, or_true, reduceCtorEq, asVar_lrng, asVar_rev, asVar_idx3, asVar_popE, revD, lstD, show ¬ ((m : Int) = 0) from by omega, fmod_nat]
        · rw [← hg, gcd_step]) N v _ h ⟨o, v, rfl, rfl, rfl⟩
  rw [h1, h2]
theorem subAll_len {ns : List Int} : (subAll ns).length = ns.length := List.length_map _
theorem subAll_get {ns : List Int} {i : Nat} (h : i < ns.length) : gI (subAll ns) i = gI ns i - gI ns 0 := by
  have h1 := gI_get (ns := subAll ns) (i := i) (by rw [subAll_len]; exact h)
  unfold subAll at h1
  rw [List.getElem?_map, gI_get h] at h1
  exact (Option.some.inj h1).symm
theorem common_val {ns : List Int} (h0 : 0 < ns.length) (hz : ns.length ≤ SZ) : phi__law_common [.tuple (iL ns)] = .ok (.fr (.int (modu ns))) := by
  obtain ⟨N, hN⟩ := fuel_of (subAll (dif ns))
  have h0' : 0 < (dif ns).length := by rw [dif_len]; exact h0
  obtain ⟨en', hf, a, b, c, he, _⟩ := for_run (f := execs N b1__law_common) (t := .one 3) (ds := iL (dif ns)) (fun i en => ∃ a b c, en = [some (.fr (.tuple (iL ns))), some (.fr (.list (iL (dif ns)))), some (.fr (.int (gcL ((subAll (dif ns)).take i) : Int))), a, b, c] ∧ (b = none ∧ c = none ∨ ∃ u v : Int, b = some (.fr (.int u)) ∧ c = some (.fr (.int v)))) (en := [some (.fr (.tuple (iL ns))), some (.fr (.list (iL (dif ns)))), some (.fr (.int 0)), none, none, none]) (fun i d en hd ⟨a, b, c, he, hbc⟩ => by
    subst he
    have hi : i < (dif ns).length := by
      have := (List.getElem?_eq_some_iff.mp hd).1
      rw [iL_len] at this
      exact this
    rw [iL_get hi] at hd
    have hd := Option.some.inj hd
    subst hd
    have hi' : i < (subAll (dif ns)).length := by rw [subAll_len]; exact hi
    have hw := cm_whl (N := N) (x := some (.fr (.tuple (iL ns)))) (y := some (.fr (.list (iL (dif ns))))) (z := some (.fr (.int (gcL ((subAll (dif ns)).take i) : Int)))) (w := some (.fr (.int (gI (dif ns) i)))) (o := gcL ((subAll (dif ns)).take i)) (v := (gI (dif ns) i - gI (dif ns) 0).natAbs) (by rw [← subAll_get hi]; exact hN _ (List.mem_of_getElem? (gI_get hi')))
    refine ⟨_, [some (.fr (.tuple (iL ns))), some (.fr (.list (iL (dif ns)))), some (.fr (.int (gcL ((subAll (dif ns)).take (i + 1)) : Int))), some (.fr (.int (gI (dif ns) i))), some (.fr (.int 0)), some (.fr (.int (gcL ((subAll (dif ns)).take (i + 1)) : Int)))], rfl, .inl ?_, _, _, _, rfl, .inr ⟨_, _, rfl, rfl⟩⟩
    have e0 := at_iL' (ns := dif ns) (i := 0) h0'
    unfold b1__law_common
    rw [ex_nx (e1 := [some (.fr (.tuple (iL ns))), some (.fr (.list (iL (dif ns)))), some (.fr (.int (gcL ((subAll (dif ns)).take i) : Int))), some (.fr (.int (gI (dif ns) i))), some (.fr (.int ((gI (dif ns) i - gI (dif ns) 0).natAbs : Int))), some (.fr (.int (gcL ((subAll (dif ns)).take i) : Int)))]) (by
      rcases hbc with ⟨rfl, rfl⟩ | ⟨u, v, rfl, rfl⟩ <;> simp only [runD, runM, evalB, execs, exec, evalE, evalA, evalO, evalC, evalS, evalL, brw, two, three, asVar_var, asVar_cst, asVar_mv, asVar_bin, asVar_neg, asVar_nt, asVar_cmp, asVar_chain, asVar_andE, asVar_orE, asVar_ife, asVar_tupE, asVar_lstE, asVar_idx, asVar_slc, asVar_call, asVar_callM, asVar_popI, asVar_bi, asVar_bi2, asVar_isi, rdE, rdL, putE, updE, putsE, mb0, setL_at0, setL_at1, intOf, bindT, augD, toD, binD, cmpD, eqD_int, eqD_str, eqD_bool, idxD, biD, isiD, isNone, itemsD, slcD, atI_zero, atI_one, strict, ok_bind, ex_bind, no_bind, List.map_cons, List.map_nil, List.replicate_succ, List.replicate_zero, List.cons_append, List.nil_append, List.append_nil, List.getElem?_cons_zero, List.getElem?_cons_succ, List.getElem?_nil, List.set_cons_zero, List.set_cons_succ, List.length_cons, List.length_nil, List.length_map, Bool.not_false, Bool.not_true, if_true, if_false, Bool.false_eq_true, List.eraseIdx_cons_succ, List.eraseIdx_cons_zero, and_self, true_and, and_true, ite_true, ite_false, decide_true, decide_false, ne_eq, not_false_eq_true, not_true_eq_false, true_or, or_true, reduceCtorEq, asVar_lrng, asVar_rev, asVar_idx3, asVar_popE, revD, lstD, show (0 : Int) = ((0 : Nat) : Int) from rfl, e0, ← abs_nat])]
    rw [ex_nx (e1 := _) (by rw [exec]; exact hw)]
    rw [gcL_take hi', subAll_get hi]
    simp only [runD, runM, evalB, execs, exec, evalE, evalA, evalO, evalC, evalS, evalL, brw, two, three, asVar_var, asVar_cst, asVar_mv, asVar_bin, asVar_neg, asVar_nt, asVar_cmp, asVar_chain, asVar_andE, asVar_orE, asVar_ife, asVar_tupE, asVar_lstE, asVar_idx, asVar_slc, asVar_call, asVar_callM, asVar_popI, asVar_bi, asVar_bi2, asVar_isi, rdE, rdL, putE, updE, putsE, mb0, setL_at0, setL_at1, intOf, bindT, augD, toD, binD, cmpD, eqD_int, eqD_str, eqD_bool, idxD, biD, isiD, isNone, itemsD, slcD, atI_zero, atI_one, strict, ok_bind, ex_bind, no_bind, List.map_cons, List.map_nil, List.replicate_succ, List.replicate_zero, List.cons_append, List.nil_append, List.append_nil, List.getElem?_cons_zero, List.getElem?_cons_succ, List.getElem?_nil, List.set_cons_zero, List.set_cons_succ, List.length_cons, List.length_nil, List.length_map, Bool.not_false, Bool.not_true, if_true, if_false, Bool.false_eq_true, List.eraseIdx_cons_succ, List.eraseIdx_cons_zero, and_self, true_and, and_true, ite_true, ite_false, decide_true, decide_false, ne_eq, not_false_eq_true, not_true_eq_false, true_or, or_true, reduceCtorEq, asVar_lrng, asVar_rev, asVar_idx3, asVar_popE, revD, lstD]) ⟨none, none, none, rfl, .inl ⟨rfl, rfl⟩⟩
  subst he
  rw [iL_len, ← subAll_len, List.take_length] at hf
  refine fnOf_eq (n := N) ?_ (by simp)
  refine runD_rt (e1 := [some (.fr (.tuple (iL ns))), some (.fr (.list (iL (dif ns)))), some (.fr (.int (modu ns))), a, b, c]) ?_
  show execs N ir__law_common [some (.fr (.tuple (iL ns))), none, none, none, none, none] = _
  unfold ir__law_common
  rw [ex_nx (e1 := [some (.fr (.tuple (iL ns))), some (.own (iL (dif ns))), some (.fr (.int 0)), none, none, none]) (by simp only [runD, runM, evalB, execs, exec, evalE, evalA, evalO, evalC, evalS, evalL, brw, two, three, asVar_var, asVar_cst, asVar_mv, asVar_bin, asVar_neg, asVar_nt, asVar_cmp, asVar_chain, asVar_andE, asVar_orE, asVar_ife, asVar_tupE, asVar_lstE, asVar_idx, asVar_slc, asVar_call, asVar_callM, asVar_popI, asVar_bi, asVar_bi2, asVar_isi, rdE, rdL, putE, updE, putsE, mb0, setL_at0, setL_at1, intOf, bindT, augD, toD, binD, cmpD, eqD_int, eqD_str, eqD_bool, idxD, biD, isiD, isNone, itemsD, slcD, atI_zero, atI_one, strict, ok_bind, ex_bind, no_bind, List.map_cons, List.map_nil, List.replicate_succ, List.replicate_zero, List.cons_append, List.nil_append, List.append_nil, List.getElem?_cons_zero, List.getElem?_cons_succ, List.getElem?_nil, List.set_cons_zero, List.set_cons_succ, List.length_cons, List.length_nil, List.length_map, Bool.not_false, Bool.not_true, if_true, if_false, Bool.false_eq_true, List.eraseIdx_cons_succ, List.eraseIdx_cons_zero, and_self, true_and, and_true, ite_true, ite_false, decide_true, decide_false, ne_eq, not_false_eq_true, not_true_eq_false, true_or, or_true, reduceCtorEq, asVar_lrng, asVar_rev, asVar_idx3, asVar_popE, revD, lstD, differences_val h0 hz])]
  rw [ex_nx (e1 := [some (.fr (.tuple (iL ns))), some (.fr (.list (iL (dif ns)))), some (.fr (.int (modu ns))), a, b, c]) (by simp only [runD, runM, evalB, execs, exec, evalE, evalA, evalO, evalC, evalS, evalL, brw, two, three, asVar_var, asVar_cst, asVar_mv, asVar_bin, asVar_neg, asVar_nt, asVar_cmp, asVar_chain, asVar_andE, asVar_orE, asVar_ife, asVar_tupE, asVar_lstE, asVar_idx, asVar_slc, asVar_call, asVar_callM, asVar_popI, asVar_bi, asVar_bi2, asVar_isi, rdE, rdL, putE, updE, putsE, mb0, setL_at0, setL_at1, intOf, bindT, augD, toD, binD, cmpD, eqD_int, eqD_str, eqD_bool, idxD, biD, isiD, isNone, itemsD, slcD, atI_zero, atI_one, strict, ok_bind, ex_bind, no_bind, List.map_cons, List.map_nil, List.replicate_succ, List.replicate_zero, List.cons_append, List.nil_append, List.append_nil, List.getElem?_cons_zero, List.getElem?_cons_succ, List.getElem?_nil, List.set_cons_zero, List.set_cons_succ, List.length_cons, List.length_nil, List.length_map, Bool.not_false, Bool.not_true, if_true, if_false, Bool.false_eq_true, List.eraseIdx_cons_succ, List.eraseIdx_cons_zero, and_self, true_and, and_true, ite_true, ite_false, decide_true, decide_false, ne_eq, not_false_eq_true, not_true_eq_false, true_or, or_true, reduceCtorEq, asVar_lrng, asVar_rev, asVar_idx3, asVar_popE, revD, lstD, hf]; rfl)]
  simp only [runD, runM, evalB, execs, exec, evalE, evalA, evalO, evalC, evalS, evalL, brw, two, three, asVar_var, asVar_cst, asVar_mv, asVar_bin, asVar_neg, asVar_nt, asVar_cmp, asVar_chain, asVar_andE, asVar_orE, asVar_ife, asVar_tupE, asVar_lstE, asVar_idx, asVar_slc, asVar_call, asVar_callM, asVar_popI, asVar_bi, asVar_bi2, asVar_isi, rdE, rdL, putE, updE, putsE, mb0, setL_at0, setL_at1, intOf, bindT, augD, toD, binD, cmpD, eqD_int, eqD_str, eqD_bool, idxD, biD, isiD, isNone, itemsD, slcD, atI_zero, atI_one, strict, ok_bind, ex_bind, no_bind, List.map_cons, List.map_nil, List.replicate_succ, List.replicate_zero, List.cons_append, List.nil_append, List.append_nil, List.getElem?_cons_zero, List.getElem?_cons_succ, List.getElem?_nil, List.set_cons_zero, List.set_cons_succ, List.length_cons, List.length_nil, List.length_map, Bool.not_false, Bool.not_true, if_true, if_false, Bool.false_eq_true, List.eraseIdx_cons_succ, List.eraseIdx_cons_zero, and_self, true_and, and_true, ite_true, ite_false, decide_true, decide_false, ne_eq, not_false_eq_true, not_true_eq_false, true_or, or_true, reduceCtorEq, asVar_lrng, asVar_rev, asVar_idx3, asVar_popE, revD, lstD]
end VS

/-! The ring of its steps. -/
namespace VS
open PySem (PyData)
open L2 (atI ixN)
theorem cut_last (xs : List D) : cutD xs none (some (-1)) = xs.take (xs.length - 1) := by
  unfold cutD
  cases xs with
  | nil => rfl
  | cons a r =>
    have e1 : HT.sIx (a :: r).length 0 none = 0 := by first | rfl | simp [HT.sIx]
    have e2 : HT.sIx (a :: r).length (a :: r).length (some (-1)) = r.length := by
      unfold HT.sIx
      simp
      try omega
    rw [e1, e2]
    simp
theorem atI_neg {xs : List D} {a : D} : atI (xs ++ [a]) (-1) = some a := by
  unfold atI
  rw [List.length_append, List.length_singleton, ixN_neg]
  show (xs ++ [a])[xs.length]? = _
  simp
theorem iL_app {xs ys : List Int} : iL (xs ++ ys) = iL xs ++ iL ys := List.map_append ..
theorem iL_take {xs : List Int} {n : Nat} : iL (xs.take n) = (iL xs).take n := List.map_take ..
theorem dif_get {ns : List Int} {i : Nat} (h : i < ns.length) : gI (dif ns) i = gI ns ((i + 1) % ns.length) - gI ns i := by
  have h1 := gI_get (ns := dif ns) (i := i) (by rw [dif_len]; exact h)
  unfold dif at h1
  rw [List.getElem?_map, List.getElem?_range h] at h1
  exact (Option.some.inj h1).symm
theorem marks_of_val {ns : List Int} (h0 : 0 < ns.length) (hz : ns.length ≤ 1000) : phi_marks_of [.int (gI ns 0), .tuple (iL (dif ns))] = .ok (.fr (.tuple (iL ns))) := by
  have tk1 : ns.take 1 = [gI ns 0] := by
    have := take_succ (gI_get h0)
    simpa using this
  obtain ⟨en', hf, a, he⟩ := for_run (f := execs 0 b0_marks_of) (t := .one 3) (ds := (iL (dif ns)).take ((iL (dif ns)).length - 1)) (fun i en => ∃ a, en = [some (.fr (.int (gI ns 0))), some (.fr (.tuple (iL (dif ns)))), some (.own (iL (ns.take (i + 1)))), a]) (en := [some (.fr (.int (gI ns 0))), some (.fr (.tuple (iL (dif ns)))), some (.own [.int (gI ns 0)]), none]) (fun i d en hd ⟨a, he⟩ => by
    subst he
    have hi : i + 1 < ns.length := by
      have := (List.getElem?_eq_some_iff.mp hd).1
      rw [List.length_take, iL_len, dif_len] at this
      omega
    have hd : (iL (dif ns))[i]? = some d := by
      rw [List.getElem?_take] at hd
      split at hd
      · exact hd
      · cases hd
    rw [iL_get (by rw [dif_len]; omega), dif_get (by omega), Nat.mod_eq_of_lt hi] at hd
    have hd := Option.some.inj hd
    subst hd
    refine ⟨_, [some (.fr (.int (gI ns 0))), some (.fr (.tuple (iL (dif ns)))), some (.own (iL (ns.take (i + 1 + 1)))), some (.fr (.int (gI ns (i + 1) - gI ns i)))], rfl, .inl ?_, _, rfl⟩
    have tk : ns.take (i + 1) = ns.take i ++ [gI ns i] := take_succ (gI_get (by omega))
    have tk2 : ns.take (i + 1 + 1) = ns.take (i + 1) ++ [gI ns (i + 1)] := take_succ (gI_get hi)
    have ea : atI (iL (ns.take (i + 1))) (-1) = some (.int (gI ns i)) := by
      rw [tk, iL_app]
      exact atI_neg
    have el : (iL (ns.take (i + 1))).length < SZ := by
      rw [iL_len, List.length_take, SZ_lit]
      omega
    have es : gI ns i + (gI ns (i + 1) - gI ns i) = gI ns (i + 1) := by omega
    unfold b0_marks_of
    simp only [runD, runM, evalB, execs, exec, evalE, evalA, evalO, evalC, evalS, evalL, brw, two, three, asVar_var, asVar_cst, asVar_mv, asVar_bin, asVar_neg, asVar_nt, asVar_cmp, asVar_chain, asVar_andE, asVar_orE, asVar_ife, asVar_tupE, asVar_lstE, asVar_idx, asVar_slc, asVar_call, asVar_callM, asVar_popI, asVar_bi, asVar_bi2, asVar_isi, rdE, rdL, putE, updE, putsE, mb0, setL_at0, setL_at1, intOf, bindT, augD, toD, binD, cmpD, eqD_int, eqD_str, eqD_bool, idxD, biD, isiD, isNone, itemsD, slcD, atI_zero, atI_one, strict, ok_bind, ex_bind, no_bind, List.map_cons, List.map_nil, List.replicate_succ, List.replicate_zero, List.cons_append, List.nil_append, List.append_nil, List.getElem?_cons_zero, List.getElem?_cons_succ, List.getElem?_nil, List.set_cons_zero, List.set_cons_succ, List.length_cons, List.length_nil, List.length_map, Bool.not_false, Bool.not_true, if_true, if_false, Bool.false_eq_true, List.eraseIdx_cons_succ, List.eraseIdx_cons_zero, and_self, true_and, and_true, ite_true, ite_false, decide_true, decide_false, ne_eq, not_false_eq_true, not_true_eq_false, true_or, or_true, reduceCtorEq, asVar_lrng, asVar_rev, asVar_idx3, asVar_popE, revD, lstD, ea, el, es, tk2, iL_app]
    rfl) ⟨none, by rw [tk1]; rfl⟩
  subst he
  have hl : ((iL (dif ns)).take ((iL (dif ns)).length - 1)).length + 1 = ns.length := by
    rw [List.length_take, iL_len, dif_len]
    omega
  rw [hl, List.take_length] at hf
  refine fnOf_eq (n := 0) ?_ (by simp)
  unfold ir_marks_of
  simp only [runD, runM, evalB, execs, exec, evalE, evalA, evalO, evalC, evalS, evalL, brw, two, three, asVar_var, asVar_cst, asVar_mv, asVar_bin, asVar_neg, asVar_nt, asVar_cmp, asVar_chain, asVar_andE, asVar_orE, asVar_ife, asVar_tupE, asVar_lstE, asVar_idx, asVar_slc, asVar_call, asVar_callM, asVar_popI, asVar_bi, asVar_bi2, asVar_isi, rdE, rdL, putE, updE, putsE, mb0, setL_at0, setL_at1, intOf, bindT, augD, toD, binD, cmpD, eqD_int, eqD_str, eqD_bool, idxD, biD, isiD, isNone, itemsD, slcD, atI_zero, atI_one, strict, ok_bind, ex_bind, no_bind, List.map_cons, List.map_nil, List.replicate_succ, List.replicate_zero, List.cons_append, List.nil_append, List.append_nil, List.getElem?_cons_zero, List.getElem?_cons_succ, List.getElem?_nil, List.set_cons_zero, List.set_cons_succ, List.length_cons, List.length_nil, List.length_map, Bool.not_false, Bool.not_true, if_true, if_false, Bool.false_eq_true, List.eraseIdx_cons_succ, List.eraseIdx_cons_zero, and_self, true_and, and_true, ite_true, ite_false, decide_true, decide_false, ne_eq, not_false_eq_true, not_true_eq_false, true_or, or_true, reduceCtorEq, asVar_lrng, asVar_rev, asVar_idx3, asVar_popE, revD, lstD, cut_last, hf, show (0 + 1 ≤ SZ) = True from eq_true (le_SZ (by decide))]
theorem sum_map_add {α : Type} (l : List α) (f g : α → Int) : (l.map fun i => f i - g i).sum = (l.map f).sum - (l.map g).sum := by
  induction l with
  | nil => rfl
  | cons a r ih => simp only [List.map_cons, List.sum_cons, ih]; omega
theorem dif_sum (ns : List Int) : (dif ns).sum = 0 := by
  unfold dif
  rw [sum_map_add]
  cases hn : ns.length with
  | zero => rfl
  | succ m =>
    have e1 : (List.range (m + 1)).map (fun i => gI ns ((i + 1) % (m + 1))) = (List.range m).map (fun i => gI ns (i + 1)) ++ [gI ns 0] := by
      rw [List.range_succ, List.map_append]
      congr 1
      · apply List.map_congr_left
        intro i hi
        have := List.mem_range.mp hi
        rw [Nat.mod_eq_of_lt (by omega)]
      · simp
    have e2 : (List.range (m + 1)).map (fun i => gI ns i) = gI ns 0 :: (List.range m).map (fun i => gI ns (i + 1)) := by
      rw [List.range_succ_eq_map, List.map_cons, List.map_map]
      rfl
    simp only [e1, e2, List.sum_append, List.sum_cons, List.sum_nil]
    omega
theorem dif_bound {ns : List Int} (h : okMarks ns) {i : Nat} (hi : i < ns.length) : -2000000 ≤ gI (dif ns) i ∧ gI (dif ns) i ≤ 2000000 := by
  rw [dif_get hi]
  have h1 := h.2.2 _ (List.mem_of_getElem? (gI_get hi))
  have h2 := h.2.2 _ (List.mem_of_getElem? (gI_get (ns := ns) (i := (i + 1) % ns.length) (Nat.mod_lt _ (by omega))))
  omega
theorem build_ring_val (q : Bool) {ns : List Int} (h : okMarks ns) : phi_build_ring q [.int (gI ns 0), .tuple (iL (dif ns))] = .ok (.fr (.tuple (iL ns))) := by
  have h3 := h.1
  have h8 := h.2.1
  obtain ⟨en', hf, a, b, he⟩ := for_run (f := execs 0 (b0_build_ring q)) (t := .tup [2, 3]) (ds := enumD 0 (iL (dif ns))) (fun i en => ∃ a b, en = [some (.fr (.int (gI ns 0))), some (.fr (.tuple (iL (dif ns)))), a, b, none]) (en := [some (.fr (.int (gI ns 0))), some (.fr (.tuple (iL (dif ns)))), none, none, none]) (fun i d en hd ⟨a, b, he⟩ => by
    subst he
    obtain ⟨x, hx, rfl⟩ := enumD_get _ _ _ _ hd
    have hi : i < ns.length := by
      have := (List.getElem?_eq_some_iff.mp hx).1
      rw [iL_len, dif_len] at this
      exact this
    rw [iL_get (by rw [dif_len]; exact hi)] at hx
    have hx := Option.some.inj hx
    subst hx
    have hm := dif_bound h hi
    refine ⟨[some (.fr (.int (gI ns 0))), some (.fr (.tuple (iL (dif ns)))), some (.fr (.int (i : Int))), some (.fr (.int (gI (dif ns) i))), none], [some (.fr (.int (gI ns 0))), some (.fr (.tuple (iL (dif ns)))), some (.fr (.int (i : Int))), some (.fr (.int (gI (dif ns) i))), none], by rw [Nat.zero_add]; rfl, .inl ?_, _, _, rfl⟩
    have i8 : ((i : Int) == 8) = false := by simp; omega
    have w2 : wInt 2 := ⟨by decide, by decide⟩
    unfold b0_build_ring
    simp only [runD, runM, evalB, execs, exec, evalE, evalA, evalO, evalC, evalS, evalL, brw, two, three, asVar_var, asVar_cst, asVar_mv, asVar_bin, asVar_neg, asVar_nt, asVar_cmp, asVar_chain, asVar_andE, asVar_orE, asVar_ife, asVar_tupE, asVar_lstE, asVar_idx, asVar_slc, asVar_call, asVar_callM, asVar_popI, asVar_bi, asVar_bi2, asVar_isi, rdE, rdL, putE, updE, putsE, mb0, setL_at0, setL_at1, intOf, bindT, augD, toD, binD, cmpD, eqD_int, eqD_str, eqD_bool, idxD, biD, isiD, isNone, itemsD, slcD, atI_zero, atI_one, strict, ok_bind, ex_bind, no_bind, List.map_cons, List.map_nil, List.replicate_succ, List.replicate_zero, List.cons_append, List.nil_append, List.append_nil, List.getElem?_cons_zero, List.getElem?_cons_succ, List.getElem?_nil, List.set_cons_zero, List.set_cons_succ, List.length_cons, List.length_nil, List.length_map, Bool.not_false, Bool.not_true, if_true, if_false, Bool.false_eq_true, List.eraseIdx_cons_succ, List.eraseIdx_cons_zero, and_self, true_and, and_true, ite_true, ite_false, decide_true, decide_false, ne_eq, not_false_eq_true, not_true_eq_false, true_or, or_true, reduceCtorEq, asVar_lrng, asVar_rev, asVar_idx3, asVar_popE, revD, lstD, i8, w2, is_int_yes (lo := 0 - 2 * 1000000) (hi := 2 * 1000000) (k := gI (dif ns) i) (by omega) (by omega)]) ⟨none, none, rfl⟩
  subst he
  have hm := h.2.2 _ (List.mem_of_getElem? (gI_get (ns := ns) (i := 0) (by omega)))
  have hl : ¬ ((ns.length : Int) < 3) := by omega
  have hs : intsD (iL (dif ns)) = some (dif ns) := intsD_map _
  refine fnOf_eq (n := 0) ?_ (by simp)
  refine runD_rt (e1 := [some (.fr (.int (gI ns 0))), some (.fr (.tuple (iL (dif ns)))), a, b, some (.fr (.tuple (iL ns)))]) ?_
  show execs 0 (ir_build_ring q) [some (.fr (.int (gI ns 0))), some (.fr (.tuple (iL (dif ns)))), none, none, none] = _
  unfold ir_build_ring
  rw [iff_skip (e1 := [some (.fr (.int (gI ns 0))), some (.fr (.tuple (iL (dif ns)))), none, none, none]) (by simp only [runD, runM, evalB, execs, exec, evalE, evalA, evalO, evalC, evalS, evalL, brw, two, three, asVar_var, asVar_cst, asVar_mv, asVar_bin, asVar_neg, asVar_nt, asVar_cmp, asVar_chain, asVar_andE, asVar_orE, asVar_ife, asVar_tupE, asVar_lstE, asVar_idx, asVar_slc, asVar_call, asVar_callM, asVar_popI, asVar_bi, asVar_bi2, asVar_isi, rdE, rdL, putE, updE, putsE, mb0, setL_at0, setL_at1, intOf, bindT, augD, toD, binD, cmpD, eqD_int, eqD_str, eqD_bool, idxD, biD, isiD, isNone, itemsD, slcD, atI_zero, atI_one, strict, ok_bind, ex_bind, no_bind, List.map_cons, List.map_nil, List.replicate_succ, List.replicate_zero, List.cons_append, List.nil_append, List.append_nil, List.getElem?_cons_zero, List.getElem?_cons_succ, List.getElem?_nil, List.set_cons_zero, List.set_cons_succ, List.length_cons, List.length_nil, List.length_map, Bool.not_false, Bool.not_true, if_true, if_false, Bool.false_eq_true, List.eraseIdx_cons_succ, List.eraseIdx_cons_zero, and_self, true_and, and_true, ite_true, ite_false, decide_true, decide_false, ne_eq, not_false_eq_true, not_true_eq_false, true_or, or_true, reduceCtorEq, asVar_lrng, asVar_rev, asVar_idx3, asVar_popE, revD, lstD])]
  rw [ex_nx (e1 := [some (.fr (.int (gI ns 0))), some (.fr (.tuple (iL (dif ns)))), a, b, none]) (by simp only [runD, runM, evalB, execs, exec, evalE, evalA, evalO, evalC, evalS, evalL, brw, two, three, asVar_var, asVar_cst, asVar_mv, asVar_bin, asVar_neg, asVar_nt, asVar_cmp, asVar_chain, asVar_andE, asVar_orE, asVar_ife, asVar_tupE, asVar_lstE, asVar_idx, asVar_slc, asVar_call, asVar_callM, asVar_popI, asVar_bi, asVar_bi2, asVar_isi, rdE, rdL, putE, updE, putsE, mb0, setL_at0, setL_at1, intOf, bindT, augD, toD, binD, cmpD, eqD_int, eqD_str, eqD_bool, idxD, biD, isiD, isNone, itemsD, slcD, atI_zero, atI_one, strict, ok_bind, ex_bind, no_bind, List.map_cons, List.map_nil, List.replicate_succ, List.replicate_zero, List.cons_append, List.nil_append, List.append_nil, List.getElem?_cons_zero, List.getElem?_cons_succ, List.getElem?_nil, List.set_cons_zero, List.set_cons_succ, List.length_cons, List.length_nil, List.length_map, Bool.not_false, Bool.not_true, if_true, if_false, Bool.false_eq_true, List.eraseIdx_cons_succ, List.eraseIdx_cons_zero, and_self, true_and, and_true, ite_true, ite_false, decide_true, decide_false, ne_eq, not_false_eq_true, not_true_eq_false, true_or, or_true, reduceCtorEq, asVar_lrng, asVar_rev, asVar_idx3, asVar_popE, revD, lstD, hf])]
  rw [iff_skip (e1 := [some (.fr (.int (gI ns 0))), some (.fr (.tuple (iL (dif ns)))), a, b, none]) (by simp only [runD, runM, evalB, execs, exec, evalE, evalA, evalO, evalC, evalS, evalL, brw, two, three, asVar_var, asVar_cst, asVar_mv, asVar_bin, asVar_neg, asVar_nt, asVar_cmp, asVar_chain, asVar_andE, asVar_orE, asVar_ife, asVar_tupE, asVar_lstE, asVar_idx, asVar_slc, asVar_call, asVar_callM, asVar_popI, asVar_bi, asVar_bi2, asVar_isi, rdE, rdL, putE, updE, putsE, mb0, setL_at0, setL_at1, intOf, bindT, augD, toD, binD, cmpD, eqD_int, eqD_str, eqD_bool, idxD, biD, isiD, isNone, itemsD, slcD, atI_zero, atI_one, strict, ok_bind, ex_bind, no_bind, List.map_cons, List.map_nil, List.replicate_succ, List.replicate_zero, List.cons_append, List.nil_append, List.append_nil, List.getElem?_cons_zero, List.getElem?_cons_succ, List.getElem?_nil, List.set_cons_zero, List.set_cons_succ, List.length_cons, List.length_nil, List.length_map, Bool.not_false, Bool.not_true, if_true, if_false, Bool.false_eq_true, List.eraseIdx_cons_succ, List.eraseIdx_cons_zero, and_self, true_and, and_true, ite_true, ite_false, decide_true, decide_false, ne_eq, not_false_eq_true, not_true_eq_false, true_or, or_true, reduceCtorEq, asVar_lrng, asVar_rev, asVar_idx3, asVar_popE, revD, lstD, iL_len, dif_len, hl, hs, dif_sum, beq_self_eq_true])]
  rw [iff_skip (e1 := [some (.fr (.int (gI ns 0))), some (.fr (.tuple (iL (dif ns)))), a, b, none]) (by simp only [runD, runM, evalB, execs, exec, evalE, evalA, evalO, evalC, evalS, evalL, brw, two, three, asVar_var, asVar_cst, asVar_mv, asVar_bin, asVar_neg, asVar_nt, asVar_cmp, asVar_chain, asVar_andE, asVar_orE, asVar_ife, asVar_tupE, asVar_lstE, asVar_idx, asVar_slc, asVar_call, asVar_callM, asVar_popI, asVar_bi, asVar_bi2, asVar_isi, rdE, rdL, putE, updE, putsE, mb0, setL_at0, setL_at1, intOf, bindT, augD, toD, binD, cmpD, eqD_int, eqD_str, eqD_bool, idxD, biD, isiD, isNone, itemsD, slcD, atI_zero, atI_one, strict, ok_bind, ex_bind, no_bind, List.map_cons, List.map_nil, List.replicate_succ, List.replicate_zero, List.cons_append, List.nil_append, List.append_nil, List.getElem?_cons_zero, List.getElem?_cons_succ, List.getElem?_nil, List.set_cons_zero, List.set_cons_succ, List.length_cons, List.length_nil, List.length_map, Bool.not_false, Bool.not_true, if_true, if_false, Bool.false_eq_true, List.eraseIdx_cons_succ, List.eraseIdx_cons_zero, and_self, true_and, and_true, ite_true, ite_false, decide_true, decide_false, ne_eq, not_false_eq_true, not_true_eq_false, true_or, or_true, reduceCtorEq, asVar_lrng, asVar_rev, asVar_idx3, asVar_popE, revD, lstD, is_int_yes (lo := 0 - 1000000) (hi := 1000000) (k := gI ns 0) (by omega) (by omega)])]
  rw [ex_nx (e1 := [some (.fr (.int (gI ns 0))), some (.fr (.tuple (iL (dif ns)))), a, b, some (.fr (.tuple (iL ns)))]) (by simp only [runD, runM, evalB, execs, exec, evalE, evalA, evalO, evalC, evalS, evalL, brw, two, three, asVar_var, asVar_cst, asVar_mv, asVar_bin, asVar_neg, asVar_nt, asVar_cmp, asVar_chain, asVar_andE, asVar_orE, asVar_ife, asVar_tupE, asVar_lstE, asVar_idx, asVar_slc, asVar_call, asVar_callM, asVar_popI, asVar_bi, asVar_bi2, asVar_isi, rdE, rdL, putE, updE, putsE, mb0, setL_at0, setL_at1, intOf, bindT, augD, toD, binD, cmpD, eqD_int, eqD_str, eqD_bool, idxD, biD, isiD, isNone, itemsD, slcD, atI_zero, atI_one, strict, ok_bind, ex_bind, no_bind, List.map_cons, List.map_nil, List.replicate_succ, List.replicate_zero, List.cons_append, List.nil_append, List.append_nil, List.getElem?_cons_zero, List.getElem?_cons_succ, List.getElem?_nil, List.set_cons_zero, List.set_cons_succ, List.length_cons, List.length_nil, List.length_map, Bool.not_false, Bool.not_true, if_true, if_false, Bool.false_eq_true, List.eraseIdx_cons_succ, List.eraseIdx_cons_zero, and_self, true_and, and_true, ite_true, ite_false, decide_true, decide_false, ne_eq, not_false_eq_true, not_true_eq_false, true_or, or_true, reduceCtorEq, asVar_lrng, asVar_rev, asVar_idx3, asVar_popE, revD, lstD, marks_of_val (ns := ns) (by omega) (by omega)])]
  simp only [runD, runM, evalB, execs, exec, evalE, evalA, evalO, evalC, evalS, evalL, brw, two, three, asVar_var, asVar_cst, asVar_mv, asVar_bin, asVar_neg, asVar_nt, asVar_cmp, asVar_chain, asVar_andE, asVar_orE, asVar_ife, asVar_tupE, asVar_lstE, asVar_idx, asVar_slc, asVar_call, asVar_callM, asVar_popI, asVar_bi, asVar_bi2, asVar_isi, rdE, rdL, putE, updE, putsE, mb0, setL_at0, setL_at1, intOf, bindT, augD, toD, binD, cmpD, eqD_int, eqD_str, eqD_bool, idxD, biD, isiD, isNone, itemsD, slcD, atI_zero, atI_one, strict, ok_bind, ex_bind, no_bind, List.map_cons, List.map_nil, List.replicate_succ, List.replicate_zero, List.cons_append, List.nil_append, List.append_nil, List.getElem?_cons_zero, List.getElem?_cons_succ, List.getElem?_nil, List.set_cons_zero, List.set_cons_succ, List.length_cons, List.length_nil, List.length_map, Bool.not_false, Bool.not_true, if_true, if_false, Bool.false_eq_true, List.eraseIdx_cons_succ, List.eraseIdx_cons_zero, and_self, true_and, and_true, ite_true, ite_false, decide_true, decide_false, ne_eq, not_false_eq_true, not_true_eq_false, true_or, or_true, reduceCtorEq, asVar_lrng, asVar_rev, asVar_idx3, asVar_popE, revD, lstD, check_marks_val q h]
end VS

/-! Reflections, random lists of seats, shuffled lists. -/
namespace VS
open L2
open PySem (PyData)
/-! ### equality of lists of ints -/
theorem eqvAll_iL : ∀ ns ms : List Int, PyData.eqvAll (iL ns) (iL ms) = decide (ns = ms)
  | [], [] => rfl
  | [], _ :: _ => rfl
  | _ :: _, [] => rfl
  | a :: r, b :: s => by
    show (PyData.eqv (.int a) (.int b) && PyData.eqvAll (iL r) (iL s)) = _
    rw [eqvAll_iL r s]
    show ((a == b) && decide (r = s)) = decide (a :: r = b :: s)
    by_cases h : a = b <;> by_cases h2 : r = s <;> simp [h, h2]
theorem lay_iL : ∀ ns : List Int, PyData.canLayAll0 (iL ns) = true
  | [] => rfl
  | a :: r => by
    show (PyData.canLay0 (.int a) && PyData.canLayAll0 (iL r)) = true
    rw [lay_iL r]
    rfl
theorem depth_iL : ∀ ns : List Int, PyData.depthAll (iL ns) = 0
  | [] => rfl
  | a :: r => by
    show max (PyData.depth (.int a)) (PyData.depthAll (iL r)) = 0
    rw [depth_iL r]
    rfl
theorem shaped_list (ns : List Int) : PySem.SeqAt.shaped (.list (iL ns)) = true := by
  show (PyData.canLayAll0 (iL ns) && decide (PyData.depthAll (iL ns) + 1 ≤ 64)) = true
  rw [lay_iL, depth_iL]
  rfl
theorem shaped_tuple (ns : List Int) : PySem.SeqAt.shaped (.tuple (iL ns)) = true := by
  show (PyData.canLayAll0 (iL ns) && decide (PyData.depthAll (iL ns) + 1 ≤ 64)) = true
  rw [lay_iL, depth_iL]
  rfl
theorem eqD_list (ns ms : List Int) : eqD (.list (iL ns)) (.list (iL ms)) = .ok (decide (ns = ms)) := by
  show (if _ ∧ _ then Ou.ok (PyData.eqvAll (iL ns) (iL ms)) else .no) = _
  rw [if_pos ⟨shaped_list ns, shaped_list ms⟩, eqvAll_iL]
theorem eqD_tuple (ns ms : List Int) : eqD (.tuple (iL ns)) (.tuple (iL ms)) = .ok (decide (ns = ms)) := by
  show (if _ ∧ _ then Ou.ok (PyData.eqvAll (iL ns) (iL ms)) else .no) = _
  rw [if_pos ⟨shaped_tuple ns, shaped_tuple ms⟩, eqvAll_iL]
theorem eqD_nil (ns : List Int) : eqD (.list (iL ns)) (.list []) = .ok (decide (ns = [])) := eqD_list ns []
theorem eqD_nil0 : eqD (.list []) (.list []) = .ok true := (eqD_list [] []).trans (by simp)
/-! ### slices -/
theorem cut_to (xs : List D) (i : Nat) (h : i ≤ xs.length) : cutD xs none (some (i : Int)) = xs.take i := by
  have e1 : HT.sIx xs.length 0 none = 0 := rfl
  have e2 : HT.sIx xs.length xs.length (some (i : Int)) = i := by
    rw [HT.sIx_nat]
    omega
  unfold cutD
  rw [e1, e2]
  simp
theorem cut_from (xs : List D) (i : Nat) (h : i ≤ xs.length) : cutD xs (some (i : Int)) none = xs.drop i := by
  have e1 : HT.sIx xs.length 0 (some (i : Int)) = i := by
    rw [HT.sIx_nat]
    omega
  have e2 : HT.sIx xs.length xs.length none = xs.length := rfl
  unfold cutD
  rw [e1, e2]
  exact List.take_of_length_le (by simp)
/-! ### one reflection -/
def refl (ns : List Int) (i : Nat) : List Int := ns.set i (gI ns ((i + ns.length - 1) % ns.length) + gI ns ((i + 1) % ns.length) - gI ns i)
theorem refl_len {ns : List Int} {i : Nat} : (refl ns i).length = ns.length := List.length_set ..
theorem at_back {ns : List Int} {i : Nat} (h : i < ns.length) : atI (iL ns) ((i : Int) - 1) = some (.int (gI ns ((i + ns.length - 1) % ns.length))) := by
  by_cases h0 : i = 0
  · subst h0
    have hl : ns.length - 1 < (iL ns).length := by rw [iL_len]; omega
    unfold atI
    have e : ixN (iL ns).length (((0 : Nat) : Int) - 1) = some (ns.length - 1) := by
      have e1 : (iL ns).length = (ns.length - 1) + 1 := by rw [iL_len]; omega
      rw [e1]
      exact ixN_neg
    rw [e]
    show (iL ns)[ns.length - 1]? = _
    rw [iL_get (by omega)]
    have e2 : (0 + ns.length - 1) % ns.length = ns.length - 1 := by rw [Nat.zero_add]; exact Nat.mod_eq_of_lt (by omega)
    rw [e2]
  · have e : ((i : Int) - 1) = ((i - 1 : Nat) : Int) := by omega
    rw [e, at_iL' (by omega)]
    have e2 : (i + ns.length - 1) % ns.length = i - 1 := by
      have : i + ns.length - 1 = (i - 1) + ns.length := by omega
      rw [this, Nat.add_mod_right]
      exact Nat.mod_eq_of_lt (by omega)
    rw [e2]
theorem at_next {ns : List Int} {i : Nat} (h : i < ns.length) : atI (iL ns) ((((i : Int) + 1)).fmod (ns.length : Int)) = some (.int (gI ns ((i + 1) % ns.length))) := by
  have e : ((i : Int) + 1) = ((i + 1 : Nat) : Int) := by omega
  rw [e, fmod_nat]
  exact at_iL' (Nat.mod_lt _ (by omega))
theorem set_iL {ns : List Int} {i : Nat} {v : Int} (h : i < ns.length) : (iL ns).take i ++ [PyData.int v] ++ (iL ns).drop (i + 1) = iL (ns.set i v) := by
  have : ns.set i v = ns.take i ++ v :: ns.drop (i + 1) := by rw [List.set_eq_take_append_cons_drop, if_pos h]
  rw [this, iL_app, iL_take, List.append_assoc]
  congr 1
  show PyData.int v :: _ = PyData.int v :: iL (ns.drop (i + 1))
  congr 1
  exact (List.map_drop ..).symm
theorem ne_zero_len {ns : List Int} {i : Nat} (h : i < ns.length) : (((ns.length : Nat) : Int) ≠ 0) = True := eq_true (by omega)
theorem set_lens {ns : List Int} {i : Nat} (h : i < ns.length) (hz : ns.length ≤ 1000) : ((((iL ns).take i).length + (0 + 1) ≤ SZ) = True) ∧ ((((iL ns).take i ++ [PyData.int 0]).length + ((iL ns).drop (i + 1)).length ≤ SZ) = True) := by
  constructor
  · refine eq_true (le_SZ ?_)
    rw [List.length_take, iL_len]
    omega
  · refine eq_true (le_SZ ?_)
    rw [List.length_append, List.length_take, List.length_drop, iL_len]
    show _ + 1 + _ ≤ _
    omega
theorem reflected_val {ns : List Int} {i : Nat} (h : i < ns.length) (hz : ns.length ≤ 1000) : phi__law_reflected [.tuple (iL ns), .int (i : Int)] = .ok (.fr (.tuple (iL (refl ns i)))) := by
  refine fnOf_eq (n := 0) ?_ (by simp)
  have e1 := at_back h
  have e2 := at_next h
  have e3 := at_iL' h
  have e4 := cut_to (iL ns) i (by rw [iL_len]; omega)
  have e5 : cutD (iL ns) (some ((i : Int) + 1)) none = (iL ns).drop (i + 1) := by
    have : ((i : Int) + 1) = ((i + 1 : Nat) : Int) := by omega
    rw [this]
    exact cut_from _ _ (by rw [iL_len]; omega)
  have s1 : (0 + 1 ≤ SZ) = True := eq_true (le_SZ (by decide))
  have s2 : (((iL ns).take i).length + (0 + 1) ≤ SZ) = True := by
    refine eq_true (le_SZ ?_)
    rw [List.length_take, iL_len]
    omega
  have s3 : ∀ v, (((iL ns).take i ++ [PyData.int v]).length + ((iL ns).drop (i + 1)).length ≤ SZ) = True := fun v => by
    refine eq_true (le_SZ ?_)
    rw [List.length_append, List.length_take, List.length_drop, iL_len]
    show _ + 1 + _ ≤ _
    omega
  unfold ir__law_reflected
  simp only [runD, runM, evalB, execs, exec, evalE, evalA, evalO, evalC, evalS, evalL, brw, two, three, asVar_var, asVar_cst, asVar_mv, asVar_bin, asVar_neg, asVar_nt, asVar_cmp, asVar_chain, asVar_andE, asVar_orE, asVar_ife, asVar_tupE, asVar_lstE, asVar_idx, asVar_slc, asVar_call, asVar_callM, asVar_popI, asVar_bi, asVar_bi2, asVar_isi, rdE, rdL, putE, updE, putsE, mb0, setL_at0, setL_at1, intOf, bindT, augD, toD, binD, cmpD, eqD_int, eqD_str, eqD_bool, idxD, biD, isiD, isNone, itemsD, slcD, atI_zero, atI_one, strict, ok_bind, ex_bind, no_bind, List.map_cons, List.map_nil, List.replicate_succ, List.replicate_zero, List.cons_append, List.nil_append, List.append_nil, List.getElem?_cons_zero, List.getElem?_cons_succ, List.getElem?_nil, List.set_cons_zero, List.set_cons_succ, List.length_cons, List.length_nil, List.length_map, Bool.not_false, Bool.not_true, if_true, if_false, Bool.false_eq_true, List.eraseIdx_cons_succ, List.eraseIdx_cons_zero, and_self, true_and, and_true, ite_true, ite_false, decide_true, decide_false, ne_eq, not_false_eq_true, not_true_eq_false, true_or, or_true, reduceCtorEq, asVar_lrng, asVar_rev, asVar_idx3, asVar_popE, revD, lstD, iL_len, ne_zero_len h, e1, e2, e3, e4, e5, s1, s2, s3, set_iL h]
  rfl
theorem reflect_at_val {ns : List Int} {i : Nat} (h : i < ns.length) (hz : ns.length ≤ 1000) : phi_reflect_at [.tuple (iL ns), .int (i : Int)] = .ok (.fr (.tuple (iL (refl ns i)))) := by
  refine fnOf_eq (n := 0) ?_ (by simp)
  have e1 := at_back h
  have e2 := at_next h
  have e3 := at_iL' h
  have e4 := cut_to (iL ns) i (by rw [iL_len]; omega)
  have e5 : cutD (iL ns) (some ((i : Int) + 1)) none = (iL ns).drop (i + 1) := by
    have : ((i : Int) + 1) = ((i + 1 : Nat) : Int) := by omega
    rw [this]
    exact cut_from _ _ (by rw [iL_len]; omega)
  have s1 : (0 + 1 ≤ SZ) = True := eq_true (le_SZ (by decide))
  have s2 : (((iL ns).take i).length + (0 + 1) ≤ SZ) = True := by
    refine eq_true (le_SZ ?_)
    rw [List.length_take, iL_len]
    omega
  have s3 : ∀ v, (((iL ns).take i ++ [PyData.int v]).length + ((iL ns).drop (i + 1)).length ≤ SZ) = True := fun v => by
    refine eq_true (le_SZ ?_)
    rw [List.length_append, List.length_take, List.length_drop, iL_len]
    show _ + 1 + _ ≤ _
    omega
  unfold ir_reflect_at
  simp only [runD, runM, evalB, execs, exec, evalE, evalA, evalO, evalC, evalS, evalL, brw, two, three, asVar_var, asVar_cst, asVar_mv, asVar_bin, asVar_neg, asVar_nt, asVar_cmp, asVar_chain, asVar_andE, asVar_orE, asVar_ife, asVar_tupE, asVar_lstE, asVar_idx, asVar_slc, asVar_call, asVar_callM, asVar_popI, asVar_bi, asVar_bi2, asVar_isi, rdE, rdL, putE, updE, putsE, mb0, setL_at0, setL_at1, intOf, bindT, augD, toD, binD, cmpD, eqD_int, eqD_str, eqD_bool, idxD, biD, isiD, isNone, itemsD, slcD, atI_zero, atI_one, strict, ok_bind, ex_bind, no_bind, List.map_cons, List.map_nil, List.replicate_succ, List.replicate_zero, List.cons_append, List.nil_append, List.append_nil, List.getElem?_cons_zero, List.getElem?_cons_succ, List.getElem?_nil, List.set_cons_zero, List.set_cons_succ, List.length_cons, List.length_nil, List.length_map, Bool.not_false, Bool.not_true, if_true, if_false, Bool.false_eq_true, List.eraseIdx_cons_succ, List.eraseIdx_cons_zero, and_self, true_and, and_true, ite_true, ite_false, decide_true, decide_false, ne_eq, not_false_eq_true, not_true_eq_false, true_or, or_true, reduceCtorEq, asVar_lrng, asVar_rev, asVar_idx3, asVar_popE, revD, lstD, iL_len, ne_zero_len h, e1, e2, e3, e4, e5, s1, s2, s3, set_iL h]
  rfl
/-! ### many -/
def reflAll (ns : List Int) (is : List Nat) : List Int := is.foldl refl ns
theorem reflAll_len : ∀ {is : List Nat} {ns : List Int}, (reflAll ns is).length = ns.length
  | [], _ => rfl
  | i :: r, ns => by
    show (reflAll (refl ns i) r).length = _
    rw [reflAll_len, refl_len]
def nats (is : List Nat) : List Int := is.map fun (i : Nat) => (i : Int)
abbrev nL (is : List Nat) : List D := iL (nats is)
theorem nL_len {is : List Nat} : (nL is).length = is.length := by simp [iL, nats]
theorem nL_cons {i : Nat} {is : List Nat} : nL (i :: is) = .int (i : Int) :: nL is := rfl
theorem nL_app {is js : List Nat} : nL (is ++ js) = nL is ++ nL js := by simp [iL, nats]
theorem all_reflected_val {ns : List Int} {is : List Nat} (h : ∀ i ∈ is, i < ns.length) (hz : ns.length ≤ 1000) : phi__law_all_reflected [.tuple (iL ns), .list (nL is)] = .ok (.fr (.tuple (iL (reflAll ns is)))) := by
  refine fnOf_eq (n := 0) ?_ (by simp)
  have main : ∀ (js : List Nat) (ms : List Int) (x : Option Sl), ms.length = ns.length → (∀ i ∈ js, i < ns.length) → ∃ y, forGo (execs 0 b0__law_all_reflected) (.one 2) (nL js) [some (.fr (.tuple (iL ms))), some (.fr (.list (nL is))), x] = .ok (.nx [some (.fr (.tuple (iL (reflAll ms js)))), some (.fr (.list (nL is))), y]) := by
    intro js
    induction js with
    | nil => exact fun ms x hl hj => ⟨x, rfl⟩
    | cons j r ih =>
      intro ms x hl hj
      have hj0 : j < ms.length := by rw [hl]; exact hj j (List.mem_cons_self ..)
      obtain ⟨y, e⟩ := ih (refl ms j) (some (.fr (.int (j : Int)))) (refl_len.trans hl) fun i hi => hj i (List.mem_cons_of_mem _ hi)
      refine ⟨y, ?_⟩
      rw [nL_cons]
      unfold forGo b0__law_all_reflected
      simp only [runD, runM, evalB, execs, exec, evalE, evalA, evalO, evalC, evalS, evalL, brw, two, three, asVar_var, asVar_cst, asVar_mv, asVar_bin, asVar_neg, asVar_nt, asVar_cmp, asVar_chain, asVar_andE, asVar_orE, asVar_ife, asVar_tupE, asVar_lstE, asVar_idx, asVar_slc, asVar_call, asVar_callM, asVar_popI, asVar_bi, asVar_bi2, asVar_isi, rdE, rdL, putE, updE, putsE, mb0, setL_at0, setL_at1, intOf, bindT, augD, toD, binD, cmpD, eqD_int, eqD_str, eqD_bool, idxD, biD, isiD, isNone, itemsD, slcD, atI_zero, atI_one, strict, ok_bind, ex_bind, no_bind, List.map_cons, List.map_nil, List.replicate_succ, List.replicate_zero, List.cons_append, List.nil_append, List.append_nil, List.getElem?_cons_zero, List.getElem?_cons_succ, List.getElem?_nil, List.set_cons_zero, List.set_cons_succ, List.length_cons, List.length_nil, List.length_map, Bool.not_false, Bool.not_true, if_true, if_false, Bool.false_eq_true, List.eraseIdx_cons_succ, List.eraseIdx_cons_zero, and_self, true_and, and_true, ite_true, ite_false, decide_true, decide_false, ne_eq, not_false_eq_true, not_true_eq_false, true_or, or_true, reduceCtorEq, asVar_lrng, asVar_rev, asVar_idx3, asVar_popE, revD, lstD, reflected_val hj0 (by omega : ms.length ≤ 1000)]
      exact e
  obtain ⟨y, e⟩ := main is ns none rfl h
  unfold ir__law_all_reflected
  simp only [runD, runM, evalB, execs, exec, evalE, evalA, evalO, evalC, evalS, evalL, brw, two, three, asVar_var, asVar_cst, asVar_mv, asVar_bin, asVar_neg, asVar_nt, asVar_cmp, asVar_chain, asVar_andE, asVar_orE, asVar_ife, asVar_tupE, asVar_lstE, asVar_idx, asVar_slc, asVar_call, asVar_callM, asVar_popI, asVar_bi, asVar_bi2, asVar_isi, rdE, rdL, putE, updE, putsE, mb0, setL_at0, setL_at1, intOf, bindT, augD, toD, binD, cmpD, eqD_int, eqD_str, eqD_bool, idxD, biD, isiD, isNone, itemsD, slcD, atI_zero, atI_one, strict, ok_bind, ex_bind, no_bind, List.map_cons, List.map_nil, List.replicate_succ, List.replicate_zero, List.cons_append, List.nil_append, List.append_nil, List.getElem?_cons_zero, List.getElem?_cons_succ, List.getElem?_nil, List.set_cons_zero, List.set_cons_succ, List.length_cons, List.length_nil, List.length_map, Bool.not_false, Bool.not_true, if_true, if_false, Bool.false_eq_true, List.eraseIdx_cons_succ, List.eraseIdx_cons_zero, and_self, true_and, and_true, ite_true, ite_false, decide_true, decide_false, ne_eq, not_false_eq_true, not_true_eq_false, true_or, or_true, reduceCtorEq, asVar_lrng, asVar_rev, asVar_idx3, asVar_popE, revD, lstD, e]
/-! ### random seats -/
theorem seats_ok {ms : List D} {L k : Nat} (hm : okD ms) (h1 : 0 < L) (h2 : L ≤ 1000) (hk : k ≤ 1000) : ∃ is ms', phi__law_seats ms [.int (L : Int), .int (k : Int)] = .ok (.list (nL is), ms') ∧ okD ms' ∧ (∀ i ∈ is, i < L) ∧ is.length ≤ k := by
  obtain ⟨r, ms1, e1, m1, l1, u1⟩ := below_ok hm (L := (k : Int) + 1) (by omega) (by omega)
  have hrz : r.toNat ≤ SZ := le_SZ (by omega)
  obtain ⟨xs, s', E1, P1⟩ := lc_run (α := List D) (elt := .callM phi__law_below 0 (.cons (.var 1) .nil)) (tg := .one 3) (src := .rng1 (.callM phi__law_below 0 (.cons (.bin .Add (.var 2) (.cst (.int 1))) (.nil)))) (cond := .none) (vs := [3]) (en := [some (.mb ms), some (.fr (.int (L : Int))), some (.fr (.int (k : Int))), none]) (items := rngD 0 r.toNat)
    (fun ms => [some (.mb ms), some (.fr (.int (L : Int))), some (.fr (.int (k : Int))), none]) (fun i acc ms => okD ms ∧ ∃ is : List Nat, acc = nL is ∧ is.length = i ∧ ∀ j ∈ is, j < L) (s0 := ms1) (evalS_rngI (by simp only [runD, runM, evalB, execs, exec, evalE, evalA, evalO, evalC, evalS, evalL, brw, two, three, asVar_var, asVar_cst, asVar_mv, asVar_bin, asVar_neg, asVar_nt, asVar_cmp, asVar_chain, asVar_andE, asVar_orE, asVar_ife, asVar_tupE, asVar_lstE, asVar_idx, asVar_slc, asVar_call, asVar_callM, asVar_popI, asVar_bi, asVar_bi2, asVar_isi, rdE, rdL, putE, updE, putsE, mb0, setL_at0, setL_at1, intOf, bindT, augD, toD, binD, cmpD, eqD_int, eqD_str, eqD_bool, idxD, biD, isiD, isNone, itemsD, slcD, atI_zero, atI_one, strict, ok_bind, ex_bind, no_bind, List.map_cons, List.map_nil, List.replicate_succ, List.replicate_zero, List.cons_append, List.nil_append, List.append_nil, List.getElem?_cons_zero, List.getElem?_cons_succ, List.getElem?_nil, List.set_cons_zero, List.set_cons_succ, List.length_cons, List.length_nil, List.length_map, Bool.not_false, Bool.not_true, if_true, if_false, Bool.false_eq_true, List.eraseIdx_cons_succ, List.eraseIdx_cons_zero, and_self, true_and, and_true, ite_true, ite_false, decide_true, decide_false, ne_eq, not_false_eq_true, not_true_eq_false, true_or, or_true, reduceCtorEq, asVar_lrng, asVar_rev, asVar_idx3, asVar_popE, revD, lstD, e1]) (by omega) (by omega)) (by rw [rngD_len]; exact hrz)
    (fun i z acc s hi ⟨q1, ns, q2, q3, q4⟩ => by
      obtain ⟨v, ms', w1, w2, w3, w4⟩ := below_ok q1 (L := (L : Int)) (by omega) (by omega)
      refine ⟨_, true, _, rfl, rfl, fun _ => ⟨.fr (.int v), [some (.mb ms'), some (.fr (.int (L : Int))), some (.fr (.int (k : Int))), some (.fr z)], ms', by simp only [wipeE, List.foldr, runD, runM, evalB, execs, exec, evalE, evalA, evalO, evalC, evalS, evalL, brw, two, three, asVar_var, asVar_cst, asVar_mv, asVar_bin, asVar_neg, asVar_nt, asVar_cmp, asVar_chain, asVar_andE, asVar_orE, asVar_ife, asVar_tupE, asVar_lstE, asVar_idx, asVar_slc, asVar_call, asVar_callM, asVar_popI, asVar_bi, asVar_bi2, asVar_isi, rdE, rdL, putE, updE, putsE, mb0, setL_at0, setL_at1, intOf, bindT, augD, toD, binD, cmpD, eqD_int, eqD_str, eqD_bool, idxD, biD, isiD, isNone, itemsD, slcD, atI_zero, atI_one, strict, ok_bind, ex_bind, no_bind, List.map_cons, List.map_nil, List.replicate_succ, List.replicate_zero, List.cons_append, List.nil_append, List.append_nil, List.getElem?_cons_zero, List.getElem?_cons_succ, List.getElem?_nil, List.set_cons_zero, List.set_cons_succ, List.length_cons, List.length_nil, List.length_map, Bool.not_false, Bool.not_true, if_true, if_false, Bool.false_eq_true, List.eraseIdx_cons_succ, List.eraseIdx_cons_zero, and_self, true_and, and_true, ite_true, ite_false, decide_true, decide_false, ne_eq, not_false_eq_true, not_true_eq_false, true_or, or_true, reduceCtorEq, asVar_lrng, asVar_rev, asVar_idx3, asVar_popE, revD, lstD, w1], ⟨w2, ns ++ [v.toNat], ?_, by simp [q3], fun j hj => ?_⟩, rfl⟩, fun z => by cases z⟩
      · rw [q2, nL_app]
        have : v = ((v.toNat : Nat) : Int) := by omega
        rw [this]
        rfl
      · rcases List.mem_append.mp hj with hj | hj
        · exact q4 j hj
        · rw [List.mem_singleton.mp hj]; omega)
    ⟨m1, [], rfl, rfl, fun j hj => by cases hj⟩
  obtain ⟨hs', is, ex, hl, hb⟩ := P1
  rw [rngD_len] at hl
  refine ⟨is, s', fmOf_eq (n := 0) ?_ (by simp), hs', hb, by omega⟩
  have E1 : evalE c0__law_seats _ = _ := E1
  unfold ir__law_seats
  simp only [runD, runM, evalB, execs, exec, evalE, evalA, evalO, evalC, evalS, evalL, brw, two, three, asVar_var, asVar_cst, asVar_mv, asVar_bin, asVar_neg, asVar_nt, asVar_cmp, asVar_chain, asVar_andE, asVar_orE, asVar_ife, asVar_tupE, asVar_lstE, asVar_idx, asVar_slc, asVar_call, asVar_callM, asVar_popI, asVar_bi, asVar_bi2, asVar_isi, rdE, rdL, putE, updE, putsE, mb0, setL_at0, setL_at1, intOf, bindT, augD, toD, binD, cmpD, eqD_int, eqD_str, eqD_bool, idxD, biD, isiD, isNone, itemsD, slcD, atI_zero, atI_one, strict, ok_bind, ex_bind, no_bind, List.map_cons, List.map_nil, List.replicate_succ, List.replicate_zero, List.cons_append, List.nil_append, List.append_nil, List.getElem?_cons_zero, List.getElem?_cons_succ, List.getElem?_nil, List.set_cons_zero, List.set_cons_succ, List.length_cons, List.length_nil, List.length_map, Bool.not_false, Bool.not_true, if_true, if_false, Bool.false_eq_true, List.eraseIdx_cons_succ, List.eraseIdx_cons_zero, and_self, true_and, and_true, ite_true, ite_false, decide_true, decide_false, ne_eq, not_false_eq_true, not_true_eq_false, true_or, or_true, reduceCtorEq, asVar_lrng, asVar_rev, asVar_idx3, asVar_popE, revD, lstD, E1, c0__law_seats_v, ex, backE, List.foldr]
/-! ### shuffled -/
theorem popL_nat {xs : List D} {i : Nat} (h : i < xs.length) : popL (i : Int) xs = some (xs[i], xs.eraseIdx i) := by
  unfold popL
  rw [ixN_nat h]
  simp only [List.getElem?_eq_getElem h]
theorem iL_erase {ns : List Int} {i : Nat} : (iL ns).eraseIdx i = iL (ns.eraseIdx i) := (map_erase _ ns i).symm
theorem perm_erase {α : Type} {xs : List α} {i : Nat} (h : i < xs.length) : (xs[i] :: xs.eraseIdx i).Perm xs := by
  induction xs generalizing i with
  | nil => cases h
  | cons a r ih =>
    cases i with
    | zero => exact List.Perm.refl _
    | succ i =>
      have := ih (i := i) (by simpa using h)
      exact (List.Perm.swap _ _ _).trans (this.cons a)
theorem shuffled_ok {ms : List D} {ns : List Int} (hm : okD ms) (hz : ns.length ≤ 1000) : ∃ ks ms', phi__law_shuffled ms [.list (iL ns)] = .ok (.list (iL ks), ms') ∧ okD ms' ∧ ks.Perm ns := by
  have main : ∀ (N : Nat) (ms : List D) (ps rs : List Int), okD ms → ps.length < N → rs.length + ps.length ≤ 1000 → ∃ ms' ks, whlGo (evalB (.cmp .NotEq (.var 2) (.lstE .nil))) (execs 1001 b0__law_shuffled) N [some (.mb ms), some (.fr (.list (iL ns))), some (.own (iL ps)), some (.own (iL rs))] = .ok (.nx [some (.mb ms'), some (.fr (.list (iL ns))), some (.own []), some (.own (iL ks))]) ∧ okD ms' ∧ ks.Perm (rs ++ ps) := by
    intro N
    induction N with
    | zero => exact fun ms ps rs _ h _ => absurd h (Nat.not_lt_zero _)
    | succ N ih =>
      intro ms ps rs hm hN hl
      have eq0 := eqD_nil ps
      have s0 : (0 ≤ SZ) = True := eq_true (Nat.zero_le _)
      by_cases h0 : ps = []
      · subst h0
        refine ⟨ms, rs, ?_, hm, by rw [List.append_nil]⟩
        unfold whlGo
        simp only [runD, runM, evalB, execs, exec, evalE, evalA, evalO, evalC, evalS, evalL, brw, two, three, asVar_var, asVar_cst, asVar_mv, asVar_bin, asVar_neg, asVar_nt, asVar_cmp, asVar_chain, asVar_andE, asVar_orE, asVar_ife, asVar_tupE, asVar_lstE, asVar_idx, asVar_slc, asVar_call, asVar_callM, asVar_popI, asVar_bi, asVar_bi2, asVar_isi, rdE, rdL, putE, updE, putsE, mb0, setL_at0, setL_at1, intOf, bindT, augD, toD, binD, cmpD, eqD_int, eqD_str, eqD_bool, idxD, biD, isiD, isNone, itemsD, slcD, atI_zero, atI_one, strict, ok_bind, ex_bind, no_bind, List.map_cons, List.map_nil, List.replicate_succ, List.replicate_zero, List.cons_append, List.nil_append, List.append_nil, List.getElem?_cons_zero, List.getElem?_cons_succ, List.getElem?_nil, List.set_cons_zero, List.set_cons_succ, List.length_cons, List.length_nil, List.length_map, Bool.not_false, Bool.not_true, if_true, if_false, Bool.false_eq_true, List.eraseIdx_cons_succ, List.eraseIdx_cons_zero, and_self, true_and, and_true, ite_true, ite_false, decide_true, decide_false, ne_eq, not_false_eq_true, not_true_eq_false, true_or, or_true, reduceCtorEq, asVar_lrng, asVar_rev, asVar_idx3, asVar_popE, revD, lstD, s0, eqD_nil0, show iL ([] : List Int) = [] from rfl]
      · have hpos : 0 < ps.length := List.length_pos_iff.mpr h0
        obtain ⟨r, ms1, e1, m1, l1, u1⟩ := below_ok hm (L := (ps.length : Int)) (by omega) (by omega)
        have hr : r = ((r.toNat : Nat) : Int) := by omega
        have hlt : r.toNat < ps.length := by omega
        obtain ⟨ms', ks, h1, h2, h3⟩ := ih ms1 (ps.eraseIdx r.toNat) (rs ++ [ps[r.toNat]]) m1 (by rw [List.length_eraseIdx_of_lt hlt]; omega) (by rw [List.length_eraseIdx_of_lt hlt, List.length_append]; show _ + 1 + _ ≤ _; omega)
        refine ⟨ms', ks, ?_, h2, h3.trans ?_⟩
        · have e2 : popA r (iL ps) = .ok (.int ps[r.toNat], iL (ps.eraseIdx r.toNat)) := by
            unfold popA
            have e3 : popL r (iL ps) = some (.int ps[r.toNat], iL (ps.eraseIdx r.toNat)) := by
              have e4 := popL_nat (xs := iL ps) (i := r.toNat) (by rw [iL_len]; exact hlt)
              rw [← hr, iL_erase] at e4
              rw [e4]
              congr 2
              exact List.getElem_map ..
            rw [if_pos (le_SZ (by rw [iL_len]; omega)), e3]
          have hne : decide (ps = []) = false := decide_eq_false h0
          rw [hne] at eq0
          have sz : (rs.length < SZ) = True := eq_true (by have : SZ = 16777216 := SZ_lit; omega)
          have ap : iL rs ++ [PyData.int ps[r.toNat]] = iL (rs ++ [ps[r.toNat]]) := (iL_app (xs := rs) (ys := [ps[r.toNat]])).symm
          unfold whlGo b0__law_shuffled
          simp only [runD, runM, evalB, execs, exec, evalE, evalA, evalO, evalC, evalS, evalL, brw, two, three, asVar_var, asVar_cst, asVar_mv, asVar_bin, asVar_neg, asVar_nt, asVar_cmp, asVar_chain, asVar_andE, asVar_orE, asVar_ife, asVar_tupE, asVar_lstE, asVar_idx, asVar_slc, asVar_call, asVar_callM, asVar_popI, asVar_bi, asVar_bi2, asVar_isi, rdE, rdL, putE, updE, putsE, mb0, setL_at0, setL_at1, intOf, bindT, augD, toD, binD, cmpD, eqD_int, eqD_str, eqD_bool, idxD, biD, isiD, isNone, itemsD, slcD, atI_zero, atI_one, strict, ok_bind, ex_bind, no_bind, List.map_cons, List.map_nil, List.replicate_succ, List.replicate_zero, List.cons_append, List.nil_append, List.append_nil, List.getElem?_cons_zero, List.getElem?_cons_succ, List.getElem?_nil, List.set_cons_zero, List.set_cons_succ, List.length_cons, List.length_nil, List.length_map, Bool.not_false, Bool.not_true, if_true, if_false, Bool.false_eq_true, List.eraseIdx_cons_succ, List.eraseIdx_cons_zero, and_self, true_and, and_true, ite_true, ite_false, decide_true, decide_false, ne_eq, not_false_eq_true, not_true_eq_false, true_or, or_true, reduceCtorEq, asVar_lrng, asVar_rev, asVar_idx3, asVar_popE, revD, lstD, s0, eq0, iL_len, e1, e2, sz, ap]
          exact h1
        · rw [List.append_assoc]
          exact (List.Perm.refl rs).append (perm_erase hlt)
  obtain ⟨ms', ks, h1, h2, h3⟩ := main 1001 ms ns [] hm (by omega) (by simpa using hz)
  refine ⟨ks, ms', fmOf_eq (n := 1001) (runM_rt (v := .own (iL ks)) (e1 := [some (.fr (.list (iL ns))), some (.own []), none]) ?_) (by simp), h2, by simpa using h3⟩
  have s0 : (0 ≤ SZ) = True := eq_true (Nat.zero_le _)
  rw [show iL ([] : List Int) = [] from rfl] at h1
  unfold ir__law_shuffled
  refine Eq.trans (ex_nx (e1 := ?e1) ?h1) ?g1
  case h1 => first | (simp only [runD, runM, evalB, execs, exec, evalE, evalA, evalO, evalC, evalS, evalL, brw, two, three, asVar_var, asVar_cst, asVar_mv, asVar_bin, asVar_neg, asVar_nt, asVar_cmp, asVar_chain, asVar_andE, asVar_orE, asVar_ife, asVar_tupE, asVar_lstE, asVar_idx, asVar_slc, asVar_call, asVar_callM, asVar_popI, asVar_bi, asVar_bi2, asVar_isi, rdE, rdL, putE, updE, putsE, mb0, setL_at0, setL_at1, intOf, bindT, augD, toD, binD, cmpD, eqD_int, eqD_str, eqD_bool, idxD, biD, isiD, isNone, itemsD, slcD, atI_zero, atI_one, strict, ok_bind, ex_bind, no_bind, List.map_cons, List.map_nil, List.replicate_succ, List.replicate_zero, List.cons_append, List.nil_append, List.append_nil, List.getElem?_cons_zero, List.getElem?_cons_succ, List.getElem?_nil, List.set_cons_zero, List.set_cons_succ, List.length_cons, List.length_nil, List.length_map, Bool.not_false, Bool.not_true, if_true, if_false, Bool.false_eq_true, List.eraseIdx_cons_succ, List.eraseIdx_cons_zero, and_self, true_and, and_true, ite_true, ite_false, decide_true, decide_false, ne_eq, not_false_eq_true, not_true_eq_false, true_or, or_true, reduceCtorEq, asVar_lrng, asVar_rev, asVar_idx3, asVar_popE, revD, lstD]; done) | (simp only [runD, runM, evalB, execs, exec, evalE, evalA, evalO, evalC, evalS, evalL, brw, two, three, asVar_var, asVar_cst, asVar_mv, asVar_bin, asVar_neg, asVar_nt, asVar_cmp, asVar_chain, asVar_andE, asVar_orE, asVar_ife, asVar_tupE, asVar_lstE, asVar_idx, asVar_slc, asVar_call, asVar_callM, asVar_popI, asVar_bi, asVar_bi2, asVar_isi, rdE, rdL, putE, updE, putsE, mb0, setL_at0, setL_at1, intOf, bindT, augD, toD, binD, cmpD, eqD_int, eqD_str, eqD_bool, idxD, biD, isiD, isNone, itemsD, slcD, atI_zero, atI_one, strict, ok_bind, ex_bind, no_bind, List.map_cons, List.map_nil, List.replicate_succ, List.replicate_zero, List.cons_append, List.nil_append, List.append_nil, List.getElem?_cons_zero, List.getElem?_cons_succ, List.getElem?_nil, List.set_cons_zero, List.set_cons_succ, List.length_cons, List.length_nil, List.length_map, Bool.not_false, Bool.not_true, if_true, if_false, Bool.false_eq_true, List.eraseIdx_cons_succ, List.eraseIdx_cons_zero, and_self, true_and, and_true, ite_true, ite_false, decide_true, decide_false, ne_eq, not_false_eq_true, not_true_eq_false, true_or, or_true, reduceCtorEq, asVar_lrng, asVar_rev, asVar_idx3, asVar_popE, revD, lstD]; rfl)
  refine Eq.trans (ex_nx (e1 := ?e2) ?h2) ?g2
  case h2 => first | (simp only [runD, runM, evalB, execs, exec, evalE, evalA, evalO, evalC, evalS, evalL, brw, two, three, asVar_var, asVar_cst, asVar_mv, asVar_bin, asVar_neg, asVar_nt, asVar_cmp, asVar_chain, asVar_andE, asVar_orE, asVar_ife, asVar_tupE, asVar_lstE, asVar_idx, asVar_slc, asVar_call, asVar_callM, asVar_popI, asVar_bi, asVar_bi2, asVar_isi, rdE, rdL, putE, updE, putsE, mb0, setL_at0, setL_at1, intOf, bindT, augD, toD, binD, cmpD, eqD_int, eqD_str, eqD_bool, idxD, biD, isiD, isNone, itemsD, slcD, atI_zero, atI_one, strict, ok_bind, ex_bind, no_bind, List.map_cons, List.map_nil, List.replicate_succ, List.replicate_zero, List.cons_append, List.nil_append, List.append_nil, List.getElem?_cons_zero, List.getElem?_cons_succ, List.getElem?_nil, List.set_cons_zero, List.set_cons_succ, List.length_cons, List.length_nil, List.length_map, Bool.not_false, Bool.not_true, if_true, if_false, Bool.false_eq_true, List.eraseIdx_cons_succ, List.eraseIdx_cons_zero, and_self, true_and, and_true, ite_true, ite_false, decide_true, decide_false, ne_eq, not_false_eq_true, not_true_eq_false, true_or, or_true, reduceCtorEq, asVar_lrng, asVar_rev, asVar_idx3, asVar_popE, revD, lstD, s0]; done) | (simp only [runD, runM, evalB, execs, exec, evalE, evalA, evalO, evalC, evalS, evalL, brw, two, three, asVar_var, asVar_cst, asVar_mv, asVar_bin, asVar_neg, asVar_nt, asVar_cmp, asVar_chain, asVar_andE, asVar_orE, asVar_ife, asVar_tupE, asVar_lstE, asVar_idx, asVar_slc, asVar_call, asVar_callM, asVar_popI, asVar_bi, asVar_bi2, asVar_isi, rdE, rdL, putE, updE, putsE, mb0, setL_at0, setL_at1, intOf, bindT, augD, toD, binD, cmpD, eqD_int, eqD_str, eqD_bool, idxD, biD, isiD, isNone, itemsD, slcD, atI_zero, atI_one, strict, ok_bind, ex_bind, no_bind, List.map_cons, List.map_nil, List.replicate_succ, List.replicate_zero, List.cons_append, List.nil_append, List.append_nil, List.getElem?_cons_zero, List.getElem?_cons_succ, List.getElem?_nil, List.set_cons_zero, List.set_cons_succ, List.length_cons, List.length_nil, List.length_map, Bool.not_false, Bool.not_true, if_true, if_false, Bool.false_eq_true, List.eraseIdx_cons_succ, List.eraseIdx_cons_zero, and_self, true_and, and_true, ite_true, ite_false, decide_true, decide_false, ne_eq, not_false_eq_true, not_true_eq_false, true_or, or_true, reduceCtorEq, asVar_lrng, asVar_rev, asVar_idx3, asVar_popE, revD, lstD, s0]; rfl)
  refine (ex_nx (by rw [exec]; exact h1)).trans ?_
  simp only [runD, runM, evalB, execs, exec, evalE, evalA, evalO, evalC, evalS, evalL, brw, two, three, asVar_var, asVar_cst, asVar_mv, asVar_bin, asVar_neg, asVar_nt, asVar_cmp, asVar_chain, asVar_andE, asVar_orE, asVar_ife, asVar_tupE, asVar_lstE, asVar_idx, asVar_slc, asVar_call, asVar_callM, asVar_popI, asVar_bi, asVar_bi2, asVar_isi, rdE, rdL, putE, updE, putsE, mb0, setL_at0, setL_at1, intOf, bindT, augD, toD, binD, cmpD, eqD_int, eqD_str, eqD_bool, idxD, biD, isiD, isNone, itemsD, slcD, atI_zero, atI_one, strict, ok_bind, ex_bind, no_bind, List.map_cons, List.map_nil, List.replicate_succ, List.replicate_zero, List.cons_append, List.nil_append, List.append_nil, List.getElem?_cons_zero, List.getElem?_cons_succ, List.getElem?_nil, List.set_cons_zero, List.set_cons_succ, List.length_cons, List.length_nil, List.length_map, Bool.not_false, Bool.not_true, if_true, if_false, Bool.false_eq_true, List.eraseIdx_cons_succ, List.eraseIdx_cons_zero, and_self, true_and, and_true, ite_true, ite_false, decide_true, decide_false, ne_eq, not_false_eq_true, not_true_eq_false, true_or, or_true, reduceCtorEq, asVar_lrng, asVar_rev, asVar_idx3, asVar_popE, revD, lstD]
end VS

set_option profiler true
set_option profiler.threshold 800
/-! Another ring. -/
namespace VS
open L2
open PySem (PyData)
noncomputable def other_tail : Sxs := .cons (.ret (.ife (.andE (.cmp .LtE (.bi .max1 (.var 3)) (.cst (.int 1000000))) (.cmp .GtE (.bi .min1 (.var 3)) (.bin .Sub (.cst (.int 0)) (.cst (.int 1000000))))) (.var 3) (.var 1)))
    (.nil)
theorem intsD_iL (ns : List Int) : intsD (iL ns) = some ns := intsD_map ns
theorem other_fin {ms : List D} {ns qs : List Int} {a2 a4 a5 a6 a7 a8 : Option Sl} (hn : okMarks ns) (hl : qs.length = ns.length) :
    ∃ ns', execs 0 other_tail [some (.mb ms), some (.fr (.tuple (iL ns))), a2, some (.fr (.tuple (iL qs))), a4, a5, a6, a7, a8] = .ok (.rt (.fr (.tuple (iL ns'))) [some (.mb ms), some (.fr (.tuple (iL ns))), a2, some (.fr (.tuple (iL qs))), a4, a5, a6, a7, a8]) ∧ okMarks ns' := by
  cases qs with
  | nil => have := hn.1; simp at hl; omega
  | cons q r =>
    obtain ⟨_, b1, b2⟩ := fold_max r q
    obtain ⟨_, c1, c2⟩ := fold_min r q
    by_cases h1 : r.foldl max q ≤ 1000000
    · by_cases h2 : (0 : Int) - 1000000 ≤ r.foldl min q
      · refine ⟨q :: r, ?_, hl ▸ hn.1, hl ▸ hn.2.1, fun m hm => ?_⟩
        · unfold other_tail
          simp only [runD, runM, evalB, execs, exec, evalE, evalA, evalO, evalC, evalS, evalL, brw, two, three, asVar_var, asVar_cst, asVar_mv, asVar_bin, asVar_neg, asVar_nt, asVar_cmp, asVar_chain, asVar_andE, asVar_orE, asVar_ife, asVar_tupE, asVar_lstE, asVar_idx, asVar_slc, asVar_call, asVar_callM, asVar_popI, asVar_bi, asVar_bi2, asVar_isi, rdE, rdL, putE, updE, putsE, mb0, setL_at0, setL_at1, intOf, bindT, augD, toD, binD, cmpD, eqD_int, eqD_str, eqD_bool, idxD, biD, isiD, isNone, itemsD, slcD, atI_zero, atI_one, strict, ok_bind, ex_bind, no_bind, List.map_cons, List.map_nil, List.replicate_succ, List.replicate_zero, List.cons_append, List.nil_append, List.append_nil, List.getElem?_cons_zero, List.getElem?_cons_succ, List.getElem?_nil, List.set_cons_zero, List.set_cons_succ, List.length_cons, List.length_nil, List.length_map, Bool.not_false, Bool.not_true, if_true, if_false, Bool.false_eq_true, List.eraseIdx_cons_succ, List.eraseIdx_cons_zero, and_self, true_and, and_true, ite_true, ite_false, decide_true, decide_false, ne_eq, not_false_eq_true, not_true_eq_false, true_or, or_true, reduceCtorEq, asVar_lrng, asVar_rev, asVar_idx3, asVar_popE, revD, lstD, intsD_iL, h1, h2]
        · rcases List.mem_cons.mp hm with e | e
          · subst e; exact ⟨by omega, by omega⟩
          · have := b2 m e; have := c2 m e; exact ⟨by omega, by omega⟩
      · refine ⟨ns, ?_, hn⟩
        unfold other_tail
        simp only [runD, runM, evalB, execs, exec, evalE, evalA, evalO, evalC, evalS, evalL, brw, two, three, asVar_var, asVar_cst, asVar_mv, asVar_bin, asVar_neg, asVar_nt, asVar_cmp, asVar_chain, asVar_andE, asVar_orE, asVar_ife, asVar_tupE, asVar_lstE, asVar_idx, asVar_slc, asVar_call, asVar_callM, asVar_popI, asVar_bi, asVar_bi2, asVar_isi, rdE, rdL, putE, updE, putsE, mb0, setL_at0, setL_at1, intOf, bindT, augD, toD, binD, cmpD, eqD_int, eqD_str, eqD_bool, idxD, biD, isiD, isNone, itemsD, slcD, atI_zero, atI_one, strict, ok_bind, ex_bind, no_bind, List.map_cons, List.map_nil, List.replicate_succ, List.replicate_zero, List.cons_append, List.nil_append, List.append_nil, List.getElem?_cons_zero, List.getElem?_cons_succ, List.getElem?_nil, List.set_cons_zero, List.set_cons_succ, List.length_cons, List.length_nil, List.length_map, Bool.not_false, Bool.not_true, if_true, if_false, Bool.false_eq_true, List.eraseIdx_cons_succ, List.eraseIdx_cons_zero, and_self, true_and, and_true, ite_true, ite_false, decide_true, decide_false, ne_eq, not_false_eq_true, not_true_eq_false, true_or, or_true, reduceCtorEq, asVar_lrng, asVar_rev, asVar_idx3, asVar_popE, revD, lstD, intsD_iL, h1, h2]
    · refine ⟨ns, ?_, hn⟩
      unfold other_tail
      simp only [runD, runM, evalB, execs, exec, evalE, evalA, evalO, evalC, evalS, evalL, brw, two, three, asVar_var, asVar_cst, asVar_mv, asVar_bin, asVar_neg, asVar_nt, asVar_cmp, asVar_chain, asVar_andE, asVar_orE, asVar_ife, asVar_tupE, asVar_lstE, asVar_idx, asVar_slc, asVar_call, asVar_callM, asVar_popI, asVar_bi, asVar_bi2, asVar_isi, rdE, rdL, putE, updE, putsE, mb0, setL_at0, setL_at1, intOf, bindT, augD, toD, binD, cmpD, eqD_int, eqD_str, eqD_bool, idxD, biD, isiD, isNone, itemsD, slcD, atI_zero, atI_one, strict, ok_bind, ex_bind, no_bind, List.map_cons, List.map_nil, List.replicate_succ, List.replicate_zero, List.cons_append, List.nil_append, List.append_nil, List.getElem?_cons_zero, List.getElem?_cons_succ, List.getElem?_nil, List.set_cons_zero, List.set_cons_succ, List.length_cons, List.length_nil, List.length_map, Bool.not_false, Bool.not_true, if_true, if_false, Bool.false_eq_true, List.eraseIdx_cons_succ, List.eraseIdx_cons_zero, and_self, true_and, and_true, ite_true, ite_false, decide_true, decide_false, ne_eq, not_false_eq_true, not_true_eq_false, true_or, or_true, reduceCtorEq, asVar_lrng, asVar_rev, asVar_idx3, asVar_popE, revD, lstD, intsD_iL, h1]
theorem other_for {ms : List D} {ns : List Int} {a2 a4 a6 a7 a8 : Option Sl} : ∀ (js ps : List Int) (l : Int) (a5 : Option Sl), ps.length + js.length ≤ 1000 → (a5 = none ∨ ∃ d, a5 = some (.fr d)) → ∃ ps' a5', forGo (execs 0 b0__law_other) (.one 5) (iL js) [some (.mb ms), some (.fr (.tuple (iL ns))), a2, some (.fr (.tuple (iL (ps ++ [l])))), a4, a5, a6, a7, a8] = .ok (.nx [some (.mb ms), some (.fr (.tuple (iL ns))), a2, some (.fr (.tuple (iL ps'))), a4, a5', a6, a7, a8]) ∧ ps'.length = ps.length + 1 + js.length := by
  intro js
  induction js with
  | nil => exact fun ps l a5 _ _ => ⟨ps ++ [l], a5, rfl, by simp⟩
  | cons j r ih =>
    intro ps l a5 hl h5
    obtain ⟨ps', a5', e, hl'⟩ := ih (ps ++ [l]) (l + j) (some (.fr (.int j))) (by simp at hl ⊢; omega) (.inr ⟨_, rfl⟩)
    refine ⟨ps', a5', ?_, by rw [hl']; simp; omega⟩
    have e1 : atI (iL (ps ++ [l])) (-1) = some (.int l) := by rw [iL_app]; exact atI_neg
    have s1 : (0 + 1 ≤ SZ) = True := eq_true (le_SZ (by decide))
    have s2 : ((ps ++ [l]).length + (0 + 1) ≤ SZ) = True := eq_true (le_SZ (by simp at hl ⊢; omega))
    have e2 : iL (ps ++ [l]) ++ [PyData.int (l + j)] = iL (ps ++ [l] ++ [l + j]) := (iL_app (xs := ps ++ [l]) (ys := [l + j])).symm
    show forGo _ _ (.int j :: iL r) _ = _
    unfold forGo b0__law_other
    simp only [runD, runM, evalB, execs, exec, evalE, evalA, evalO, evalC, evalS, evalL, brw, two, three, asVar_var, asVar_cst, asVar_mv, asVar_bin, asVar_neg, asVar_nt, asVar_cmp, asVar_chain, asVar_andE, asVar_orE, asVar_ife, asVar_tupE, asVar_lstE, asVar_idx, asVar_slc, asVar_call, asVar_callM, asVar_popI, asVar_bi, asVar_bi2, asVar_isi, rdE, rdL, putE, updE, putsE, mb0, setL_at0, setL_at1, intOf, bindT, augD, toD, binD, cmpD, eqD_int, eqD_str, eqD_bool, idxD, biD, isiD, isNone, itemsD, slcD, atI_zero, atI_one, strict, ok_bind, ex_bind, no_bind, List.map_cons, List.map_nil, List.replicate_succ, List.replicate_zero, List.cons_append, List.nil_append, List.append_nil, List.getElem?_cons_zero, List.getElem?_cons_succ, List.getElem?_nil, List.set_cons_zero, List.set_cons_succ, List.length_cons, List.length_nil, List.length_map, Bool.not_false, Bool.not_true, if_true, if_false, Bool.false_eq_true, List.eraseIdx_cons_succ, List.eraseIdx_cons_zero, and_self, true_and, and_true, ite_true, ite_false, decide_true, decide_false, ne_eq, not_false_eq_true, not_true_eq_false, true_or, or_true, reduceCtorEq, asVar_lrng, asVar_rev, asVar_idx3, asVar_popE, revD, lstD, iL_len, e1, s1, s2, e2]
    exact e
theorem one_SZ : (0 + 1 ≤ SZ) = True := eq_true (le_SZ (by decide))
theorem two_SZ : (0 + 1 + 1 ≤ SZ) = True := eq_true (le_SZ (by decide))
theorem three_SZ : (0 + 1 + 1 + 1 ≤ SZ) = True := eq_true (le_SZ (by decide))
theorem four_SZ : (0 + 1 + 1 + 1 + 1 ≤ SZ) = True := eq_true (le_SZ (by decide))
theorem zero_SZ : (0 ≤ SZ) = True := eq_true (Nat.zero_le _)
theorem beq_no {a b : Int} (h : a ≠ b) : (a == b) = false := beq_eq_false_iff_ne.mpr h
theorem other_end {ms ms' : List D} {ns ps : List Int} {a2 a4 a5 a6 a7 a8 : Option Sl} (hn : okMarks ns) (hm' : okD ms') (hl : ps.length = ns.length) (h : execs 0 ir__law_other [some (.mb ms), some (.fr (.tuple (iL ns))), none, none, none, none, none, none, none] = execs 0 other_tail [some (.mb ms'), some (.fr (.tuple (iL ns))), a2, some (.fr (.tuple (iL ps))), a4, a5, a6, a7, a8]) :
    ∃ ns' ms', phi__law_other ms [.tuple (iL ns)] = .ok (.tuple (iL ns'), ms') ∧ okD ms' ∧ okMarks ns' := by
  obtain ⟨ns', h1, h2⟩ := other_fin (ms := ms') (qs := ps) (a2 := a2) (a4 := a4) (a5 := a5) (a6 := a6) (a7 := a7) (a8 := a8) hn hl
  exact ⟨ns', ms', fmOf_eq (n := 0) (runM_rt (v := .fr (.tuple (iL ns'))) (h.trans h1)) (by simp), hm', h2⟩
theorem other_k1 {ms ms1 ms2 : List D} {ns qs : List Int} {is : List Nat} (hn : okMarks ns) (hql : qs.length = ns.length) (m2 : okD ms2) (e2 : phi__law_seats ms1 [.int (ns.length : Int), .int 9] = .ok (.list (nL is), ms2)) (e3 : phi__law_all_reflected [.tuple (iL ns), .list (nL is)] = .ok (.fr (.tuple (iL qs)))) (e1 : phi__law_below ms [.int 5] = .ok (.int 1, ms1)) : ∃ ns' ms', phi__law_other ms [.tuple (iL ns)] = .ok (.tuple (iL ns'), ms') ∧ okD ms' ∧ okMarks ns' := by
  have hl3 := hn.1
  have hl8 := hn.2.1
  have hz : ns.length ≤ SZ := small_SZ hl8
  have k0' : ((1 : Int) == 0) = false := by decide
  have d1 := differences_val (by omega : 0 < ns.length) hz
  obtain ⟨ks, ms3, e4, m3, p3⟩ := shuffled_ok m2 (ns := dif ns) (by rw [dif_len]; omega)
  have hkl : ks.length = ns.length := by rw [p3.length_eq, dif_len]
  have g0 := at_iL' (ns := ns) (i := 0) (by omega)
  have g0 : atI (iL ns) 0 = some (.int (gI ns 0)) := g0
  have ct : cutD (iL ks) none (some (-1)) = iL (ks.take (ks.length - 1)) := by rw [cut_last, iL_len, iL_take]
  obtain ⟨ps', a5', e5, hl5⟩ := other_for (ms := ms3) (ns := ns) (a2 := some (.fr (.int 1))) (a4 := some (.fr (.list (iL ks)))) (a6 := none) (a7 := none) (a8 := none) (ks.take (ks.length - 1)) [] (gI ns 0) none (by simp; omega) (.inl rfl)
  refine other_end hn (ps := ps') (a2 := some (.fr (.int 1))) (a4 := some (.fr (.list (iL ks)))) (a5 := a5') (a6 := none) (a7 := none) (a8 := none) m3 (by rw [hl5]; simp; omega) ?_
  unfold ir__law_other
  refine Eq.trans (ex_nx (e1 := ?e14) ?h14) ?g14
  case h14 => first | (simp only [runD, runM, evalB, execs, exec, evalE, evalA, evalO, evalC, evalS, evalL, brw, two, three, asVar_var, asVar_cst, asVar_mv, asVar_bin, asVar_neg, asVar_nt, asVar_cmp, asVar_chain, asVar_andE, asVar_orE, asVar_ife, asVar_tupE, asVar_lstE, asVar_idx, asVar_slc, asVar_call, asVar_callM, asVar_popI, asVar_bi, asVar_bi2, asVar_isi, rdE, rdL, putE, updE, putsE, mb0, setL_at0, setL_at1, intOf, bindT, augD, toD, binD, cmpD, eqD_int, eqD_str, eqD_bool, idxD, biD, isiD, isNone, itemsD, slcD, atI_zero, atI_one, strict, ok_bind, ex_bind, no_bind, List.map_cons, List.map_nil, List.replicate_succ, List.replicate_zero, List.cons_append, List.nil_append, List.append_nil, List.getElem?_cons_zero, List.getElem?_cons_succ, List.getElem?_nil, List.set_cons_zero, List.set_cons_succ, List.length_cons, List.length_nil, List.length_map, Bool.not_false, Bool.not_true, if_true, if_false, Bool.false_eq_true, List.eraseIdx_cons_succ, List.eraseIdx_cons_zero, and_self, true_and, and_true, ite_true, ite_false, decide_true, decide_false, ne_eq, not_false_eq_true, not_true_eq_false, true_or, or_true, reduceCtorEq, asVar_lrng, asVar_rev, asVar_idx3, asVar_popE, revD, lstD, e1]; done) | (simp only [runD, runM, evalB, execs, exec, evalE, evalA, evalO, evalC, evalS, evalL, brw, two, three, asVar_var, asVar_cst, asVar_mv, asVar_bin, asVar_neg, asVar_nt, asVar_cmp, asVar_chain, asVar_andE, asVar_orE, asVar_ife, asVar_tupE, asVar_lstE, asVar_idx, asVar_slc, asVar_call, asVar_callM, asVar_popI, asVar_bi, asVar_bi2, asVar_isi, rdE, rdL, putE, updE, putsE, mb0, setL_at0, setL_at1, intOf, bindT, augD, toD, binD, cmpD, eqD_int, eqD_str, eqD_bool, idxD, biD, isiD, isNone, itemsD, slcD, atI_zero, atI_one, strict, ok_bind, ex_bind, no_bind, List.map_cons, List.map_nil, List.replicate_succ, List.replicate_zero, List.cons_append, List.nil_append, List.append_nil, List.getElem?_cons_zero, List.getElem?_cons_succ, List.getElem?_nil, List.set_cons_zero, List.set_cons_succ, List.length_cons, List.length_nil, List.length_map, Bool.not_false, Bool.not_true, if_true, if_false, Bool.false_eq_true, List.eraseIdx_cons_succ, List.eraseIdx_cons_zero, and_self, true_and, and_true, ite_true, ite_false, decide_true, decide_false, ne_eq, not_false_eq_true, not_true_eq_false, true_or, or_true, reduceCtorEq, asVar_lrng, asVar_rev, asVar_idx3, asVar_popE, revD, lstD, e1]; rfl)
  refine Eq.trans (iff_skip (e1 := ?e1) ?h1) ?g1
  case h1 => first | (simp only [runD, runM, evalB, execs, exec, evalE, evalA, evalO, evalC, evalS, evalL, brw, two, three, asVar_var, asVar_cst, asVar_mv, asVar_bin, asVar_neg, asVar_nt, asVar_cmp, asVar_chain, asVar_andE, asVar_orE, asVar_ife, asVar_tupE, asVar_lstE, asVar_idx, asVar_slc, asVar_call, asVar_callM, asVar_popI, asVar_bi, asVar_bi2, asVar_isi, rdE, rdL, putE, updE, putsE, mb0, setL_at0, setL_at1, intOf, bindT, augD, toD, binD, cmpD, eqD_int, eqD_str, eqD_bool, idxD, biD, isiD, isNone, itemsD, slcD, atI_zero, atI_one, strict, ok_bind, ex_bind, no_bind, List.map_cons, List.map_nil, List.replicate_succ, List.replicate_zero, List.cons_append, List.nil_append, List.append_nil, List.getElem?_cons_zero, List.getElem?_cons_succ, List.getElem?_nil, List.set_cons_zero, List.set_cons_succ, List.length_cons, List.length_nil, List.length_map, Bool.not_false, Bool.not_true, if_true, if_false, Bool.false_eq_true, List.eraseIdx_cons_succ, List.eraseIdx_cons_zero, and_self, true_and, and_true, ite_true, ite_false, decide_true, decide_false, ne_eq, not_false_eq_true, not_true_eq_false, true_or, or_true, reduceCtorEq, asVar_lrng, asVar_rev, asVar_idx3, asVar_popE, revD, lstD, k0']; done) | (simp only [runD, runM, evalB, execs, exec, evalE, evalA, evalO, evalC, evalS, evalL, brw, two, three, asVar_var, asVar_cst, asVar_mv, asVar_bin, asVar_neg, asVar_nt, asVar_cmp, asVar_chain, asVar_andE, asVar_orE, asVar_ife, asVar_tupE, asVar_lstE, asVar_idx, asVar_slc, asVar_call, asVar_callM, asVar_popI, asVar_bi, asVar_bi2, asVar_isi, rdE, rdL, putE, updE, putsE, mb0, setL_at0, setL_at1, intOf, bindT, augD, toD, binD, cmpD, eqD_int, eqD_str, eqD_bool, idxD, biD, isiD, isNone, itemsD, slcD, atI_zero, atI_one, strict, ok_bind, ex_bind, no_bind, List.map_cons, List.map_nil, List.replicate_succ, List.replicate_zero, List.cons_append, List.nil_append, List.append_nil, List.getElem?_cons_zero, List.getElem?_cons_succ, List.getElem?_nil, List.set_cons_zero, List.set_cons_succ, List.length_cons, List.length_nil, List.length_map, Bool.not_false, Bool.not_true, if_true, if_false, Bool.false_eq_true, List.eraseIdx_cons_succ, List.eraseIdx_cons_zero, and_self, true_and, and_true, ite_true, ite_false, decide_true, decide_false, ne_eq, not_false_eq_true, not_true_eq_false, true_or, or_true, reduceCtorEq, asVar_lrng, asVar_rev, asVar_idx3, asVar_popE, revD, lstD, k0']; rfl)
  refine Eq.trans (ex_nx (e1 := ?e15) ?h15) ?g15
  case h15 => first | (simp only [runD, runM, evalB, execs, exec, evalE, evalA, evalO, evalC, evalS, evalL, brw, two, three, asVar_var, asVar_cst, asVar_mv, asVar_bin, asVar_neg, asVar_nt, asVar_cmp, asVar_chain, asVar_andE, asVar_orE, asVar_ife, asVar_tupE, asVar_lstE, asVar_idx, asVar_slc, asVar_call, asVar_callM, asVar_popI, asVar_bi, asVar_bi2, asVar_isi, rdE, rdL, putE, updE, putsE, mb0, setL_at0, setL_at1, intOf, bindT, augD, toD, binD, cmpD, eqD_int, eqD_str, eqD_bool, idxD, biD, isiD, isNone, itemsD, slcD, atI_zero, atI_one, strict, ok_bind, ex_bind, no_bind, List.map_cons, List.map_nil, List.replicate_succ, List.replicate_zero, List.cons_append, List.nil_append, List.append_nil, List.getElem?_cons_zero, List.getElem?_cons_succ, List.getElem?_nil, List.set_cons_zero, List.set_cons_succ, List.length_cons, List.length_nil, List.length_map, Bool.not_false, Bool.not_true, if_true, if_false, Bool.false_eq_true, List.eraseIdx_cons_succ, List.eraseIdx_cons_zero, and_self, true_and, and_true, ite_true, ite_false, decide_true, decide_false, ne_eq, not_false_eq_true, not_true_eq_false, true_or, or_true, reduceCtorEq, asVar_lrng, asVar_rev, asVar_idx3, asVar_popE, revD, lstD, iL_len, e2, e3]; done) | (simp only [runD, runM, evalB, execs, exec, evalE, evalA, evalO, evalC, evalS, evalL, brw, two, three, asVar_var, asVar_cst, asVar_mv, asVar_bin, asVar_neg, asVar_nt, asVar_cmp, asVar_chain, asVar_andE, asVar_orE, asVar_ife, asVar_tupE, asVar_lstE, asVar_idx, asVar_slc, asVar_call, asVar_callM, asVar_popI, asVar_bi, asVar_bi2, asVar_isi, rdE, rdL, putE, updE, putsE, mb0, setL_at0, setL_at1, intOf, bindT, augD, toD, binD, cmpD, eqD_int, eqD_str, eqD_bool, idxD, biD, isiD, isNone, itemsD, slcD, atI_zero, atI_one, strict, ok_bind, ex_bind, no_bind, List.map_cons, List.map_nil, List.replicate_succ, List.replicate_zero, List.cons_append, List.nil_append, List.append_nil, List.getElem?_cons_zero, List.getElem?_cons_succ, List.getElem?_nil, List.set_cons_zero, List.set_cons_succ, List.length_cons, List.length_nil, List.length_map, Bool.not_false, Bool.not_true, if_true, if_false, Bool.false_eq_true, List.eraseIdx_cons_succ, List.eraseIdx_cons_zero, and_self, true_and, and_true, ite_true, ite_false, decide_true, decide_false, ne_eq, not_false_eq_true, not_true_eq_false, true_or, or_true, reduceCtorEq, asVar_lrng, asVar_rev, asVar_idx3, asVar_popE, revD, lstD, iL_len, e2, e3]; rfl)
  refine Eq.trans (ex_nx (e1 := ?ea) ((iff_T (e1 := ?da) ?ha).trans ?ba)) ?ga
  case ha => first | (simp only [runD, runM, evalB, execs, exec, evalE, evalA, evalO, evalC, evalS, evalL, brw, two, three, asVar_var, asVar_cst, asVar_mv, asVar_bin, asVar_neg, asVar_nt, asVar_cmp, asVar_chain, asVar_andE, asVar_orE, asVar_ife, asVar_tupE, asVar_lstE, asVar_idx, asVar_slc, asVar_call, asVar_callM, asVar_popI, asVar_bi, asVar_bi2, asVar_isi, rdE, rdL, putE, updE, putsE, mb0, setL_at0, setL_at1, intOf, bindT, augD, toD, binD, cmpD, eqD_int, eqD_str, eqD_bool, idxD, biD, isiD, isNone, itemsD, slcD, atI_zero, atI_one, strict, ok_bind, ex_bind, no_bind, List.map_cons, List.map_nil, List.replicate_succ, List.replicate_zero, List.cons_append, List.nil_append, List.append_nil, List.getElem?_cons_zero, List.getElem?_cons_succ, List.getElem?_nil, List.set_cons_zero, List.set_cons_succ, List.length_cons, List.length_nil, List.length_map, Bool.not_false, Bool.not_true, if_true, if_false, Bool.false_eq_true, List.eraseIdx_cons_succ, List.eraseIdx_cons_zero, and_self, true_and, and_true, ite_true, ite_false, decide_true, decide_false, ne_eq, not_false_eq_true, not_true_eq_false, true_or, or_true, reduceCtorEq, asVar_lrng, asVar_rev, asVar_idx3, asVar_popE, revD, lstD, beq_self_eq_true]; done) | (simp only [runD, runM, evalB, execs, exec, evalE, evalA, evalO, evalC, evalS, evalL, brw, two, three, asVar_var, asVar_cst, asVar_mv, asVar_bin, asVar_neg, asVar_nt, asVar_cmp, asVar_chain, asVar_andE, asVar_orE, asVar_ife, asVar_tupE, asVar_lstE, asVar_idx, asVar_slc, asVar_call, asVar_callM, asVar_popI, asVar_bi, asVar_bi2, asVar_isi, rdE, rdL, putE, updE, putsE, mb0, setL_at0, setL_at1, intOf, bindT, augD, toD, binD, cmpD, eqD_int, eqD_str, eqD_bool, idxD, biD, isiD, isNone, itemsD, slcD, atI_zero, atI_one, strict, ok_bind, ex_bind, no_bind, List.map_cons, List.map_nil, List.replicate_succ, List.replicate_zero, List.cons_append, List.nil_append, List.append_nil, List.getElem?_cons_zero, List.getElem?_cons_succ, List.getElem?_nil, List.set_cons_zero, List.set_cons_succ, List.length_cons, List.length_nil, List.length_map, Bool.not_false, Bool.not_true, if_true, if_false, Bool.false_eq_true, List.eraseIdx_cons_succ, List.eraseIdx_cons_zero, and_self, true_and, and_true, ite_true, ite_false, decide_true, decide_false, ne_eq, not_false_eq_true, not_true_eq_false, true_or, or_true, reduceCtorEq, asVar_lrng, asVar_rev, asVar_idx3, asVar_popE, revD, lstD, beq_self_eq_true]; rfl)
  case ba =>
    refine Eq.trans (ex_nx (e1 := ?e16) ?h16) ?g16
    case h16 => first | (simp only [runD, runM, evalB, execs, exec, evalE, evalA, evalO, evalC, evalS, evalL, brw, two, three, asVar_var, asVar_cst, asVar_mv, asVar_bin, asVar_neg, asVar_nt, asVar_cmp, asVar_chain, asVar_andE, asVar_orE, asVar_ife, asVar_tupE, asVar_lstE, asVar_idx, asVar_slc, asVar_call, asVar_callM, asVar_popI, asVar_bi, asVar_bi2, asVar_isi, rdE, rdL, putE, updE, putsE, mb0, setL_at0, setL_at1, intOf, bindT, augD, toD, binD, cmpD, eqD_int, eqD_str, eqD_bool, idxD, biD, isiD, isNone, itemsD, slcD, atI_zero, atI_one, strict, ok_bind, ex_bind, no_bind, List.map_cons, List.map_nil, List.replicate_succ, List.replicate_zero, List.cons_append, List.nil_append, List.append_nil, List.getElem?_cons_zero, List.getElem?_cons_succ, List.getElem?_nil, List.set_cons_zero, List.set_cons_succ, List.length_cons, List.length_nil, List.length_map, Bool.not_false, Bool.not_true, if_true, if_false, Bool.false_eq_true, List.eraseIdx_cons_succ, List.eraseIdx_cons_zero, and_self, true_and, and_true, ite_true, ite_false, decide_true, decide_false, ne_eq, not_false_eq_true, not_true_eq_false, true_or, or_true, reduceCtorEq, asVar_lrng, asVar_rev, asVar_idx3, asVar_popE, revD, lstD, d1, e4]; done) | (simp only [runD, runM, evalB, execs, exec, evalE, evalA, evalO, evalC, evalS, evalL, brw, two, three, asVar_var, asVar_cst, asVar_mv, asVar_bin, asVar_neg, asVar_nt, asVar_cmp, asVar_chain, asVar_andE, asVar_orE, asVar_ife, asVar_tupE, asVar_lstE, asVar_idx, asVar_slc, asVar_call, asVar_callM, asVar_popI, asVar_bi, asVar_bi2, asVar_isi, rdE, rdL, putE, updE, putsE, mb0, setL_at0, setL_at1, intOf, bindT, augD, toD, binD, cmpD, eqD_int, eqD_str, eqD_bool, idxD, biD, isiD, isNone, itemsD, slcD, atI_zero, atI_one, strict, ok_bind, ex_bind, no_bind, List.map_cons, List.map_nil, List.replicate_succ, List.replicate_zero, List.cons_append, List.nil_append, List.append_nil, List.getElem?_cons_zero, List.getElem?_cons_succ, List.getElem?_nil, List.set_cons_zero, List.set_cons_succ, List.length_cons, List.length_nil, List.length_map, Bool.not_false, Bool.not_true, if_true, if_false, Bool.false_eq_true, List.eraseIdx_cons_succ, List.eraseIdx_cons_zero, and_self, true_and, and_true, ite_true, ite_false, decide_true, decide_false, ne_eq, not_false_eq_true, not_true_eq_false, true_or, or_true, reduceCtorEq, asVar_lrng, asVar_rev, asVar_idx3, asVar_popE, revD, lstD, d1, e4]; rfl)
    refine Eq.trans (ex_nx (e1 := ?e17) ?h17) ?g17
    case h17 => first | (simp only [runD, runM, evalB, execs, exec, evalE, evalA, evalO, evalC, evalS, evalL, brw, two, three, asVar_var, asVar_cst, asVar_mv, asVar_bin, asVar_neg, asVar_nt, asVar_cmp, asVar_chain, asVar_andE, asVar_orE, asVar_ife, asVar_tupE, asVar_lstE, asVar_idx, asVar_slc, asVar_call, asVar_callM, asVar_popI, asVar_bi, asVar_bi2, asVar_isi, rdE, rdL, putE, updE, putsE, mb0, setL_at0, setL_at1, intOf, bindT, augD, toD, binD, cmpD, eqD_int, eqD_str, eqD_bool, idxD, biD, isiD, isNone, itemsD, slcD, atI_zero, atI_one, strict, ok_bind, ex_bind, no_bind, List.map_cons, List.map_nil, List.replicate_succ, List.replicate_zero, List.cons_append, List.nil_append, List.append_nil, List.getElem?_cons_zero, List.getElem?_cons_succ, List.getElem?_nil, List.set_cons_zero, List.set_cons_succ, List.length_cons, List.length_nil, List.length_map, Bool.not_false, Bool.not_true, if_true, if_false, Bool.false_eq_true, List.eraseIdx_cons_succ, List.eraseIdx_cons_zero, and_self, true_and, and_true, ite_true, ite_false, decide_true, decide_false, ne_eq, not_false_eq_true, not_true_eq_false, true_or, or_true, reduceCtorEq, asVar_lrng, asVar_rev, asVar_idx3, asVar_popE, revD, lstD, g0, one_SZ]; done) | (simp only [runD, runM, evalB, execs, exec, evalE, evalA, evalO, evalC, evalS, evalL, brw, two, three, asVar_var, asVar_cst, asVar_mv, asVar_bin, asVar_neg, asVar_nt, asVar_cmp, asVar_chain, asVar_andE, asVar_orE, asVar_ife, asVar_tupE, asVar_lstE, asVar_idx, asVar_slc, asVar_call, asVar_callM, asVar_popI, asVar_bi, asVar_bi2, asVar_isi, rdE, rdL, putE, updE, putsE, mb0, setL_at0, setL_at1, intOf, bindT, augD, toD, binD, cmpD, eqD_int, eqD_str, eqD_bool, idxD, biD, isiD, isNone, itemsD, slcD, atI_zero, atI_one, strict, ok_bind, ex_bind, no_bind, List.map_cons, List.map_nil, List.replicate_succ, List.replicate_zero, List.cons_append, List.nil_append, List.append_nil, List.getElem?_cons_zero, List.getElem?_cons_succ, List.getElem?_nil, List.set_cons_zero, List.set_cons_succ, List.length_cons, List.length_nil, List.length_map, Bool.not_false, Bool.not_true, if_true, if_false, Bool.false_eq_true, List.eraseIdx_cons_succ, List.eraseIdx_cons_zero, and_self, true_and, and_true, ite_true, ite_false, decide_true, decide_false, ne_eq, not_false_eq_true, not_true_eq_false, true_or, or_true, reduceCtorEq, asVar_lrng, asVar_rev, asVar_idx3, asVar_popE, revD, lstD, g0, one_SZ]; rfl)
    refine Eq.trans (ex_nx (e1 := ?E2) ?H2) ?G2
    case H2 =>
      simp only [runD, runM, evalB, execs, exec, evalE, evalA, evalO, evalC, evalS, evalL, brw, two, three, asVar_var, asVar_cst, asVar_mv, asVar_bin, asVar_neg, asVar_nt, asVar_cmp, asVar_chain, asVar_andE, asVar_orE, asVar_ife, asVar_tupE, asVar_lstE, asVar_idx, asVar_slc, asVar_call, asVar_callM, asVar_popI, asVar_bi, asVar_bi2, asVar_isi, rdE, rdL, putE, updE, putsE, mb0, setL_at0, setL_at1, intOf, bindT, augD, toD, binD, cmpD, eqD_int, eqD_str, eqD_bool, idxD, biD, isiD, isNone, itemsD, slcD, atI_zero, atI_one, strict, ok_bind, ex_bind, no_bind, List.map_cons, List.map_nil, List.replicate_succ, List.replicate_zero, List.cons_append, List.nil_append, List.append_nil, List.getElem?_cons_zero, List.getElem?_cons_succ, List.getElem?_nil, List.set_cons_zero, List.set_cons_succ, List.length_cons, List.length_nil, List.length_map, Bool.not_false, Bool.not_true, if_true, if_false, Bool.false_eq_true, List.eraseIdx_cons_succ, List.eraseIdx_cons_zero, and_self, true_and, and_true, ite_true, ite_false, decide_true, decide_false, ne_eq, not_false_eq_true, not_true_eq_false, true_or, or_true, reduceCtorEq, asVar_lrng, asVar_rev, asVar_idx3, asVar_popE, revD, lstD, ct]
      exact e5
    rw [execs]
  refine Eq.trans (iff_skip (e1 := ?e2) ?h2) ?g2
  case h2 => first | (simp only [runD, runM, evalB, execs, exec, evalE, evalA, evalO, evalC, evalS, evalL, brw, two, three, asVar_var, asVar_cst, asVar_mv, asVar_bin, asVar_neg, asVar_nt, asVar_cmp, asVar_chain, asVar_andE, asVar_orE, asVar_ife, asVar_tupE, asVar_lstE, asVar_idx, asVar_slc, asVar_call, asVar_callM, asVar_popI, asVar_bi, asVar_bi2, asVar_isi, rdE, rdL, putE, updE, putsE, mb0, setL_at0, setL_at1, intOf, bindT, augD, toD, binD, cmpD, eqD_int, eqD_str, eqD_bool, idxD, biD, isiD, isNone, itemsD, slcD, atI_zero, atI_one, strict, ok_bind, ex_bind, no_bind, List.map_cons, List.map_nil, List.replicate_succ, List.replicate_zero, List.cons_append, List.nil_append, List.append_nil, List.getElem?_cons_zero, List.getElem?_cons_succ, List.getElem?_nil, List.set_cons_zero, List.set_cons_succ, List.length_cons, List.length_nil, List.length_map, Bool.not_false, Bool.not_true, if_true, if_false, Bool.false_eq_true, List.eraseIdx_cons_succ, List.eraseIdx_cons_zero, and_self, true_and, and_true, ite_true, ite_false, decide_true, decide_false, ne_eq, not_false_eq_true, not_true_eq_false, true_or, or_true, reduceCtorEq, asVar_lrng, asVar_rev, asVar_idx3, asVar_popE, revD, lstD, show ((1 : Int) == 2) = false from by decide]; done) | (simp only [runD, runM, evalB, execs, exec, evalE, evalA, evalO, evalC, evalS, evalL, brw, two, three, asVar_var, asVar_cst, asVar_mv, asVar_bin, asVar_neg, asVar_nt, asVar_cmp, asVar_chain, asVar_andE, asVar_orE, asVar_ife, asVar_tupE, asVar_lstE, asVar_idx, asVar_slc, asVar_call, asVar_callM, asVar_popI, asVar_bi, asVar_bi2, asVar_isi, rdE, rdL, putE, updE, putsE, mb0, setL_at0, setL_at1, intOf, bindT, augD, toD, binD, cmpD, eqD_int, eqD_str, eqD_bool, idxD, biD, isiD, isNone, itemsD, slcD, atI_zero, atI_one, strict, ok_bind, ex_bind, no_bind, List.map_cons, List.map_nil, List.replicate_succ, List.replicate_zero, List.cons_append, List.nil_append, List.append_nil, List.getElem?_cons_zero, List.getElem?_cons_succ, List.getElem?_nil, List.set_cons_zero, List.set_cons_succ, List.length_cons, List.length_nil, List.length_map, Bool.not_false, Bool.not_true, if_true, if_false, Bool.false_eq_true, List.eraseIdx_cons_succ, List.eraseIdx_cons_zero, and_self, true_and, and_true, ite_true, ite_false, decide_true, decide_false, ne_eq, not_false_eq_true, not_true_eq_false, true_or, or_true, reduceCtorEq, asVar_lrng, asVar_rev, asVar_idx3, asVar_popE, revD, lstD, show ((1 : Int) == 2) = false from by decide]; rfl)
  refine Eq.trans (iff_skip (e1 := ?e3) ?h3) ?g3
  case h3 => first | (simp only [runD, runM, evalB, execs, exec, evalE, evalA, evalO, evalC, evalS, evalL, brw, two, three, asVar_var, asVar_cst, asVar_mv, asVar_bin, asVar_neg, asVar_nt, asVar_cmp, asVar_chain, asVar_andE, asVar_orE, asVar_ife, asVar_tupE, asVar_lstE, asVar_idx, asVar_slc, asVar_call, asVar_callM, asVar_popI, asVar_bi, asVar_bi2, asVar_isi, rdE, rdL, putE, updE, putsE, mb0, setL_at0, setL_at1, intOf, bindT, augD, toD, binD, cmpD, eqD_int, eqD_str, eqD_bool, idxD, biD, isiD, isNone, itemsD, slcD, atI_zero, atI_one, strict, ok_bind, ex_bind, no_bind, List.map_cons, List.map_nil, List.replicate_succ, List.replicate_zero, List.cons_append, List.nil_append, List.append_nil, List.getElem?_cons_zero, List.getElem?_cons_succ, List.getElem?_nil, List.set_cons_zero, List.set_cons_succ, List.length_cons, List.length_nil, List.length_map, Bool.not_false, Bool.not_true, if_true, if_false, Bool.false_eq_true, List.eraseIdx_cons_succ, List.eraseIdx_cons_zero, and_self, true_and, and_true, ite_true, ite_false, decide_true, decide_false, ne_eq, not_false_eq_true, not_true_eq_false, true_or, or_true, reduceCtorEq, asVar_lrng, asVar_rev, asVar_idx3, asVar_popE, revD, lstD, show ((1 : Int) == 3) = false from by decide]; done) | (simp only [runD, runM, evalB, execs, exec, evalE, evalA, evalO, evalC, evalS, evalL, brw, two, three, asVar_var, asVar_cst, asVar_mv, asVar_bin, asVar_neg, asVar_nt, asVar_cmp, asVar_chain, asVar_andE, asVar_orE, asVar_ife, asVar_tupE, asVar_lstE, asVar_idx, asVar_slc, asVar_call, asVar_callM, asVar_popI, asVar_bi, asVar_bi2, asVar_isi, rdE, rdL, putE, updE, putsE, mb0, setL_at0, setL_at1, intOf, bindT, augD, toD, binD, cmpD, eqD_int, eqD_str, eqD_bool, idxD, biD, isiD, isNone, itemsD, slcD, atI_zero, atI_one, strict, ok_bind, ex_bind, no_bind, List.map_cons, List.map_nil, List.replicate_succ, List.replicate_zero, List.cons_append, List.nil_append, List.append_nil, List.getElem?_cons_zero, List.getElem?_cons_succ, List.getElem?_nil, List.set_cons_zero, List.set_cons_succ, List.length_cons, List.length_nil, List.length_map, Bool.not_false, Bool.not_true, if_true, if_false, Bool.false_eq_true, List.eraseIdx_cons_succ, List.eraseIdx_cons_zero, and_self, true_and, and_true, ite_true, ite_false, decide_true, decide_false, ne_eq, not_false_eq_true, not_true_eq_false, true_or, or_true, reduceCtorEq, asVar_lrng, asVar_rev, asVar_idx3, asVar_popE, revD, lstD, show ((1 : Int) == 3) = false from by decide]; rfl)
  rfl
theorem other_k2 {ms ms1 ms2 : List D} {ns qs : List Int} {is : List Nat} (hn : okMarks ns) (hql : qs.length = ns.length) (m2 : okD ms2) (e2 : phi__law_seats ms1 [.int (ns.length : Int), .int 9] = .ok (.list (nL is), ms2)) (e3 : phi__law_all_reflected [.tuple (iL ns), .list (nL is)] = .ok (.fr (.tuple (iL qs)))) (e1 : phi__law_below ms [.int 5] = .ok (.int 2, ms1)) : ∃ ns' ms', phi__law_other ms [.tuple (iL ns)] = .ok (.tuple (iL ns'), ms') ∧ okD ms' ∧ okMarks ns' := by
  have hl3 := hn.1
  have hl8 := hn.2.1
  have hz : ns.length ≤ SZ := small_SZ hl8
  have k0' : ((2 : Int) == 0) = false := by decide
  have k1' : ((2 : Int) == 1) = false := by decide
  obtain ⟨r3, ms3, e3', m3, l3, u3⟩ := below_ok m2 (L := 7) (by decide) (by decide)
  obtain ⟨r4, ms4, e4, m4, l4, u4⟩ := below_ok m3 (L := 5) (by decide) (by decide)
  obtain ⟨r5, ms5, e5, m5, l5, u5⟩ := below_ok m4 (L := 2) (by decide) (by decide)
  have cv := common_val (by omega : 0 < ns.length) hz
  obtain ⟨M, hM⟩ : ∃ M, M = modu ns := ⟨_, rfl⟩
  rw [← hM] at cv
  have w : (wInt (r4 - 2)) = True := eq_true ⟨by omega, by omega⟩
  have pick : ∃ t : Int, atI [PyData.int (r3 - 3), PyData.int (M * (r4 - 2))] r5 = some (.int t) := by
    by_cases q : r5 = 0
    · subst q; exact ⟨_, rfl⟩
    · have : r5 = 1 := by omega
      subst this; exact ⟨_, rfl⟩
  obtain ⟨t, et⟩ := pick
  have lc : evalE c0__law_other [some (.mb ms5), some (.fr (.tuple (iL ns))), some (.fr (.int 2)), some (.fr (.tuple (iL qs))), none, none, some (.fr (.int t)), none, none] = .ok (.own (iL (qs.map fun m => m + t)), [some (.mb ms5), some (.fr (.tuple (iL ns))), some (.fr (.int 2)), some (.fr (.tuple (iL qs))), none, none, some (.fr (.int t)), none, none]) := by
    have := lc_map (elt := .bin .Add (.var 8) (.var 6)) (tg := .one 8) (src := .seq (.var 3)) (vs := [8]) (en := [some (.mb ms5), some (.fr (.tuple (iL ns))), some (.fr (.int 2)), some (.fr (.tuple (iL qs))), none, none, some (.fr (.int t)), none, none]) (items := iL qs) (fun d => match d with | .int m => .int (m + t) | d => d) rfl (by rw [iL_len, hql]; exact hz) (fun d hd => by
      obtain ⟨n, _, rfl⟩ := iL_mem hd
      exact ⟨_, .fr (.int (n + t)), [some (.mb ms5), some (.fr (.tuple (iL ns))), some (.fr (.int 2)), some (.fr (.tuple (iL qs))), none, none, some (.fr (.int t)), none, some (.fr (.int n))], rfl, by simp only [wipeE, List.foldr, runD, runM, evalB, execs, exec, evalE, evalA, evalO, evalC, evalS, evalL, brw, two, three, asVar_var, asVar_cst, asVar_mv, asVar_bin, asVar_neg, asVar_nt, asVar_cmp, asVar_chain, asVar_andE, asVar_orE, asVar_ife, asVar_tupE, asVar_lstE, asVar_idx, asVar_slc, asVar_call, asVar_callM, asVar_popI, asVar_bi, asVar_bi2, asVar_isi, rdE, rdL, putE, updE, putsE, mb0, setL_at0, setL_at1, intOf, bindT, augD, toD, binD, cmpD, eqD_int, eqD_str, eqD_bool, idxD, biD, isiD, isNone, itemsD, slcD, atI_zero, atI_one, strict, ok_bind, ex_bind, no_bind, List.map_cons, List.map_nil, List.replicate_succ, List.replicate_zero, List.cons_append, List.nil_append, List.append_nil, List.getElem?_cons_zero, List.getElem?_cons_succ, List.getElem?_nil, List.set_cons_zero, List.set_cons_succ, List.length_cons, List.length_nil, List.length_map, Bool.not_false, Bool.not_true, if_true, if_false, Bool.false_eq_true, List.eraseIdx_cons_succ, List.eraseIdx_cons_zero, and_self, true_and, and_true, ite_true, ite_false, decide_true, decide_false, ne_eq, not_false_eq_true, not_true_eq_false, true_or, or_true, reduceCtorEq, asVar_lrng, asVar_rev, asVar_idx3, asVar_popE, revD, lstD], rfl, rfl⟩)
    unfold c0__law_other
    rw [this]
    congr 2
    simp [iL, Function.comp_def]
  refine other_end hn (ps := qs.map fun m => m + t) (a2 := some (.fr (.int 2))) (a4 := none) (a5 := none) (a6 := some (.fr (.int t))) (a7 := none) (a8 := none) m5 (by rw [List.length_map]; exact hql) ?_
  unfold ir__law_other
  refine Eq.trans (ex_nx (e1 := ?e18) ?h18) ?g18
  case h18 => first | (simp only [runD, runM, evalB, execs, exec, evalE, evalA, evalO, evalC, evalS, evalL, brw, two, three, asVar_var, asVar_cst, asVar_mv, asVar_bin, asVar_neg, asVar_nt, asVar_cmp, asVar_chain, asVar_andE, asVar_orE, asVar_ife, asVar_tupE, asVar_lstE, asVar_idx, asVar_slc, asVar_call, asVar_callM, asVar_popI, asVar_bi, asVar_bi2, asVar_isi, rdE, rdL, putE, updE, putsE, mb0, setL_at0, setL_at1, intOf, bindT, augD, toD, binD, cmpD, eqD_int, eqD_str, eqD_bool, idxD, biD, isiD, isNone, itemsD, slcD, atI_zero, atI_one, strict, ok_bind, ex_bind, no_bind, List.map_cons, List.map_nil, List.replicate_succ, List.replicate_zero, List.cons_append, List.nil_append, List.append_nil, List.getElem?_cons_zero, List.getElem?_cons_succ, List.getElem?_nil, List.set_cons_zero, List.set_cons_succ, List.length_cons, List.length_nil, List.length_map, Bool.not_false, Bool.not_true, if_true, if_false, Bool.false_eq_true, List.eraseIdx_cons_succ, List.eraseIdx_cons_zero, and_self, true_and, and_true, ite_true, ite_false, decide_true, decide_false, ne_eq, not_false_eq_true, not_true_eq_false, true_or, or_true, reduceCtorEq, asVar_lrng, asVar_rev, asVar_idx3, asVar_popE, revD, lstD, e1]; done) | (simp only [runD, runM, evalB, execs, exec, evalE, evalA, evalO, evalC, evalS, evalL, brw, two, three, asVar_var, asVar_cst, asVar_mv, asVar_bin, asVar_neg, asVar_nt, asVar_cmp, asVar_chain, asVar_andE, asVar_orE, asVar_ife, asVar_tupE, asVar_lstE, asVar_idx, asVar_slc, asVar_call, asVar_callM, asVar_popI, asVar_bi, asVar_bi2, asVar_isi, rdE, rdL, putE, updE, putsE, mb0, setL_at0, setL_at1, intOf, bindT, augD, toD, binD, cmpD, eqD_int, eqD_str, eqD_bool, idxD, biD, isiD, isNone, itemsD, slcD, atI_zero, atI_one, strict, ok_bind, ex_bind, no_bind, List.map_cons, List.map_nil, List.replicate_succ, List.replicate_zero, List.cons_append, List.nil_append, List.append_nil, List.getElem?_cons_zero, List.getElem?_cons_succ, List.getElem?_nil, List.set_cons_zero, List.set_cons_succ, List.length_cons, List.length_nil, List.length_map, Bool.not_false, Bool.not_true, if_true, if_false, Bool.false_eq_true, List.eraseIdx_cons_succ, List.eraseIdx_cons_zero, and_self, true_and, and_true, ite_true, ite_false, decide_true, decide_false, ne_eq, not_false_eq_true, not_true_eq_false, true_or, or_true, reduceCtorEq, asVar_lrng, asVar_rev, asVar_idx3, asVar_popE, revD, lstD, e1]; rfl)
  refine Eq.trans (iff_skip (e1 := ?e4) ?h4) ?g4
  case h4 => first | (simp only [runD, runM, evalB, execs, exec, evalE, evalA, evalO, evalC, evalS, evalL, brw, two, three, asVar_var, asVar_cst, asVar_mv, asVar_bin, asVar_neg, asVar_nt, asVar_cmp, asVar_chain, asVar_andE, asVar_orE, asVar_ife, asVar_tupE, asVar_lstE, asVar_idx, asVar_slc, asVar_call, asVar_callM, asVar_popI, asVar_bi, asVar_bi2, asVar_isi, rdE, rdL, putE, updE, putsE, mb0, setL_at0, setL_at1, intOf, bindT, augD, toD, binD, cmpD, eqD_int, eqD_str, eqD_bool, idxD, biD, isiD, isNone, itemsD, slcD, atI_zero, atI_one, strict, ok_bind, ex_bind, no_bind, List.map_cons, List.map_nil, List.replicate_succ, List.replicate_zero, List.cons_append, List.nil_append, List.append_nil, List.getElem?_cons_zero, List.getElem?_cons_succ, List.getElem?_nil, List.set_cons_zero, List.set_cons_succ, List.length_cons, List.length_nil, List.length_map, Bool.not_false, Bool.not_true, if_true, if_false, Bool.false_eq_true, List.eraseIdx_cons_succ, List.eraseIdx_cons_zero, and_self, true_and, and_true, ite_true, ite_false, decide_true, decide_false, ne_eq, not_false_eq_true, not_true_eq_false, true_or, or_true, reduceCtorEq, asVar_lrng, asVar_rev, asVar_idx3, asVar_popE, revD, lstD, k0']; done) | (simp only [runD, runM, evalB, execs, exec, evalE, evalA, evalO, evalC, evalS, evalL, brw, two, three, asVar_var, asVar_cst, asVar_mv, asVar_bin, asVar_neg, asVar_nt, asVar_cmp, asVar_chain, asVar_andE, asVar_orE, asVar_ife, asVar_tupE, asVar_lstE, asVar_idx, asVar_slc, asVar_call, asVar_callM, asVar_popI, asVar_bi, asVar_bi2, asVar_isi, rdE, rdL, putE, updE, putsE, mb0, setL_at0, setL_at1, intOf, bindT, augD, toD, binD, cmpD, eqD_int, eqD_str, eqD_bool, idxD, biD, isiD, isNone, itemsD, slcD, atI_zero, atI_one, strict, ok_bind, ex_bind, no_bind, List.map_cons, List.map_nil, List.replicate_succ, List.replicate_zero, List.cons_append, List.nil_append, List.append_nil, List.getElem?_cons_zero, List.getElem?_cons_succ, List.getElem?_nil, List.set_cons_zero, List.set_cons_succ, List.length_cons, List.length_nil, List.length_map, Bool.not_false, Bool.not_true, if_true, if_false, Bool.false_eq_true, List.eraseIdx_cons_succ, List.eraseIdx_cons_zero, and_self, true_and, and_true, ite_true, ite_false, decide_true, decide_false, ne_eq, not_false_eq_true, not_true_eq_false, true_or, or_true, reduceCtorEq, asVar_lrng, asVar_rev, asVar_idx3, asVar_popE, revD, lstD, k0']; rfl)
  refine Eq.trans (ex_nx (e1 := ?e19) ?h19) ?g19
  case h19 => first | (simp only [runD, runM, evalB, execs, exec, evalE, evalA, evalO, evalC, evalS, evalL, brw, two, three, asVar_var, asVar_cst, asVar_mv, asVar_bin, asVar_neg, asVar_nt, asVar_cmp, asVar_chain, asVar_andE, asVar_orE, asVar_ife, asVar_tupE, asVar_lstE, asVar_idx, asVar_slc, asVar_call, asVar_callM, asVar_popI, asVar_bi, asVar_bi2, asVar_isi, rdE, rdL, putE, updE, putsE, mb0, setL_at0, setL_at1, intOf, bindT, augD, toD, binD, cmpD, eqD_int, eqD_str, eqD_bool, idxD, biD, isiD, isNone, itemsD, slcD, atI_zero, atI_one, strict, ok_bind, ex_bind, no_bind, List.map_cons, List.map_nil, List.replicate_succ, List.replicate_zero, List.cons_append, List.nil_append, List.append_nil, List.getElem?_cons_zero, List.getElem?_cons_succ, List.getElem?_nil, List.set_cons_zero, List.set_cons_succ, List.length_cons, List.length_nil, List.length_map, Bool.not_false, Bool.not_true, if_true, if_false, Bool.false_eq_true, List.eraseIdx_cons_succ, List.eraseIdx_cons_zero, and_self, true_and, and_true, ite_true, ite_false, decide_true, decide_false, ne_eq, not_false_eq_true, not_true_eq_false, true_or, or_true, reduceCtorEq, asVar_lrng, asVar_rev, asVar_idx3, asVar_popE, revD, lstD, iL_len, e2, e3]; done) | (simp only [runD, runM, evalB, execs, exec, evalE, evalA, evalO, evalC, evalS, evalL, brw, two, three, asVar_var, asVar_cst, asVar_mv, asVar_bin, asVar_neg, asVar_nt, asVar_cmp, asVar_chain, asVar_andE, asVar_orE, asVar_ife, asVar_tupE, asVar_lstE, asVar_idx, asVar_slc, asVar_call, asVar_callM, asVar_popI, asVar_bi, asVar_bi2, asVar_isi, rdE, rdL, putE, updE, putsE, mb0, setL_at0, setL_at1, intOf, bindT, augD, toD, binD, cmpD, eqD_int, eqD_str, eqD_bool, idxD, biD, isiD, isNone, itemsD, slcD, atI_zero, atI_one, strict, ok_bind, ex_bind, no_bind, List.map_cons, List.map_nil, List.replicate_succ, List.replicate_zero, List.cons_append, List.nil_append, List.append_nil, List.getElem?_cons_zero, List.getElem?_cons_succ, List.getElem?_nil, List.set_cons_zero, List.set_cons_succ, List.length_cons, List.length_nil, List.length_map, Bool.not_false, Bool.not_true, if_true, if_false, Bool.false_eq_true, List.eraseIdx_cons_succ, List.eraseIdx_cons_zero, and_self, true_and, and_true, ite_true, ite_false, decide_true, decide_false, ne_eq, not_false_eq_true, not_true_eq_false, true_or, or_true, reduceCtorEq, asVar_lrng, asVar_rev, asVar_idx3, asVar_popE, revD, lstD, iL_len, e2, e3]; rfl)
  refine Eq.trans (iff_skip (e1 := ?e5) ?h5) ?g5
  case h5 => first | (simp only [runD, runM, evalB, execs, exec, evalE, evalA, evalO, evalC, evalS, evalL, brw, two, three, asVar_var, asVar_cst, asVar_mv, asVar_bin, asVar_neg, asVar_nt, asVar_cmp, asVar_chain, asVar_andE, asVar_orE, asVar_ife, asVar_tupE, asVar_lstE, asVar_idx, asVar_slc, asVar_call, asVar_callM, asVar_popI, asVar_bi, asVar_bi2, asVar_isi, rdE, rdL, putE, updE, putsE, mb0, setL_at0, setL_at1, intOf, bindT, augD, toD, binD, cmpD, eqD_int, eqD_str, eqD_bool, idxD, biD, isiD, isNone, itemsD, slcD, atI_zero, atI_one, strict, ok_bind, ex_bind, no_bind, List.map_cons, List.map_nil, List.replicate_succ, List.replicate_zero, List.cons_append, List.nil_append, List.append_nil, List.getElem?_cons_zero, List.getElem?_cons_succ, List.getElem?_nil, List.set_cons_zero, List.set_cons_succ, List.length_cons, List.length_nil, List.length_map, Bool.not_false, Bool.not_true, if_true, if_false, Bool.false_eq_true, List.eraseIdx_cons_succ, List.eraseIdx_cons_zero, and_self, true_and, and_true, ite_true, ite_false, decide_true, decide_false, ne_eq, not_false_eq_true, not_true_eq_false, true_or, or_true, reduceCtorEq, asVar_lrng, asVar_rev, asVar_idx3, asVar_popE, revD, lstD, k1']; done) | (simp only [runD, runM, evalB, execs, exec, evalE, evalA, evalO, evalC, evalS, evalL, brw, two, three, asVar_var, asVar_cst, asVar_mv, asVar_bin, asVar_neg, asVar_nt, asVar_cmp, asVar_chain, asVar_andE, asVar_orE, asVar_ife, asVar_tupE, asVar_lstE, asVar_idx, asVar_slc, asVar_call, asVar_callM, asVar_popI, asVar_bi, asVar_bi2, asVar_isi, rdE, rdL, putE, updE, putsE, mb0, setL_at0, setL_at1, intOf, bindT, augD, toD, binD, cmpD, eqD_int, eqD_str, eqD_bool, idxD, biD, isiD, isNone, itemsD, slcD, atI_zero, atI_one, strict, ok_bind, ex_bind, no_bind, List.map_cons, List.map_nil, List.replicate_succ, List.replicate_zero, List.cons_append, List.nil_append, List.append_nil, List.getElem?_cons_zero, List.getElem?_cons_succ, List.getElem?_nil, List.set_cons_zero, List.set_cons_succ, List.length_cons, List.length_nil, List.length_map, Bool.not_false, Bool.not_true, if_true, if_false, Bool.false_eq_true, List.eraseIdx_cons_succ, List.eraseIdx_cons_zero, and_self, true_and, and_true, ite_true, ite_false, decide_true, decide_false, ne_eq, not_false_eq_true, not_true_eq_false, true_or, or_true, reduceCtorEq, asVar_lrng, asVar_rev, asVar_idx3, asVar_popE, revD, lstD, k1']; rfl)
  refine Eq.trans (ex_nx (e1 := ?eb) ((iff_T (e1 := ?db) ?hb).trans ?bb)) ?gb
  case hb => first | (simp only [runD, runM, evalB, execs, exec, evalE, evalA, evalO, evalC, evalS, evalL, brw, two, three, asVar_var, asVar_cst, asVar_mv, asVar_bin, asVar_neg, asVar_nt, asVar_cmp, asVar_chain, asVar_andE, asVar_orE, asVar_ife, asVar_tupE, asVar_lstE, asVar_idx, asVar_slc, asVar_call, asVar_callM, asVar_popI, asVar_bi, asVar_bi2, asVar_isi, rdE, rdL, putE, updE, putsE, mb0, setL_at0, setL_at1, intOf, bindT, augD, toD, binD, cmpD, eqD_int, eqD_str, eqD_bool, idxD, biD, isiD, isNone, itemsD, slcD, atI_zero, atI_one, strict, ok_bind, ex_bind, no_bind, List.map_cons, List.map_nil, List.replicate_succ, List.replicate_zero, List.cons_append, List.nil_append, List.append_nil, List.getElem?_cons_zero, List.getElem?_cons_succ, List.getElem?_nil, List.set_cons_zero, List.set_cons_succ, List.length_cons, List.length_nil, List.length_map, Bool.not_false, Bool.not_true, if_true, if_false, Bool.false_eq_true, List.eraseIdx_cons_succ, List.eraseIdx_cons_zero, and_self, true_and, and_true, ite_true, ite_false, decide_true, decide_false, ne_eq, not_false_eq_true, not_true_eq_false, true_or, or_true, reduceCtorEq, asVar_lrng, asVar_rev, asVar_idx3, asVar_popE, revD, lstD, beq_self_eq_true]; done) | (simp only [runD, runM, evalB, execs, exec, evalE, evalA, evalO, evalC, evalS, evalL, brw, two, three, asVar_var, asVar_cst, asVar_mv, asVar_bin, asVar_neg, asVar_nt, asVar_cmp, asVar_chain, asVar_andE, asVar_orE, asVar_ife, asVar_tupE, asVar_lstE, asVar_idx, asVar_slc, asVar_call, asVar_callM, asVar_popI, asVar_bi, asVar_bi2, asVar_isi, rdE, rdL, putE, updE, putsE, mb0, setL_at0, setL_at1, intOf, bindT, augD, toD, binD, cmpD, eqD_int, eqD_str, eqD_bool, idxD, biD, isiD, isNone, itemsD, slcD, atI_zero, atI_one, strict, ok_bind, ex_bind, no_bind, List.map_cons, List.map_nil, List.replicate_succ, List.replicate_zero, List.cons_append, List.nil_append, List.append_nil, List.getElem?_cons_zero, List.getElem?_cons_succ, List.getElem?_nil, List.set_cons_zero, List.set_cons_succ, List.length_cons, List.length_nil, List.length_map, Bool.not_false, Bool.not_true, if_true, if_false, Bool.false_eq_true, List.eraseIdx_cons_succ, List.eraseIdx_cons_zero, and_self, true_and, and_true, ite_true, ite_false, decide_true, decide_false, ne_eq, not_false_eq_true, not_true_eq_false, true_or, or_true, reduceCtorEq, asVar_lrng, asVar_rev, asVar_idx3, asVar_popE, revD, lstD, beq_self_eq_true]; rfl)
  case bb =>
    refine Eq.trans (ex_nx (e1 := ?e20) ?h20) ?g20
    case h20 => first | (simp only [runD, runM, evalB, execs, exec, evalE, evalA, evalO, evalC, evalS, evalL, brw, two, three, asVar_var, asVar_cst, asVar_mv, asVar_bin, asVar_neg, asVar_nt, asVar_cmp, asVar_chain, asVar_andE, asVar_orE, asVar_ife, asVar_tupE, asVar_lstE, asVar_idx, asVar_slc, asVar_call, asVar_callM, asVar_popI, asVar_bi, asVar_bi2, asVar_isi, rdE, rdL, putE, updE, putsE, mb0, setL_at0, setL_at1, intOf, bindT, augD, toD, binD, cmpD, eqD_int, eqD_str, eqD_bool, idxD, biD, isiD, isNone, itemsD, slcD, atI_zero, atI_one, strict, ok_bind, ex_bind, no_bind, List.map_cons, List.map_nil, List.replicate_succ, List.replicate_zero, List.cons_append, List.nil_append, List.append_nil, List.getElem?_cons_zero, List.getElem?_cons_succ, List.getElem?_nil, List.set_cons_zero, List.set_cons_succ, List.length_cons, List.length_nil, List.length_map, Bool.not_false, Bool.not_true, if_true, if_false, Bool.false_eq_true, List.eraseIdx_cons_succ, List.eraseIdx_cons_zero, and_self, true_and, and_true, ite_true, ite_false, decide_true, decide_false, ne_eq, not_false_eq_true, not_true_eq_false, true_or, or_true, reduceCtorEq, asVar_lrng, asVar_rev, asVar_idx3, asVar_popE, revD, lstD, e3', cv, e4, e5, w, et, two_SZ]; done) | (simp only [runD, runM, evalB, execs, exec, evalE, evalA, evalO, evalC, evalS, evalL, brw, two, three, asVar_var, asVar_cst, asVar_mv, asVar_bin, asVar_neg, asVar_nt, asVar_cmp, asVar_chain, asVar_andE, asVar_orE, asVar_ife, asVar_tupE, asVar_lstE, asVar_idx, asVar_slc, asVar_call, asVar_callM, asVar_popI, asVar_bi, asVar_bi2, asVar_isi, rdE, rdL, putE, updE, putsE, mb0, setL_at0, setL_at1, intOf, bindT, augD, toD, binD, cmpD, eqD_int, eqD_str, eqD_bool, idxD, biD, isiD, isNone, itemsD, slcD, atI_zero, atI_one, strict, ok_bind, ex_bind, no_bind, List.map_cons, List.map_nil, List.replicate_succ, List.replicate_zero, List.cons_append, List.nil_append, List.append_nil, List.getElem?_cons_zero, List.getElem?_cons_succ, List.getElem?_nil, List.set_cons_zero, List.set_cons_succ, List.length_cons, List.length_nil, List.length_map, Bool.not_false, Bool.not_true, if_true, if_false, Bool.false_eq_true, List.eraseIdx_cons_succ, List.eraseIdx_cons_zero, and_self, true_and, and_true, ite_true, ite_false, decide_true, decide_false, ne_eq, not_false_eq_true, not_true_eq_false, true_or, or_true, reduceCtorEq, asVar_lrng, asVar_rev, asVar_idx3, asVar_popE, revD, lstD, e3', cv, e4, e5, w, et, two_SZ]; rfl)
    refine Eq.trans (ex_nx (e1 := ?e21) ?h21) ?g21
    case h21 => first | (simp only [runD, runM, evalB, execs, exec, evalE, evalA, evalO, evalC, evalS, evalL, brw, two, three, asVar_var, asVar_cst, asVar_mv, asVar_bin, asVar_neg, asVar_nt, asVar_cmp, asVar_chain, asVar_andE, asVar_orE, asVar_ife, asVar_tupE, asVar_lstE, asVar_idx, asVar_slc, asVar_call, asVar_callM, asVar_popI, asVar_bi, asVar_bi2, asVar_isi, rdE, rdL, putE, updE, putsE, mb0, setL_at0, setL_at1, intOf, bindT, augD, toD, binD, cmpD, eqD_int, eqD_str, eqD_bool, idxD, biD, isiD, isNone, itemsD, slcD, atI_zero, atI_one, strict, ok_bind, ex_bind, no_bind, List.map_cons, List.map_nil, List.replicate_succ, List.replicate_zero, List.cons_append, List.nil_append, List.append_nil, List.getElem?_cons_zero, List.getElem?_cons_succ, List.getElem?_nil, List.set_cons_zero, List.set_cons_succ, List.length_cons, List.length_nil, List.length_map, Bool.not_false, Bool.not_true, if_true, if_false, Bool.false_eq_true, List.eraseIdx_cons_succ, List.eraseIdx_cons_zero, and_self, true_and, and_true, ite_true, ite_false, decide_true, decide_false, ne_eq, not_false_eq_true, not_true_eq_false, true_or, or_true, reduceCtorEq, asVar_lrng, asVar_rev, asVar_idx3, asVar_popE, revD, lstD, lc, c0__law_other_v]; done) | (simp only [runD, runM, evalB, execs, exec, evalE, evalA, evalO, evalC, evalS, evalL, brw, two, three, asVar_var, asVar_cst, asVar_mv, asVar_bin, asVar_neg, asVar_nt, asVar_cmp, asVar_chain, asVar_andE, asVar_orE, asVar_ife, asVar_tupE, asVar_lstE, asVar_idx, asVar_slc, asVar_call, asVar_callM, asVar_popI, asVar_bi, asVar_bi2, asVar_isi, rdE, rdL, putE, updE, putsE, mb0, setL_at0, setL_at1, intOf, bindT, augD, toD, binD, cmpD, eqD_int, eqD_str, eqD_bool, idxD, biD, isiD, isNone, itemsD, slcD, atI_zero, atI_one, strict, ok_bind, ex_bind, no_bind, List.map_cons, List.map_nil, List.replicate_succ, List.replicate_zero, List.cons_append, List.nil_append, List.append_nil, List.getElem?_cons_zero, List.getElem?_cons_succ, List.getElem?_nil, List.set_cons_zero, List.set_cons_succ, List.length_cons, List.length_nil, List.length_map, Bool.not_false, Bool.not_true, if_true, if_false, Bool.false_eq_true, List.eraseIdx_cons_succ, List.eraseIdx_cons_zero, and_self, true_and, and_true, ite_true, ite_false, decide_true, decide_false, ne_eq, not_false_eq_true, not_true_eq_false, true_or, or_true, reduceCtorEq, asVar_lrng, asVar_rev, asVar_idx3, asVar_popE, revD, lstD, lc, c0__law_other_v]; rfl)
    rw [execs]
  refine Eq.trans (iff_skip (e1 := ?e6) ?h6) ?g6
  case h6 => first | (simp only [runD, runM, evalB, execs, exec, evalE, evalA, evalO, evalC, evalS, evalL, brw, two, three, asVar_var, asVar_cst, asVar_mv, asVar_bin, asVar_neg, asVar_nt, asVar_cmp, asVar_chain, asVar_andE, asVar_orE, asVar_ife, asVar_tupE, asVar_lstE, asVar_idx, asVar_slc, asVar_call, asVar_callM, asVar_popI, asVar_bi, asVar_bi2, asVar_isi, rdE, rdL, putE, updE, putsE, mb0, setL_at0, setL_at1, intOf, bindT, augD, toD, binD, cmpD, eqD_int, eqD_str, eqD_bool, idxD, biD, isiD, isNone, itemsD, slcD, atI_zero, atI_one, strict, ok_bind, ex_bind, no_bind, List.map_cons, List.map_nil, List.replicate_succ, List.replicate_zero, List.cons_append, List.nil_append, List.append_nil, List.getElem?_cons_zero, List.getElem?_cons_succ, List.getElem?_nil, List.set_cons_zero, List.set_cons_succ, List.length_cons, List.length_nil, List.length_map, Bool.not_false, Bool.not_true, if_true, if_false, Bool.false_eq_true, List.eraseIdx_cons_succ, List.eraseIdx_cons_zero, and_self, true_and, and_true, ite_true, ite_false, decide_true, decide_false, ne_eq, not_false_eq_true, not_true_eq_false, true_or, or_true, reduceCtorEq, asVar_lrng, asVar_rev, asVar_idx3, asVar_popE, revD, lstD, show ((2 : Int) == 3) = false from by decide]; done) | (simp only [runD, runM, evalB, execs, exec, evalE, evalA, evalO, evalC, evalS, evalL, brw, two, three, asVar_var, asVar_cst, asVar_mv, asVar_bin, asVar_neg, asVar_nt, asVar_cmp, asVar_chain, asVar_andE, asVar_orE, asVar_ife, asVar_tupE, asVar_lstE, asVar_idx, asVar_slc, asVar_call, asVar_callM, asVar_popI, asVar_bi, asVar_bi2, asVar_isi, rdE, rdL, putE, updE, putsE, mb0, setL_at0, setL_at1, intOf, bindT, augD, toD, binD, cmpD, eqD_int, eqD_str, eqD_bool, idxD, biD, isiD, isNone, itemsD, slcD, atI_zero, atI_one, strict, ok_bind, ex_bind, no_bind, List.map_cons, List.map_nil, List.replicate_succ, List.replicate_zero, List.cons_append, List.nil_append, List.append_nil, List.getElem?_cons_zero, List.getElem?_cons_succ, List.getElem?_nil, List.set_cons_zero, List.set_cons_succ, List.length_cons, List.length_nil, List.length_map, Bool.not_false, Bool.not_true, if_true, if_false, Bool.false_eq_true, List.eraseIdx_cons_succ, List.eraseIdx_cons_zero, and_self, true_and, and_true, ite_true, ite_false, decide_true, decide_false, ne_eq, not_false_eq_true, not_true_eq_false, true_or, or_true, reduceCtorEq, asVar_lrng, asVar_rev, asVar_idx3, asVar_popE, revD, lstD, show ((2 : Int) == 3) = false from by decide]; rfl)
  rfl
theorem other_k3 {ms ms1 ms2 : List D} {ns qs : List Int} {is : List Nat} (hn : okMarks ns) (hql : qs.length = ns.length) (m2 : okD ms2) (e2 : phi__law_seats ms1 [.int (ns.length : Int), .int 9] = .ok (.list (nL is), ms2)) (e3 : phi__law_all_reflected [.tuple (iL ns), .list (nL is)] = .ok (.fr (.tuple (iL qs)))) (e1 : phi__law_below ms [.int 5] = .ok (.int 3, ms1)) : ∃ ns' ms', phi__law_other ms [.tuple (iL ns)] = .ok (.tuple (iL ns'), ms') ∧ okD ms' ∧ okMarks ns' := by
  have hl3 := hn.1
  have hl8 := hn.2.1
  have hz : ns.length ≤ SZ := small_SZ hl8
  have k0' : ((3 : Int) == 0) = false := by decide
  have k1' : ((3 : Int) == 1) = false := by decide
  have k2' : ((3 : Int) == 2) = false := by decide
  obtain ⟨r3, ms3, e4, m3, l3, u3⟩ := below_ok m2 (L := (qs.length : Int)) (by omega) (by omega)
  obtain ⟨r4, ms4, e5, m4, l4, u4⟩ := below_ok m3 (L := 3) (by decide) (by decide)
  obtain ⟨i, hi⟩ : ∃ i : Nat, r3 = (i : Int) := ⟨r3.toNat, by omega⟩
  subst hi
  have hi : i < qs.length := by omega
  have g1 := at_iL' hi
  have g2 := cut_to (iL qs) i (by rw [iL_len]; omega)
  have g3 : cutD (iL qs) (some ((i : Int) + 1)) none = (iL qs).drop (i + 1) := by
    have : ((i : Int) + 1) = ((i + 1 : Nat) : Int) := by omega
    rw [this]
    exact cut_from _ _ (by rw [iL_len]; omega)
  have s2 : (((iL qs).take i).length + (0 + 1) ≤ SZ) = True := by
    refine eq_true (le_SZ ?_)
    rw [List.length_take, iL_len]
    omega
  have s3 : ∀ v, (((iL qs).take i ++ [PyData.int v]).length + ((iL qs).drop (i + 1)).length ≤ SZ) = True := fun v => by
    refine eq_true (le_SZ ?_)
    rw [List.length_append, List.length_take, List.length_drop, iL_len]
    show _ + 1 + _ ≤ _
    omega
  refine other_end hn (ps := qs.set i (gI qs i + 1 + r4)) (a2 := some (.fr (.int 3))) (a4 := none) (a5 := none) (a6 := none) (a7 := some (.fr (.int (i : Int)))) (a8 := none) m4 (by rw [List.length_set]; exact hql) ?_
  unfold ir__law_other
  refine Eq.trans (ex_nx (e1 := ?e22) ?h22) ?g22
  case h22 => first | (simp only [runD, runM, evalB, execs, exec, evalE, evalA, evalO, evalC, evalS, evalL, brw, two, three, asVar_var, asVar_cst, asVar_mv, asVar_bin, asVar_neg, asVar_nt, asVar_cmp, asVar_chain, asVar_andE, asVar_orE, asVar_ife, asVar_tupE, asVar_lstE, asVar_idx, asVar_slc, asVar_call, asVar_callM, asVar_popI, asVar_bi, asVar_bi2, asVar_isi, rdE, rdL, putE, updE, putsE, mb0, setL_at0, setL_at1, intOf, bindT, augD, toD, binD, cmpD, eqD_int, eqD_str, eqD_bool, idxD, biD, isiD, isNone, itemsD, slcD, atI_zero, atI_one, strict, ok_bind, ex_bind, no_bind, List.map_cons, List.map_nil, List.replicate_succ, List.replicate_zero, List.cons_append, List.nil_append, List.append_nil, List.getElem?_cons_zero, List.getElem?_cons_succ, List.getElem?_nil, List.set_cons_zero, List.set_cons_succ, List.length_cons, List.length_nil, List.length_map, Bool.not_false, Bool.not_true, if_true, if_false, Bool.false_eq_true, List.eraseIdx_cons_succ, List.eraseIdx_cons_zero, and_self, true_and, and_true, ite_true, ite_false, decide_true, decide_false, ne_eq, not_false_eq_true, not_true_eq_false, true_or, or_true, reduceCtorEq, asVar_lrng, asVar_rev, asVar_idx3, asVar_popE, revD, lstD, e1]; done) | (simp only [runD, runM, evalB, execs, exec, evalE, evalA, evalO, evalC, evalS, evalL, brw, two, three, asVar_var, asVar_cst, asVar_mv, asVar_bin, asVar_neg, asVar_nt, asVar_cmp, asVar_chain, asVar_andE, asVar_orE, asVar_ife, asVar_tupE, asVar_lstE, asVar_idx, asVar_slc, asVar_call, asVar_callM, asVar_popI, asVar_bi, asVar_bi2, asVar_isi, rdE, rdL, putE, updE, putsE, mb0, setL_at0, setL_at1, intOf, bindT, augD, toD, binD, cmpD, eqD_int, eqD_str, eqD_bool, idxD, biD, isiD, isNone, itemsD, slcD, atI_zero, atI_one, strict, ok_bind, ex_bind, no_bind, List.map_cons, List.map_nil, List.replicate_succ, List.replicate_zero, List.cons_append, List.nil_append, List.append_nil, List.getElem?_cons_zero, List.getElem?_cons_succ, List.getElem?_nil, List.set_cons_zero, List.set_cons_succ, List.length_cons, List.length_nil, List.length_map, Bool.not_false, Bool.not_true, if_true, if_false, Bool.false_eq_true, List.eraseIdx_cons_succ, List.eraseIdx_cons_zero, and_self, true_and, and_true, ite_true, ite_false, decide_true, decide_false, ne_eq, not_false_eq_true, not_true_eq_false, true_or, or_true, reduceCtorEq, asVar_lrng, asVar_rev, asVar_idx3, asVar_popE, revD, lstD, e1]; rfl)
  refine Eq.trans (iff_skip (e1 := ?e7) ?h7) ?g7
  case h7 => first | (simp only [runD, runM, evalB, execs, exec, evalE, evalA, evalO, evalC, evalS, evalL, brw, two, three, asVar_var, asVar_cst, asVar_mv, asVar_bin, asVar_neg, asVar_nt, asVar_cmp, asVar_chain, asVar_andE, asVar_orE, asVar_ife, asVar_tupE, asVar_lstE, asVar_idx, asVar_slc, asVar_call, asVar_callM, asVar_popI, asVar_bi, asVar_bi2, asVar_isi, rdE, rdL, putE, updE, putsE, mb0, setL_at0, setL_at1, intOf, bindT, augD, toD, binD, cmpD, eqD_int, eqD_str, eqD_bool, idxD, biD, isiD, isNone, itemsD, slcD, atI_zero, atI_one, strict, ok_bind, ex_bind, no_bind, List.map_cons, List.map_nil, List.replicate_succ, List.replicate_zero, List.cons_append, List.nil_append, List.append_nil, List.getElem?_cons_zero, List.getElem?_cons_succ, List.getElem?_nil, List.set_cons_zero, List.set_cons_succ, List.length_cons, List.length_nil, List.length_map, Bool.not_false, Bool.not_true, if_true, if_false, Bool.false_eq_true, List.eraseIdx_cons_succ, List.eraseIdx_cons_zero, and_self, true_and, and_true, ite_true, ite_false, decide_true, decide_false, ne_eq, not_false_eq_true, not_true_eq_false, true_or, or_true, reduceCtorEq, asVar_lrng, asVar_rev, asVar_idx3, asVar_popE, revD, lstD, k0']; done) | (simp only [runD, runM, evalB, execs, exec, evalE, evalA, evalO, evalC, evalS, evalL, brw, two, three, asVar_var, asVar_cst, asVar_mv, asVar_bin, asVar_neg, asVar_nt, asVar_cmp, asVar_chain, asVar_andE, asVar_orE, asVar_ife, asVar_tupE, asVar_lstE, asVar_idx, asVar_slc, asVar_call, asVar_callM, asVar_popI, asVar_bi, asVar_bi2, asVar_isi, rdE, rdL, putE, updE, putsE, mb0, setL_at0, setL_at1, intOf, bindT, augD, toD, binD, cmpD, eqD_int, eqD_str, eqD_bool, idxD, biD, isiD, isNone, itemsD, slcD, atI_zero, atI_one, strict, ok_bind, ex_bind, no_bind, List.map_cons, List.map_nil, List.replicate_succ, List.replicate_zero, List.cons_append, List.nil_append, List.append_nil, List.getElem?_cons_zero, List.getElem?_cons_succ, List.getElem?_nil, List.set_cons_zero, List.set_cons_succ, List.length_cons, List.length_nil, List.length_map, Bool.not_false, Bool.not_true, if_true, if_false, Bool.false_eq_true, List.eraseIdx_cons_succ, List.eraseIdx_cons_zero, and_self, true_and, and_true, ite_true, ite_false, decide_true, decide_false, ne_eq, not_false_eq_true, not_true_eq_false, true_or, or_true, reduceCtorEq, asVar_lrng, asVar_rev, asVar_idx3, asVar_popE, revD, lstD, k0']; rfl)
  refine Eq.trans (ex_nx (e1 := ?e23) ?h23) ?g23
  case h23 => first | (simp only [runD, runM, evalB, execs, exec, evalE, evalA, evalO, evalC, evalS, evalL, brw, two, three, asVar_var, asVar_cst, asVar_mv, asVar_bin, asVar_neg, asVar_nt, asVar_cmp, asVar_chain, asVar_andE, asVar_orE, asVar_ife, asVar_tupE, asVar_lstE, asVar_idx, asVar_slc, asVar_call, asVar_callM, asVar_popI, asVar_bi, asVar_bi2, asVar_isi, rdE, rdL, putE, updE, putsE, mb0, setL_at0, setL_at1, intOf, bindT, augD, toD, binD, cmpD, eqD_int, eqD_str, eqD_bool, idxD, biD, isiD, isNone, itemsD, slcD, atI_zero, atI_one, strict, ok_bind, ex_bind, no_bind, List.map_cons, List.map_nil, List.replicate_succ, List.replicate_zero, List.cons_append, List.nil_append, List.append_nil, List.getElem?_cons_zero, List.getElem?_cons_succ, List.getElem?_nil, List.set_cons_zero, List.set_cons_succ, List.length_cons, List.length_nil, List.length_map, Bool.not_false, Bool.not_true, if_true, if_false, Bool.false_eq_true, List.eraseIdx_cons_succ, List.eraseIdx_cons_zero, and_self, true_and, and_true, ite_true, ite_false, decide_true, decide_false, ne_eq, not_false_eq_true, not_true_eq_false, true_or, or_true, reduceCtorEq, asVar_lrng, asVar_rev, asVar_idx3, asVar_popE, revD, lstD, iL_len, e2, e3]; done) | (simp only [runD, runM, evalB, execs, exec, evalE, evalA, evalO, evalC, evalS, evalL, brw, two, three, asVar_var, asVar_cst, asVar_mv, asVar_bin, asVar_neg, asVar_nt, asVar_cmp, asVar_chain, asVar_andE, asVar_orE, asVar_ife, asVar_tupE, asVar_lstE, asVar_idx, asVar_slc, asVar_call, asVar_callM, asVar_popI, asVar_bi, asVar_bi2, asVar_isi, rdE, rdL, putE, updE, putsE, mb0, setL_at0, setL_at1, intOf, bindT, augD, toD, binD, cmpD, eqD_int, eqD_str, eqD_bool, idxD, biD, isiD, isNone, itemsD, slcD, atI_zero, atI_one, strict, ok_bind, ex_bind, no_bind, List.map_cons, List.map_nil, List.replicate_succ, List.replicate_zero, List.cons_append, List.nil_append, List.append_nil, List.getElem?_cons_zero, List.getElem?_cons_succ, List.getElem?_nil, List.set_cons_zero, List.set_cons_succ, List.length_cons, List.length_nil, List.length_map, Bool.not_false, Bool.not_true, if_true, if_false, Bool.false_eq_true, List.eraseIdx_cons_succ, List.eraseIdx_cons_zero, and_self, true_and, and_true, ite_true, ite_false, decide_true, decide_false, ne_eq, not_false_eq_true, not_true_eq_false, true_or, or_true, reduceCtorEq, asVar_lrng, asVar_rev, asVar_idx3, asVar_popE, revD, lstD, iL_len, e2, e3]; rfl)
  refine Eq.trans (iff_skip (e1 := ?e8) ?h8) ?g8
  case h8 => first | (simp only [runD, runM, evalB, execs, exec, evalE, evalA, evalO, evalC, evalS, evalL, brw, two, three, asVar_var, asVar_cst, asVar_mv, asVar_bin, asVar_neg, asVar_nt, asVar_cmp, asVar_chain, asVar_andE, asVar_orE, asVar_ife, asVar_tupE, asVar_lstE, asVar_idx, asVar_slc, asVar_call, asVar_callM, asVar_popI, asVar_bi, asVar_bi2, asVar_isi, rdE, rdL, putE, updE, putsE, mb0, setL_at0, setL_at1, intOf, bindT, augD, toD, binD, cmpD, eqD_int, eqD_str, eqD_bool, idxD, biD, isiD, isNone, itemsD, slcD, atI_zero, atI_one, strict, ok_bind, ex_bind, no_bind, List.map_cons, List.map_nil, List.replicate_succ, List.replicate_zero, List.cons_append, List.nil_append, List.append_nil, List.getElem?_cons_zero, List.getElem?_cons_succ, List.getElem?_nil, List.set_cons_zero, List.set_cons_succ, List.length_cons, List.length_nil, List.length_map, Bool.not_false, Bool.not_true, if_true, if_false, Bool.false_eq_true, List.eraseIdx_cons_succ, List.eraseIdx_cons_zero, and_self, true_and, and_true, ite_true, ite_false, decide_true, decide_false, ne_eq, not_false_eq_true, not_true_eq_false, true_or, or_true, reduceCtorEq, asVar_lrng, asVar_rev, asVar_idx3, asVar_popE, revD, lstD, k1']; done) | (simp only [runD, runM, evalB, execs, exec, evalE, evalA, evalO, evalC, evalS, evalL, brw, two, three, asVar_var, asVar_cst, asVar_mv, asVar_bin, asVar_neg, asVar_nt, asVar_cmp, asVar_chain, asVar_andE, asVar_orE, asVar_ife, asVar_tupE, asVar_lstE, asVar_idx, asVar_slc, asVar_call, asVar_callM, asVar_popI, asVar_bi, asVar_bi2, asVar_isi, rdE, rdL, putE, updE, putsE, mb0, setL_at0, setL_at1, intOf, bindT, augD, toD, binD, cmpD, eqD_int, eqD_str, eqD_bool, idxD, biD, isiD, isNone, itemsD, slcD, atI_zero, atI_one, strict, ok_bind, ex_bind, no_bind, List.map_cons, List.map_nil, List.replicate_succ, List.replicate_zero, List.cons_append, List.nil_append, List.append_nil, List.getElem?_cons_zero, List.getElem?_cons_succ, List.getElem?_nil, List.set_cons_zero, List.set_cons_succ, List.length_cons, List.length_nil, List.length_map, Bool.not_false, Bool.not_true, if_true, if_false, Bool.false_eq_true, List.eraseIdx_cons_succ, List.eraseIdx_cons_zero, and_self, true_and, and_true, ite_true, ite_false, decide_true, decide_false, ne_eq, not_false_eq_true, not_true_eq_false, true_or, or_true, reduceCtorEq, asVar_lrng, asVar_rev, asVar_idx3, asVar_popE, revD, lstD, k1']; rfl)
  refine Eq.trans (iff_skip (e1 := ?e9) ?h9) ?g9
  case h9 => first | (simp only [runD, runM, evalB, execs, exec, evalE, evalA, evalO, evalC, evalS, evalL, brw, two, three, asVar_var, asVar_cst, asVar_mv, asVar_bin, asVar_neg, asVar_nt, asVar_cmp, asVar_chain, asVar_andE, asVar_orE, asVar_ife, asVar_tupE, asVar_lstE, asVar_idx, asVar_slc, asVar_call, asVar_callM, asVar_popI, asVar_bi, asVar_bi2, asVar_isi, rdE, rdL, putE, updE, putsE, mb0, setL_at0, setL_at1, intOf, bindT, augD, toD, binD, cmpD, eqD_int, eqD_str, eqD_bool, idxD, biD, isiD, isNone, itemsD, slcD, atI_zero, atI_one, strict, ok_bind, ex_bind, no_bind, List.map_cons, List.map_nil, List.replicate_succ, List.replicate_zero, List.cons_append, List.nil_append, List.append_nil, List.getElem?_cons_zero, List.getElem?_cons_succ, List.getElem?_nil, List.set_cons_zero, List.set_cons_succ, List.length_cons, List.length_nil, List.length_map, Bool.not_false, Bool.not_true, if_true, if_false, Bool.false_eq_true, List.eraseIdx_cons_succ, List.eraseIdx_cons_zero, and_self, true_and, and_true, ite_true, ite_false, decide_true, decide_false, ne_eq, not_false_eq_true, not_true_eq_false, true_or, or_true, reduceCtorEq, asVar_lrng, asVar_rev, asVar_idx3, asVar_popE, revD, lstD, k2']; done) | (simp only [runD, runM, evalB, execs, exec, evalE, evalA, evalO, evalC, evalS, evalL, brw, two, three, asVar_var, asVar_cst, asVar_mv, asVar_bin, asVar_neg, asVar_nt, asVar_cmp, asVar_chain, asVar_andE, asVar_orE, asVar_ife, asVar_tupE, asVar_lstE, asVar_idx, asVar_slc, asVar_call, asVar_callM, asVar_popI, asVar_bi, asVar_bi2, asVar_isi, rdE, rdL, putE, updE, putsE, mb0, setL_at0, setL_at1, intOf, bindT, augD, toD, binD, cmpD, eqD_int, eqD_str, eqD_bool, idxD, biD, isiD, isNone, itemsD, slcD, atI_zero, atI_one, strict, ok_bind, ex_bind, no_bind, List.map_cons, List.map_nil, List.replicate_succ, List.replicate_zero, List.cons_append, List.nil_append, List.append_nil, List.getElem?_cons_zero, List.getElem?_cons_succ, List.getElem?_nil, List.set_cons_zero, List.set_cons_succ, List.length_cons, List.length_nil, List.length_map, Bool.not_false, Bool.not_true, if_true, if_false, Bool.false_eq_true, List.eraseIdx_cons_succ, List.eraseIdx_cons_zero, and_self, true_and, and_true, ite_true, ite_false, decide_true, decide_false, ne_eq, not_false_eq_true, not_true_eq_false, true_or, or_true, reduceCtorEq, asVar_lrng, asVar_rev, asVar_idx3, asVar_popE, revD, lstD, k2']; rfl)
  refine Eq.trans (ex_nx (e1 := ?ec) ((iff_T (e1 := ?dc) ?hc).trans ?bc)) ?gc
  case hc => first | (simp only [runD, runM, evalB, execs, exec, evalE, evalA, evalO, evalC, evalS, evalL, brw, two, three, asVar_var, asVar_cst, asVar_mv, asVar_bin, asVar_neg, asVar_nt, asVar_cmp, asVar_chain, asVar_andE, asVar_orE, asVar_ife, asVar_tupE, asVar_lstE, asVar_idx, asVar_slc, asVar_call, asVar_callM, asVar_popI, asVar_bi, asVar_bi2, asVar_isi, rdE, rdL, putE, updE, putsE, mb0, setL_at0, setL_at1, intOf, bindT, augD, toD, binD, cmpD, eqD_int, eqD_str, eqD_bool, idxD, biD, isiD, isNone, itemsD, slcD, atI_zero, atI_one, strict, ok_bind, ex_bind, no_bind, List.map_cons, List.map_nil, List.replicate_succ, List.replicate_zero, List.cons_append, List.nil_append, List.append_nil, List.getElem?_cons_zero, List.getElem?_cons_succ, List.getElem?_nil, List.set_cons_zero, List.set_cons_succ, List.length_cons, List.length_nil, List.length_map, Bool.not_false, Bool.not_true, if_true, if_false, Bool.false_eq_true, List.eraseIdx_cons_succ, List.eraseIdx_cons_zero, and_self, true_and, and_true, ite_true, ite_false, decide_true, decide_false, ne_eq, not_false_eq_true, not_true_eq_false, true_or, or_true, reduceCtorEq, asVar_lrng, asVar_rev, asVar_idx3, asVar_popE, revD, lstD, beq_self_eq_true]; done) | (simp only [runD, runM, evalB, execs, exec, evalE, evalA, evalO, evalC, evalS, evalL, brw, two, three, asVar_var, asVar_cst, asVar_mv, asVar_bin, asVar_neg, asVar_nt, asVar_cmp, asVar_chain, asVar_andE, asVar_orE, asVar_ife, asVar_tupE, asVar_lstE, asVar_idx, asVar_slc, asVar_call, asVar_callM, asVar_popI, asVar_bi, asVar_bi2, asVar_isi, rdE, rdL, putE, updE, putsE, mb0, setL_at0, setL_at1, intOf, bindT, augD, toD, binD, cmpD, eqD_int, eqD_str, eqD_bool, idxD, biD, isiD, isNone, itemsD, slcD, atI_zero, atI_one, strict, ok_bind, ex_bind, no_bind, List.map_cons, List.map_nil, List.replicate_succ, List.replicate_zero, List.cons_append, List.nil_append, List.append_nil, List.getElem?_cons_zero, List.getElem?_cons_succ, List.getElem?_nil, List.set_cons_zero, List.set_cons_succ, List.length_cons, List.length_nil, List.length_map, Bool.not_false, Bool.not_true, if_true, if_false, Bool.false_eq_true, List.eraseIdx_cons_succ, List.eraseIdx_cons_zero, and_self, true_and, and_true, ite_true, ite_false, decide_true, decide_false, ne_eq, not_false_eq_true, not_true_eq_false, true_or, or_true, reduceCtorEq, asVar_lrng, asVar_rev, asVar_idx3, asVar_popE, revD, lstD, beq_self_eq_true]; rfl)
  case bc =>
    refine Eq.trans (ex_nx (e1 := ?e24) ?h24) ?g24
    case h24 => first | (simp only [runD, runM, evalB, execs, exec, evalE, evalA, evalO, evalC, evalS, evalL, brw, two, three, asVar_var, asVar_cst, asVar_mv, asVar_bin, asVar_neg, asVar_nt, asVar_cmp, asVar_chain, asVar_andE, asVar_orE, asVar_ife, asVar_tupE, asVar_lstE, asVar_idx, asVar_slc, asVar_call, asVar_callM, asVar_popI, asVar_bi, asVar_bi2, asVar_isi, rdE, rdL, putE, updE, putsE, mb0, setL_at0, setL_at1, intOf, bindT, augD, toD, binD, cmpD, eqD_int, eqD_str, eqD_bool, idxD, biD, isiD, isNone, itemsD, slcD, atI_zero, atI_one, strict, ok_bind, ex_bind, no_bind, List.map_cons, List.map_nil, List.replicate_succ, List.replicate_zero, List.cons_append, List.nil_append, List.append_nil, List.getElem?_cons_zero, List.getElem?_cons_succ, List.getElem?_nil, List.set_cons_zero, List.set_cons_succ, List.length_cons, List.length_nil, List.length_map, Bool.not_false, Bool.not_true, if_true, if_false, Bool.false_eq_true, List.eraseIdx_cons_succ, List.eraseIdx_cons_zero, and_self, true_and, and_true, ite_true, ite_false, decide_true, decide_false, ne_eq, not_false_eq_true, not_true_eq_false, true_or, or_true, reduceCtorEq, asVar_lrng, asVar_rev, asVar_idx3, asVar_popE, revD, lstD, iL_len, e4]; done) | (simp only [runD, runM, evalB, execs, exec, evalE, evalA, evalO, evalC, evalS, evalL, brw, two, three, asVar_var, asVar_cst, asVar_mv, asVar_bin, asVar_neg, asVar_nt, asVar_cmp, asVar_chain, asVar_andE, asVar_orE, asVar_ife, asVar_tupE, asVar_lstE, asVar_idx, asVar_slc, asVar_call, asVar_callM, asVar_popI, asVar_bi, asVar_bi2, asVar_isi, rdE, rdL, putE, updE, putsE, mb0, setL_at0, setL_at1, intOf, bindT, augD, toD, binD, cmpD, eqD_int, eqD_str, eqD_bool, idxD, biD, isiD, isNone, itemsD, slcD, atI_zero, atI_one, strict, ok_bind, ex_bind, no_bind, List.map_cons, List.map_nil, List.replicate_succ, List.replicate_zero, List.cons_append, List.nil_append, List.append_nil, List.getElem?_cons_zero, List.getElem?_cons_succ, List.getElem?_nil, List.set_cons_zero, List.set_cons_succ, List.length_cons, List.length_nil, List.length_map, Bool.not_false, Bool.not_true, if_true, if_false, Bool.false_eq_true, List.eraseIdx_cons_succ, List.eraseIdx_cons_zero, and_self, true_and, and_true, ite_true, ite_false, decide_true, decide_false, ne_eq, not_false_eq_true, not_true_eq_false, true_or, or_true, reduceCtorEq, asVar_lrng, asVar_rev, asVar_idx3, asVar_popE, revD, lstD, iL_len, e4]; rfl)
    refine Eq.trans (ex_nx (e1 := ?e25) ?h25) ?g25
    case h25 => first | (simp only [runD, runM, evalB, execs, exec, evalE, evalA, evalO, evalC, evalS, evalL, brw, two, three, asVar_var, asVar_cst, asVar_mv, asVar_bin, asVar_neg, asVar_nt, asVar_cmp, asVar_chain, asVar_andE, asVar_orE, asVar_ife, asVar_tupE, asVar_lstE, asVar_idx, asVar_slc, asVar_call, asVar_callM, asVar_popI, asVar_bi, asVar_bi2, asVar_isi, rdE, rdL, putE, updE, putsE, mb0, setL_at0, setL_at1, intOf, bindT, augD, toD, binD, cmpD, eqD_int, eqD_str, eqD_bool, idxD, biD, isiD, isNone, itemsD, slcD, atI_zero, atI_one, strict, ok_bind, ex_bind, no_bind, List.map_cons, List.map_nil, List.replicate_succ, List.replicate_zero, List.cons_append, List.nil_append, List.append_nil, List.getElem?_cons_zero, List.getElem?_cons_succ, List.getElem?_nil, List.set_cons_zero, List.set_cons_succ, List.length_cons, List.length_nil, List.length_map, Bool.not_false, Bool.not_true, if_true, if_false, Bool.false_eq_true, List.eraseIdx_cons_succ, List.eraseIdx_cons_zero, and_self, true_and, and_true, ite_true, ite_false, decide_true, decide_false, ne_eq, not_false_eq_true, not_true_eq_false, true_or, or_true, reduceCtorEq, asVar_lrng, asVar_rev, asVar_idx3, asVar_popE, revD, lstD, g1, g2, g3, s2, s3, e5, one_SZ, set_iL hi, iL_len]; done) | (simp only [runD, runM, evalB, execs, exec, evalE, evalA, evalO, evalC, evalS, evalL, brw, two, three, asVar_var, asVar_cst, asVar_mv, asVar_bin, asVar_neg, asVar_nt, asVar_cmp, asVar_chain, asVar_andE, asVar_orE, asVar_ife, asVar_tupE, asVar_lstE, asVar_idx, asVar_slc, asVar_call, asVar_callM, asVar_popI, asVar_bi, asVar_bi2, asVar_isi, rdE, rdL, putE, updE, putsE, mb0, setL_at0, setL_at1, intOf, bindT, augD, toD, binD, cmpD, eqD_int, eqD_str, eqD_bool, idxD, biD, isiD, isNone, itemsD, slcD, atI_zero, atI_one, strict, ok_bind, ex_bind, no_bind, List.map_cons, List.map_nil, List.replicate_succ, List.replicate_zero, List.cons_append, List.nil_append, List.append_nil, List.getElem?_cons_zero, List.getElem?_cons_succ, List.getElem?_nil, List.set_cons_zero, List.set_cons_succ, List.length_cons, List.length_nil, List.length_map, Bool.not_false, Bool.not_true, if_true, if_false, Bool.false_eq_true, List.eraseIdx_cons_succ, List.eraseIdx_cons_zero, and_self, true_and, and_true, ite_true, ite_false, decide_true, decide_false, ne_eq, not_false_eq_true, not_true_eq_false, true_or, or_true, reduceCtorEq, asVar_lrng, asVar_rev, asVar_idx3, asVar_popE, revD, lstD, g1, g2, g3, s2, s3, e5, one_SZ, set_iL hi, iL_len]; rfl)
    rw [execs]
  rfl
theorem other_kr {ms ms1 ms2 : List D} {ns qs : List Int} {is : List Nat} (hn : okMarks ns) (hql : qs.length = ns.length) (m2 : okD ms2) (e2 : phi__law_seats ms1 [.int (ns.length : Int), .int 9] = .ok (.list (nL is), ms2)) (e3 : phi__law_all_reflected [.tuple (iL ns), .list (nL is)] = .ok (.fr (.tuple (iL qs)))) {k : Int} (k0 : k ≠ 0) (k1 : k ≠ 1) (k2 : k ≠ 2) (k3 : k ≠ 3) (e1 : phi__law_below ms [.int 5] = .ok (.int k, ms1)) : ∃ ns' ms', phi__law_other ms [.tuple (iL ns)] = .ok (.tuple (iL ns'), ms') ∧ okD ms' ∧ okMarks ns' := by
  have hl3 := hn.1
  have hl8 := hn.2.1
  have hz : ns.length ≤ SZ := small_SZ hl8
  have k0' := beq_no k0
  have k1' := beq_no k1
  have k2' := beq_no k2
  have k3' := beq_no k3
  refine other_end hn (ps := qs) (a2 := some (.fr (.int k))) (a4 := none) (a5 := none) (a6 := none) (a7 := none) (a8 := none) m2 hql ?_
  unfold ir__law_other
  refine Eq.trans (ex_nx (e1 := ?e26) ?h26) ?g26
  case h26 => first | (simp only [runD, runM, evalB, execs, exec, evalE, evalA, evalO, evalC, evalS, evalL, brw, two, three, asVar_var, asVar_cst, asVar_mv, asVar_bin, asVar_neg, asVar_nt, asVar_cmp, asVar_chain, asVar_andE, asVar_orE, asVar_ife, asVar_tupE, asVar_lstE, asVar_idx, asVar_slc, asVar_call, asVar_callM, asVar_popI, asVar_bi, asVar_bi2, asVar_isi, rdE, rdL, putE, updE, putsE, mb0, setL_at0, setL_at1, intOf, bindT, augD, toD, binD, cmpD, eqD_int, eqD_str, eqD_bool, idxD, biD, isiD, isNone, itemsD, slcD, atI_zero, atI_one, strict, ok_bind, ex_bind, no_bind, List.map_cons, List.map_nil, List.replicate_succ, List.replicate_zero, List.cons_append, List.nil_append, List.append_nil, List.getElem?_cons_zero, List.getElem?_cons_succ, List.getElem?_nil, List.set_cons_zero, List.set_cons_succ, List.length_cons, List.length_nil, List.length_map, Bool.not_false, Bool.not_true, if_true, if_false, Bool.false_eq_true, List.eraseIdx_cons_succ, List.eraseIdx_cons_zero, and_self, true_and, and_true, ite_true, ite_false, decide_true, decide_false, ne_eq, not_false_eq_true, not_true_eq_false, true_or, or_true, reduceCtorEq, asVar_lrng, asVar_rev, asVar_idx3, asVar_popE, revD, lstD, e1]; done) | (simp only [runD, runM, evalB, execs, exec, evalE, evalA, evalO, evalC, evalS, evalL, brw, two, three, asVar_var, asVar_cst, asVar_mv, asVar_bin, asVar_neg, asVar_nt, asVar_cmp, asVar_chain, asVar_andE, asVar_orE, asVar_ife, asVar_tupE, asVar_lstE, asVar_idx, asVar_slc, asVar_call, asVar_callM, asVar_popI, asVar_bi, asVar_bi2, asVar_isi, rdE, rdL, putE, updE, putsE, mb0, setL_at0, setL_at1, intOf, bindT, augD, toD, binD, cmpD, eqD_int, eqD_str, eqD_bool, idxD, biD, isiD, isNone, itemsD, slcD, atI_zero, atI_one, strict, ok_bind, ex_bind, no_bind, List.map_cons, List.map_nil, List.replicate_succ, List.replicate_zero, List.cons_append, List.nil_append, List.append_nil, List.getElem?_cons_zero, List.getElem?_cons_succ, List.getElem?_nil, List.set_cons_zero, List.set_cons_succ, List.length_cons, List.length_nil, List.length_map, Bool.not_false, Bool.not_true, if_true, if_false, Bool.false_eq_true, List.eraseIdx_cons_succ, List.eraseIdx_cons_zero, and_self, true_and, and_true, ite_true, ite_false, decide_true, decide_false, ne_eq, not_false_eq_true, not_true_eq_false, true_or, or_true, reduceCtorEq, asVar_lrng, asVar_rev, asVar_idx3, asVar_popE, revD, lstD, e1]; rfl)
  refine Eq.trans (iff_skip (e1 := ?e10) ?h10) ?g10
  case h10 => first | (simp only [runD, runM, evalB, execs, exec, evalE, evalA, evalO, evalC, evalS, evalL, brw, two, three, asVar_var, asVar_cst, asVar_mv, asVar_bin, asVar_neg, asVar_nt, asVar_cmp, asVar_chain, asVar_andE, asVar_orE, asVar_ife, asVar_tupE, asVar_lstE, asVar_idx, asVar_slc, asVar_call, asVar_callM, asVar_popI, asVar_bi, asVar_bi2, asVar_isi, rdE, rdL, putE, updE, putsE, mb0, setL_at0, setL_at1, intOf, bindT, augD, toD, binD, cmpD, eqD_int, eqD_str, eqD_bool, idxD, biD, isiD, isNone, itemsD, slcD, atI_zero, atI_one, strict, ok_bind, ex_bind, no_bind, List.map_cons, List.map_nil, List.replicate_succ, List.replicate_zero, List.cons_append, List.nil_append, List.append_nil, List.getElem?_cons_zero, List.getElem?_cons_succ, List.getElem?_nil, List.set_cons_zero, List.set_cons_succ, List.length_cons, List.length_nil, List.length_map, Bool.not_false, Bool.not_true, if_true, if_false, Bool.false_eq_true, List.eraseIdx_cons_succ, List.eraseIdx_cons_zero, and_self, true_and, and_true, ite_true, ite_false, decide_true, decide_false, ne_eq, not_false_eq_true, not_true_eq_false, true_or, or_true, reduceCtorEq, asVar_lrng, asVar_rev, asVar_idx3, asVar_popE, revD, lstD, k0']; done) | (simp only [runD, runM, evalB, execs, exec, evalE, evalA, evalO, evalC, evalS, evalL, brw, two, three, asVar_var, asVar_cst, asVar_mv, asVar_bin, asVar_neg, asVar_nt, asVar_cmp, asVar_chain, asVar_andE, asVar_orE, asVar_ife, asVar_tupE, asVar_lstE, asVar_idx, asVar_slc, asVar_call, asVar_callM, asVar_popI, asVar_bi, asVar_bi2, asVar_isi, rdE, rdL, putE, updE, putsE, mb0, setL_at0, setL_at1, intOf, bindT, augD, toD, binD, cmpD, eqD_int, eqD_str, eqD_bool, idxD, biD, isiD, isNone, itemsD, slcD, atI_zero, atI_one, strict, ok_bind, ex_bind, no_bind, List.map_cons, List.map_nil, List.replicate_succ, List.replicate_zero, List.cons_append, List.nil_append, List.append_nil, List.getElem?_cons_zero, List.getElem?_cons_succ, List.getElem?_nil, List.set_cons_zero, List.set_cons_succ, List.length_cons, List.length_nil, List.length_map, Bool.not_false, Bool.not_true, if_true, if_false, Bool.false_eq_true, List.eraseIdx_cons_succ, List.eraseIdx_cons_zero, and_self, true_and, and_true, ite_true, ite_false, decide_true, decide_false, ne_eq, not_false_eq_true, not_true_eq_false, true_or, or_true, reduceCtorEq, asVar_lrng, asVar_rev, asVar_idx3, asVar_popE, revD, lstD, k0']; rfl)
  refine Eq.trans (ex_nx (e1 := ?e27) ?h27) ?g27
  case h27 => first | (simp only [runD, runM, evalB, execs, exec, evalE, evalA, evalO, evalC, evalS, evalL, brw, two, three, asVar_var, asVar_cst, asVar_mv, asVar_bin, asVar_neg, asVar_nt, asVar_cmp, asVar_chain, asVar_andE, asVar_orE, asVar_ife, asVar_tupE, asVar_lstE, asVar_idx, asVar_slc, asVar_call, asVar_callM, asVar_popI, asVar_bi, asVar_bi2, asVar_isi, rdE, rdL, putE, updE, putsE, mb0, setL_at0, setL_at1, intOf, bindT, augD, toD, binD, cmpD, eqD_int, eqD_str, eqD_bool, idxD, biD, isiD, isNone, itemsD, slcD, atI_zero, atI_one, strict, ok_bind, ex_bind, no_bind, List.map_cons, List.map_nil, List.replicate_succ, List.replicate_zero, List.cons_append, List.nil_append, List.append_nil, List.getElem?_cons_zero, List.getElem?_cons_succ, List.getElem?_nil, List.set_cons_zero, List.set_cons_succ, List.length_cons, List.length_nil, List.length_map, Bool.not_false, Bool.not_true, if_true, if_false, Bool.false_eq_true, List.eraseIdx_cons_succ, List.eraseIdx_cons_zero, and_self, true_and, and_true, ite_true, ite_false, decide_true, decide_false, ne_eq, not_false_eq_true, not_true_eq_false, true_or, or_true, reduceCtorEq, asVar_lrng, asVar_rev, asVar_idx3, asVar_popE, revD, lstD, iL_len, e2, e3]; done) | (simp only [runD, runM, evalB, execs, exec, evalE, evalA, evalO, evalC, evalS, evalL, brw, two, three, asVar_var, asVar_cst, asVar_mv, asVar_bin, asVar_neg, asVar_nt, asVar_cmp, asVar_chain, asVar_andE, asVar_orE, asVar_ife, asVar_tupE, asVar_lstE, asVar_idx, asVar_slc, asVar_call, asVar_callM, asVar_popI, asVar_bi, asVar_bi2, asVar_isi, rdE, rdL, putE, updE, putsE, mb0, setL_at0, setL_at1, intOf, bindT, augD, toD, binD, cmpD, eqD_int, eqD_str, eqD_bool, idxD, biD, isiD, isNone, itemsD, slcD, atI_zero, atI_one, strict, ok_bind, ex_bind, no_bind, List.map_cons, List.map_nil, List.replicate_succ, List.replicate_zero, List.cons_append, List.nil_append, List.append_nil, List.getElem?_cons_zero, List.getElem?_cons_succ, List.getElem?_nil, List.set_cons_zero, List.set_cons_succ, List.length_cons, List.length_nil, List.length_map, Bool.not_false, Bool.not_true, if_true, if_false, Bool.false_eq_true, List.eraseIdx_cons_succ, List.eraseIdx_cons_zero, and_self, true_and, and_true, ite_true, ite_false, decide_true, decide_false, ne_eq, not_false_eq_true, not_true_eq_false, true_or, or_true, reduceCtorEq, asVar_lrng, asVar_rev, asVar_idx3, asVar_popE, revD, lstD, iL_len, e2, e3]; rfl)
  refine Eq.trans (iff_skip (e1 := ?e11) ?h11) ?g11
  case h11 => first | (simp only [runD, runM, evalB, execs, exec, evalE, evalA, evalO, evalC, evalS, evalL, brw, two, three, asVar_var, asVar_cst, asVar_mv, asVar_bin, asVar_neg, asVar_nt, asVar_cmp, asVar_chain, asVar_andE, asVar_orE, asVar_ife, asVar_tupE, asVar_lstE, asVar_idx, asVar_slc, asVar_call, asVar_callM, asVar_popI, asVar_bi, asVar_bi2, asVar_isi, rdE, rdL, putE, updE, putsE, mb0, setL_at0, setL_at1, intOf, bindT, augD, toD, binD, cmpD, eqD_int, eqD_str, eqD_bool, idxD, biD, isiD, isNone, itemsD, slcD, atI_zero, atI_one, strict, ok_bind, ex_bind, no_bind, List.map_cons, List.map_nil, List.replicate_succ, List.replicate_zero, List.cons_append, List.nil_append, List.append_nil, List.getElem?_cons_zero, List.getElem?_cons_succ, List.getElem?_nil, List.set_cons_zero, List.set_cons_succ, List.length_cons, List.length_nil, List.length_map, Bool.not_false, Bool.not_true, if_true, if_false, Bool.false_eq_true, List.eraseIdx_cons_succ, List.eraseIdx_cons_zero, and_self, true_and, and_true, ite_true, ite_false, decide_true, decide_false, ne_eq, not_false_eq_true, not_true_eq_false, true_or, or_true, reduceCtorEq, asVar_lrng, asVar_rev, asVar_idx3, asVar_popE, revD, lstD, k1']; done) | (simp only [runD, runM, evalB, execs, exec, evalE, evalA, evalO, evalC, evalS, evalL, brw, two, three, asVar_var, asVar_cst, asVar_mv, asVar_bin, asVar_neg, asVar_nt, asVar_cmp, asVar_chain, asVar_andE, asVar_orE, asVar_ife, asVar_tupE, asVar_lstE, asVar_idx, asVar_slc, asVar_call, asVar_callM, asVar_popI, asVar_bi, asVar_bi2, asVar_isi, rdE, rdL, putE, updE, putsE, mb0, setL_at0, setL_at1, intOf, bindT, augD, toD, binD, cmpD, eqD_int, eqD_str, eqD_bool, idxD, biD, isiD, isNone, itemsD, slcD, atI_zero, atI_one, strict, ok_bind, ex_bind, no_bind, List.map_cons, List.map_nil, List.replicate_succ, List.replicate_zero, List.cons_append, List.nil_append, List.append_nil, List.getElem?_cons_zero, List.getElem?_cons_succ, List.getElem?_nil, List.set_cons_zero, List.set_cons_succ, List.length_cons, List.length_nil, List.length_map, Bool.not_false, Bool.not_true, if_true, if_false, Bool.false_eq_true, List.eraseIdx_cons_succ, List.eraseIdx_cons_zero, and_self, true_and, and_true, ite_true, ite_false, decide_true, decide_false, ne_eq, not_false_eq_true, not_true_eq_false, true_or, or_true, reduceCtorEq, asVar_lrng, asVar_rev, asVar_idx3, asVar_popE, revD, lstD, k1']; rfl)
  refine Eq.trans (iff_skip (e1 := ?e12) ?h12) ?g12
  case h12 => first | (simp only [runD, runM, evalB, execs, exec, evalE, evalA, evalO, evalC, evalS, evalL, brw, two, three, asVar_var, asVar_cst, asVar_mv, asVar_bin, asVar_neg, asVar_nt, asVar_cmp, asVar_chain, asVar_andE, asVar_orE, asVar_ife, asVar_tupE, asVar_lstE, asVar_idx, asVar_slc, asVar_call, asVar_callM, asVar_popI, asVar_bi, asVar_bi2, asVar_isi, rdE, rdL, putE, updE, putsE, mb0, setL_at0, setL_at1, intOf, bindT, augD, toD, binD, cmpD, eqD_int, eqD_str, eqD_bool, idxD, biD, isiD, isNone, itemsD, slcD, atI_zero, atI_one, strict, ok_bind, ex_bind, no_bind, List.map_cons, List.map_nil, List.replicate_succ, List.replicate_zero, List.cons_append, List.nil_append, List.append_nil, List.getElem?_cons_zero, List.getElem?_cons_succ, List.getElem?_nil, List.set_cons_zero, List.set_cons_succ, List.length_cons, List.length_nil, List.length_map, Bool.not_false, Bool.not_true, if_true, if_false, Bool.false_eq_true, List.eraseIdx_cons_succ, List.eraseIdx_cons_zero, and_self, true_and, and_true, ite_true, ite_false, decide_true, decide_false, ne_eq, not_false_eq_true, not_true_eq_false, true_or, or_true, reduceCtorEq, asVar_lrng, asVar_rev, asVar_idx3, asVar_popE, revD, lstD, k2']; done) | (simp only [runD, runM, evalB, execs, exec, evalE, evalA, evalO, evalC, evalS, evalL, brw, two, three, asVar_var, asVar_cst, asVar_mv, asVar_bin, asVar_neg, asVar_nt, asVar_cmp, asVar_chain, asVar_andE, asVar_orE, asVar_ife, asVar_tupE, asVar_lstE, asVar_idx, asVar_slc, asVar_call, asVar_callM, asVar_popI, asVar_bi, asVar_bi2, asVar_isi, rdE, rdL, putE, updE, putsE, mb0, setL_at0, setL_at1, intOf, bindT, augD, toD, binD, cmpD, eqD_int, eqD_str, eqD_bool, idxD, biD, isiD, isNone, itemsD, slcD, atI_zero, atI_one, strict, ok_bind, ex_bind, no_bind, List.map_cons, List.map_nil, List.replicate_succ, List.replicate_zero, List.cons_append, List.nil_append, List.append_nil, List.getElem?_cons_zero, List.getElem?_cons_succ, List.getElem?_nil, List.set_cons_zero, List.set_cons_succ, List.length_cons, List.length_nil, List.length_map, Bool.not_false, Bool.not_true, if_true, if_false, Bool.false_eq_true, List.eraseIdx_cons_succ, List.eraseIdx_cons_zero, and_self, true_and, and_true, ite_true, ite_false, decide_true, decide_false, ne_eq, not_false_eq_true, not_true_eq_false, true_or, or_true, reduceCtorEq, asVar_lrng, asVar_rev, asVar_idx3, asVar_popE, revD, lstD, k2']; rfl)
  refine Eq.trans (iff_skip (e1 := ?e13) ?h13) ?g13
  case h13 => first | (simp only [runD, runM, evalB, execs, exec, evalE, evalA, evalO, evalC, evalS, evalL, brw, two, three, asVar_var, asVar_cst, asVar_mv, asVar_bin, asVar_neg, asVar_nt, asVar_cmp, asVar_chain, asVar_andE, asVar_orE, asVar_ife, asVar_tupE, asVar_lstE, asVar_idx, asVar_slc, asVar_call, asVar_callM, asVar_popI, asVar_bi, asVar_bi2, asVar_isi, rdE, rdL, putE, updE, putsE, mb0, setL_at0, setL_at1, intOf, bindT, augD, toD, binD, cmpD, eqD_int, eqD_str, eqD_bool, idxD, biD, isiD, isNone, itemsD, slcD, atI_zero, atI_one, strict, ok_bind, ex_bind, no_bind, List.map_cons, List.map_nil, List.replicate_succ, List.replicate_zero, List.cons_append, List.nil_append, List.append_nil, List.getElem?_cons_zero, List.getElem?_cons_succ, List.getElem?_nil, List.set_cons_zero, List.set_cons_succ, List.length_cons, List.length_nil, List.length_map, Bool.not_false, Bool.not_true, if_true, if_false, Bool.false_eq_true, List.eraseIdx_cons_succ, List.eraseIdx_cons_zero, and_self, true_and, and_true, ite_true, ite_false, decide_true, decide_false, ne_eq, not_false_eq_true, not_true_eq_false, true_or, or_true, reduceCtorEq, asVar_lrng, asVar_rev, asVar_idx3, asVar_popE, revD, lstD, k3']; done) | (simp only [runD, runM, evalB, execs, exec, evalE, evalA, evalO, evalC, evalS, evalL, brw, two, three, asVar_var, asVar_cst, asVar_mv, asVar_bin, asVar_neg, asVar_nt, asVar_cmp, asVar_chain, asVar_andE, asVar_orE, asVar_ife, asVar_tupE, asVar_lstE, asVar_idx, asVar_slc, asVar_call, asVar_callM, asVar_popI, asVar_bi, asVar_bi2, asVar_isi, rdE, rdL, putE, updE, putsE, mb0, setL_at0, setL_at1, intOf, bindT, augD, toD, binD, cmpD, eqD_int, eqD_str, eqD_bool, idxD, biD, isiD, isNone, itemsD, slcD, atI_zero, atI_one, strict, ok_bind, ex_bind, no_bind, List.map_cons, List.map_nil, List.replicate_succ, List.replicate_zero, List.cons_append, List.nil_append, List.append_nil, List.getElem?_cons_zero, List.getElem?_cons_succ, List.getElem?_nil, List.set_cons_zero, List.set_cons_succ, List.length_cons, List.length_nil, List.length_map, Bool.not_false, Bool.not_true, if_true, if_false, Bool.false_eq_true, List.eraseIdx_cons_succ, List.eraseIdx_cons_zero, and_self, true_and, and_true, ite_true, ite_false, decide_true, decide_false, ne_eq, not_false_eq_true, not_true_eq_false, true_or, or_true, reduceCtorEq, asVar_lrng, asVar_rev, asVar_idx3, asVar_popE, revD, lstD, k3']; rfl)
  rfl
theorem other_ok {ms : List D} {ns : List Int} (hm : okD ms) (hn : okMarks ns) : ∃ ns' ms', phi__law_other ms [.tuple (iL ns)] = .ok (.tuple (iL ns'), ms') ∧ okD ms' ∧ okMarks ns' := by
  obtain ⟨k, ms1, e1, m1, l1, u1⟩ := below_ok hm (L := 5) (by decide) (by decide)
  have hl3 := hn.1
  have hl8 := hn.2.1
  by_cases k0 : k = 0
  · subst k0
    obtain ⟨ns', ms2, e2, m2, o2⟩ := marks_ok m1
    refine ⟨ns', ms2, fmOf_eq (n := 0) ?_ (by simp), m2, o2⟩
    unfold ir__law_other
    simp only [runD, runM, evalB, execs, exec, evalE, evalA, evalO, evalC, evalS, evalL, brw, two, three, asVar_var, asVar_cst, asVar_mv, asVar_bin, asVar_neg, asVar_nt, asVar_cmp, asVar_chain, asVar_andE, asVar_orE, asVar_ife, asVar_tupE, asVar_lstE, asVar_idx, asVar_slc, asVar_call, asVar_callM, asVar_popI, asVar_bi, asVar_bi2, asVar_isi, rdE, rdL, putE, updE, putsE, mb0, setL_at0, setL_at1, intOf, bindT, augD, toD, binD, cmpD, eqD_int, eqD_str, eqD_bool, idxD, biD, isiD, isNone, itemsD, slcD, atI_zero, atI_one, strict, ok_bind, ex_bind, no_bind, List.map_cons, List.map_nil, List.replicate_succ, List.replicate_zero, List.cons_append, List.nil_append, List.append_nil, List.getElem?_cons_zero, List.getElem?_cons_succ, List.getElem?_nil, List.set_cons_zero, List.set_cons_succ, List.length_cons, List.length_nil, List.length_map, Bool.not_false, Bool.not_true, if_true, if_false, Bool.false_eq_true, List.eraseIdx_cons_succ, List.eraseIdx_cons_zero, and_self, true_and, and_true, ite_true, ite_false, decide_true, decide_false, ne_eq, not_false_eq_true, not_true_eq_false, true_or, or_true, reduceCtorEq, asVar_lrng, asVar_rev, asVar_idx3, asVar_popE, revD, lstD, e1, e2, beq_self_eq_true]
  obtain ⟨is, ms2, e2, m2, b2, c2⟩ := seats_ok m1 (L := ns.length) (k := 9) (by omega) (by omega) (by omega)
  have e2 : phi__law_seats ms1 [.int (ns.length : Int), .int 9] = .ok (.list (nL is), ms2) := e2
  have e3 := all_reflected_val b2 (by omega : ns.length ≤ 1000)
  obtain ⟨qs, hqs⟩ : ∃ qs, qs = reflAll ns is := ⟨_, rfl⟩
  have hql : qs.length = ns.length := by rw [hqs, reflAll_len]
  rw [← hqs] at e3
  by_cases k1 : k = 1
  · subst k1
    exact other_k1 hn hql m2 e2 e3 e1
  by_cases k2 : k = 2
  · subst k2
    exact other_k2 hn hql m2 e2 e3 e1
  by_cases k3 : k = 3
  · subst k3
    exact other_k3 hn hql m2 e2 e3 e1
  exact other_kr hn hql m2 e2 e3 k0 k1 k2 k3 e1
end VS

/-! The first difference of two rings. -/
namespace VS
open L2
open PySem (PyData)
/-! ### greatest common divisors -/
theorem gcL_cons (a : Int) (vs : List Int) : ∀ g : Nat, (vs.foldl (fun g v => Nat.gcd g v.natAbs) (Nat.gcd g a.natAbs)) = Nat.gcd (vs.foldl (fun g v => Nat.gcd g v.natAbs) g) a.natAbs := by
  induction vs with
  | nil => exact fun g => rfl
  | cons b r ih =>
    intro g
    simp only [List.foldl_cons]
    rw [Nat.gcd_assoc, Nat.gcd_comm a.natAbs, ← Nat.gcd_assoc, ih]
theorem dvd_fold (d : Nat) : ∀ (vs : List Int) (g : Nat), d ∣ vs.foldl (fun g v => Nat.gcd g v.natAbs) g ↔ d ∣ g ∧ ∀ v ∈ vs, d ∣ v.natAbs
  | [], g => by simp
  | a :: r, g => by
    simp only [List.foldl_cons]
    rw [dvd_fold d r, Nat.dvd_gcd_iff]
    simp only [List.mem_cons, forall_eq_or_imp]
    exact and_assoc
theorem dvd_gcL {d : Nat} {vs : List Int} : d ∣ gcL vs ↔ ∀ v ∈ vs, d ∣ v.natAbs := by
  unfold gcL
  rw [dvd_fold]
  exact ⟨fun h => h.2, fun h => ⟨Nat.dvd_zero d, h⟩⟩
theorem dvd_sub {d : Nat} {vs : List Int} (h0 : 0 < vs.length) : d ∣ gcL (subAll vs) ↔ ∀ x ∈ vs, ∀ y ∈ vs, (d : Int) ∣ x - y := by
  rw [dvd_gcL]
  have h : (∀ v ∈ subAll vs, d ∣ v.natAbs) ↔ ∀ x ∈ vs, (d : Int) ∣ x - gI vs 0 := by
    constructor
    · intro h x hx
      exact Int.ofNat_dvd_left.mpr (h _ (List.mem_map.mpr ⟨x, hx, rfl⟩))
    · intro h v hv
      obtain ⟨x, hx, rfl⟩ := List.mem_map.mp hv
      exact Int.ofNat_dvd_left.mp (h x hx)
  rw [h]
  constructor
  · intro h x hx y hy
    have := Int.dvd_sub (h x hx) (h y hy)
    have e : x - gI vs 0 - (y - gI vs 0) = x - y := by omega
    rwa [e] at this
  · intro h x hx
    exact h x hx _ (List.mem_of_getElem? (gI_get h0))
theorem modu_eq {xs ys : List Int} (hx : 0 < xs.length) (hy : 0 < ys.length) (h : ∀ k, k ∈ xs ↔ k ∈ ys) : gcL (subAll xs) = gcL (subAll ys) := by
  refine Nat.dvd_antisymm ?_ ?_
  · refine (dvd_sub hy).mpr fun x a y b => (dvd_sub hx).mp (Nat.dvd_refl _) x ((h x).mpr a) y ((h y).mpr b)
  · refine (dvd_sub hx).mpr fun x a y b => (dvd_sub hy).mp (Nat.dvd_refl _) x ((h x).mp a) y ((h y).mp b)
/-! ### the first of a list in order -/
theorem find_first {p : Int → Bool} : ∀ {l : List Int} {x : Int}, l.Pairwise (· ≤ ·) → (l.find? p = some x ↔ x ∈ l ∧ p x = true ∧ ∀ y ∈ l, p y = true → x ≤ y) := by
  intro l
  induction l with
  | nil => intro x _; simp
  | cons a r ih =>
    intro x h
    have h := List.pairwise_cons.mp h
    cases hp : p a with
    | true =>
      rw [List.find?_cons_of_pos hp]
      constructor
      · intro e
        have e := Option.some.inj e
        subst e
        refine ⟨List.mem_cons_self .., hp, fun y hy _ => ?_⟩
        rcases List.mem_cons.mp hy with e | hy
        · omega
        · exact h.1 y hy
      · rintro ⟨h1, h2, h3⟩
        have := h3 a (List.mem_cons_self ..) hp
        rcases List.mem_cons.mp h1 with e | h1
        · rw [e]
        · have := h.1 x h1
          have e : a = x := by omega
          rw [e]
    | false =>
      rw [List.find?_cons_of_neg (by rw [hp]; exact Bool.false_ne_true), ih h.2]
      constructor
      · rintro ⟨h1, h2, h3⟩
        refine ⟨List.mem_cons_of_mem _ h1, h2, fun y hy hq => ?_⟩
        rcases List.mem_cons.mp hy with e | hy
        · rw [e, hp] at hq; cases hq
        · exact h3 y hy hq
      · rintro ⟨h1, h2, h3⟩
        refine ⟨?_, h2, fun y hy hq => h3 y (List.mem_cons_of_mem _ hy) hq⟩
        rcases List.mem_cons.mp h1 with e | h1
        · rw [e, hp] at h2; cases h2
        · exact h1
theorem find_same {p : Int → Bool} {l m : List Int} (hl : l.Pairwise (· ≤ ·)) (hm : m.Pairwise (· ≤ ·)) (h : ∀ k, k ∈ l ↔ k ∈ m) : l.find? p = m.find? p := by
  have key : ∀ x, l.find? p = some x ↔ m.find? p = some x := fun x => by
    rw [find_first hl, find_first hm, h]
    constructor <;> exact fun ⟨a, b, c⟩ => ⟨a, b, fun y hy => c y (by first | exact (h y).mpr hy | exact (h y).mp hy)⟩
  cases e : l.find? p with
  | some x => exact ((key x).mp e).symm
  | none =>
    cases e2 : m.find? p with
    | none => rfl
    | some x => rw [(key x).mpr e2] at e; cases e
theorem sset_le (ns : List Int) : (sset ns).Pairwise (· ≤ ·) := srt_le _
/-! ### the value -/
def cdiff (hs ts : List Int) (s : Int) : Bool := decide (hs.count s ≠ ts.count s)
def mk2S (x : PySem.Str) (a b : Int) : D := .tuple [.str x, .int a, .int b]
def diffM (M a b : Int) : D := if M > 0 then (if a.fmod M = b.fmod M then .none else mk2S "mark" (a.fmod M) (b.fmod M)) else (if a = b then .none else mk2S "mark" a b)
def stepV (hs ts : List Int) (s : Int) : D := .tuple [.str "step", .int s, .int (hs.count s : Nat), .int (ts.count s : Nat)]
def diffV (ns ms : List Int) : D := if ns.length = ms.length then
    (match (srt (dif ns ++ dif ms)).find? (cdiff (dif ns) (dif ms)) with
    | some s => stepV (dif ns) (dif ms) s
    | none => diffM (modu ns) (gI ns 0) (gI ms 0))
  else mk2S "seats" ns.length ms.length
theorem count_for {hs ts : List Int} {a0 a1 a5 a6 a7 : Option Sl} : ∀ (l : List Int) (x : Option Sl), (x = none ∨ ∃ d, x = some (.fr d)) →
    (∀ s, l.find? (cdiff hs ts) = some s → ∃ en, forGo (execs 0 b0_difference) (.one 4) (iL l) [a0, a1, some (.fr (.tuple (iL hs))), some (.fr (.tuple (iL ts))), x, a5, a6, a7] = .ok (.rt (.fr (stepV hs ts s)) en)) ∧
    (l.find? (cdiff hs ts) = none → ∃ x', forGo (execs 0 b0_difference) (.one 4) (iL l) [a0, a1, some (.fr (.tuple (iL hs))), some (.fr (.tuple (iL ts))), x, a5, a6, a7] = .ok (.nx [a0, a1, some (.fr (.tuple (iL hs))), some (.fr (.tuple (iL ts))), x', a5, a6, a7]))
  | [], x, _ => ⟨fun s h => (by cases h), fun _ => ⟨x, rfl⟩⟩
  | a :: r, x, hx => by
    obtain ⟨i1, i2⟩ := count_for r (some (.fr (.int a))) (.inr ⟨_, rfl⟩)
    have ic : ∀ xs, intsD (iL xs) = some xs := intsD_iL
    have hb : execs 0 b0_difference [a0, a1, some (.fr (.tuple (iL hs))), some (.fr (.tuple (iL ts))), some (.fr (.int a)), a5, a6, a7] = (if hs.count a = ts.count a then .ok (.nx [a0, a1, some (.fr (.tuple (iL hs))), some (.fr (.tuple (iL ts))), some (.fr (.int a)), a5, a6, a7]) else .ok (.rt (.fr (stepV hs ts a)) [a0, a1, some (.fr (.tuple (iL hs))), some (.fr (.tuple (iL ts))), some (.fr (.int a)), a5, a6, a7])) := by
      unfold b0_difference
      by_cases q : hs.count a = ts.count a
      · rw [if_pos q]
        refine Eq.trans (iff_skip (e1 := [a0, a1, some (.fr (.tuple (iL hs))), some (.fr (.tuple (iL ts))), some (.fr (.int a)), a5, a6, a7]) ?_) (by rw [execs])
        simp only [runD, runM, evalB, execs, exec, evalE, evalA, evalO, evalC, evalS, evalL, brw, two, three, asVar_var, asVar_cst, asVar_mv, asVar_bin, asVar_neg, asVar_nt, asVar_cmp, asVar_chain, asVar_andE, asVar_orE, asVar_ife, asVar_tupE, asVar_lstE, asVar_idx, asVar_slc, asVar_call, asVar_callM, asVar_popI, asVar_bi, asVar_bi2, asVar_isi, rdE, rdL, putE, updE, putsE, mb0, setL_at0, setL_at1, intOf, bindT, augD, toD, binD, cmpD, eqD_int, eqD_str, eqD_bool, idxD, biD, isiD, isNone, itemsD, slcD, atI_zero, atI_one, strict, ok_bind, ex_bind, no_bind, List.map_cons, List.map_nil, List.replicate_succ, List.replicate_zero, List.cons_append, List.nil_append, List.append_nil, List.getElem?_cons_zero, List.getElem?_cons_succ, List.getElem?_nil, List.set_cons_zero, List.set_cons_succ, List.length_cons, List.length_nil, List.length_map, Bool.not_false, Bool.not_true, if_true, if_false, Bool.false_eq_true, List.eraseIdx_cons_succ, List.eraseIdx_cons_zero, and_self, true_and, and_true, ite_true, ite_false, decide_true, decide_false, ne_eq, not_false_eq_true, not_true_eq_false, true_or, or_true, reduceCtorEq, asVar_lrng, asVar_rev, asVar_idx3, asVar_popE, revD, lstD, ic, q, beq_self_eq_true]
      · rw [if_neg q]
        have q' : (((hs.count a : Nat) : Int) == ((ts.count a : Nat) : Int)) = false := beq_no (by omega)
        refine iff_ret (e1 := [a0, a1, some (.fr (.tuple (iL hs))), some (.fr (.tuple (iL ts))), some (.fr (.int a)), a5, a6, a7]) ?_ ?_
        · simp only [runD, runM, evalB, execs, exec, evalE, evalA, evalO, evalC, evalS, evalL, brw, two, three, asVar_var, asVar_cst, asVar_mv, asVar_bin, asVar_neg, asVar_nt, asVar_cmp, asVar_chain, asVar_andE, asVar_orE, asVar_ife, asVar_tupE, asVar_lstE, asVar_idx, asVar_slc, asVar_call, asVar_callM, asVar_popI, asVar_bi, asVar_bi2, asVar_isi, rdE, rdL, putE, updE, putsE, mb0, setL_at0, setL_at1, intOf, bindT, augD, toD, binD, cmpD, eqD_int, eqD_str, eqD_bool, idxD, biD, isiD, isNone, itemsD, slcD, atI_zero, atI_one, strict, ok_bind, ex_bind, no_bind, List.map_cons, List.map_nil, List.replicate_succ, List.replicate_zero, List.cons_append, List.nil_append, List.append_nil, List.getElem?_cons_zero, List.getElem?_cons_succ, List.getElem?_nil, List.set_cons_zero, List.set_cons_succ, List.length_cons, List.length_nil, List.length_map, Bool.not_false, Bool.not_true, if_true, if_false, Bool.false_eq_true, List.eraseIdx_cons_succ, List.eraseIdx_cons_zero, and_self, true_and, and_true, ite_true, ite_false, decide_true, decide_false, ne_eq, not_false_eq_true, not_true_eq_false, true_or, or_true, reduceCtorEq, asVar_lrng, asVar_rev, asVar_idx3, asVar_popE, revD, lstD, ic, q']
        · simp only [runD, runM, evalB, execs, exec, evalE, evalA, evalO, evalC, evalS, evalL, brw, two, three, asVar_var, asVar_cst, asVar_mv, asVar_bin, asVar_neg, asVar_nt, asVar_cmp, asVar_chain, asVar_andE, asVar_orE, asVar_ife, asVar_tupE, asVar_lstE, asVar_idx, asVar_slc, asVar_call, asVar_callM, asVar_popI, asVar_bi, asVar_bi2, asVar_isi, rdE, rdL, putE, updE, putsE, mb0, setL_at0, setL_at1, intOf, bindT, augD, toD, binD, cmpD, eqD_int, eqD_str, eqD_bool, idxD, biD, isiD, isNone, itemsD, slcD, atI_zero, atI_one, strict, ok_bind, ex_bind, no_bind, List.map_cons, List.map_nil, List.replicate_succ, List.replicate_zero, List.cons_append, List.nil_append, List.append_nil, List.getElem?_cons_zero, List.getElem?_cons_succ, List.getElem?_nil, List.set_cons_zero, List.set_cons_succ, List.length_cons, List.length_nil, List.length_map, Bool.not_false, Bool.not_true, if_true, if_false, Bool.false_eq_true, List.eraseIdx_cons_succ, List.eraseIdx_cons_zero, and_self, true_and, and_true, ite_true, ite_false, decide_true, decide_false, ne_eq, not_false_eq_true, not_true_eq_false, true_or, or_true, reduceCtorEq, asVar_lrng, asVar_rev, asVar_idx3, asVar_popE, revD, lstD, ic, four_SZ, stepV]
    have step : forGo (execs 0 b0_difference) (.one 4) (iL (a :: r)) [a0, a1, some (.fr (.tuple (iL hs))), some (.fr (.tuple (iL ts))), x, a5, a6, a7] = (if hs.count a = ts.count a then forGo (execs 0 b0_difference) (.one 4) (iL r) [a0, a1, some (.fr (.tuple (iL hs))), some (.fr (.tuple (iL ts))), some (.fr (.int a)), a5, a6, a7] else .ok (.rt (.fr (stepV hs ts a)) [a0, a1, some (.fr (.tuple (iL hs))), some (.fr (.tuple (iL ts))), some (.fr (.int a)), a5, a6, a7])) := by
      show forGo _ _ (.int a :: iL r) _ = _
      simp only [forGo, bindT, ok_bind, List.set_cons_succ, List.set_cons_zero]
      rw [hb]
      split <;> rfl
    rw [step]
    by_cases q : hs.count a = ts.count a
    · have hc : ¬ cdiff hs ts a = true := by simp [cdiff, q]
      rw [if_pos q, List.find?_cons_of_neg hc]
      exact ⟨i1, i2⟩
    · have hc : cdiff hs ts a = true := by simp [cdiff, q]
      rw [if_neg q, List.find?_cons_of_pos hc]
      exact ⟨fun s e => (by cases e; exact ⟨_, rfl⟩), fun e => (by cases e)⟩
theorem lcount_for {hs ts : List Int} {a0 a1 a5 a6 : Option Sl} : ∀ (l : List Int) (x : Option Sl), (x = none ∨ ∃ d, x = some (.fr d)) →
    (∀ s, l.find? (cdiff hs ts) = some s → ∃ en, forGo (execs 0 b0__law_difference) (.one 4) (iL l) [a0, a1, some (.own (iL hs)), some (.own (iL ts)), x, a5, a6] = .ok (.rt (.fr (stepV hs ts s)) en)) ∧
    (l.find? (cdiff hs ts) = none → ∃ x', forGo (execs 0 b0__law_difference) (.one 4) (iL l) [a0, a1, some (.own (iL hs)), some (.own (iL ts)), x, a5, a6] = .ok (.nx [a0, a1, some (.own (iL hs)), some (.own (iL ts)), x', a5, a6]))
  | [], x, _ => ⟨fun s h => (by cases h), fun _ => ⟨x, rfl⟩⟩
  | a :: r, x, hx => by
    obtain ⟨i1, i2⟩ := lcount_for r (some (.fr (.int a))) (.inr ⟨_, rfl⟩)
    have ic : ∀ xs, intsD (iL xs) = some xs := intsD_iL
    have hb : execs 0 b0__law_difference [a0, a1, some (.own (iL hs)), some (.own (iL ts)), some (.fr (.int a)), a5, a6] = (if hs.count a = ts.count a then .ok (.nx [a0, a1, some (.own (iL hs)), some (.own (iL ts)), some (.fr (.int a)), a5, a6]) else .ok (.rt (.fr (stepV hs ts a)) [a0, a1, some (.own (iL hs)), some (.own (iL ts)), some (.fr (.int a)), a5, a6])) := by
      unfold b0__law_difference
      by_cases q : hs.count a = ts.count a
      · rw [if_pos q]
        refine Eq.trans (iff_skip (e1 := [a0, a1, some (.own (iL hs)), some (.own (iL ts)), some (.fr (.int a)), a5, a6]) ?_) (by rw [execs])
        simp only [runD, runM, evalB, execs, exec, evalE, evalA, evalO, evalC, evalS, evalL, brw, two, three, asVar_var, asVar_cst, asVar_mv, asVar_bin, asVar_neg, asVar_nt, asVar_cmp, asVar_chain, asVar_andE, asVar_orE, asVar_ife, asVar_tupE, asVar_lstE, asVar_idx, asVar_slc, asVar_call, asVar_callM, asVar_popI, asVar_bi, asVar_bi2, asVar_isi, rdE, rdL, putE, updE, putsE, mb0, setL_at0, setL_at1, intOf, bindT, augD, toD, binD, cmpD, eqD_int, eqD_str, eqD_bool, idxD, biD, isiD, isNone, itemsD, slcD, atI_zero, atI_one, strict, ok_bind, ex_bind, no_bind, List.map_cons, List.map_nil, List.replicate_succ, List.replicate_zero, List.cons_append, List.nil_append, List.append_nil, List.getElem?_cons_zero, List.getElem?_cons_succ, List.getElem?_nil, List.set_cons_zero, List.set_cons_succ, List.length_cons, List.length_nil, List.length_map, Bool.not_false, Bool.not_true, if_true, if_false, Bool.false_eq_true, List.eraseIdx_cons_succ, List.eraseIdx_cons_zero, and_self, true_and, and_true, ite_true, ite_false, decide_true, decide_false, ne_eq, not_false_eq_true, not_true_eq_false, true_or, or_true, reduceCtorEq, asVar_lrng, asVar_rev, asVar_idx3, asVar_popE, revD, lstD, ic, q, beq_self_eq_true]
      · rw [if_neg q]
        have q' : (((hs.count a : Nat) : Int) == ((ts.count a : Nat) : Int)) = false := beq_no (by omega)
        refine iff_ret (e1 := [a0, a1, some (.own (iL hs)), some (.own (iL ts)), some (.fr (.int a)), a5, a6]) ?_ ?_
        · simp only [runD, runM, evalB, execs, exec, evalE, evalA, evalO, evalC, evalS, evalL, brw, two, three, asVar_var, asVar_cst, asVar_mv, asVar_bin, asVar_neg, asVar_nt, asVar_cmp, asVar_chain, asVar_andE, asVar_orE, asVar_ife, asVar_tupE, asVar_lstE, asVar_idx, asVar_slc, asVar_call, asVar_callM, asVar_popI, asVar_bi, asVar_bi2, asVar_isi, rdE, rdL, putE, updE, putsE, mb0, setL_at0, setL_at1, intOf, bindT, augD, toD, binD, cmpD, eqD_int, eqD_str, eqD_bool, idxD, biD, isiD, isNone, itemsD, slcD, atI_zero, atI_one, strict, ok_bind, ex_bind, no_bind, List.map_cons, List.map_nil, List.replicate_succ, List.replicate_zero, List.cons_append, List.nil_append, List.append_nil, List.getElem?_cons_zero, List.getElem?_cons_succ, List.getElem?_nil, List.set_cons_zero, List.set_cons_succ, List.length_cons, List.length_nil, List.length_map, Bool.not_false, Bool.not_true, if_true, if_false, Bool.false_eq_true, List.eraseIdx_cons_succ, List.eraseIdx_cons_zero, and_self, true_and, and_true, ite_true, ite_false, decide_true, decide_false, ne_eq, not_false_eq_true, not_true_eq_false, true_or, or_true, reduceCtorEq, asVar_lrng, asVar_rev, asVar_idx3, asVar_popE, revD, lstD, ic, q']
        · simp only [runD, runM, evalB, execs, exec, evalE, evalA, evalO, evalC, evalS, evalL, brw, two, three, asVar_var, asVar_cst, asVar_mv, asVar_bin, asVar_neg, asVar_nt, asVar_cmp, asVar_chain, asVar_andE, asVar_orE, asVar_ife, asVar_tupE, asVar_lstE, asVar_idx, asVar_slc, asVar_call, asVar_callM, asVar_popI, asVar_bi, asVar_bi2, asVar_isi, rdE, rdL, putE, updE, putsE, mb0, setL_at0, setL_at1, intOf, bindT, augD, toD, binD, cmpD, eqD_int, eqD_str, eqD_bool, idxD, biD, isiD, isNone, itemsD, slcD, atI_zero, atI_one, strict, ok_bind, ex_bind, no_bind, List.map_cons, List.map_nil, List.replicate_succ, List.replicate_zero, List.cons_append, List.nil_append, List.append_nil, List.getElem?_cons_zero, List.getElem?_cons_succ, List.getElem?_nil, List.set_cons_zero, List.set_cons_succ, List.length_cons, List.length_nil, List.length_map, Bool.not_false, Bool.not_true, if_true, if_false, Bool.false_eq_true, List.eraseIdx_cons_succ, List.eraseIdx_cons_zero, and_self, true_and, and_true, ite_true, ite_false, decide_true, decide_false, ne_eq, not_false_eq_true, not_true_eq_false, true_or, or_true, reduceCtorEq, asVar_lrng, asVar_rev, asVar_idx3, asVar_popE, revD, lstD, ic, four_SZ, stepV]
    have step : forGo (execs 0 b0__law_difference) (.one 4) (iL (a :: r)) [a0, a1, some (.own (iL hs)), some (.own (iL ts)), x, a5, a6] = (if hs.count a = ts.count a then forGo (execs 0 b0__law_difference) (.one 4) (iL r) [a0, a1, some (.own (iL hs)), some (.own (iL ts)), some (.fr (.int a)), a5, a6] else .ok (.rt (.fr (stepV hs ts a)) [a0, a1, some (.own (iL hs)), some (.own (iL ts)), some (.fr (.int a)), a5, a6])) := by
      show forGo _ _ (.int a :: iL r) _ = _
      simp only [forGo, bindT, ok_bind, List.set_cons_succ, List.set_cons_zero]
      rw [hb]
      split <;> rfl
    rw [step]
    by_cases q : hs.count a = ts.count a
    · have hc : ¬ cdiff hs ts a = true := by simp [cdiff, q]
      rw [if_pos q, List.find?_cons_of_neg hc]
      exact ⟨i1, i2⟩
    · have hc : cdiff hs ts a = true := by simp [cdiff, q]
      rw [if_neg q, List.find?_cons_of_pos hc]
      exact ⟨fun s e => (by cases e; exact ⟨_, rfl⟩), fun e => (by cases e)⟩

theorem srt_mem {k : Int} {ns : List Int} : k ∈ srt ns ↔ k ∈ ns := (srt_perm ns).mem_iff
theorem len_beq {a b : Nat} : (((a : Nat) : Int) == ((b : Nat) : Int)) = decide (a = b) := by
  by_cases h : a = b
  · subst h; simp
  · rw [decide_eq_false h]; exact beq_no (by omega)
theorem difference_val {ns ms : List Int} (h1 : 0 < ns.length) (h2 : ns.length ≤ SZ) (h3 : 0 < ms.length) (h4 : ms.length ≤ SZ) (h5 : ns.length + ms.length ≤ SZ) : phi_difference [.tuple (iL ns), .tuple (iL ms)] = .ok (.fr (diffV ns ms)) := by
  refine fnOf_eq (n := 0) ?_ (by simp)
  unfold ir_difference diffV
  by_cases hl : ns.length = ms.length
  · rw [if_pos hl]
    have d1 := steps_of_val h1 h2
    have d2 := steps_of_val h3 h4
    obtain ⟨hs, ehs⟩ : ∃ hs, hs = dif ns := ⟨_, rfl⟩
    obtain ⟨ts, ets⟩ : ∃ ts, ts = dif ms := ⟨_, rfl⟩
    have l1 : hs.length = ns.length := by rw [ehs, dif_len]
    have l2 : ts.length = ms.length := by rw [ets, dif_len]
    have hM := modulus_of_val (ns := hs) (by omega) (by omega)
    have eM : (gcL (subAll hs) : Int) = modu ns := by rw [ehs]; rfl
    obtain ⟨M, hMM⟩ : ∃ M, M = modu ns := ⟨_, rfl⟩
    have M0 : 0 ≤ M := by rw [hMM, ← eM]; omega
    rw [eM, ← hMM] at hM
    rw [← ehs] at d1
    rw [← ets] at d2
    rw [← ehs, ← ets, ← hMM]
    have sz : (hs.length + ts.length ≤ SZ) = True := eq_true (by omega)
    have ap : iL hs ++ iL ts = iL (hs ++ ts) := (iL_app (xs := hs) (ys := ts)).symm
    have g0 : atI (iL ns) 0 = some (.int (gI ns 0)) := at_iL' (i := 0) h1
    have g1 : atI (iL ms) 0 = some (.int (gI ms 0)) := at_iL' (i := 0) h3
    have hlb : decide (ns.length = ms.length) = true := decide_eq_true hl
    obtain ⟨c1, c2⟩ := count_for (hs := hs) (ts := ts) (a0 := some (.fr (.tuple (iL ns)))) (a1 := some (.fr (.tuple (iL ms)))) (a5 := none) (a6 := none) (a7 := none) (srt (hs ++ ts)) none (.inl rfl)
    cases hf : (srt (hs ++ ts)).find? (cdiff hs ts) with
    | some x =>
      obtain ⟨en, he⟩ := c1 x hf
      refine runD_rt (e1 := en) ?_
      refine Eq.trans (iff_skip (e1 := ?e1) ?h1) ?g1
      case h1 => first | (simp only [runD, runM, evalB, execs, exec, evalE, evalA, evalO, evalC, evalS, evalL, brw, two, three, asVar_var, asVar_cst, asVar_mv, asVar_bin, asVar_neg, asVar_nt, asVar_cmp, asVar_chain, asVar_andE, asVar_orE, asVar_ife, asVar_tupE, asVar_lstE, asVar_idx, asVar_slc, asVar_call, asVar_callM, asVar_popI, asVar_bi, asVar_bi2, asVar_isi, rdE, rdL, putE, updE, putsE, mb0, setL_at0, setL_at1, intOf, bindT, augD, toD, binD, cmpD, eqD_int, eqD_str, eqD_bool, idxD, biD, isiD, isNone, itemsD, slcD, atI_zero, atI_one, strict, ok_bind, ex_bind, no_bind, List.map_cons, List.map_nil, List.replicate_succ, List.replicate_zero, List.cons_append, List.nil_append, List.append_nil, List.getElem?_cons_zero, List.getElem?_cons_succ, List.getElem?_nil, List.set_cons_zero, List.set_cons_succ, List.length_cons, List.length_nil, List.length_map, Bool.not_false, Bool.not_true, if_true, if_false, Bool.false_eq_true, List.eraseIdx_cons_succ, List.eraseIdx_cons_zero, and_self, true_and, and_true, ite_true, ite_false, decide_true, decide_false, ne_eq, not_false_eq_true, not_true_eq_false, true_or, or_true, reduceCtorEq, asVar_lrng, asVar_rev, asVar_idx3, asVar_popE, revD, lstD, iL_len, len_beq, hlb]; done) | (simp only [runD, runM, evalB, execs, exec, evalE, evalA, evalO, evalC, evalS, evalL, brw, two, three, asVar_var, asVar_cst, asVar_mv, asVar_bin, asVar_neg, asVar_nt, asVar_cmp, asVar_chain, asVar_andE, asVar_orE, asVar_ife, asVar_tupE, asVar_lstE, asVar_idx, asVar_slc, asVar_call, asVar_callM, asVar_popI, asVar_bi, asVar_bi2, asVar_isi, rdE, rdL, putE, updE, putsE, mb0, setL_at0, setL_at1, intOf, bindT, augD, toD, binD, cmpD, eqD_int, eqD_str, eqD_bool, idxD, biD, isiD, isNone, itemsD, slcD, atI_zero, atI_one, strict, ok_bind, ex_bind, no_bind, List.map_cons, List.map_nil, List.replicate_succ, List.replicate_zero, List.cons_append, List.nil_append, List.append_nil, List.getElem?_cons_zero, List.getElem?_cons_succ, List.getElem?_nil, List.set_cons_zero, List.set_cons_succ, List.length_cons, List.length_nil, List.length_map, Bool.not_false, Bool.not_true, if_true, if_false, Bool.false_eq_true, List.eraseIdx_cons_succ, List.eraseIdx_cons_zero, and_self, true_and, and_true, ite_true, ite_false, decide_true, decide_false, ne_eq, not_false_eq_true, not_true_eq_false, true_or, or_true, reduceCtorEq, asVar_lrng, asVar_rev, asVar_idx3, asVar_popE, revD, lstD, iL_len, len_beq, hlb]; rfl)
      refine Eq.trans (ex_nx (e1 := ?e8) ?h8) ?g8
      case h8 => first | (simp only [runD, runM, evalB, execs, exec, evalE, evalA, evalO, evalC, evalS, evalL, brw, two, three, asVar_var, asVar_cst, asVar_mv, asVar_bin, asVar_neg, asVar_nt, asVar_cmp, asVar_chain, asVar_andE, asVar_orE, asVar_ife, asVar_tupE, asVar_lstE, asVar_idx, asVar_slc, asVar_call, asVar_callM, asVar_popI, asVar_bi, asVar_bi2, asVar_isi, rdE, rdL, putE, updE, putsE, mb0, setL_at0, setL_at1, intOf, bindT, augD, toD, binD, cmpD, eqD_int, eqD_str, eqD_bool, idxD, biD, isiD, isNone, itemsD, slcD, atI_zero, atI_one, strict, ok_bind, ex_bind, no_bind, List.map_cons, List.map_nil, List.replicate_succ, List.replicate_zero, List.cons_append, List.nil_append, List.append_nil, List.getElem?_cons_zero, List.getElem?_cons_succ, List.getElem?_nil, List.set_cons_zero, List.set_cons_succ, List.length_cons, List.length_nil, List.length_map, Bool.not_false, Bool.not_true, if_true, if_false, Bool.false_eq_true, List.eraseIdx_cons_succ, List.eraseIdx_cons_zero, and_self, true_and, and_true, ite_true, ite_false, decide_true, decide_false, ne_eq, not_false_eq_true, not_true_eq_false, true_or, or_true, reduceCtorEq, asVar_lrng, asVar_rev, asVar_idx3, asVar_popE, revD, lstD, d1, d2]; done) | (simp only [runD, runM, evalB, execs, exec, evalE, evalA, evalO, evalC, evalS, evalL, brw, two, three, asVar_var, asVar_cst, asVar_mv, asVar_bin, asVar_neg, asVar_nt, asVar_cmp, asVar_chain, asVar_andE, asVar_orE, asVar_ife, asVar_tupE, asVar_lstE, asVar_idx, asVar_slc, asVar_call, asVar_callM, asVar_popI, asVar_bi, asVar_bi2, asVar_isi, rdE, rdL, putE, updE, putsE, mb0, setL_at0, setL_at1, intOf, bindT, augD, toD, binD, cmpD, eqD_int, eqD_str, eqD_bool, idxD, biD, isiD, isNone, itemsD, slcD, atI_zero, atI_one, strict, ok_bind, ex_bind, no_bind, List.map_cons, List.map_nil, List.replicate_succ, List.replicate_zero, List.cons_append, List.nil_append, List.append_nil, List.getElem?_cons_zero, List.getElem?_cons_succ, List.getElem?_nil, List.set_cons_zero, List.set_cons_succ, List.length_cons, List.length_nil, List.length_map, Bool.not_false, Bool.not_true, if_true, if_false, Bool.false_eq_true, List.eraseIdx_cons_succ, List.eraseIdx_cons_zero, and_self, true_and, and_true, ite_true, ite_false, decide_true, decide_false, ne_eq, not_false_eq_true, not_true_eq_false, true_or, or_true, reduceCtorEq, asVar_lrng, asVar_rev, asVar_idx3, asVar_popE, revD, lstD, d1, d2]; rfl)
      refine ex_rt ?_
      simp only [runD, runM, evalB, execs, exec, evalE, evalA, evalO, evalC, evalS, evalL, brw, two, three, asVar_var, asVar_cst, asVar_mv, asVar_bin, asVar_neg, asVar_nt, asVar_cmp, asVar_chain, asVar_andE, asVar_orE, asVar_ife, asVar_tupE, asVar_lstE, asVar_idx, asVar_slc, asVar_call, asVar_callM, asVar_popI, asVar_bi, asVar_bi2, asVar_isi, rdE, rdL, putE, updE, putsE, mb0, setL_at0, setL_at1, intOf, bindT, augD, toD, binD, cmpD, eqD_int, eqD_str, eqD_bool, idxD, biD, isiD, isNone, itemsD, slcD, atI_zero, atI_one, strict, ok_bind, ex_bind, no_bind, List.map_cons, List.map_nil, List.replicate_succ, List.replicate_zero, List.cons_append, List.nil_append, List.append_nil, List.getElem?_cons_zero, List.getElem?_cons_succ, List.getElem?_nil, List.set_cons_zero, List.set_cons_succ, List.length_cons, List.length_nil, List.length_map, Bool.not_false, Bool.not_true, if_true, if_false, Bool.false_eq_true, List.eraseIdx_cons_succ, List.eraseIdx_cons_zero, and_self, true_and, and_true, ite_true, ite_false, decide_true, decide_false, ne_eq, not_false_eq_true, not_true_eq_false, true_or, or_true, reduceCtorEq, asVar_lrng, asVar_rev, asVar_idx3, asVar_popE, revD, lstD, iL_len, sz, ap, intsD_iL]
      exact he
    | none =>
      obtain ⟨x', he⟩ := c2 hf
      have fin : ∀ {e : En} {a b : Int} {D0 : D}, (if a = b then PyData.none else mk2S "mark" a b) = D0 → execs 0 (.cons (.ret (.ife (.cmp .Eq (.var 6) (.var 7)) (.cst .none) (.tupE (.cons (.cst (.str "mark")) (.cons (.var 6) (.cons (.var 7) (.nil))))))) (.nil)) [some (.fr (.tuple (iL ns))), some (.fr (.tuple (iL ms))), some (.fr (.tuple (iL hs))), some (.fr (.tuple (iL ts))), x', some (.fr (.int M)), some (.fr (.int a)), some (.fr (.int b))] = .ok (.rt (.fr D0) [some (.fr (.tuple (iL ns))), some (.fr (.tuple (iL ms))), some (.fr (.tuple (iL hs))), some (.fr (.tuple (iL ts))), x', some (.fr (.int M)), some (.fr (.int a)), some (.fr (.int b))]) := by
        intro e a b D0 hD
        subst hD
        by_cases q : a = b
        · subst q
          simp only [runD, runM, evalB, execs, exec, evalE, evalA, evalO, evalC, evalS, evalL, brw, two, three, asVar_var, asVar_cst, asVar_mv, asVar_bin, asVar_neg, asVar_nt, asVar_cmp, asVar_chain, asVar_andE, asVar_orE, asVar_ife, asVar_tupE, asVar_lstE, asVar_idx, asVar_slc, asVar_call, asVar_callM, asVar_popI, asVar_bi, asVar_bi2, asVar_isi, rdE, rdL, putE, updE, putsE, mb0, setL_at0, setL_at1, intOf, bindT, augD, toD, binD, cmpD, eqD_int, eqD_str, eqD_bool, idxD, biD, isiD, isNone, itemsD, slcD, atI_zero, atI_one, strict, ok_bind, ex_bind, no_bind, List.map_cons, List.map_nil, List.replicate_succ, List.replicate_zero, List.cons_append, List.nil_append, List.append_nil, List.getElem?_cons_zero, List.getElem?_cons_succ, List.getElem?_nil, List.set_cons_zero, List.set_cons_succ, List.length_cons, List.length_nil, List.length_map, Bool.not_false, Bool.not_true, if_true, if_false, Bool.false_eq_true, List.eraseIdx_cons_succ, List.eraseIdx_cons_zero, and_self, true_and, and_true, ite_true, ite_false, decide_true, decide_false, ne_eq, not_false_eq_true, not_true_eq_false, true_or, or_true, reduceCtorEq, asVar_lrng, asVar_rev, asVar_idx3, asVar_popE, revD, lstD, beq_self_eq_true]
        · simp only [runD, runM, evalB, execs, exec, evalE, evalA, evalO, evalC, evalS, evalL, brw, two, three, asVar_var, asVar_cst, asVar_mv, asVar_bin, asVar_neg, asVar_nt, asVar_cmp, asVar_chain, asVar_andE, asVar_orE, asVar_ife, asVar_tupE, asVar_lstE, asVar_idx, asVar_slc, asVar_call, asVar_callM, asVar_popI, asVar_bi, asVar_bi2, asVar_isi, rdE, rdL, putE, updE, putsE, mb0, setL_at0, setL_at1, intOf, bindT, augD, toD, binD, cmpD, eqD_int, eqD_str, eqD_bool, idxD, biD, isiD, isNone, itemsD, slcD, atI_zero, atI_one, strict, ok_bind, ex_bind, no_bind, List.map_cons, List.map_nil, List.replicate_succ, List.replicate_zero, List.cons_append, List.nil_append, List.append_nil, List.getElem?_cons_zero, List.getElem?_cons_succ, List.getElem?_nil, List.set_cons_zero, List.set_cons_succ, List.length_cons, List.length_nil, List.length_map, Bool.not_false, Bool.not_true, if_true, if_false, Bool.false_eq_true, List.eraseIdx_cons_succ, List.eraseIdx_cons_zero, and_self, true_and, and_true, ite_true, ite_false, decide_true, decide_false, ne_eq, not_false_eq_true, not_true_eq_false, true_or, or_true, reduceCtorEq, asVar_lrng, asVar_rev, asVar_idx3, asVar_popE, revD, lstD, beq_no q, three_SZ, if_neg q, mk2S]
      by_cases hp : M > 0
      · have hp' : (0 < M) = True := eq_true hp
        have hne : (M = 0) = False := eq_false (by omega)
        refine runD_rt (e1 := [some (.fr (.tuple (iL ns))), some (.fr (.tuple (iL ms))), some (.fr (.tuple (iL hs))), some (.fr (.tuple (iL ts))), x', some (.fr (.int M)), some (.fr (.int ((gI ns 0).fmod M))), some (.fr (.int ((gI ms 0).fmod M)))]) ?_
        refine Eq.trans (iff_skip (e1 := ?e2) ?h2) ?g2
        case h2 => first | (simp only [runD, runM, evalB, execs, exec, evalE, evalA, evalO, evalC, evalS, evalL, brw, two, three, asVar_var, asVar_cst, asVar_mv, asVar_bin, asVar_neg, asVar_nt, asVar_cmp, asVar_chain, asVar_andE, asVar_orE, asVar_ife, asVar_tupE, asVar_lstE, asVar_idx, asVar_slc, asVar_call, asVar_callM, asVar_popI, asVar_bi, asVar_bi2, asVar_isi, rdE, rdL, putE, updE, putsE, mb0, setL_at0, setL_at1, intOf, bindT, augD, toD, binD, cmpD, eqD_int, eqD_str, eqD_bool, idxD, biD, isiD, isNone, itemsD, slcD, atI_zero, atI_one, strict, ok_bind, ex_bind, no_bind, List.map_cons, List.map_nil, List.replicate_succ, List.replicate_zero, List.cons_append, List.nil_append, List.append_nil, List.getElem?_cons_zero, List.getElem?_cons_succ, List.getElem?_nil, List.set_cons_zero, List.set_cons_succ, List.length_cons, List.length_nil, List.length_map, Bool.not_false, Bool.not_true, if_true, if_false, Bool.false_eq_true, List.eraseIdx_cons_succ, List.eraseIdx_cons_zero, and_self, true_and, and_true, ite_true, ite_false, decide_true, decide_false, ne_eq, not_false_eq_true, not_true_eq_false, true_or, or_true, reduceCtorEq, asVar_lrng, asVar_rev, asVar_idx3, asVar_popE, revD, lstD, iL_len, len_beq, hlb]; done) | (simp only [runD, runM, evalB, execs, exec, evalE, evalA, evalO, evalC, evalS, evalL, brw, two, three, asVar_var, asVar_cst, asVar_mv, asVar_bin, asVar_neg, asVar_nt, asVar_cmp, asVar_chain, asVar_andE, asVar_orE, asVar_ife, asVar_tupE, asVar_lstE, asVar_idx, asVar_slc, asVar_call, asVar_callM, asVar_popI, asVar_bi, asVar_bi2, asVar_isi, rdE, rdL, putE, updE, putsE, mb0, setL_at0, setL_at1, intOf, bindT, augD, toD, binD, cmpD, eqD_int, eqD_str, eqD_bool, idxD, biD, isiD, isNone, itemsD, slcD, atI_zero, atI_one, strict, ok_bind, ex_bind, no_bind, List.map_cons, List.map_nil, List.replicate_succ, List.replicate_zero, List.cons_append, List.nil_append, List.append_nil, List.getElem?_cons_zero, List.getElem?_cons_succ, List.getElem?_nil, List.set_cons_zero, List.set_cons_succ, List.length_cons, List.length_nil, List.length_map, Bool.not_false, Bool.not_true, if_true, if_false, Bool.false_eq_true, List.eraseIdx_cons_succ, List.eraseIdx_cons_zero, and_self, true_and, and_true, ite_true, ite_false, decide_true, decide_false, ne_eq, not_false_eq_true, not_true_eq_false, true_or, or_true, reduceCtorEq, asVar_lrng, asVar_rev, asVar_idx3, asVar_popE, revD, lstD, iL_len, len_beq, hlb]; rfl)
        refine Eq.trans (ex_nx (e1 := ?e9) ?h9) ?g9
        case h9 => first | (simp only [runD, runM, evalB, execs, exec, evalE, evalA, evalO, evalC, evalS, evalL, brw, two, three, asVar_var, asVar_cst, asVar_mv, asVar_bin, asVar_neg, asVar_nt, asVar_cmp, asVar_chain, asVar_andE, asVar_orE, asVar_ife, asVar_tupE, asVar_lstE, asVar_idx, asVar_slc, asVar_call, asVar_callM, asVar_popI, asVar_bi, asVar_bi2, asVar_isi, rdE, rdL, putE, updE, putsE, mb0, setL_at0, setL_at1, intOf, bindT, augD, toD, binD, cmpD, eqD_int, eqD_str, eqD_bool, idxD, biD, isiD, isNone, itemsD, slcD, atI_zero, atI_one, strict, ok_bind, ex_bind, no_bind, List.map_cons, List.map_nil, List.replicate_succ, List.replicate_zero, List.cons_append, List.nil_append, List.append_nil, List.getElem?_cons_zero, List.getElem?_cons_succ, List.getElem?_nil, List.set_cons_zero, List.set_cons_succ, List.length_cons, List.length_nil, List.length_map, Bool.not_false, Bool.not_true, if_true, if_false, Bool.false_eq_true, List.eraseIdx_cons_succ, List.eraseIdx_cons_zero, and_self, true_and, and_true, ite_true, ite_false, decide_true, decide_false, ne_eq, not_false_eq_true, not_true_eq_false, true_or, or_true, reduceCtorEq, asVar_lrng, asVar_rev, asVar_idx3, asVar_popE, revD, lstD, d1, d2]; done) | (simp only [runD, runM, evalB, execs, exec, evalE, evalA, evalO, evalC, evalS, evalL, brw, two, three, asVar_var, asVar_cst, asVar_mv, asVar_bin, asVar_neg, asVar_nt, asVar_cmp, asVar_chain, asVar_andE, asVar_orE, asVar_ife, asVar_tupE, asVar_lstE, asVar_idx, asVar_slc, asVar_call, asVar_callM, asVar_popI, asVar_bi, asVar_bi2, asVar_isi, rdE, rdL, putE, updE, putsE, mb0, setL_at0, setL_at1, intOf, bindT, augD, toD, binD, cmpD, eqD_int, eqD_str, eqD_bool, idxD, biD, isiD, isNone, itemsD, slcD, atI_zero, atI_one, strict, ok_bind, ex_bind, no_bind, List.map_cons, List.map_nil, List.replicate_succ, List.replicate_zero, List.cons_append, List.nil_append, List.append_nil, List.getElem?_cons_zero, List.getElem?_cons_succ, List.getElem?_nil, List.set_cons_zero, List.set_cons_succ, List.length_cons, List.length_nil, List.length_map, Bool.not_false, Bool.not_true, if_true, if_false, Bool.false_eq_true, List.eraseIdx_cons_succ, List.eraseIdx_cons_zero, and_self, true_and, and_true, ite_true, ite_false, decide_true, decide_false, ne_eq, not_false_eq_true, not_true_eq_false, true_or, or_true, reduceCtorEq, asVar_lrng, asVar_rev, asVar_idx3, asVar_popE, revD, lstD, d1, d2]; rfl)
        refine Eq.trans (ex_nx (e1 := ?E2) ?H2) ?G2
        case H2 =>
          simp only [runD, runM, evalB, execs, exec, evalE, evalA, evalO, evalC, evalS, evalL, brw, two, three, asVar_var, asVar_cst, asVar_mv, asVar_bin, asVar_neg, asVar_nt, asVar_cmp, asVar_chain, asVar_andE, asVar_orE, asVar_ife, asVar_tupE, asVar_lstE, asVar_idx, asVar_slc, asVar_call, asVar_callM, asVar_popI, asVar_bi, asVar_bi2, asVar_isi, rdE, rdL, putE, updE, putsE, mb0, setL_at0, setL_at1, intOf, bindT, augD, toD, binD, cmpD, eqD_int, eqD_str, eqD_bool, idxD, biD, isiD, isNone, itemsD, slcD, atI_zero, atI_one, strict, ok_bind, ex_bind, no_bind, List.map_cons, List.map_nil, List.replicate_succ, List.replicate_zero, List.cons_append, List.nil_append, List.append_nil, List.getElem?_cons_zero, List.getElem?_cons_succ, List.getElem?_nil, List.set_cons_zero, List.set_cons_succ, List.length_cons, List.length_nil, List.length_map, Bool.not_false, Bool.not_true, if_true, if_false, Bool.false_eq_true, List.eraseIdx_cons_succ, List.eraseIdx_cons_zero, and_self, true_and, and_true, ite_true, ite_false, decide_true, decide_false, ne_eq, not_false_eq_true, not_true_eq_false, true_or, or_true, reduceCtorEq, asVar_lrng, asVar_rev, asVar_idx3, asVar_popE, revD, lstD, iL_len, sz, ap, intsD_iL]
          exact he
        refine Eq.trans (ex_nx (e1 := ?e10) ?h10) ?g10
        case h10 => first | (simp only [runD, runM, evalB, execs, exec, evalE, evalA, evalO, evalC, evalS, evalL, brw, two, three, asVar_var, asVar_cst, asVar_mv, asVar_bin, asVar_neg, asVar_nt, asVar_cmp, asVar_chain, asVar_andE, asVar_orE, asVar_ife, asVar_tupE, asVar_lstE, asVar_idx, asVar_slc, asVar_call, asVar_callM, asVar_popI, asVar_bi, asVar_bi2, asVar_isi, rdE, rdL, putE, updE, putsE, mb0, setL_at0, setL_at1, intOf, bindT, augD, toD, binD, cmpD, eqD_int, eqD_str, eqD_bool, idxD, biD, isiD, isNone, itemsD, slcD, atI_zero, atI_one, strict, ok_bind, ex_bind, no_bind, List.map_cons, List.map_nil, List.replicate_succ, List.replicate_zero, List.cons_append, List.nil_append, List.append_nil, List.getElem?_cons_zero, List.getElem?_cons_succ, List.getElem?_nil, List.set_cons_zero, List.set_cons_succ, List.length_cons, List.length_nil, List.length_map, Bool.not_false, Bool.not_true, if_true, if_false, Bool.false_eq_true, List.eraseIdx_cons_succ, List.eraseIdx_cons_zero, and_self, true_and, and_true, ite_true, ite_false, decide_true, decide_false, ne_eq, not_false_eq_true, not_true_eq_false, true_or, or_true, reduceCtorEq, asVar_lrng, asVar_rev, asVar_idx3, asVar_popE, revD, lstD, hM]; done) | (simp only [runD, runM, evalB, execs, exec, evalE, evalA, evalO, evalC, evalS, evalL, brw, two, three, asVar_var, asVar_cst, asVar_mv, asVar_bin, asVar_neg, asVar_nt, asVar_cmp, asVar_chain, asVar_andE, asVar_orE, asVar_ife, asVar_tupE, asVar_lstE, asVar_idx, asVar_slc, asVar_call, asVar_callM, asVar_popI, asVar_bi, asVar_bi2, asVar_isi, rdE, rdL, putE, updE, putsE, mb0, setL_at0, setL_at1, intOf, bindT, augD, toD, binD, cmpD, eqD_int, eqD_str, eqD_bool, idxD, biD, isiD, isNone, itemsD, slcD, atI_zero, atI_one, strict, ok_bind, ex_bind, no_bind, List.map_cons, List.map_nil, List.replicate_succ, List.replicate_zero, List.cons_append, List.nil_append, List.append_nil, List.getElem?_cons_zero, List.getElem?_cons_succ, List.getElem?_nil, List.set_cons_zero, List.set_cons_succ, List.length_cons, List.length_nil, List.length_map, Bool.not_false, Bool.not_true, if_true, if_false, Bool.false_eq_true, List.eraseIdx_cons_succ, List.eraseIdx_cons_zero, and_self, true_and, and_true, ite_true, ite_false, decide_true, decide_false, ne_eq, not_false_eq_true, not_true_eq_false, true_or, or_true, reduceCtorEq, asVar_lrng, asVar_rev, asVar_idx3, asVar_popE, revD, lstD, hM]; rfl)
        refine Eq.trans (ex_nx (e1 := ?e11) ?h11) ?g11
        case h11 => first | (simp only [runD, runM, evalB, execs, exec, evalE, evalA, evalO, evalC, evalS, evalL, brw, two, three, asVar_var, asVar_cst, asVar_mv, asVar_bin, asVar_neg, asVar_nt, asVar_cmp, asVar_chain, asVar_andE, asVar_orE, asVar_ife, asVar_tupE, asVar_lstE, asVar_idx, asVar_slc, asVar_call, asVar_callM, asVar_popI, asVar_bi, asVar_bi2, asVar_isi, rdE, rdL, putE, updE, putsE, mb0, setL_at0, setL_at1, intOf, bindT, augD, toD, binD, cmpD, eqD_int, eqD_str, eqD_bool, idxD, biD, isiD, isNone, itemsD, slcD, atI_zero, atI_one, strict, ok_bind, ex_bind, no_bind, List.map_cons, List.map_nil, List.replicate_succ, List.replicate_zero, List.cons_append, List.nil_append, List.append_nil, List.getElem?_cons_zero, List.getElem?_cons_succ, List.getElem?_nil, List.set_cons_zero, List.set_cons_succ, List.length_cons, List.length_nil, List.length_map, Bool.not_false, Bool.not_true, if_true, if_false, Bool.false_eq_true, List.eraseIdx_cons_succ, List.eraseIdx_cons_zero, and_self, true_and, and_true, ite_true, ite_false, decide_true, decide_false, ne_eq, not_false_eq_true, not_true_eq_false, true_or, or_true, reduceCtorEq, asVar_lrng, asVar_rev, asVar_idx3, asVar_popE, revD, lstD, g0, g1]; done) | (simp only [runD, runM, evalB, execs, exec, evalE, evalA, evalO, evalC, evalS, evalL, brw, two, three, asVar_var, asVar_cst, asVar_mv, asVar_bin, asVar_neg, asVar_nt, asVar_cmp, asVar_chain, asVar_andE, asVar_orE, asVar_ife, asVar_tupE, asVar_lstE, asVar_idx, asVar_slc, asVar_call, asVar_callM, asVar_popI, asVar_bi, asVar_bi2, asVar_isi, rdE, rdL, putE, updE, putsE, mb0, setL_at0, setL_at1, intOf, bindT, augD, toD, binD, cmpD, eqD_int, eqD_str, eqD_bool, idxD, biD, isiD, isNone, itemsD, slcD, atI_zero, atI_one, strict, ok_bind, ex_bind, no_bind, List.map_cons, List.map_nil, List.replicate_succ, List.replicate_zero, List.cons_append, List.nil_append, List.append_nil, List.getElem?_cons_zero, List.getElem?_cons_succ, List.getElem?_nil, List.set_cons_zero, List.set_cons_succ, List.length_cons, List.length_nil, List.length_map, Bool.not_false, Bool.not_true, if_true, if_false, Bool.false_eq_true, List.eraseIdx_cons_succ, List.eraseIdx_cons_zero, and_self, true_and, and_true, ite_true, ite_false, decide_true, decide_false, ne_eq, not_false_eq_true, not_true_eq_false, true_or, or_true, reduceCtorEq, asVar_lrng, asVar_rev, asVar_idx3, asVar_popE, revD, lstD, g0, g1]; rfl)
        refine Eq.trans (ex_nx (e1 := ?eq) ((iff_T (e1 := ?dq) ?hq).trans ?bq)) ?gq
        case hq => first | (simp only [runD, runM, evalB, execs, exec, evalE, evalA, evalO, evalC, evalS, evalL, brw, two, three, asVar_var, asVar_cst, asVar_mv, asVar_bin, asVar_neg, asVar_nt, asVar_cmp, asVar_chain, asVar_andE, asVar_orE, asVar_ife, asVar_tupE, asVar_lstE, asVar_idx, asVar_slc, asVar_call, asVar_callM, asVar_popI, asVar_bi, asVar_bi2, asVar_isi, rdE, rdL, putE, updE, putsE, mb0, setL_at0, setL_at1, intOf, bindT, augD, toD, binD, cmpD, eqD_int, eqD_str, eqD_bool, idxD, biD, isiD, isNone, itemsD, slcD, atI_zero, atI_one, strict, ok_bind, ex_bind, no_bind, List.map_cons, List.map_nil, List.replicate_succ, List.replicate_zero, List.cons_append, List.nil_append, List.append_nil, List.getElem?_cons_zero, List.getElem?_cons_succ, List.getElem?_nil, List.set_cons_zero, List.set_cons_succ, List.length_cons, List.length_nil, List.length_map, Bool.not_false, Bool.not_true, if_true, if_false, Bool.false_eq_true, List.eraseIdx_cons_succ, List.eraseIdx_cons_zero, and_self, true_and, and_true, ite_true, ite_false, decide_true, decide_false, ne_eq, not_false_eq_true, not_true_eq_false, true_or, or_true, reduceCtorEq, asVar_lrng, asVar_rev, asVar_idx3, asVar_popE, revD, lstD, hp']; done) | (simp only [runD, runM, evalB, execs, exec, evalE, evalA, evalO, evalC, evalS, evalL, brw, two, three, asVar_var, asVar_cst, asVar_mv, asVar_bin, asVar_neg, asVar_nt, asVar_cmp, asVar_chain, asVar_andE, asVar_orE, asVar_ife, asVar_tupE, asVar_lstE, asVar_idx, asVar_slc, asVar_call, asVar_callM, asVar_popI, asVar_bi, asVar_bi2, asVar_isi, rdE, rdL, putE, updE, putsE, mb0, setL_at0, setL_at1, intOf, bindT, augD, toD, binD, cmpD, eqD_int, eqD_str, eqD_bool, idxD, biD, isiD, isNone, itemsD, slcD, atI_zero, atI_one, strict, ok_bind, ex_bind, no_bind, List.map_cons, List.map_nil, List.replicate_succ, List.replicate_zero, List.cons_append, List.nil_append, List.append_nil, List.getElem?_cons_zero, List.getElem?_cons_succ, List.getElem?_nil, List.set_cons_zero, List.set_cons_succ, List.length_cons, List.length_nil, List.length_map, Bool.not_false, Bool.not_true, if_true, if_false, Bool.false_eq_true, List.eraseIdx_cons_succ, List.eraseIdx_cons_zero, and_self, true_and, and_true, ite_true, ite_false, decide_true, decide_false, ne_eq, not_false_eq_true, not_true_eq_false, true_or, or_true, reduceCtorEq, asVar_lrng, asVar_rev, asVar_idx3, asVar_popE, revD, lstD, hp']; rfl)
        case bq =>
          refine Eq.trans (ex_nx (e1 := ?e12) ?h12) ?g12
          case h12 => first | (simp only [runD, runM, evalB, execs, exec, evalE, evalA, evalO, evalC, evalS, evalL, brw, two, three, asVar_var, asVar_cst, asVar_mv, asVar_bin, asVar_neg, asVar_nt, asVar_cmp, asVar_chain, asVar_andE, asVar_orE, asVar_ife, asVar_tupE, asVar_lstE, asVar_idx, asVar_slc, asVar_call, asVar_callM, asVar_popI, asVar_bi, asVar_bi2, asVar_isi, rdE, rdL, putE, updE, putsE, mb0, setL_at0, setL_at1, intOf, bindT, augD, toD, binD, cmpD, eqD_int, eqD_str, eqD_bool, idxD, biD, isiD, isNone, itemsD, slcD, atI_zero, atI_one, strict, ok_bind, ex_bind, no_bind, List.map_cons, List.map_nil, List.replicate_succ, List.replicate_zero, List.cons_append, List.nil_append, List.append_nil, List.getElem?_cons_zero, List.getElem?_cons_succ, List.getElem?_nil, List.set_cons_zero, List.set_cons_succ, List.length_cons, List.length_nil, List.length_map, Bool.not_false, Bool.not_true, if_true, if_false, Bool.false_eq_true, List.eraseIdx_cons_succ, List.eraseIdx_cons_zero, and_self, true_and, and_true, ite_true, ite_false, decide_true, decide_false, ne_eq, not_false_eq_true, not_true_eq_false, true_or, or_true, reduceCtorEq, asVar_lrng, asVar_rev, asVar_idx3, asVar_popE, revD, lstD, hne]; done) | (simp only [runD, runM, evalB, execs, exec, evalE, evalA, evalO, evalC, evalS, evalL, brw, two, three, asVar_var, asVar_cst, asVar_mv, asVar_bin, asVar_neg, asVar_nt, asVar_cmp, asVar_chain, asVar_andE, asVar_orE, asVar_ife, asVar_tupE, asVar_lstE, asVar_idx, asVar_slc, asVar_call, asVar_callM, asVar_popI, asVar_bi, asVar_bi2, asVar_isi, rdE, rdL, putE, updE, putsE, mb0, setL_at0, setL_at1, intOf, bindT, augD, toD, binD, cmpD, eqD_int, eqD_str, eqD_bool, idxD, biD, isiD, isNone, itemsD, slcD, atI_zero, atI_one, strict, ok_bind, ex_bind, no_bind, List.map_cons, List.map_nil, List.replicate_succ, List.replicate_zero, List.cons_append, List.nil_append, List.append_nil, List.getElem?_cons_zero, List.getElem?_cons_succ, List.getElem?_nil, List.set_cons_zero, List.set_cons_succ, List.length_cons, List.length_nil, List.length_map, Bool.not_false, Bool.not_true, if_true, if_false, Bool.false_eq_true, List.eraseIdx_cons_succ, List.eraseIdx_cons_zero, and_self, true_and, and_true, ite_true, ite_false, decide_true, decide_false, ne_eq, not_false_eq_true, not_true_eq_false, true_or, or_true, reduceCtorEq, asVar_lrng, asVar_rev, asVar_idx3, asVar_popE, revD, lstD, hne]; rfl)
          rw [execs]
        exact fin (e := []) (by unfold diffM; rw [if_pos hp])
      · have hp' : (0 < M) = False := eq_false (by omega)
        refine runD_rt (e1 := [some (.fr (.tuple (iL ns))), some (.fr (.tuple (iL ms))), some (.fr (.tuple (iL hs))), some (.fr (.tuple (iL ts))), x', some (.fr (.int M)), some (.fr (.int (gI ns 0))), some (.fr (.int (gI ms 0)))]) ?_
        refine Eq.trans (iff_skip (e1 := ?e3) ?h3) ?g3
        case h3 => first | (simp only [runD, runM, evalB, execs, exec, evalE, evalA, evalO, evalC, evalS, evalL, brw, two, three, asVar_var, asVar_cst, asVar_mv, asVar_bin, asVar_neg, asVar_nt, asVar_cmp, asVar_chain, asVar_andE, asVar_orE, asVar_ife, asVar_tupE, asVar_lstE, asVar_idx, asVar_slc, asVar_call, asVar_callM, asVar_popI, asVar_bi, asVar_bi2, asVar_isi, rdE, rdL, putE, updE, putsE, mb0, setL_at0, setL_at1, intOf, bindT, augD, toD, binD, cmpD, eqD_int, eqD_str, eqD_bool, idxD, biD, isiD, isNone, itemsD, slcD, atI_zero, atI_one, strict, ok_bind, ex_bind, no_bind, List.map_cons, List.map_nil, List.replicate_succ, List.replicate_zero, List.cons_append, List.nil_append, List.append_nil, List.getElem?_cons_zero, List.getElem?_cons_succ, List.getElem?_nil, List.set_cons_zero, List.set_cons_succ, List.length_cons, List.length_nil, List.length_map, Bool.not_false, Bool.not_true, if_true, if_false, Bool.false_eq_true, List.eraseIdx_cons_succ, List.eraseIdx_cons_zero, and_self, true_and, and_true, ite_true, ite_false, decide_true, decide_false, ne_eq, not_false_eq_true, not_true_eq_false, true_or, or_true, reduceCtorEq, asVar_lrng, asVar_rev, asVar_idx3, asVar_popE, revD, lstD, iL_len, len_beq, hlb]; done) | (simp only [runD, runM, evalB, execs, exec, evalE, evalA, evalO, evalC, evalS, evalL, brw, two, three, asVar_var, asVar_cst, asVar_mv, asVar_bin, asVar_neg, asVar_nt, asVar_cmp, asVar_chain, asVar_andE, asVar_orE, asVar_ife, asVar_tupE, asVar_lstE, asVar_idx, asVar_slc, asVar_call, asVar_callM, asVar_popI, asVar_bi, asVar_bi2, asVar_isi, rdE, rdL, putE, updE, putsE, mb0, setL_at0, setL_at1, intOf, bindT, augD, toD, binD, cmpD, eqD_int, eqD_str, eqD_bool, idxD, biD, isiD, isNone, itemsD, slcD, atI_zero, atI_one, strict, ok_bind, ex_bind, no_bind, List.map_cons, List.map_nil, List.replicate_succ, List.replicate_zero, List.cons_append, List.nil_append, List.append_nil, List.getElem?_cons_zero, List.getElem?_cons_succ, List.getElem?_nil, List.set_cons_zero, List.set_cons_succ, List.length_cons, List.length_nil, List.length_map, Bool.not_false, Bool.not_true, if_true, if_false, Bool.false_eq_true, List.eraseIdx_cons_succ, List.eraseIdx_cons_zero, and_self, true_and, and_true, ite_true, ite_false, decide_true, decide_false, ne_eq, not_false_eq_true, not_true_eq_false, true_or, or_true, reduceCtorEq, asVar_lrng, asVar_rev, asVar_idx3, asVar_popE, revD, lstD, iL_len, len_beq, hlb]; rfl)
        refine Eq.trans (ex_nx (e1 := ?e13) ?h13) ?g13
        case h13 => first | (simp only [runD, runM, evalB, execs, exec, evalE, evalA, evalO, evalC, evalS, evalL, brw, two, three, asVar_var, asVar_cst, asVar_mv, asVar_bin, asVar_neg, asVar_nt, asVar_cmp, asVar_chain, asVar_andE, asVar_orE, asVar_ife, asVar_tupE, asVar_lstE, asVar_idx, asVar_slc, asVar_call, asVar_callM, asVar_popI, asVar_bi, asVar_bi2, asVar_isi, rdE, rdL, putE, updE, putsE, mb0, setL_at0, setL_at1, intOf, bindT, augD, toD, binD, cmpD, eqD_int, eqD_str, eqD_bool, idxD, biD, isiD, isNone, itemsD, slcD, atI_zero, atI_one, strict, ok_bind, ex_bind, no_bind, List.map_cons, List.map_nil, List.replicate_succ, List.replicate_zero, List.cons_append, List.nil_append, List.append_nil, List.getElem?_cons_zero, List.getElem?_cons_succ, List.getElem?_nil, List.set_cons_zero, List.set_cons_succ, List.length_cons, List.length_nil, List.length_map, Bool.not_false, Bool.not_true, if_true, if_false, Bool.false_eq_true, List.eraseIdx_cons_succ, List.eraseIdx_cons_zero, and_self, true_and, and_true, ite_true, ite_false, decide_true, decide_false, ne_eq, not_false_eq_true, not_true_eq_false, true_or, or_true, reduceCtorEq, asVar_lrng, asVar_rev, asVar_idx3, asVar_popE, revD, lstD, d1, d2]; done) | (simp only [runD, runM, evalB, execs, exec, evalE, evalA, evalO, evalC, evalS, evalL, brw, two, three, asVar_var, asVar_cst, asVar_mv, asVar_bin, asVar_neg, asVar_nt, asVar_cmp, asVar_chain, asVar_andE, asVar_orE, asVar_ife, asVar_tupE, asVar_lstE, asVar_idx, asVar_slc, asVar_call, asVar_callM, asVar_popI, asVar_bi, asVar_bi2, asVar_isi, rdE, rdL, putE, updE, putsE, mb0, setL_at0, setL_at1, intOf, bindT, augD, toD, binD, cmpD, eqD_int, eqD_str, eqD_bool, idxD, biD, isiD, isNone, itemsD, slcD, atI_zero, atI_one, strict, ok_bind, ex_bind, no_bind, List.map_cons, List.map_nil, List.replicate_succ, List.replicate_zero, List.cons_append, List.nil_append, List.append_nil, List.getElem?_cons_zero, List.getElem?_cons_succ, List.getElem?_nil, List.set_cons_zero, List.set_cons_succ, List.length_cons, List.length_nil, List.length_map, Bool.not_false, Bool.not_true, if_true, if_false, Bool.false_eq_true, List.eraseIdx_cons_succ, List.eraseIdx_cons_zero, and_self, true_and, and_true, ite_true, ite_false, decide_true, decide_false, ne_eq, not_false_eq_true, not_true_eq_false, true_or, or_true, reduceCtorEq, asVar_lrng, asVar_rev, asVar_idx3, asVar_popE, revD, lstD, d1, d2]; rfl)
        refine Eq.trans (ex_nx (e1 := ?E3) ?H3) ?G3
        case H3 =>
          simp only [runD, runM, evalB, execs, exec, evalE, evalA, evalO, evalC, evalS, evalL, brw, two, three, asVar_var, asVar_cst, asVar_mv, asVar_bin, asVar_neg, asVar_nt, asVar_cmp, asVar_chain, asVar_andE, asVar_orE, asVar_ife, asVar_tupE, asVar_lstE, asVar_idx, asVar_slc, asVar_call, asVar_callM, asVar_popI, asVar_bi, asVar_bi2, asVar_isi, rdE, rdL, putE, updE, putsE, mb0, setL_at0, setL_at1, intOf, bindT, augD, toD, binD, cmpD, eqD_int, eqD_str, eqD_bool, idxD, biD, isiD, isNone, itemsD, slcD, atI_zero, atI_one, strict, ok_bind, ex_bind, no_bind, List.map_cons, List.map_nil, List.replicate_succ, List.replicate_zero, List.cons_append, List.nil_append, List.append_nil, List.getElem?_cons_zero, List.getElem?_cons_succ, List.getElem?_nil, List.set_cons_zero, List.set_cons_succ, List.length_cons, List.length_nil, List.length_map, Bool.not_false, Bool.not_true, if_true, if_false, Bool.false_eq_true, List.eraseIdx_cons_succ, List.eraseIdx_cons_zero, and_self, true_and, and_true, ite_true, ite_false, decide_true, decide_false, ne_eq, not_false_eq_true, not_true_eq_false, true_or, or_true, reduceCtorEq, asVar_lrng, asVar_rev, asVar_idx3, asVar_popE, revD, lstD, iL_len, sz, ap, intsD_iL]
          exact he
        refine Eq.trans (ex_nx (e1 := ?e14) ?h14) ?g14
        case h14 => first | (simp only [runD, runM, evalB, execs, exec, evalE, evalA, evalO, evalC, evalS, evalL, brw, two, three, asVar_var, asVar_cst, asVar_mv, asVar_bin, asVar_neg, asVar_nt, asVar_cmp, asVar_chain, asVar_andE, asVar_orE, asVar_ife, asVar_tupE, asVar_lstE, asVar_idx, asVar_slc, asVar_call, asVar_callM, asVar_popI, asVar_bi, asVar_bi2, asVar_isi, rdE, rdL, putE, updE, putsE, mb0, setL_at0, setL_at1, intOf, bindT, augD, toD, binD, cmpD, eqD_int, eqD_str, eqD_bool, idxD, biD, isiD, isNone, itemsD, slcD, atI_zero, atI_one, strict, ok_bind, ex_bind, no_bind, List.map_cons, List.map_nil, List.replicate_succ, List.replicate_zero, List.cons_append, List.nil_append, List.append_nil, List.getElem?_cons_zero, List.getElem?_cons_succ, List.getElem?_nil, List.set_cons_zero, List.set_cons_succ, List.length_cons, List.length_nil, List.length_map, Bool.not_false, Bool.not_true, if_true, if_false, Bool.false_eq_true, List.eraseIdx_cons_succ, List.eraseIdx_cons_zero, and_self, true_and, and_true, ite_true, ite_false, decide_true, decide_false, ne_eq, not_false_eq_true, not_true_eq_false, true_or, or_true, reduceCtorEq, asVar_lrng, asVar_rev, asVar_idx3, asVar_popE, revD, lstD, hM]; done) | (simp only [runD, runM, evalB, execs, exec, evalE, evalA, evalO, evalC, evalS, evalL, brw, two, three, asVar_var, asVar_cst, asVar_mv, asVar_bin, asVar_neg, asVar_nt, asVar_cmp, asVar_chain, asVar_andE, asVar_orE, asVar_ife, asVar_tupE, asVar_lstE, asVar_idx, asVar_slc, asVar_call, asVar_callM, asVar_popI, asVar_bi, asVar_bi2, asVar_isi, rdE, rdL, putE, updE, putsE, mb0, setL_at0, setL_at1, intOf, bindT, augD, toD, binD, cmpD, eqD_int, eqD_str, eqD_bool, idxD, biD, isiD, isNone, itemsD, slcD, atI_zero, atI_one, strict, ok_bind, ex_bind, no_bind, List.map_cons, List.map_nil, List.replicate_succ, List.replicate_zero, List.cons_append, List.nil_append, List.append_nil, List.getElem?_cons_zero, List.getElem?_cons_succ, List.getElem?_nil, List.set_cons_zero, List.set_cons_succ, List.length_cons, List.length_nil, List.length_map, Bool.not_false, Bool.not_true, if_true, if_false, Bool.false_eq_true, List.eraseIdx_cons_succ, List.eraseIdx_cons_zero, and_self, true_and, and_true, ite_true, ite_false, decide_true, decide_false, ne_eq, not_false_eq_true, not_true_eq_false, true_or, or_true, reduceCtorEq, asVar_lrng, asVar_rev, asVar_idx3, asVar_popE, revD, lstD, hM]; rfl)
        refine Eq.trans (ex_nx (e1 := ?e15) ?h15) ?g15
        case h15 => first | (simp only [runD, runM, evalB, execs, exec, evalE, evalA, evalO, evalC, evalS, evalL, brw, two, three, asVar_var, asVar_cst, asVar_mv, asVar_bin, asVar_neg, asVar_nt, asVar_cmp, asVar_chain, asVar_andE, asVar_orE, asVar_ife, asVar_tupE, asVar_lstE, asVar_idx, asVar_slc, asVar_call, asVar_callM, asVar_popI, asVar_bi, asVar_bi2, asVar_isi, rdE, rdL, putE, updE, putsE, mb0, setL_at0, setL_at1, intOf, bindT, augD, toD, binD, cmpD, eqD_int, eqD_str, eqD_bool, idxD, biD, isiD, isNone, itemsD, slcD, atI_zero, atI_one, strict, ok_bind, ex_bind, no_bind, List.map_cons, List.map_nil, List.replicate_succ, List.replicate_zero, List.cons_append, List.nil_append, List.append_nil, List.getElem?_cons_zero, List.getElem?_cons_succ, List.getElem?_nil, List.set_cons_zero, List.set_cons_succ, List.length_cons, List.length_nil, List.length_map, Bool.not_false, Bool.not_true, if_true, if_false, Bool.false_eq_true, List.eraseIdx_cons_succ, List.eraseIdx_cons_zero, and_self, true_and, and_true, ite_true, ite_false, decide_true, decide_false, ne_eq, not_false_eq_true, not_true_eq_false, true_or, or_true, reduceCtorEq, asVar_lrng, asVar_rev, asVar_idx3, asVar_popE, revD, lstD, g0, g1]; done) | (simp only [runD, runM, evalB, execs, exec, evalE, evalA, evalO, evalC, evalS, evalL, brw, two, three, asVar_var, asVar_cst, asVar_mv, asVar_bin, asVar_neg, asVar_nt, asVar_cmp, asVar_chain, asVar_andE, asVar_orE, asVar_ife, asVar_tupE, asVar_lstE, asVar_idx, asVar_slc, asVar_call, asVar_callM, asVar_popI, asVar_bi, asVar_bi2, asVar_isi, rdE, rdL, putE, updE, putsE, mb0, setL_at0, setL_at1, intOf, bindT, augD, toD, binD, cmpD, eqD_int, eqD_str, eqD_bool, idxD, biD, isiD, isNone, itemsD, slcD, atI_zero, atI_one, strict, ok_bind, ex_bind, no_bind, List.map_cons, List.map_nil, List.replicate_succ, List.replicate_zero, List.cons_append, List.nil_append, List.append_nil, List.getElem?_cons_zero, List.getElem?_cons_succ, List.getElem?_nil, List.set_cons_zero, List.set_cons_succ, List.length_cons, List.length_nil, List.length_map, Bool.not_false, Bool.not_true, if_true, if_false, Bool.false_eq_true, List.eraseIdx_cons_succ, List.eraseIdx_cons_zero, and_self, true_and, and_true, ite_true, ite_false, decide_true, decide_false, ne_eq, not_false_eq_true, not_true_eq_false, true_or, or_true, reduceCtorEq, asVar_lrng, asVar_rev, asVar_idx3, asVar_popE, revD, lstD, g0, g1]; rfl)
        refine Eq.trans (iff_skip (e1 := ?e4) ?h4) ?g4
        case h4 => first | (simp only [runD, runM, evalB, execs, exec, evalE, evalA, evalO, evalC, evalS, evalL, brw, two, three, asVar_var, asVar_cst, asVar_mv, asVar_bin, asVar_neg, asVar_nt, asVar_cmp, asVar_chain, asVar_andE, asVar_orE, asVar_ife, asVar_tupE, asVar_lstE, asVar_idx, asVar_slc, asVar_call, asVar_callM, asVar_popI, asVar_bi, asVar_bi2, asVar_isi, rdE, rdL, putE, updE, putsE, mb0, setL_at0, setL_at1, intOf, bindT, augD, toD, binD, cmpD, eqD_int, eqD_str, eqD_bool, idxD, biD, isiD, isNone, itemsD, slcD, atI_zero, atI_one, strict, ok_bind, ex_bind, no_bind, List.map_cons, List.map_nil, List.replicate_succ, List.replicate_zero, List.cons_append, List.nil_append, List.append_nil, List.getElem?_cons_zero, List.getElem?_cons_succ, List.getElem?_nil, List.set_cons_zero, List.set_cons_succ, List.length_cons, List.length_nil, List.length_map, Bool.not_false, Bool.not_true, if_true, if_false, Bool.false_eq_true, List.eraseIdx_cons_succ, List.eraseIdx_cons_zero, and_self, true_and, and_true, ite_true, ite_false, decide_true, decide_false, ne_eq, not_false_eq_true, not_true_eq_false, true_or, or_true, reduceCtorEq, asVar_lrng, asVar_rev, asVar_idx3, asVar_popE, revD, lstD, hp']; done) | (simp only [runD, runM, evalB, execs, exec, evalE, evalA, evalO, evalC, evalS, evalL, brw, two, three, asVar_var, asVar_cst, asVar_mv, asVar_bin, asVar_neg, asVar_nt, asVar_cmp, asVar_chain, asVar_andE, asVar_orE, asVar_ife, asVar_tupE, asVar_lstE, asVar_idx, asVar_slc, asVar_call, asVar_callM, asVar_popI, asVar_bi, asVar_bi2, asVar_isi, rdE, rdL, putE, updE, putsE, mb0, setL_at0, setL_at1, intOf, bindT, augD, toD, binD, cmpD, eqD_int, eqD_str, eqD_bool, idxD, biD, isiD, isNone, itemsD, slcD, atI_zero, atI_one, strict, ok_bind, ex_bind, no_bind, List.map_cons, List.map_nil, List.replicate_succ, List.replicate_zero, List.cons_append, List.nil_append, List.append_nil, List.getElem?_cons_zero, List.getElem?_cons_succ, List.getElem?_nil, List.set_cons_zero, List.set_cons_succ, List.length_cons, List.length_nil, List.length_map, Bool.not_false, Bool.not_true, if_true, if_false, Bool.false_eq_true, List.eraseIdx_cons_succ, List.eraseIdx_cons_zero, and_self, true_and, and_true, ite_true, ite_false, decide_true, decide_false, ne_eq, not_false_eq_true, not_true_eq_false, true_or, or_true, reduceCtorEq, asVar_lrng, asVar_rev, asVar_idx3, asVar_popE, revD, lstD, hp']; rfl)
        exact fin (e := []) (by unfold diffM; rw [if_neg hp])
  · rw [if_neg hl]
    have hlb : decide (ns.length = ms.length) = false := decide_eq_false hl
    refine runD_rt (e1 := [some (.fr (.tuple (iL ns))), some (.fr (.tuple (iL ms))), none, none, none, none, none, none]) ?_
    refine iff_ret (e1 := [some (.fr (.tuple (iL ns))), some (.fr (.tuple (iL ms))), none, none, none, none, none, none]) ?_ ?_
    · simp only [runD, runM, evalB, execs, exec, evalE, evalA, evalO, evalC, evalS, evalL, brw, two, three, asVar_var, asVar_cst, asVar_mv, asVar_bin, asVar_neg, asVar_nt, asVar_cmp, asVar_chain, asVar_andE, asVar_orE, asVar_ife, asVar_tupE, asVar_lstE, asVar_idx, asVar_slc, asVar_call, asVar_callM, asVar_popI, asVar_bi, asVar_bi2, asVar_isi, rdE, rdL, putE, updE, putsE, mb0, setL_at0, setL_at1, intOf, bindT, augD, toD, binD, cmpD, eqD_int, eqD_str, eqD_bool, idxD, biD, isiD, isNone, itemsD, slcD, atI_zero, atI_one, strict, ok_bind, ex_bind, no_bind, List.map_cons, List.map_nil, List.replicate_succ, List.replicate_zero, List.cons_append, List.nil_append, List.append_nil, List.getElem?_cons_zero, List.getElem?_cons_succ, List.getElem?_nil, List.set_cons_zero, List.set_cons_succ, List.length_cons, List.length_nil, List.length_map, Bool.not_false, Bool.not_true, if_true, if_false, Bool.false_eq_true, List.eraseIdx_cons_succ, List.eraseIdx_cons_zero, and_self, true_and, and_true, ite_true, ite_false, decide_true, decide_false, ne_eq, not_false_eq_true, not_true_eq_false, true_or, or_true, reduceCtorEq, asVar_lrng, asVar_rev, asVar_idx3, asVar_popE, revD, lstD, iL_len, len_beq, hlb]
    · simp only [runD, runM, evalB, execs, exec, evalE, evalA, evalO, evalC, evalS, evalL, brw, two, three, asVar_var, asVar_cst, asVar_mv, asVar_bin, asVar_neg, asVar_nt, asVar_cmp, asVar_chain, asVar_andE, asVar_orE, asVar_ife, asVar_tupE, asVar_lstE, asVar_idx, asVar_slc, asVar_call, asVar_callM, asVar_popI, asVar_bi, asVar_bi2, asVar_isi, rdE, rdL, putE, updE, putsE, mb0, setL_at0, setL_at1, intOf, bindT, augD, toD, binD, cmpD, eqD_int, eqD_str, eqD_bool, idxD, biD, isiD, isNone, itemsD, slcD, atI_zero, atI_one, strict, ok_bind, ex_bind, no_bind, List.map_cons, List.map_nil, List.replicate_succ, List.replicate_zero, List.cons_append, List.nil_append, List.append_nil, List.getElem?_cons_zero, List.getElem?_cons_succ, List.getElem?_nil, List.set_cons_zero, List.set_cons_succ, List.length_cons, List.length_nil, List.length_map, Bool.not_false, Bool.not_true, if_true, if_false, Bool.false_eq_true, List.eraseIdx_cons_succ, List.eraseIdx_cons_zero, and_self, true_and, and_true, ite_true, ite_false, decide_true, decide_false, ne_eq, not_false_eq_true, not_true_eq_false, true_or, or_true, reduceCtorEq, asVar_lrng, asVar_rev, asVar_idx3, asVar_popE, revD, lstD, iL_len, three_SZ, mk2S]
theorem ldifference_val {ns ms : List Int} (h1 : 0 < ns.length) (h2 : ns.length ≤ 8) (h3 : 0 < ms.length) (h4 : ms.length ≤ 8) : phi__law_difference [.tuple (iL ns), .tuple (iL ms)] = .ok (.fr (diffV ns ms)) := by
  refine fnOf_eq (n := 0) ?_ (by simp)
  have h2' := small_SZ h2
  have h4' := small_SZ h4
  unfold ir__law_difference diffV
  by_cases hl : ns.length = ms.length
  · rw [if_pos hl]
    have d1 := differences_val h1 h2'
    have d2 := differences_val h3 h4'
    have hM := common_val h1 h2'
    obtain ⟨M, hMM⟩ : ∃ M, M = modu ns := ⟨_, rfl⟩
    have M0 : 0 ≤ M := by rw [hMM]; exact Int.natCast_nonneg _
    rw [← hMM] at hM
    obtain ⟨hs, ehs⟩ : ∃ hs, hs = dif ns := ⟨_, rfl⟩
    obtain ⟨ts, ets⟩ : ∃ ts, ts = dif ms := ⟨_, rfl⟩
    have l1 : hs.length = ns.length := by rw [ehs, dif_len]
    have l2 : ts.length = ms.length := by rw [ets, dif_len]
    rw [← ehs] at d1
    rw [← ets] at d2
    rw [← ehs, ← ets, ← hMM]
    have sz : (hs.length + ts.length ≤ SZ) = True := eq_true (le_SZ (by omega))
    have s64 : ((hs ++ ts).length < 64) = True := eq_true (by rw [List.length_append]; omega)
    have ap : iL hs ++ iL ts = iL (hs ++ ts) := (iL_app (xs := hs) (ys := ts)).symm
    have g0 : atI (iL ns) 0 = some (.int (gI ns 0)) := at_iL' (i := 0) h1
    have g1 : atI (iL ms) 0 = some (.int (gI ms 0)) := at_iL' (i := 0) h3
    have hlb : decide (ns.length = ms.length) = true := decide_eq_true hl
    have hfind : (srt (hs ++ ts)).find? (cdiff hs ts) = (sset (hs ++ ts)).find? (cdiff hs ts) := find_same (srt_le _) (sset_le _) fun k => srt_mem.trans sset_mem.symm
    rw [hfind]
    obtain ⟨c1, c2⟩ := lcount_for (hs := hs) (ts := ts) (a0 := some (.fr (.tuple (iL ns)))) (a1 := some (.fr (.tuple (iL ms)))) (a5 := none) (a6 := none) (sset (hs ++ ts)) none (.inl rfl)
    cases hf : (sset (hs ++ ts)).find? (cdiff hs ts) with
    | some x =>
      obtain ⟨en, he⟩ := c1 x hf
      refine runD_rt (e1 := en) ?_
      refine Eq.trans (iff_skip (e1 := ?e5) ?h5) ?g5
      case h5 => first | (simp only [runD, runM, evalB, execs, exec, evalE, evalA, evalO, evalC, evalS, evalL, brw, two, three, asVar_var, asVar_cst, asVar_mv, asVar_bin, asVar_neg, asVar_nt, asVar_cmp, asVar_chain, asVar_andE, asVar_orE, asVar_ife, asVar_tupE, asVar_lstE, asVar_idx, asVar_slc, asVar_call, asVar_callM, asVar_popI, asVar_bi, asVar_bi2, asVar_isi, rdE, rdL, putE, updE, putsE, mb0, setL_at0, setL_at1, intOf, bindT, augD, toD, binD, cmpD, eqD_int, eqD_str, eqD_bool, idxD, biD, isiD, isNone, itemsD, slcD, atI_zero, atI_one, strict, ok_bind, ex_bind, no_bind, List.map_cons, List.map_nil, List.replicate_succ, List.replicate_zero, List.cons_append, List.nil_append, List.append_nil, List.getElem?_cons_zero, List.getElem?_cons_succ, List.getElem?_nil, List.set_cons_zero, List.set_cons_succ, List.length_cons, List.length_nil, List.length_map, Bool.not_false, Bool.not_true, if_true, if_false, Bool.false_eq_true, List.eraseIdx_cons_succ, List.eraseIdx_cons_zero, and_self, true_and, and_true, ite_true, ite_false, decide_true, decide_false, ne_eq, not_false_eq_true, not_true_eq_false, true_or, or_true, reduceCtorEq, asVar_lrng, asVar_rev, asVar_idx3, asVar_popE, revD, lstD, iL_len, len_beq, hlb]; done) | (simp only [runD, runM, evalB, execs, exec, evalE, evalA, evalO, evalC, evalS, evalL, brw, two, three, asVar_var, asVar_cst, asVar_mv, asVar_bin, asVar_neg, asVar_nt, asVar_cmp, asVar_chain, asVar_andE, asVar_orE, asVar_ife, asVar_tupE, asVar_lstE, asVar_idx, asVar_slc, asVar_call, asVar_callM, asVar_popI, asVar_bi, asVar_bi2, asVar_isi, rdE, rdL, putE, updE, putsE, mb0, setL_at0, setL_at1, intOf, bindT, augD, toD, binD, cmpD, eqD_int, eqD_str, eqD_bool, idxD, biD, isiD, isNone, itemsD, slcD, atI_zero, atI_one, strict, ok_bind, ex_bind, no_bind, List.map_cons, List.map_nil, List.replicate_succ, List.replicate_zero, List.cons_append, List.nil_append, List.append_nil, List.getElem?_cons_zero, List.getElem?_cons_succ, List.getElem?_nil, List.set_cons_zero, List.set_cons_succ, List.length_cons, List.length_nil, List.length_map, Bool.not_false, Bool.not_true, if_true, if_false, Bool.false_eq_true, List.eraseIdx_cons_succ, List.eraseIdx_cons_zero, and_self, true_and, and_true, ite_true, ite_false, decide_true, decide_false, ne_eq, not_false_eq_true, not_true_eq_false, true_or, or_true, reduceCtorEq, asVar_lrng, asVar_rev, asVar_idx3, asVar_popE, revD, lstD, iL_len, len_beq, hlb]; rfl)
      refine Eq.trans (ex_nx (e1 := ?e16) ?h16) ?g16
      case h16 => first | (simp only [runD, runM, evalB, execs, exec, evalE, evalA, evalO, evalC, evalS, evalL, brw, two, three, asVar_var, asVar_cst, asVar_mv, asVar_bin, asVar_neg, asVar_nt, asVar_cmp, asVar_chain, asVar_andE, asVar_orE, asVar_ife, asVar_tupE, asVar_lstE, asVar_idx, asVar_slc, asVar_call, asVar_callM, asVar_popI, asVar_bi, asVar_bi2, asVar_isi, rdE, rdL, putE, updE, putsE, mb0, setL_at0, setL_at1, intOf, bindT, augD, toD, binD, cmpD, eqD_int, eqD_str, eqD_bool, idxD, biD, isiD, isNone, itemsD, slcD, atI_zero, atI_one, strict, ok_bind, ex_bind, no_bind, List.map_cons, List.map_nil, List.replicate_succ, List.replicate_zero, List.cons_append, List.nil_append, List.append_nil, List.getElem?_cons_zero, List.getElem?_cons_succ, List.getElem?_nil, List.set_cons_zero, List.set_cons_succ, List.length_cons, List.length_nil, List.length_map, Bool.not_false, Bool.not_true, if_true, if_false, Bool.false_eq_true, List.eraseIdx_cons_succ, List.eraseIdx_cons_zero, and_self, true_and, and_true, ite_true, ite_false, decide_true, decide_false, ne_eq, not_false_eq_true, not_true_eq_false, true_or, or_true, reduceCtorEq, asVar_lrng, asVar_rev, asVar_idx3, asVar_popE, revD, lstD, d1, d2]; done) | (simp only [runD, runM, evalB, execs, exec, evalE, evalA, evalO, evalC, evalS, evalL, brw, two, three, asVar_var, asVar_cst, asVar_mv, asVar_bin, asVar_neg, asVar_nt, asVar_cmp, asVar_chain, asVar_andE, asVar_orE, asVar_ife, asVar_tupE, asVar_lstE, asVar_idx, asVar_slc, asVar_call, asVar_callM, asVar_popI, asVar_bi, asVar_bi2, asVar_isi, rdE, rdL, putE, updE, putsE, mb0, setL_at0, setL_at1, intOf, bindT, augD, toD, binD, cmpD, eqD_int, eqD_str, eqD_bool, idxD, biD, isiD, isNone, itemsD, slcD, atI_zero, atI_one, strict, ok_bind, ex_bind, no_bind, List.map_cons, List.map_nil, List.replicate_succ, List.replicate_zero, List.cons_append, List.nil_append, List.append_nil, List.getElem?_cons_zero, List.getElem?_cons_succ, List.getElem?_nil, List.set_cons_zero, List.set_cons_succ, List.length_cons, List.length_nil, List.length_map, Bool.not_false, Bool.not_true, if_true, if_false, Bool.false_eq_true, List.eraseIdx_cons_succ, List.eraseIdx_cons_zero, and_self, true_and, and_true, ite_true, ite_false, decide_true, decide_false, ne_eq, not_false_eq_true, not_true_eq_false, true_or, or_true, reduceCtorEq, asVar_lrng, asVar_rev, asVar_idx3, asVar_popE, revD, lstD, d1, d2]; rfl)
      refine ex_rt ?_
      simp only [runD, runM, evalB, execs, exec, evalE, evalA, evalO, evalC, evalS, evalL, brw, two, three, asVar_var, asVar_cst, asVar_mv, asVar_bin, asVar_neg, asVar_nt, asVar_cmp, asVar_chain, asVar_andE, asVar_orE, asVar_ife, asVar_tupE, asVar_lstE, asVar_idx, asVar_slc, asVar_call, asVar_callM, asVar_popI, asVar_bi, asVar_bi2, asVar_isi, rdE, rdL, putE, updE, putsE, mb0, setL_at0, setL_at1, intOf, bindT, augD, toD, binD, cmpD, eqD_int, eqD_str, eqD_bool, idxD, biD, isiD, isNone, itemsD, slcD, atI_zero, atI_one, strict, ok_bind, ex_bind, no_bind, List.map_cons, List.map_nil, List.replicate_succ, List.replicate_zero, List.cons_append, List.nil_append, List.append_nil, List.getElem?_cons_zero, List.getElem?_cons_succ, List.getElem?_nil, List.set_cons_zero, List.set_cons_succ, List.length_cons, List.length_nil, List.length_map, Bool.not_false, Bool.not_true, if_true, if_false, Bool.false_eq_true, List.eraseIdx_cons_succ, List.eraseIdx_cons_zero, and_self, true_and, and_true, ite_true, ite_false, decide_true, decide_false, ne_eq, not_false_eq_true, not_true_eq_false, true_or, or_true, reduceCtorEq, asVar_lrng, asVar_rev, asVar_idx3, asVar_popE, revD, lstD, iL_len, sz, ap, intsD_iL, s64]
      exact he
    | none =>
      obtain ⟨x', he⟩ := c2 hf
      have fin : ∀ {a b : Int} {D0 : D}, (if a = b then PyData.none else mk2S "mark" a b) = D0 → execs 0 (.cons (.ret (.ife (.cmp .Eq (.idx (.var 6) (.cst (.int 0))) (.idx (.var 6) (.cst (.int 1)))) (.cst .none) (.tupE (.cons (.cst (.str "mark")) (.cons (.idx (.var 6) (.cst (.int 0))) (.cons (.idx (.var 6) (.cst (.int 1))) (.nil))))))) (.nil)) [some (.fr (.tuple (iL ns))), some (.fr (.tuple (iL ms))), some (.own (iL hs)), some (.own (iL ts)), x', some (.fr (.int M)), some (.fr (.tuple [.int a, .int b]))] = .ok (.rt (.fr D0) [some (.fr (.tuple (iL ns))), some (.fr (.tuple (iL ms))), some (.own (iL hs)), some (.own (iL ts)), x', some (.fr (.int M)), some (.fr (.tuple [.int a, .int b]))]) := by
        intro a b D0 hD
        subst hD
        by_cases q : a = b
        · subst q
          simp only [runD, runM, evalB, execs, exec, evalE, evalA, evalO, evalC, evalS, evalL, brw, two, three, asVar_var, asVar_cst, asVar_mv, asVar_bin, asVar_neg, asVar_nt, asVar_cmp, asVar_chain, asVar_andE, asVar_orE, asVar_ife, asVar_tupE, asVar_lstE, asVar_idx, asVar_slc, asVar_call, asVar_callM, asVar_popI, asVar_bi, asVar_bi2, asVar_isi, rdE, rdL, putE, updE, putsE, mb0, setL_at0, setL_at1, intOf, bindT, augD, toD, binD, cmpD, eqD_int, eqD_str, eqD_bool, idxD, biD, isiD, isNone, itemsD, slcD, atI_zero, atI_one, strict, ok_bind, ex_bind, no_bind, List.map_cons, List.map_nil, List.replicate_succ, List.replicate_zero, List.cons_append, List.nil_append, List.append_nil, List.getElem?_cons_zero, List.getElem?_cons_succ, List.getElem?_nil, List.set_cons_zero, List.set_cons_succ, List.length_cons, List.length_nil, List.length_map, Bool.not_false, Bool.not_true, if_true, if_false, Bool.false_eq_true, List.eraseIdx_cons_succ, List.eraseIdx_cons_zero, and_self, true_and, and_true, ite_true, ite_false, decide_true, decide_false, ne_eq, not_false_eq_true, not_true_eq_false, true_or, or_true, reduceCtorEq, asVar_lrng, asVar_rev, asVar_idx3, asVar_popE, revD, lstD, beq_self_eq_true]
        · simp only [runD, runM, evalB, execs, exec, evalE, evalA, evalO, evalC, evalS, evalL, brw, two, three, asVar_var, asVar_cst, asVar_mv, asVar_bin, asVar_neg, asVar_nt, asVar_cmp, asVar_chain, asVar_andE, asVar_orE, asVar_ife, asVar_tupE, asVar_lstE, asVar_idx, asVar_slc, asVar_call, asVar_callM, asVar_popI, asVar_bi, asVar_bi2, asVar_isi, rdE, rdL, putE, updE, putsE, mb0, setL_at0, setL_at1, intOf, bindT, augD, toD, binD, cmpD, eqD_int, eqD_str, eqD_bool, idxD, biD, isiD, isNone, itemsD, slcD, atI_zero, atI_one, strict, ok_bind, ex_bind, no_bind, List.map_cons, List.map_nil, List.replicate_succ, List.replicate_zero, List.cons_append, List.nil_append, List.append_nil, List.getElem?_cons_zero, List.getElem?_cons_succ, List.getElem?_nil, List.set_cons_zero, List.set_cons_succ, List.length_cons, List.length_nil, List.length_map, Bool.not_false, Bool.not_true, if_true, if_false, Bool.false_eq_true, List.eraseIdx_cons_succ, List.eraseIdx_cons_zero, and_self, true_and, and_true, ite_true, ite_false, decide_true, decide_false, ne_eq, not_false_eq_true, not_true_eq_false, true_or, or_true, reduceCtorEq, asVar_lrng, asVar_rev, asVar_idx3, asVar_popE, revD, lstD, beq_no q, three_SZ, if_neg q, mk2S]
      by_cases hp : M > 0
      · have hz : (M == 0) = false := beq_no (by omega)
        have hne : (M = 0) = False := eq_false (by omega)
        refine runD_rt (e1 := [some (.fr (.tuple (iL ns))), some (.fr (.tuple (iL ms))), some (.own (iL hs)), some (.own (iL ts)), x', some (.fr (.int M)), some (.fr (.tuple [.int ((gI ns 0).fmod M), .int ((gI ms 0).fmod M)]))]) ?_
        refine Eq.trans (iff_skip (e1 := ?e6) ?h6) ?g6
        case h6 => first | (simp only [runD, runM, evalB, execs, exec, evalE, evalA, evalO, evalC, evalS, evalL, brw, two, three, asVar_var, asVar_cst, asVar_mv, asVar_bin, asVar_neg, asVar_nt, asVar_cmp, asVar_chain, asVar_andE, asVar_orE, asVar_ife, asVar_tupE, asVar_lstE, asVar_idx, asVar_slc, asVar_call, asVar_callM, asVar_popI, asVar_bi, asVar_bi2, asVar_isi, rdE, rdL, putE, updE, putsE, mb0, setL_at0, setL_at1, intOf, bindT, augD, toD, binD, cmpD, eqD_int, eqD_str, eqD_bool, idxD, biD, isiD, isNone, itemsD, slcD, atI_zero, atI_one, strict, ok_bind, ex_bind, no_bind, List.map_cons, List.map_nil, List.replicate_succ, List.replicate_zero, List.cons_append, List.nil_append, List.append_nil, List.getElem?_cons_zero, List.getElem?_cons_succ, List.getElem?_nil, List.set_cons_zero, List.set_cons_succ, List.length_cons, List.length_nil, List.length_map, Bool.not_false, Bool.not_true, if_true, if_false, Bool.false_eq_true, List.eraseIdx_cons_succ, List.eraseIdx_cons_zero, and_self, true_and, and_true, ite_true, ite_false, decide_true, decide_false, ne_eq, not_false_eq_true, not_true_eq_false, true_or, or_true, reduceCtorEq, asVar_lrng, asVar_rev, asVar_idx3, asVar_popE, revD, lstD, iL_len, len_beq, hlb]; done) | (simp only [runD, runM, evalB, execs, exec, evalE, evalA, evalO, evalC, evalS, evalL, brw, two, three, asVar_var, asVar_cst, asVar_mv, asVar_bin, asVar_neg, asVar_nt, asVar_cmp, asVar_chain, asVar_andE, asVar_orE, asVar_ife, asVar_tupE, asVar_lstE, asVar_idx, asVar_slc, asVar_call, asVar_callM, asVar_popI, asVar_bi, asVar_bi2, asVar_isi, rdE, rdL, putE, updE, putsE, mb0, setL_at0, setL_at1, intOf, bindT, augD, toD, binD, cmpD, eqD_int, eqD_str, eqD_bool, idxD, biD, isiD, isNone, itemsD, slcD, atI_zero, atI_one, strict, ok_bind, ex_bind, no_bind, List.map_cons, List.map_nil, List.replicate_succ, List.replicate_zero, List.cons_append, List.nil_append, List.append_nil, List.getElem?_cons_zero, List.getElem?_cons_succ, List.getElem?_nil, List.set_cons_zero, List.set_cons_succ, List.length_cons, List.length_nil, List.length_map, Bool.not_false, Bool.not_true, if_true, if_false, Bool.false_eq_true, List.eraseIdx_cons_succ, List.eraseIdx_cons_zero, and_self, true_and, and_true, ite_true, ite_false, decide_true, decide_false, ne_eq, not_false_eq_true, not_true_eq_false, true_or, or_true, reduceCtorEq, asVar_lrng, asVar_rev, asVar_idx3, asVar_popE, revD, lstD, iL_len, len_beq, hlb]; rfl)
        refine Eq.trans (ex_nx (e1 := ?e17) ?h17) ?g17
        case h17 => first | (simp only [runD, runM, evalB, execs, exec, evalE, evalA, evalO, evalC, evalS, evalL, brw, two, three, asVar_var, asVar_cst, asVar_mv, asVar_bin, asVar_neg, asVar_nt, asVar_cmp, asVar_chain, asVar_andE, asVar_orE, asVar_ife, asVar_tupE, asVar_lstE, asVar_idx, asVar_slc, asVar_call, asVar_callM, asVar_popI, asVar_bi, asVar_bi2, asVar_isi, rdE, rdL, putE, updE, putsE, mb0, setL_at0, setL_at1, intOf, bindT, augD, toD, binD, cmpD, eqD_int, eqD_str, eqD_bool, idxD, biD, isiD, isNone, itemsD, slcD, atI_zero, atI_one, strict, ok_bind, ex_bind, no_bind, List.map_cons, List.map_nil, List.replicate_succ, List.replicate_zero, List.cons_append, List.nil_append, List.append_nil, List.getElem?_cons_zero, List.getElem?_cons_succ, List.getElem?_nil, List.set_cons_zero, List.set_cons_succ, List.length_cons, List.length_nil, List.length_map, Bool.not_false, Bool.not_true, if_true, if_false, Bool.false_eq_true, List.eraseIdx_cons_succ, List.eraseIdx_cons_zero, and_self, true_and, and_true, ite_true, ite_false, decide_true, decide_false, ne_eq, not_false_eq_true, not_true_eq_false, true_or, or_true, reduceCtorEq, asVar_lrng, asVar_rev, asVar_idx3, asVar_popE, revD, lstD, d1, d2]; done) | (simp only [runD, runM, evalB, execs, exec, evalE, evalA, evalO, evalC, evalS, evalL, brw, two, three, asVar_var, asVar_cst, asVar_mv, asVar_bin, asVar_neg, asVar_nt, asVar_cmp, asVar_chain, asVar_andE, asVar_orE, asVar_ife, asVar_tupE, asVar_lstE, asVar_idx, asVar_slc, asVar_call, asVar_callM, asVar_popI, asVar_bi, asVar_bi2, asVar_isi, rdE, rdL, putE, updE, putsE, mb0, setL_at0, setL_at1, intOf, bindT, augD, toD, binD, cmpD, eqD_int, eqD_str, eqD_bool, idxD, biD, isiD, isNone, itemsD, slcD, atI_zero, atI_one, strict, ok_bind, ex_bind, no_bind, List.map_cons, List.map_nil, List.replicate_succ, List.replicate_zero, List.cons_append, List.nil_append, List.append_nil, List.getElem?_cons_zero, List.getElem?_cons_succ, List.getElem?_nil, List.set_cons_zero, List.set_cons_succ, List.length_cons, List.length_nil, List.length_map, Bool.not_false, Bool.not_true, if_true, if_false, Bool.false_eq_true, List.eraseIdx_cons_succ, List.eraseIdx_cons_zero, and_self, true_and, and_true, ite_true, ite_false, decide_true, decide_false, ne_eq, not_false_eq_true, not_true_eq_false, true_or, or_true, reduceCtorEq, asVar_lrng, asVar_rev, asVar_idx3, asVar_popE, revD, lstD, d1, d2]; rfl)
        refine Eq.trans (ex_nx (e1 := ?E2) ?H2) ?G2
        case H2 =>
          simp only [runD, runM, evalB, execs, exec, evalE, evalA, evalO, evalC, evalS, evalL, brw, two, three, asVar_var, asVar_cst, asVar_mv, asVar_bin, asVar_neg, asVar_nt, asVar_cmp, asVar_chain, asVar_andE, asVar_orE, asVar_ife, asVar_tupE, asVar_lstE, asVar_idx, asVar_slc, asVar_call, asVar_callM, asVar_popI, asVar_bi, asVar_bi2, asVar_isi, rdE, rdL, putE, updE, putsE, mb0, setL_at0, setL_at1, intOf, bindT, augD, toD, binD, cmpD, eqD_int, eqD_str, eqD_bool, idxD, biD, isiD, isNone, itemsD, slcD, atI_zero, atI_one, strict, ok_bind, ex_bind, no_bind, List.map_cons, List.map_nil, List.replicate_succ, List.replicate_zero, List.cons_append, List.nil_append, List.append_nil, List.getElem?_cons_zero, List.getElem?_cons_succ, List.getElem?_nil, List.set_cons_zero, List.set_cons_succ, List.length_cons, List.length_nil, List.length_map, Bool.not_false, Bool.not_true, if_true, if_false, Bool.false_eq_true, List.eraseIdx_cons_succ, List.eraseIdx_cons_zero, and_self, true_and, and_true, ite_true, ite_false, decide_true, decide_false, ne_eq, not_false_eq_true, not_true_eq_false, true_or, or_true, reduceCtorEq, asVar_lrng, asVar_rev, asVar_idx3, asVar_popE, revD, lstD, iL_len, sz, ap, intsD_iL, s64]
          exact he
        refine Eq.trans (ex_nx (e1 := ?e18) ?h18) ?g18
        case h18 => first | (simp only [runD, runM, evalB, execs, exec, evalE, evalA, evalO, evalC, evalS, evalL, brw, two, three, asVar_var, asVar_cst, asVar_mv, asVar_bin, asVar_neg, asVar_nt, asVar_cmp, asVar_chain, asVar_andE, asVar_orE, asVar_ife, asVar_tupE, asVar_lstE, asVar_idx, asVar_slc, asVar_call, asVar_callM, asVar_popI, asVar_bi, asVar_bi2, asVar_isi, rdE, rdL, putE, updE, putsE, mb0, setL_at0, setL_at1, intOf, bindT, augD, toD, binD, cmpD, eqD_int, eqD_str, eqD_bool, idxD, biD, isiD, isNone, itemsD, slcD, atI_zero, atI_one, strict, ok_bind, ex_bind, no_bind, List.map_cons, List.map_nil, List.replicate_succ, List.replicate_zero, List.cons_append, List.nil_append, List.append_nil, List.getElem?_cons_zero, List.getElem?_cons_succ, List.getElem?_nil, List.set_cons_zero, List.set_cons_succ, List.length_cons, List.length_nil, List.length_map, Bool.not_false, Bool.not_true, if_true, if_false, Bool.false_eq_true, List.eraseIdx_cons_succ, List.eraseIdx_cons_zero, and_self, true_and, and_true, ite_true, ite_false, decide_true, decide_false, ne_eq, not_false_eq_true, not_true_eq_false, true_or, or_true, reduceCtorEq, asVar_lrng, asVar_rev, asVar_idx3, asVar_popE, revD, lstD, hM]; done) | (simp only [runD, runM, evalB, execs, exec, evalE, evalA, evalO, evalC, evalS, evalL, brw, two, three, asVar_var, asVar_cst, asVar_mv, asVar_bin, asVar_neg, asVar_nt, asVar_cmp, asVar_chain, asVar_andE, asVar_orE, asVar_ife, asVar_tupE, asVar_lstE, asVar_idx, asVar_slc, asVar_call, asVar_callM, asVar_popI, asVar_bi, asVar_bi2, asVar_isi, rdE, rdL, putE, updE, putsE, mb0, setL_at0, setL_at1, intOf, bindT, augD, toD, binD, cmpD, eqD_int, eqD_str, eqD_bool, idxD, biD, isiD, isNone, itemsD, slcD, atI_zero, atI_one, strict, ok_bind, ex_bind, no_bind, List.map_cons, List.map_nil, List.replicate_succ, List.replicate_zero, List.cons_append, List.nil_append, List.append_nil, List.getElem?_cons_zero, List.getElem?_cons_succ, List.getElem?_nil, List.set_cons_zero, List.set_cons_succ, List.length_cons, List.length_nil, List.length_map, Bool.not_false, Bool.not_true, if_true, if_false, Bool.false_eq_true, List.eraseIdx_cons_succ, List.eraseIdx_cons_zero, and_self, true_and, and_true, ite_true, ite_false, decide_true, decide_false, ne_eq, not_false_eq_true, not_true_eq_false, true_or, or_true, reduceCtorEq, asVar_lrng, asVar_rev, asVar_idx3, asVar_popE, revD, lstD, hM]; rfl)
        refine Eq.trans (ex_nx (e1 := ?e19) ?h19) ?g19
        case h19 => first | (simp only [runD, runM, evalB, execs, exec, evalE, evalA, evalO, evalC, evalS, evalL, brw, two, three, asVar_var, asVar_cst, asVar_mv, asVar_bin, asVar_neg, asVar_nt, asVar_cmp, asVar_chain, asVar_andE, asVar_orE, asVar_ife, asVar_tupE, asVar_lstE, asVar_idx, asVar_slc, asVar_call, asVar_callM, asVar_popI, asVar_bi, asVar_bi2, asVar_isi, rdE, rdL, putE, updE, putsE, mb0, setL_at0, setL_at1, intOf, bindT, augD, toD, binD, cmpD, eqD_int, eqD_str, eqD_bool, idxD, biD, isiD, isNone, itemsD, slcD, atI_zero, atI_one, strict, ok_bind, ex_bind, no_bind, List.map_cons, List.map_nil, List.replicate_succ, List.replicate_zero, List.cons_append, List.nil_append, List.append_nil, List.getElem?_cons_zero, List.getElem?_cons_succ, List.getElem?_nil, List.set_cons_zero, List.set_cons_succ, List.length_cons, List.length_nil, List.length_map, Bool.not_false, Bool.not_true, if_true, if_false, Bool.false_eq_true, List.eraseIdx_cons_succ, List.eraseIdx_cons_zero, and_self, true_and, and_true, ite_true, ite_false, decide_true, decide_false, ne_eq, not_false_eq_true, not_true_eq_false, true_or, or_true, reduceCtorEq, asVar_lrng, asVar_rev, asVar_idx3, asVar_popE, revD, lstD, g0, g1, hz, hne, two_SZ]; done) | (simp only [runD, runM, evalB, execs, exec, evalE, evalA, evalO, evalC, evalS, evalL, brw, two, three, asVar_var, asVar_cst, asVar_mv, asVar_bin, asVar_neg, asVar_nt, asVar_cmp, asVar_chain, asVar_andE, asVar_orE, asVar_ife, asVar_tupE, asVar_lstE, asVar_idx, asVar_slc, asVar_call, asVar_callM, asVar_popI, asVar_bi, asVar_bi2, asVar_isi, rdE, rdL, putE, updE, putsE, mb0, setL_at0, setL_at1, intOf, bindT, augD, toD, binD, cmpD, eqD_int, eqD_str, eqD_bool, idxD, biD, isiD, isNone, itemsD, slcD, atI_zero, atI_one, strict, ok_bind, ex_bind, no_bind, List.map_cons, List.map_nil, List.replicate_succ, List.replicate_zero, List.cons_append, List.nil_append, List.append_nil, List.getElem?_cons_zero, List.getElem?_cons_succ, List.getElem?_nil, List.set_cons_zero, List.set_cons_succ, List.length_cons, List.length_nil, List.length_map, Bool.not_false, Bool.not_true, if_true, if_false, Bool.false_eq_true, List.eraseIdx_cons_succ, List.eraseIdx_cons_zero, and_self, true_and, and_true, ite_true, ite_false, decide_true, decide_false, ne_eq, not_false_eq_true, not_true_eq_false, true_or, or_true, reduceCtorEq, asVar_lrng, asVar_rev, asVar_idx3, asVar_popE, revD, lstD, g0, g1, hz, hne, two_SZ]; rfl)
        exact fin (by unfold diffM; rw [if_pos hp])
      · have hz : M = 0 := by omega
        clear hMM
        subst hz
        refine runD_rt (e1 := [some (.fr (.tuple (iL ns))), some (.fr (.tuple (iL ms))), some (.own (iL hs)), some (.own (iL ts)), x', some (.fr (.int 0)), some (.fr (.tuple [.int (gI ns 0), .int (gI ms 0)]))]) ?_
        refine Eq.trans (iff_skip (e1 := ?e7) ?h7) ?g7
        case h7 => first | (simp only [runD, runM, evalB, execs, exec, evalE, evalA, evalO, evalC, evalS, evalL, brw, two, three, asVar_var, asVar_cst, asVar_mv, asVar_bin, asVar_neg, asVar_nt, asVar_cmp, asVar_chain, asVar_andE, asVar_orE, asVar_ife, asVar_tupE, asVar_lstE, asVar_idx, asVar_slc, asVar_call, asVar_callM, asVar_popI, asVar_bi, asVar_bi2, asVar_isi, rdE, rdL, putE, updE, putsE, mb0, setL_at0, setL_at1, intOf, bindT, augD, toD, binD, cmpD, eqD_int, eqD_str, eqD_bool, idxD, biD, isiD, isNone, itemsD, slcD, atI_zero, atI_one, strict, ok_bind, ex_bind, no_bind, List.map_cons, List.map_nil, List.replicate_succ, List.replicate_zero, List.cons_append, List.nil_append, List.append_nil, List.getElem?_cons_zero, List.getElem?_cons_succ, List.getElem?_nil, List.set_cons_zero, List.set_cons_succ, List.length_cons, List.length_nil, List.length_map, Bool.not_false, Bool.not_true, if_true, if_false, Bool.false_eq_true, List.eraseIdx_cons_succ, List.eraseIdx_cons_zero, and_self, true_and, and_true, ite_true, ite_false, decide_true, decide_false, ne_eq, not_false_eq_true, not_true_eq_false, true_or, or_true, reduceCtorEq, asVar_lrng, asVar_rev, asVar_idx3, asVar_popE, revD, lstD, iL_len, len_beq, hlb]; done) | (simp only [runD, runM, evalB, execs, exec, evalE, evalA, evalO, evalC, evalS, evalL, brw, two, three, asVar_var, asVar_cst, asVar_mv, asVar_bin, asVar_neg, asVar_nt, asVar_cmp, asVar_chain, asVar_andE, asVar_orE, asVar_ife, asVar_tupE, asVar_lstE, asVar_idx, asVar_slc, asVar_call, asVar_callM, asVar_popI, asVar_bi, asVar_bi2, asVar_isi, rdE, rdL, putE, updE, putsE, mb0, setL_at0, setL_at1, intOf, bindT, augD, toD, binD, cmpD, eqD_int, eqD_str, eqD_bool, idxD, biD, isiD, isNone, itemsD, slcD, atI_zero, atI_one, strict, ok_bind, ex_bind, no_bind, List.map_cons, List.map_nil, List.replicate_succ, List.replicate_zero, List.cons_append, List.nil_append, List.append_nil, List.getElem?_cons_zero, List.getElem?_cons_succ, List.getElem?_nil, List.set_cons_zero, List.set_cons_succ, List.length_cons, List.length_nil, List.length_map, Bool.not_false, Bool.not_true, if_true, if_false, Bool.false_eq_true, List.eraseIdx_cons_succ, List.eraseIdx_cons_zero, and_self, true_and, and_true, ite_true, ite_false, decide_true, decide_false, ne_eq, not_false_eq_true, not_true_eq_false, true_or, or_true, reduceCtorEq, asVar_lrng, asVar_rev, asVar_idx3, asVar_popE, revD, lstD, iL_len, len_beq, hlb]; rfl)
        refine Eq.trans (ex_nx (e1 := ?e20) ?h20) ?g20
        case h20 => first | (simp only [runD, runM, evalB, execs, exec, evalE, evalA, evalO, evalC, evalS, evalL, brw, two, three, asVar_var, asVar_cst, asVar_mv, asVar_bin, asVar_neg, asVar_nt, asVar_cmp, asVar_chain, asVar_andE, asVar_orE, asVar_ife, asVar_tupE, asVar_lstE, asVar_idx, asVar_slc, asVar_call, asVar_callM, asVar_popI, asVar_bi, asVar_bi2, asVar_isi, rdE, rdL, putE, updE, putsE, mb0, setL_at0, setL_at1, intOf, bindT, augD, toD, binD, cmpD, eqD_int, eqD_str, eqD_bool, idxD, biD, isiD, isNone, itemsD, slcD, atI_zero, atI_one, strict, ok_bind, ex_bind, no_bind, List.map_cons, List.map_nil, List.replicate_succ, List.replicate_zero, List.cons_append, List.nil_append, List.append_nil, List.getElem?_cons_zero, List.getElem?_cons_succ, List.getElem?_nil, List.set_cons_zero, List.set_cons_succ, List.length_cons, List.length_nil, List.length_map, Bool.not_false, Bool.not_true, if_true, if_false, Bool.false_eq_true, List.eraseIdx_cons_succ, List.eraseIdx_cons_zero, and_self, true_and, and_true, ite_true, ite_false, decide_true, decide_false, ne_eq, not_false_eq_true, not_true_eq_false, true_or, or_true, reduceCtorEq, asVar_lrng, asVar_rev, asVar_idx3, asVar_popE, revD, lstD, d1, d2]; done) | (simp only [runD, runM, evalB, execs, exec, evalE, evalA, evalO, evalC, evalS, evalL, brw, two, three, asVar_var, asVar_cst, asVar_mv, asVar_bin, asVar_neg, asVar_nt, asVar_cmp, asVar_chain, asVar_andE, asVar_orE, asVar_ife, asVar_tupE, asVar_lstE, asVar_idx, asVar_slc, asVar_call, asVar_callM, asVar_popI, asVar_bi, asVar_bi2, asVar_isi, rdE, rdL, putE, updE, putsE, mb0, setL_at0, setL_at1, intOf, bindT, augD, toD, binD, cmpD, eqD_int, eqD_str, eqD_bool, idxD, biD, isiD, isNone, itemsD, slcD, atI_zero, atI_one, strict, ok_bind, ex_bind, no_bind, List.map_cons, List.map_nil, List.replicate_succ, List.replicate_zero, List.cons_append, List.nil_append, List.append_nil, List.getElem?_cons_zero, List.getElem?_cons_succ, List.getElem?_nil, List.set_cons_zero, List.set_cons_succ, List.length_cons, List.length_nil, List.length_map, Bool.not_false, Bool.not_true, if_true, if_false, Bool.false_eq_true, List.eraseIdx_cons_succ, List.eraseIdx_cons_zero, and_self, true_and, and_true, ite_true, ite_false, decide_true, decide_false, ne_eq, not_false_eq_true, not_true_eq_false, true_or, or_true, reduceCtorEq, asVar_lrng, asVar_rev, asVar_idx3, asVar_popE, revD, lstD, d1, d2]; rfl)
        refine Eq.trans (ex_nx (e1 := ?E3) ?H3) ?G3
        case H3 =>
          simp only [runD, runM, evalB, execs, exec, evalE, evalA, evalO, evalC, evalS, evalL, brw, two, three, asVar_var, asVar_cst, asVar_mv, asVar_bin, asVar_neg, asVar_nt, asVar_cmp, asVar_chain, asVar_andE, asVar_orE, asVar_ife, asVar_tupE, asVar_lstE, asVar_idx, asVar_slc, asVar_call, asVar_callM, asVar_popI, asVar_bi, asVar_bi2, asVar_isi, rdE, rdL, putE, updE, putsE, mb0, setL_at0, setL_at1, intOf, bindT, augD, toD, binD, cmpD, eqD_int, eqD_str, eqD_bool, idxD, biD, isiD, isNone, itemsD, slcD, atI_zero, atI_one, strict, ok_bind, ex_bind, no_bind, List.map_cons, List.map_nil, List.replicate_succ, List.replicate_zero, List.cons_append, List.nil_append, List.append_nil, List.getElem?_cons_zero, List.getElem?_cons_succ, List.getElem?_nil, List.set_cons_zero, List.set_cons_succ, List.length_cons, List.length_nil, List.length_map, Bool.not_false, Bool.not_true, if_true, if_false, Bool.false_eq_true, List.eraseIdx_cons_succ, List.eraseIdx_cons_zero, and_self, true_and, and_true, ite_true, ite_false, decide_true, decide_false, ne_eq, not_false_eq_true, not_true_eq_false, true_or, or_true, reduceCtorEq, asVar_lrng, asVar_rev, asVar_idx3, asVar_popE, revD, lstD, iL_len, sz, ap, intsD_iL, s64]
          exact he
        refine Eq.trans (ex_nx (e1 := ?e21) ?h21) ?g21
        case h21 => first | (simp only [runD, runM, evalB, execs, exec, evalE, evalA, evalO, evalC, evalS, evalL, brw, two, three, asVar_var, asVar_cst, asVar_mv, asVar_bin, asVar_neg, asVar_nt, asVar_cmp, asVar_chain, asVar_andE, asVar_orE, asVar_ife, asVar_tupE, asVar_lstE, asVar_idx, asVar_slc, asVar_call, asVar_callM, asVar_popI, asVar_bi, asVar_bi2, asVar_isi, rdE, rdL, putE, updE, putsE, mb0, setL_at0, setL_at1, intOf, bindT, augD, toD, binD, cmpD, eqD_int, eqD_str, eqD_bool, idxD, biD, isiD, isNone, itemsD, slcD, atI_zero, atI_one, strict, ok_bind, ex_bind, no_bind, List.map_cons, List.map_nil, List.replicate_succ, List.replicate_zero, List.cons_append, List.nil_append, List.append_nil, List.getElem?_cons_zero, List.getElem?_cons_succ, List.getElem?_nil, List.set_cons_zero, List.set_cons_succ, List.length_cons, List.length_nil, List.length_map, Bool.not_false, Bool.not_true, if_true, if_false, Bool.false_eq_true, List.eraseIdx_cons_succ, List.eraseIdx_cons_zero, and_self, true_and, and_true, ite_true, ite_false, decide_true, decide_false, ne_eq, not_false_eq_true, not_true_eq_false, true_or, or_true, reduceCtorEq, asVar_lrng, asVar_rev, asVar_idx3, asVar_popE, revD, lstD, hM]; done) | (simp only [runD, runM, evalB, execs, exec, evalE, evalA, evalO, evalC, evalS, evalL, brw, two, three, asVar_var, asVar_cst, asVar_mv, asVar_bin, asVar_neg, asVar_nt, asVar_cmp, asVar_chain, asVar_andE, asVar_orE, asVar_ife, asVar_tupE, asVar_lstE, asVar_idx, asVar_slc, asVar_call, asVar_callM, asVar_popI, asVar_bi, asVar_bi2, asVar_isi, rdE, rdL, putE, updE, putsE, mb0, setL_at0, setL_at1, intOf, bindT, augD, toD, binD, cmpD, eqD_int, eqD_str, eqD_bool, idxD, biD, isiD, isNone, itemsD, slcD, atI_zero, atI_one, strict, ok_bind, ex_bind, no_bind, List.map_cons, List.map_nil, List.replicate_succ, List.replicate_zero, List.cons_append, List.nil_append, List.append_nil, List.getElem?_cons_zero, List.getElem?_cons_succ, List.getElem?_nil, List.set_cons_zero, List.set_cons_succ, List.length_cons, List.length_nil, List.length_map, Bool.not_false, Bool.not_true, if_true, if_false, Bool.false_eq_true, List.eraseIdx_cons_succ, List.eraseIdx_cons_zero, and_self, true_and, and_true, ite_true, ite_false, decide_true, decide_false, ne_eq, not_false_eq_true, not_true_eq_false, true_or, or_true, reduceCtorEq, asVar_lrng, asVar_rev, asVar_idx3, asVar_popE, revD, lstD, hM]; rfl)
        refine Eq.trans (ex_nx (e1 := ?e22) ?h22) ?g22
        case h22 => first | (simp only [runD, runM, evalB, execs, exec, evalE, evalA, evalO, evalC, evalS, evalL, brw, two, three, asVar_var, asVar_cst, asVar_mv, asVar_bin, asVar_neg, asVar_nt, asVar_cmp, asVar_chain, asVar_andE, asVar_orE, asVar_ife, asVar_tupE, asVar_lstE, asVar_idx, asVar_slc, asVar_call, asVar_callM, asVar_popI, asVar_bi, asVar_bi2, asVar_isi, rdE, rdL, putE, updE, putsE, mb0, setL_at0, setL_at1, intOf, bindT, augD, toD, binD, cmpD, eqD_int, eqD_str, eqD_bool, idxD, biD, isiD, isNone, itemsD, slcD, atI_zero, atI_one, strict, ok_bind, ex_bind, no_bind, List.map_cons, List.map_nil, List.replicate_succ, List.replicate_zero, List.cons_append, List.nil_append, List.append_nil, List.getElem?_cons_zero, List.getElem?_cons_succ, List.getElem?_nil, List.set_cons_zero, List.set_cons_succ, List.length_cons, List.length_nil, List.length_map, Bool.not_false, Bool.not_true, if_true, if_false, Bool.false_eq_true, List.eraseIdx_cons_succ, List.eraseIdx_cons_zero, and_self, true_and, and_true, ite_true, ite_false, decide_true, decide_false, ne_eq, not_false_eq_true, not_true_eq_false, true_or, or_true, reduceCtorEq, asVar_lrng, asVar_rev, asVar_idx3, asVar_popE, revD, lstD, g0, g1, beq_self_eq_true, two_SZ]; done) | (simp only [runD, runM, evalB, execs, exec, evalE, evalA, evalO, evalC, evalS, evalL, brw, two, three, asVar_var, asVar_cst, asVar_mv, asVar_bin, asVar_neg, asVar_nt, asVar_cmp, asVar_chain, asVar_andE, asVar_orE, asVar_ife, asVar_tupE, asVar_lstE, asVar_idx, asVar_slc, asVar_call, asVar_callM, asVar_popI, asVar_bi, asVar_bi2, asVar_isi, rdE, rdL, putE, updE, putsE, mb0, setL_at0, setL_at1, intOf, bindT, augD, toD, binD, cmpD, eqD_int, eqD_str, eqD_bool, idxD, biD, isiD, isNone, itemsD, slcD, atI_zero, atI_one, strict, ok_bind, ex_bind, no_bind, List.map_cons, List.map_nil, List.replicate_succ, List.replicate_zero, List.cons_append, List.nil_append, List.append_nil, List.getElem?_cons_zero, List.getElem?_cons_succ, List.getElem?_nil, List.set_cons_zero, List.set_cons_succ, List.length_cons, List.length_nil, List.length_map, Bool.not_false, Bool.not_true, if_true, if_false, Bool.false_eq_true, List.eraseIdx_cons_succ, List.eraseIdx_cons_zero, and_self, true_and, and_true, ite_true, ite_false, decide_true, decide_false, ne_eq, not_false_eq_true, not_true_eq_false, true_or, or_true, reduceCtorEq, asVar_lrng, asVar_rev, asVar_idx3, asVar_popE, revD, lstD, g0, g1, beq_self_eq_true, two_SZ]; rfl)
        exact fin (by unfold diffM; rw [if_neg hp])
  · rw [if_neg hl]
    have hlb : decide (ns.length = ms.length) = false := decide_eq_false hl
    refine runD_rt (e1 := [some (.fr (.tuple (iL ns))), some (.fr (.tuple (iL ms))), none, none, none, none, none]) ?_
    refine iff_ret (e1 := [some (.fr (.tuple (iL ns))), some (.fr (.tuple (iL ms))), none, none, none, none, none]) ?_ ?_
    · simp only [runD, runM, evalB, execs, exec, evalE, evalA, evalO, evalC, evalS, evalL, brw, two, three, asVar_var, asVar_cst, asVar_mv, asVar_bin, asVar_neg, asVar_nt, asVar_cmp, asVar_chain, asVar_andE, asVar_orE, asVar_ife, asVar_tupE, asVar_lstE, asVar_idx, asVar_slc, asVar_call, asVar_callM, asVar_popI, asVar_bi, asVar_bi2, asVar_isi, rdE, rdL, putE, updE, putsE, mb0, setL_at0, setL_at1, intOf, bindT, augD, toD, binD, cmpD, eqD_int, eqD_str, eqD_bool, idxD, biD, isiD, isNone, itemsD, slcD, atI_zero, atI_one, strict, ok_bind, ex_bind, no_bind, List.map_cons, List.map_nil, List.replicate_succ, List.replicate_zero, List.cons_append, List.nil_append, List.append_nil, List.getElem?_cons_zero, List.getElem?_cons_succ, List.getElem?_nil, List.set_cons_zero, List.set_cons_succ, List.length_cons, List.length_nil, List.length_map, Bool.not_false, Bool.not_true, if_true, if_false, Bool.false_eq_true, List.eraseIdx_cons_succ, List.eraseIdx_cons_zero, and_self, true_and, and_true, ite_true, ite_false, decide_true, decide_false, ne_eq, not_false_eq_true, not_true_eq_false, true_or, or_true, reduceCtorEq, asVar_lrng, asVar_rev, asVar_idx3, asVar_popE, revD, lstD, iL_len, len_beq, hlb]
    · simp only [runD, runM, evalB, execs, exec, evalE, evalA, evalO, evalC, evalS, evalL, brw, two, three, asVar_var, asVar_cst, asVar_mv, asVar_bin, asVar_neg, asVar_nt, asVar_cmp, asVar_chain, asVar_andE, asVar_orE, asVar_ife, asVar_tupE, asVar_lstE, asVar_idx, asVar_slc, asVar_call, asVar_callM, asVar_popI, asVar_bi, asVar_bi2, asVar_isi, rdE, rdL, putE, updE, putsE, mb0, setL_at0, setL_at1, intOf, bindT, augD, toD, binD, cmpD, eqD_int, eqD_str, eqD_bool, idxD, biD, isiD, isNone, itemsD, slcD, atI_zero, atI_one, strict, ok_bind, ex_bind, no_bind, List.map_cons, List.map_nil, List.replicate_succ, List.replicate_zero, List.cons_append, List.nil_append, List.append_nil, List.getElem?_cons_zero, List.getElem?_cons_succ, List.getElem?_nil, List.set_cons_zero, List.set_cons_succ, List.length_cons, List.length_nil, List.length_map, Bool.not_false, Bool.not_true, if_true, if_false, Bool.false_eq_true, List.eraseIdx_cons_succ, List.eraseIdx_cons_zero, and_self, true_and, and_true, ite_true, ite_false, decide_true, decide_false, ne_eq, not_false_eq_true, not_true_eq_false, true_or, or_true, reduceCtorEq, asVar_lrng, asVar_rev, asVar_idx3, asVar_popE, revD, lstD, iL_len, three_SZ, mk2S]
theorem find_difference_val (q : Bool) {ns ms : List Int} (h : okMarks ns) (h' : okMarks ms) : phi_find_difference q [.tuple (iL ns), .tuple (iL ms)] = .ok (.fr (diffV ns ms)) := by
  refine fnOf_eq (n := 0) ?_ (by simp)
  have := h.1
  have := h'.1
  have := h.2.1
  have := h'.2.1
  have e := difference_val (ns := ns) (ms := ms) (by omega) (small_SZ h.2.1) (by omega) (small_SZ h'.2.1) (le_SZ (by omega))
  unfold ir_find_difference
  simp only [runD, runM, evalB, execs, exec, evalE, evalA, evalO, evalC, evalS, evalL, brw, two, three, asVar_var, asVar_cst, asVar_mv, asVar_bin, asVar_neg, asVar_nt, asVar_cmp, asVar_chain, asVar_andE, asVar_orE, asVar_ife, asVar_tupE, asVar_lstE, asVar_idx, asVar_slc, asVar_call, asVar_callM, asVar_popI, asVar_bi, asVar_bi2, asVar_isi, rdE, rdL, putE, updE, putsE, mb0, setL_at0, setL_at1, intOf, bindT, augD, toD, binD, cmpD, eqD_int, eqD_str, eqD_bool, idxD, biD, isiD, isNone, itemsD, slcD, atI_zero, atI_one, strict, ok_bind, ex_bind, no_bind, List.map_cons, List.map_nil, List.replicate_succ, List.replicate_zero, List.cons_append, List.nil_append, List.append_nil, List.getElem?_cons_zero, List.getElem?_cons_succ, List.getElem?_nil, List.set_cons_zero, List.set_cons_succ, List.length_cons, List.length_nil, List.length_map, Bool.not_false, Bool.not_true, if_true, if_false, Bool.false_eq_true, List.eraseIdx_cons_succ, List.eraseIdx_cons_zero, and_self, true_and, and_true, ite_true, ite_false, decide_true, decide_false, ne_eq, not_false_eq_true, not_true_eq_false, true_or, or_true, reduceCtorEq, asVar_lrng, asVar_rev, asVar_idx3, asVar_popE, revD, lstD, check_marks_val q h, check_marks_val q h', e]
theorem fits_diff (d : Nat) (ns ms : List Int) : fits (d + 2) (diffV ns ms) := by
  have two : ∀ {x : PySem.Str} {a b : Int}, fits (d + 2) (mk2S x a b) := fun {x a b} => ⟨le_SZ (by decide : 3 ≤ 1000000), fun y hy => by
    rcases List.mem_cons.mp hy with rfl | hy
    · trivial
    · rcases List.mem_cons.mp hy with rfl | hy
      · trivial
      · rw [List.mem_singleton.mp hy]; trivial⟩
  unfold diffV
  split
  · split
    · exact ⟨le_SZ (by decide : 4 ≤ 1000000), fun y hy => by
        rcases List.mem_cons.mp hy with rfl | hy
        · trivial
        · rcases List.mem_cons.mp hy with rfl | hy
          · trivial
          · rcases List.mem_cons.mp hy with rfl | hy
            · trivial
            · rw [List.mem_singleton.mp hy]; trivial⟩
    · unfold diffM
      split <;> split <;> first | trivial | exact two
  · exact two
/-! ### in one direction exactly if in the other -/
theorem diff_none {ns ms : List Int} : isNone (diffV ns ms) = true ↔ ns.length = ms.length ∧ (∀ s, (dif ns).count s = (dif ms).count s) ∧ isNone (diffM (modu ns) (gI ns 0) (gI ms 0)) = true := by
  unfold diffV
  by_cases hl : ns.length = ms.length
  · rw [if_pos hl]
    cases hf : (srt (dif ns ++ dif ms)).find? (cdiff (dif ns) (dif ms)) with
    | some x =>
      have := (find_first (srt_le _)).mp hf
      have h2 : (dif ns).count x ≠ (dif ms).count x := of_decide_eq_true this.2.1
      exact ⟨fun h => (by cases h), fun ⟨_, h, _⟩ => absurd (h x) h2⟩
    | none =>
      refine ⟨fun h => ⟨hl, fun s => ?_, h⟩, fun h => h.2.2⟩
      by_cases hs : s ∈ srt (dif ns ++ dif ms)
      · have := List.find?_eq_none.mp hf s hs
        simp only [cdiff, decide_eq_true_eq] at this
        exact Classical.byContradiction this
      · rw [srt_mem, List.mem_append] at hs
        rw [List.count_eq_zero_of_not_mem fun q => hs (.inl q), List.count_eq_zero_of_not_mem fun q => hs (.inr q)]
  · rw [if_neg hl]
    exact ⟨fun h => (by cases h), fun h => absurd h.1 hl⟩
theorem diffM_sym (M a b : Int) : isNone (diffM M a b) = isNone (diffM M b a) := by
  unfold diffM
  by_cases h : M > 0
  · rw [if_pos h, if_pos h]
    by_cases q : a.fmod M = b.fmod M
    · rw [if_pos q, if_pos q.symm]
    · rw [if_neg q, if_neg fun e => q e.symm]; rfl
  · rw [if_neg h, if_neg h]
    by_cases q : a = b
    · rw [if_pos q, if_pos q.symm]
    · rw [if_neg q, if_neg fun e => q e.symm]; rfl
theorem modu_of_count {ns ms : List Int} (h1 : 0 < ns.length) (h2 : 0 < ms.length) (h : ∀ s, (dif ns).count s = (dif ms).count s) : modu ns = modu ms := by
  unfold modu
  rw [modu_eq (by rw [dif_len]; exact h1) (by rw [dif_len]; exact h2) fun k => by rw [← List.count_pos_iff, ← List.count_pos_iff, h k]]
theorem diff_sym {ns ms : List Int} (h1 : 0 < ns.length) (h2 : 0 < ms.length) : isNone (diffV ns ms) = isNone (diffV ms ns) := by
  have key : ∀ {xs ys : List Int}, 0 < xs.length → 0 < ys.length → isNone (diffV xs ys) = true → isNone (diffV ys xs) = true := fun {xs ys} a b h => by
    obtain ⟨p, q, r⟩ := diff_none.mp h
    refine diff_none.mpr ⟨p.symm, fun s => (q s).symm, ?_⟩
    rw [← modu_of_count a b q, diffM_sym]
    exact r
  cases e : isNone (diffV ns ms) with
  | true => exact (key h1 h2 e).symm
  | false =>
    cases e2 : isNone (diffV ms ns) with
    | false => rfl
    | true => rw [key h2 h1 e2] at e; cases e
end VS

set_option maxRecDepth 100000
namespace K06
open PySem PySem.Spec PyProof.Rows L2 VS
def top (i : Nat) : Stmt := PySem.Challenge.pw_markring_k06_differences_of_rings.main.body.getD i (.Pass ⟨0, 0, 0, 0⟩)
section
variable {P : Program} {w : World} [kf : KF] {mg : Str → Option Value} {base : Heap}
abbrev s__law_random : Stmt := top 16
theorem sc__law_random : FnScope ["_law_script", "_law_salt", "_law_seed", "_law_cell"] ["_law_script", "_law_salt"] (defScope s__law_random) := ⟨rfl, rfl, rfl, by decide +kernel, rfl, by decide +kernel, by decide +kernel⟩
theorem ok__law_random {f : Addr} {fd : FuncData} (F : Fun kf.K "_law_random" "_law_random" s__law_random f fd) (Tabs : mg "abs" = none) : FnOk P w kf.K mg base (L2.CX P w) 1 f fd ["_law_script", "_law_salt"] (spRand kf.K) := by
  refine F.okX sc__law_random (fun vs H Q E h => ?_) (fun cdv A outer s H vs Q E hr h => ?_)
  · obtain ⟨a, ns, z, rfl, _⟩ := h
    rfl
  · obtain ⟨a, ns, z, rfl, hS, hl, hz, k⟩ := h
    have nd := sc__law_random.nd
    refine ⟨_, pss_cons (ps_set (i := 2) nd rfl (Or.inl rfl) (pv 1)) (pss_cons
      (ps_for (passes_of rfl) rfl (pi_list (pv 0)) (pg_name (i := 3) nd rfl (Or.inl rfl)) (pss_one (ps_set (i := 2) nd rfl (Or.inl rfl)
        (pe_op op_modN (pe_op op_add (pe_op op_mul (pv 2) pe_int) (pe_callB call_abs (by rfl) Tabs (by decide +kernel) (pa_cons (pv 3) pa_nil))) pe_int))))
      (pss_one (ps_ret (pe_op op_cat (pe_lst (pa_cons (pv 2) (pa_cons pe_int pa_nil)))
        (pe_lc (own := [("_law_cell", 3)]) rfl nd (pi_list (pv 0)) (blkOk_by (N := ["_law_script", "_law_salt", "_law_seed", "_law_cell"]) (sc := defScope s__law_random) (by decide +kernel)) (fun _ _ _ _ _ => pg_name (i := 3) nd rfl (by first | exact Or.inl rfl | exact Or.inr rfl)) (fun _ _ _ _ _ => pts_one (pt_cmpR op_ge (pv 3) (pe_op op_pow pe_int pe_int) (nomark _))) (fun _ _ _ _ _ => pv 3)))))), ?_⟩
    refine ⟨_, rfl, ?_⟩
    refine ⟨_, rfl, a, rfl, ⟨_, hS⟩, for_list (K := kf.K) (a := a) (xs := ns.map V.int) (fun i σ H' => ∃ v, H' = H ∧ σ = [some (.ref a), some (.int z), some (.int (seedOf z (ns.take i))), v] ∧ okSeed (seedOf z (ns.take i))) ⟨none, rfl, rfl, hz⟩ (fun i σ H' _ ⟨_, e, _⟩ => e ▸ hS) ?_ ?_⟩
    · rintro i y σ H' hi ⟨v, rfl, rfl, hs⟩
      rw [List.getElem?_map] at hi
      cases e : ns[i]? with
      | none => rw [e] at hi; cases hi
      | some c =>
        rw [e] at hi
        have hi := (Option.some.inj hi).symm
        subst hi
        refine ⟨_, rfl, _, _, rfl, rfl, .inl (okSeed_mul hs), _, rfl, ?_⟩
        refine ⟨c, rfl, _, _, rfl, rfl, _, _, rfl, rfl, (by show (2147483647 : Int) ≠ 0; decide), ?_⟩
        have e2 : seedOf z (ns.take (i + 1)) = (seedOf z (ns.take i) * 31 + (if c < 0 then -c else c)).fmod 2147483647 := by
          rw [take_succ e, seedOf_append]
          rfl
        refine ⟨some (.int c), rfl, ?_, ?_⟩
        · rw [e2]
          rfl
        · rw [e2]
          exact okSeed_step _ _
    · rintro σ H' ⟨v, e, rfl, hs⟩
      obtain rfl := (show H = H' from e.symm)
      have hlen : (ns.map V.int).length = ns.length := List.length_map _
      rw [hlen, List.take_length] at hs ⊢
      refine ⟨_, rfl, Nat.le_of_ble_eq_true rfl, fun p hp => ?_⟩
      have s1 : Same H (upd H p (.lst [.int (seedOf z ns), .int 0])) := same_upd hp
      refine ⟨_, rfl, a, rfl, ⟨_, VS.SqL.same hS s1⟩, fun D hD => ?_⟩
      have npD : p ≠ D := fun e => by rw [e, upd_same] at hD; cases hD
      have hD0 : H D = none := by rw [upd_ne npD.symm] at hD; exact hD
      refine lc_list (K := kf.K) (a := a) (xs := ns.map V.int) (fun i H' => H' = upd (upd H p (.lst [.int (seedOf z ns), .int 0])) D (.lst ((bigs (ns.take i)).map V.int))) rfl (fun i H' _ e => e ▸ VS.SqL.same (VS.SqL.same hS s1) (same_upd hD)) ?_ ?_
      · rintro i y H' hi rfl
        rw [List.getElem?_map] at hi
        cases e : ns[i]? with
        | none => rw [e] at hi; cases hi
        | some c =>
          rw [e] at hi
          have hi := (Option.some.inj hi).symm
          subst hi
          refine ⟨rfl, _, rfl, _, _, rfl, rfl, ⟨by decide, by decide, by decide⟩, _, _, rfl, rfl, _, rfl, ?_⟩
          have hb : bigs (ns.take (i + 1)) = bigs (ns.take i) ++ (if decide ((10 : Int) ^ (18 : Int).toNat ≤ c) = true then [c] else []) := by
            rw [take_succ e]
            rw [bigs_app, bigs_one]
          by_cases q : decide ((10 : Int) ^ (18 : Int).toNat ≤ c) = true
          · rw [if_pos q] at hb
            refine iteT' q ⟨_, rfl, _, upd_same, ?_, ?_⟩
            · rw [List.length_map]
              have := bigs_len (ns.take i)
              have h2 : (ns.take i).length ≤ ns.length := by rw [List.length_take]; omega
              rw [sizeLine_eq]
              omega
            · rw [hb, upd_upd, List.map_append]
              rfl
          · rw [if_neg q, List.append_nil] at hb
            refine iteF' q ?_
            rw [hb]
      · rintro H' rfl
        rw [List.length_map, List.take_length]
        refine ⟨p, D, _, _, rfl, rfl, by rw [upd_ne npD]; exact upd_same, upd_same, ?_, fun q hq => ?_⟩
        · rw [List.length_map]
          have := bigs_len ns
          rw [sizeLine_eq]
          simp
          omega
        · have nqp : q ≠ p := fun e => by rw [e, upd_ne npD, upd_same] at hq; cases hq
          have nqD : q ≠ D := fun e => by rw [e, upd_same] at hq; cases hq
          have hq0 : H q = none := by rw [upd_ne nqD, upd_ne nqp] at hq; exact hq
          exact k q _ ((s1.trans (same_upd hD)).trans (same_upd hq)) hq0 upd_same

abbrev s__law_below : Stmt := top 17
abbrev N__law_below : List Str := ["_law_d", "_law_limit", "_law_result"]
theorem sc__law_below : FnScope N__law_below ["_law_d", "_law_limit"] (defScope s__law_below) := ⟨rfl, rfl, rfl, by decide +kernel, rfl, by decide +kernel, by decide +kernel⟩
theorem bd__law_below (T_len : mg "len" = none) : Bd P w kf.K mg base N__law_below "_law_below" s__law_below 0 ir__law_below := fun n f cdv A outer s H E hr => by
  have nd := sc__law_below.nd
  have hu := hr.units
  have hu0 := hr.units0
  exact (dss_cons (dst_if (PW.pt (dw_and (dt_eq hu (DE.l (de_idx (dl_var (pv 0)) (DE.b (de_int)))) (DE.b (de_int))) (dw_and1 (dt_gt (DE.l (de_len T_len (db_var (pv 0)))) (DE.b (de_int)))))) (dss_cons (dst_setI (DE.f (de_popI (pv 0) (k := 2))) (pv 0) (DE.b (de_int)))
    dss_nil) dss_nil)
    (dss_cons (dst_if (dt_gt (DE.l (de_idx (dl_var (pv 0)) (DE.b (de_int)))) (DE.b (de_int))) (dss_cons (dst_set nd (de_mod (DE.l (de_idx (dl_var (pv 0)) (DE.b (de_int)))) (db_var (pv 1))))
    (dss_cons (dst_setI (DE.f (de_div (DE.l (de_idx (dl_var (pv 0)) (DE.b (de_int)))) (db_var (pv 1)))) (pv 0) (DE.b (de_int)))
    (dss_cons (dst_ret (de_mv (pv 2)))
    dss_nil))) dss_nil)
    (dss_cons (dst_setI (DE.f (de_mod (DE.l (de_add (DE.l (de_mul (DE.l (de_idx (dl_var (pv 0)) (DE.b (de_int)))) (DE.b (de_int)))) (DE.b (de_int)))) (DE.b (de_int)))) (pv 0) (DE.b (de_int)))
    (dss_cons (dst_ret (de_mod (DE.l (de_div (DE.l (de_idx (dl_var (pv 0)) (DE.b (de_int)))) (DE.b (de_int)))) (db_var (pv 1))))
    dss_nil))))
theorem fd__law_below {fa : Addr} {fd : FuncData} (F : Fun kf.K "_law_below" "_law_below" s__law_below fa fd) (hm : mg "_law_below" = some (.ref fa)) (T_len : mg "len" = none) : FnM P w kf.K mg base 1 "_law_below" 1 phi__law_below := fnM_fm F hm sc__law_below (F.binds (ps := ["_law_d", "_law_limit"]) fun _ _ _ _ _ _ us hl => match us, hl with | [_, _], _ => rfl) rfl (bd__law_below T_len)
abbrev s__law_marks : Stmt := top 18
abbrev N__law_marks : List Str := ["_law_d", "_law_length", "_law_kind", "_law_low", "_law_step", "_law_seat"]
theorem sc__law_marks : FnScope N__law_marks ["_law_d"] (defScope s__law_marks) := ⟨rfl, rfl, rfl, by decide +kernel, rfl, by decide +kernel, by decide +kernel⟩
theorem bd__law_marks (T_tuple : mg "tuple" = none) (T__law_below : FnM P w kf.K mg base 1 "_law_below" 1 phi__law_below) (T_range : mg "range" = none) : Bd P w kf.K mg base N__law_marks "_law_marks" s__law_marks 1 ir__law_marks := fun n f cdv A outer s H E hr => by
  have nd := sc__law_marks.nd
  have hu := hr.units
  have hu0 := hr.units0
  exact (dss_cons (dst_par2 rfl nd (dal_cons (de_add (DE.l (de_int)) (DE.b (de_callM T__law_below (hr.mono (by decide)) (takes_of rfl rfl rfl rfl) (pv 0) (da_cons (DE.f (de_int)) da_nil)))) (dal_cons (de_callM T__law_below (hr.mono (by decide)) (takes_of rfl rfl rfl rfl) (pv 0) (da_cons (DE.f (de_int)) da_nil)) dal_nil)))
    (dss_cons (dst_if (dt_eq hu (dl_var (pv 2)) (DE.b (de_int))) (dss_cons (dst_ret (de_tuple T_tuple (DE.b (de_lc rfl nd (own := [("_law_seat", 5)]) (ds_rng1 T_range (db_var (pv 1))) (blkOk_by (N := N__law_marks) (sc := defScope s__law_marks) (by decide +kernel)) (fun _ _ _ _ _ => (pg_name (i := 5) nd rfl (by first | exact Or.inl rfl | exact Or.inr rfl))) (gok_one 5) (by decide) (fun _ _ _ _ _ => dc_none) (fun _ _ _ _ _ => (DE.f (de_sub (DE.l (de_callM T__law_below (hr.mono (by decide)) takes0 (pv 0) (da_cons (DE.f (de_int)) da_nil))) (DE.b (de_int)))))))))
    dss_nil) dss_nil)
    (dss_cons (dst_if (dt_eq hu (dl_var (pv 2)) (DE.b (de_int))) (dss_cons (dst_parT rfl (dal_cons (de_sub (DE.l (de_callM T__law_below (hr.mono (by decide)) (takes_of rfl rfl rfl rfl) (pv 0) (da_cons (DE.f (de_int)) da_nil))) (DE.b (de_int))) (dal_cons (de_add (DE.l (de_int)) (DE.b (de_callM T__law_below (hr.mono (by decide)) (takes_of rfl rfl rfl rfl) (pv 0) (da_cons (DE.f (de_int)) da_nil)))) dal_nil)) (pgs_cons (pg_name (i := 3) nd rfl (by first | exact Or.inl rfl | exact Or.inr rfl)) (pgs_cons (pg_name (i := 4) nd rfl (by first | exact Or.inl rfl | exact Or.inr rfl)) pgs_nil)) (gn_cons (gn_cons gn_nil)))
    (dss_cons (dst_ret (de_tuple T_tuple (DE.b (de_lc rfl nd (own := [("_law_seat", 5)]) (ds_rng1 T_range (db_var (pv 1))) (blkOk_by (N := N__law_marks) (sc := defScope s__law_marks) (by decide +kernel)) (fun _ _ _ _ _ => (pg_name (i := 5) nd rfl (by first | exact Or.inl rfl | exact Or.inr rfl))) (gok_one 5) (by decide) (fun _ _ _ _ _ => dc_none) (fun _ _ _ _ _ => (DE.f (de_add (dl_var (pv 3)) (DE.b (de_mul (dl_var (pv 4)) (DE.b (de_callM T__law_below (hr.mono (by decide)) takes0 (pv 0) (da_cons (DE.f (de_int)) da_nil))))))))))))
    dss_nil)) dss_nil)
    (dss_cons (dst_if (dt_eq hu (dl_var (pv 2)) (DE.b (de_int))) (dss_cons (dst_ret (de_mul (DE.l (de_tup (da_cons (DE.f (de_callM T__law_below (hr.mono (by decide)) (takes_of rfl rfl rfl rfl) (pv 0) (da_cons (DE.f (de_int)) da_nil))) da_nil))) (db_var (pv 1))))
    dss_nil) dss_nil)
    (dss_cons (dst_ret (de_tuple T_tuple (DE.b (de_lc rfl nd (own := [("_law_seat", 5)]) (ds_rng1 T_range (db_var (pv 1))) (blkOk_by (N := N__law_marks) (sc := defScope s__law_marks) (by decide +kernel)) (fun _ _ _ _ _ => (pg_name (i := 5) nd rfl (by first | exact Or.inl rfl | exact Or.inr rfl))) (gok_one 5) (by decide) (fun _ _ _ _ _ => dc_none) (fun _ _ _ _ _ => (DE.f (de_sub (DE.l (de_callM T__law_below (hr.mono (by decide)) takes0 (pv 0) (da_cons (DE.f (de_idx (DE.l (de_lst (da_cons (DE.f (de_int)) (da_cons (DE.f (de_int)) da_nil)))) (DE.b (de_callM T__law_below (hr.mono (by decide)) takes0 (pv 0) (da_cons (DE.f (de_int)) da_nil))))) da_nil))) (DE.b (de_int)))))))))
    dss_nil)))))
theorem fd__law_marks {fa : Addr} {fd : FuncData} (F : Fun kf.K "_law_marks" "_law_marks" s__law_marks fa fd) (hm : mg "_law_marks" = some (.ref fa)) (T_tuple : mg "tuple" = none) (T__law_below : FnM P w kf.K mg base 1 "_law_below" 1 phi__law_below) (T_range : mg "range" = none) : FnM P w kf.K mg base 2 "_law_marks" 0 phi__law_marks := fnM_fm F hm sc__law_marks (F.binds (ps := ["_law_d"]) fun _ _ _ _ _ _ us hl => match us, hl with | [_], _ => rfl) rfl (bd__law_marks T_tuple T__law_below T_range)
abbrev s__law_reflected : Stmt := top 19
abbrev N__law_reflected : List Str := ["_law_marks_here", "_law_seat", "_law_left", "_law_right"]
theorem sc__law_reflected : FnScope N__law_reflected ["_law_marks_here", "_law_seat"] (defScope s__law_reflected) := ⟨rfl, rfl, rfl, by decide +kernel, rfl, by decide +kernel, by decide +kernel⟩
theorem bd__law_reflected (T_len : mg "len" = none) : Bd P w kf.K mg base N__law_reflected "_law_reflected" s__law_reflected 0 ir__law_reflected := fun n f cdv A outer s H E hr => by
  have nd := sc__law_reflected.nd
  have hu := hr.units
  have hu0 := hr.units0
  exact (dss_cons (dst_par2 rfl nd (dal_cons (de_idx (dl_var (pv 0)) (DE.b (de_sub (dl_var (pv 1)) (DE.b (de_int))))) (dal_cons (de_idx (dl_var (pv 0)) (DE.b (de_mod (DE.l (de_add (dl_var (pv 1)) (DE.b (de_int)))) (DE.b (de_len T_len (db_var (pv 0))))))) dal_nil)))
    (dss_cons (dst_ret (de_add (DE.l (de_add (DE.l (de_slc (dl_var (pv 0)) do_none (do_some (db_var (pv 1))))) (DE.b (de_tup (da_cons (DE.f (de_sub (DE.l (de_add (dl_var (pv 2)) (db_var (pv 3)))) (DE.b (de_idx (dl_var (pv 0)) (db_var (pv 1)))))) da_nil))))) (DE.b (de_slc (dl_var (pv 0)) (do_some (DE.b (de_add (dl_var (pv 1)) (DE.b (de_int))))) do_none))))
    dss_nil))
theorem fd__law_reflected {fa : Addr} {fd : FuncData} (F : Fun kf.K "_law_reflected" "_law_reflected" s__law_reflected fa fd) (hm : mg "_law_reflected" = some (.ref fa)) (T_len : mg "len" = none) : FnD P w kf.K mg base 1 "_law_reflected" 2 phi__law_reflected := fnD_fn F hm sc__law_reflected (F.binds (ps := ["_law_marks_here", "_law_seat"]) fun _ _ _ _ _ _ us hl => match us, hl with | [_, _], _ => rfl) rfl (bd__law_reflected T_len)
abbrev s__law_all_reflected : Stmt := top 20
abbrev N__law_all_reflected : List Str := ["_law_marks_here", "_law_seats_here", "_law_seat"]
theorem sc__law_all_reflected : FnScope N__law_all_reflected ["_law_marks_here", "_law_seats_here"] (defScope s__law_all_reflected) := ⟨rfl, rfl, rfl, by decide +kernel, rfl, by decide +kernel, by decide +kernel⟩
theorem bd__law_all_reflected (T__law_reflected : FnD P w kf.K mg base 1 "_law_reflected" 2 phi__law_reflected) : Bd P w kf.K mg base N__law_all_reflected "_law_all_reflected" s__law_all_reflected 1 ir__law_all_reflected := fun n f cdv A outer s H E hr => by
  have nd := sc__law_all_reflected.nd
  have hu := hr.units
  have hu0 := hr.units0
  exact (dss_cons (dst_for (passes_of rfl) rfl (ds_seq (DE.f (de_var (pv 1)))) (pg_name (i := 2) nd rfl (by first | exact Or.inl rfl | exact Or.inr rfl)) (gok_one 2) (dss_cons (dst_set nd (de_callD T__law_reflected (hr.mono (by decide)) (takes_of rfl rfl rfl rfl) (da_cons (DE.f (de_var (pv 0))) (da_cons (DE.f (de_var (pv 2))) da_nil))))
    dss_nil))
    (dss_cons (dst_ret (de_mv (pv 0)))
    dss_nil))
theorem fd__law_all_reflected {fa : Addr} {fd : FuncData} (F : Fun kf.K "_law_all_reflected" "_law_all_reflected" s__law_all_reflected fa fd) (hm : mg "_law_all_reflected" = some (.ref fa)) (T__law_reflected : FnD P w kf.K mg base 1 "_law_reflected" 2 phi__law_reflected) : FnD P w kf.K mg base 2 "_law_all_reflected" 2 phi__law_all_reflected := fnD_fn F hm sc__law_all_reflected (F.binds (ps := ["_law_marks_here", "_law_seats_here"]) fun _ _ _ _ _ _ us hl => match us, hl with | [_, _], _ => rfl) rfl (bd__law_all_reflected T__law_reflected)
abbrev s__law_seats : Stmt := top 21
abbrev N__law_seats : List Str := ["_law_d", "_law_length", "_law_many", "_law_k"]
theorem sc__law_seats : FnScope N__law_seats ["_law_d", "_law_length", "_law_many"] (defScope s__law_seats) := ⟨rfl, rfl, rfl, by decide +kernel, rfl, by decide +kernel, by decide +kernel⟩
theorem bd__law_seats (T__law_below : FnM P w kf.K mg base 1 "_law_below" 1 phi__law_below) (T_range : mg "range" = none) : Bd P w kf.K mg base N__law_seats "_law_seats" s__law_seats 1 ir__law_seats := fun n f cdv A outer s H E hr => by
  have nd := sc__law_seats.nd
  have hu := hr.units
  have hu0 := hr.units0
  exact (dss_cons (dst_ret (de_lc rfl nd (own := [("_law_k", 3)]) (ds_rng1 T_range (DE.b (de_callM T__law_below (hr.mono (by decide)) (takes_of rfl rfl rfl rfl) (pv 0) (da_cons (DE.f (de_add (dl_var (pv 2)) (DE.b (de_int)))) da_nil)))) (blkOk_by (N := N__law_seats) (sc := defScope s__law_seats) (by decide +kernel)) (fun _ _ _ _ _ => (pg_name (i := 3) nd rfl (by first | exact Or.inl rfl | exact Or.inr rfl))) (gok_one 3) (by decide) (fun _ _ _ _ _ => dc_none) (fun _ _ _ _ _ => (DE.f (de_callM T__law_below (hr.mono (by decide)) takes0 (pv 0) (da_cons (DE.f (de_var (pv 1))) da_nil))))))
    dss_nil)
theorem fd__law_seats {fa : Addr} {fd : FuncData} (F : Fun kf.K "_law_seats" "_law_seats" s__law_seats fa fd) (hm : mg "_law_seats" = some (.ref fa)) (T__law_below : FnM P w kf.K mg base 1 "_law_below" 1 phi__law_below) (T_range : mg "range" = none) : FnM P w kf.K mg base 2 "_law_seats" 2 phi__law_seats := fnM_fm F hm sc__law_seats (F.binds (ps := ["_law_d", "_law_length", "_law_many"]) fun _ _ _ _ _ _ us hl => match us, hl with | [_, _, _], _ => rfl) rfl (bd__law_seats T__law_below T_range)
abbrev s__law_shuffled : Stmt := top 22
abbrev N__law_shuffled : List Str := ["_law_d", "_law_items", "_law_pool", "_law_result"]
theorem sc__law_shuffled : FnScope N__law_shuffled ["_law_d", "_law_items"] (defScope s__law_shuffled) := ⟨rfl, rfl, rfl, by decide +kernel, rfl, by decide +kernel, by decide +kernel⟩
theorem bd__law_shuffled (T_list : mg "list" = none) (T__law_below : FnM P w kf.K mg base 1 "_law_below" 1 phi__law_below) (T_len : mg "len" = none) : Bd P w kf.K mg base N__law_shuffled "_law_shuffled" s__law_shuffled 1 ir__law_shuffled := fun n f cdv A outer s H E hr => by
  have nd := sc__law_shuffled.nd
  have hu := hr.units
  have hu0 := hr.units0
  exact (dss_cons (dst_set nd (de_list T_list (db_var (pv 1))))
    (dss_cons (dst_set nd (de_lst da_nil))
    (dss_cons (dst_whl (passes_of rfl) (dt_ne hu (dl_var (pv 2)) (DE.b (de_lst da_nil))) (dss_cons (dst_app (pv 3) (DE.f (de_popE (pv 2) (DE.b (de_callM T__law_below (hr.mono (by decide)) (takes_of rfl rfl rfl rfl) (pv 0) (da_cons (DE.f (de_len T_len (db_var (pv 2)))) da_nil))))))
    dss_nil))
    (dss_cons (dst_ret (de_mv (pv 3)))
    dss_nil))))
theorem fd__law_shuffled {fa : Addr} {fd : FuncData} (F : Fun kf.K "_law_shuffled" "_law_shuffled" s__law_shuffled fa fd) (hm : mg "_law_shuffled" = some (.ref fa)) (T_list : mg "list" = none) (T__law_below : FnM P w kf.K mg base 1 "_law_below" 1 phi__law_below) (T_len : mg "len" = none) : FnM P w kf.K mg base 2 "_law_shuffled" 1 phi__law_shuffled := fnM_fm F hm sc__law_shuffled (F.binds (ps := ["_law_d", "_law_items"]) fun _ _ _ _ _ _ us hl => match us, hl with | [_, _], _ => rfl) rfl (bd__law_shuffled T_list T__law_below T_len)
abbrev s__law_differences : Stmt := top 23
abbrev N__law_differences : List Str := ["_law_marks_here", "_law_seat"]
theorem sc__law_differences : FnScope N__law_differences ["_law_marks_here"] (defScope s__law_differences) := ⟨rfl, rfl, rfl, by decide +kernel, rfl, by decide +kernel, by decide +kernel⟩
theorem bd__law_differences (T_range : mg "range" = none) (T_len : mg "len" = none) : Bd P w kf.K mg base N__law_differences "_law_differences" s__law_differences 0 ir__law_differences := fun n f cdv A outer s H E hr => by
  have nd := sc__law_differences.nd
  have hu := hr.units
  have hu0 := hr.units0
  exact (dss_cons (dst_ret (de_lc rfl nd (own := [("_law_seat", 1)]) (ds_rng1 T_range (DE.b (de_len T_len (db_var (pv 0))))) (blkOk_by (N := N__law_differences) (sc := defScope s__law_differences) (by decide +kernel)) (fun _ _ _ _ _ => (pg_name (i := 1) nd rfl (by first | exact Or.inl rfl | exact Or.inr rfl))) (gok_one 1) (by decide) (fun _ _ _ _ _ => dc_none) (fun _ _ _ _ _ => (DE.f (de_sub (DE.l (de_idx (dl_var (pv 0)) (DE.b (de_mod (DE.l (de_add (dl_var (pv 1)) (DE.b (de_int)))) (DE.b (de_len T_len (db_var (pv 0)))))))) (DE.b (de_idx (dl_var (pv 0)) (db_var (pv 1)))))))))
    dss_nil)
theorem fd__law_differences {fa : Addr} {fd : FuncData} (F : Fun kf.K "_law_differences" "_law_differences" s__law_differences fa fd) (hm : mg "_law_differences" = some (.ref fa)) (T_range : mg "range" = none) (T_len : mg "len" = none) : FnD P w kf.K mg base 1 "_law_differences" 1 phi__law_differences := fnD_fn F hm sc__law_differences (F.binds (ps := ["_law_marks_here"]) fun _ _ _ _ _ _ us hl => match us, hl with | [_], _ => rfl) rfl (bd__law_differences T_range T_len)
abbrev s__law_common : Stmt := top 24
abbrev N__law_common : List Str := ["_law_marks_here", "_law_steps", "_law_result", "_law_step", "_law_one", "_law_other_here"]
theorem sc__law_common : FnScope N__law_common ["_law_marks_here"] (defScope s__law_common) := ⟨rfl, rfl, rfl, by decide +kernel, rfl, by decide +kernel, by decide +kernel⟩
theorem bd__law_common (T__law_differences : FnD P w kf.K mg base 1 "_law_differences" 1 phi__law_differences) (T_abs : mg "abs" = none) : Bd P w kf.K mg base N__law_common "_law_common" s__law_common 1 ir__law_common := fun n f cdv A outer s H E hr => by
  have nd := sc__law_common.nd
  have hu := hr.units
  have hu0 := hr.units0
  exact (dss_cons (dst_par2 rfl nd (dal_cons (de_callD T__law_differences (hr.mono (by decide)) (takes_of rfl rfl rfl rfl) (da_cons (DE.f (de_var (pv 0))) da_nil)) (dal_cons (de_int) dal_nil)))
    (dss_cons (dst_for (passes_of rfl) rfl (ds_seq (DE.f (de_var (pv 1)))) (pg_name (i := 3) nd rfl (by first | exact Or.inl rfl | exact Or.inr rfl)) (gok_one 3) (dss_cons (dst_par2 rfl nd (dal_cons (de_abs T_abs (DE.b (de_sub (dl_var (pv 3)) (DE.b (de_idx (dl_var (pv 1)) (DE.b (de_int))))))) (dal_cons (de_var (pv 2)) dal_nil)))
    (dss_cons (dst_whl (passes_of rfl) (dt_gt (dl_var (pv 4)) (DE.b (de_int))) (dss_cons (dst_par2 rfl nd (dal_cons (de_mod (dl_var (pv 5)) (db_var (pv 4))) (dal_cons (de_var (pv 4)) dal_nil)))
    dss_nil))
    (dss_cons (dst_set nd (de_var (pv 5)))
    dss_nil))))
    (dss_cons (dst_ret (de_mv (pv 2)))
    dss_nil)))
theorem fd__law_common {fa : Addr} {fd : FuncData} (F : Fun kf.K "_law_common" "_law_common" s__law_common fa fd) (hm : mg "_law_common" = some (.ref fa)) (T__law_differences : FnD P w kf.K mg base 1 "_law_differences" 1 phi__law_differences) (T_abs : mg "abs" = none) : FnD P w kf.K mg base 2 "_law_common" 1 phi__law_common := fnD_fn F hm sc__law_common (F.binds (ps := ["_law_marks_here"]) fun _ _ _ _ _ _ us hl => match us, hl with | [_], _ => rfl) rfl (bd__law_common T__law_differences T_abs)
abbrev s__law_other : Stmt := top 25
abbrev N__law_other : List Str := ["_law_d", "_law_marks_here", "_law_kind", "_law_other_here", "_law_steps", "_law_step", "_law_amount", "_law_at", "_law_mark"]
theorem sc__law_other : FnScope N__law_other ["_law_d", "_law_marks_here"] (defScope s__law_other) := ⟨rfl, rfl, rfl, by decide +kernel, rfl, by decide +kernel, by decide +kernel⟩
theorem bd__law_other (T__law_below : FnM P w kf.K mg base 1 "_law_below" 1 phi__law_below) (T__law_all_reflected : FnD P w kf.K mg base 2 "_law_all_reflected" 2 phi__law_all_reflected) (T__law_marks : FnM P w kf.K mg base 2 "_law_marks" 0 phi__law_marks) (T__law_seats : FnM P w kf.K mg base 2 "_law_seats" 2 phi__law_seats) (T__law_shuffled : FnM P w kf.K mg base 2 "_law_shuffled" 1 phi__law_shuffled) (T_tuple : mg "tuple" = none) (T_len : mg "len" = none) (T__law_differences : FnD P w kf.K mg base 1 "_law_differences" 1 phi__law_differences) (T_max : mg "max" = none) (T_min : mg "min" = none) (T__law_common : FnD P w kf.K mg base 2 "_law_common" 1 phi__law_common) : Bd P w kf.K mg base N__law_other "_law_other" s__law_other 2 ir__law_other := fun n f cdv A outer s H E hr => by
  have nd := sc__law_other.nd
  have hu := hr.units
  have hu0 := hr.units0
  exact (dss_cons (dst_set nd (de_callM T__law_below (hr.mono (by decide)) (takes_of rfl rfl rfl rfl) (pv 0) (da_cons (DE.f (de_int)) da_nil)))
    (dss_cons (dst_if (dt_eq hu (dl_var (pv 2)) (DE.b (de_int))) (dss_cons (dst_ret (de_callM T__law_marks (hr.mono (by decide)) (takes_of rfl rfl rfl rfl) (pv 0) da_nil))
    dss_nil) dss_nil)
    (dss_cons (dst_set nd (de_callD T__law_all_reflected (hr.mono (by decide)) (takes_of rfl rfl rfl rfl) (da_cons (DE.f (de_var (pv 1))) (da_cons (DE.f (de_callM T__law_seats (hr.mono (by decide)) (takes_of rfl rfl rfl rfl) (pv 0) (da_cons (DE.f (de_len T_len (db_var (pv 1)))) (da_cons (DE.f (de_int)) da_nil)))) da_nil))))
    (dss_cons (dst_if (dt_eq hu (dl_var (pv 2)) (DE.b (de_int))) (dss_cons (dst_set nd (de_callM T__law_shuffled (hr.mono (by decide)) (takes_of rfl rfl rfl rfl) (pv 0) (da_cons (DE.f (de_callD T__law_differences (hr.mono (by decide)) (takes_of rfl rfl rfl rfl) (da_cons (DE.f (de_var (pv 1))) da_nil))) da_nil)))
    (dss_cons (dst_set nd (de_tup (da_cons (DE.f (de_idx (dl_var (pv 1)) (DE.b (de_int)))) da_nil)))
    (dss_cons (dst_for (passes_of rfl) rfl (ds_seq (DE.f (de_slc (dl_var (pv 4)) do_none (do_some (DE.b (de_neg (DE.b (de_int)))))))) (pg_name (i := 5) nd rfl (by first | exact Or.inl rfl | exact Or.inr rfl)) (gok_one 5) (dss_cons (dst_set nd (de_add (dl_var (pv 3)) (DE.b (de_tup (da_cons (DE.f (de_add (DE.l (de_idx (dl_var (pv 3)) (DE.b (de_neg (DE.b (de_int)))))) (db_var (pv 5)))) da_nil)))))
    dss_nil))
    dss_nil))) dss_nil)
    (dss_cons (dst_if (dt_eq hu (dl_var (pv 2)) (DE.b (de_int))) (dss_cons (dst_set nd (de_idx (DE.l (de_lst (da_cons (DE.f (de_sub (DE.l (de_callM T__law_below (hr.mono (by decide)) (takes_of rfl rfl rfl rfl) (pv 0) (da_cons (DE.f (de_int)) da_nil))) (DE.b (de_int)))) (da_cons (DE.f (de_mul (DE.l (de_callD T__law_common (hr.mono (by decide)) (takes_of rfl rfl rfl rfl) (da_cons (DE.f (de_var (pv 1))) da_nil))) (DE.b (de_sub (DE.l (de_callM T__law_below (hr.mono (by decide)) (takes_of rfl rfl rfl rfl) (pv 0) (da_cons (DE.f (de_int)) da_nil))) (DE.b (de_int)))))) da_nil)))) (DE.b (de_callM T__law_below (hr.mono (by decide)) (takes_of rfl rfl rfl rfl) (pv 0) (da_cons (DE.f (de_int)) da_nil)))))
    (dss_cons (dst_set nd (de_tuple T_tuple (DE.b (de_lc rfl nd (own := [("_law_mark", 8)]) (ds_seq (DE.f (de_var (pv 3)))) (blkOk_by (N := N__law_other) (sc := defScope s__law_other) (by decide +kernel)) (fun _ _ _ _ _ => (pg_name (i := 8) nd rfl (by first | exact Or.inl rfl | exact Or.inr rfl))) (gok_one 8) (by decide) (fun _ _ _ _ _ => dc_none) (fun _ _ _ _ _ => (DE.f (de_add (dl_var (pv 8)) (db_var (pv 6)))))))))
    dss_nil)) dss_nil)
    (dss_cons (dst_if (dt_eq hu (dl_var (pv 2)) (DE.b (de_int))) (dss_cons (dst_set nd (de_callM T__law_below (hr.mono (by decide)) (takes_of rfl rfl rfl rfl) (pv 0) (da_cons (DE.f (de_len T_len (db_var (pv 3)))) da_nil)))
    (dss_cons (dst_set nd (de_add (DE.l (de_add (DE.l (de_slc (dl_var (pv 3)) do_none (do_some (db_var (pv 7))))) (DE.b (de_tup (da_cons (DE.f (de_add (DE.l (de_add (DE.l (de_idx (dl_var (pv 3)) (db_var (pv 7)))) (DE.b (de_int)))) (DE.b (de_callM T__law_below (hr.mono (by decide)) (takes_of rfl rfl rfl rfl) (pv 0) (da_cons (DE.f (de_int)) da_nil))))) da_nil))))) (DE.b (de_slc (dl_var (pv 3)) (do_some (DE.b (de_add (dl_var (pv 7)) (DE.b (de_int))))) do_none))))
    dss_nil)) dss_nil)
    (dss_cons (dst_ret (de_ife (PW.pt (dw_and (dt_le (DE.l (de_max1 rfl T_max (db_var (pv 3)))) (DE.b (de_int))) (dw_and1 (dt_ge (DE.l (de_min1 rfl T_min (db_var (pv 3)))) (DE.b (de_sub (DE.l (de_int)) (DE.b (de_int)))))))) (de_var (pv 3)) (de_var (pv 1))))
    dss_nil)))))))
theorem fd__law_other {fa : Addr} {fd : FuncData} (F : Fun kf.K "_law_other" "_law_other" s__law_other fa fd) (hm : mg "_law_other" = some (.ref fa)) (T__law_below : FnM P w kf.K mg base 1 "_law_below" 1 phi__law_below) (T__law_all_reflected : FnD P w kf.K mg base 2 "_law_all_reflected" 2 phi__law_all_reflected) (T__law_marks : FnM P w kf.K mg base 2 "_law_marks" 0 phi__law_marks) (T__law_seats : FnM P w kf.K mg base 2 "_law_seats" 2 phi__law_seats) (T__law_shuffled : FnM P w kf.K mg base 2 "_law_shuffled" 1 phi__law_shuffled) (T_tuple : mg "tuple" = none) (T_len : mg "len" = none) (T__law_differences : FnD P w kf.K mg base 1 "_law_differences" 1 phi__law_differences) (T_max : mg "max" = none) (T_min : mg "min" = none) (T__law_common : FnD P w kf.K mg base 2 "_law_common" 1 phi__law_common) : FnM P w kf.K mg base 3 "_law_other" 1 phi__law_other := fnM_fm F hm sc__law_other (F.binds (ps := ["_law_d", "_law_marks_here"]) fun _ _ _ _ _ _ us hl => match us, hl with | [_, _], _ => rfl) rfl (bd__law_other T__law_below T__law_all_reflected T__law_marks T__law_seats T__law_shuffled T_tuple T_len T__law_differences T_max T_min T__law_common)
abbrev s__law_difference : Stmt := top 26
abbrev N__law_difference : List Str := ["_law_first", "_law_second", "_law_here", "_law_there", "_law_step", "_law_common_here", "_law_marks_here"]
theorem sc__law_difference : FnScope N__law_difference ["_law_first", "_law_second"] (defScope s__law_difference) := ⟨rfl, rfl, rfl, by decide +kernel, rfl, by decide +kernel, by decide +kernel⟩
theorem bd__law_difference (T_sorted : mg "sorted" = none) (T__law_common : FnD P w kf.K mg base 2 "_law_common" 1 phi__law_common) (T_len : mg "len" = none) (T__law_differences : FnD P w kf.K mg base 1 "_law_differences" 1 phi__law_differences) (T_set : mg "set" = none) : Bd P w kf.K mg base N__law_difference "_law_difference" s__law_difference 2 ir__law_difference := fun n f cdv A outer s H E hr => by
  have nd := sc__law_difference.nd
  have hu := hr.units
  have hu0 := hr.units0
  exact (dss_cons (dst_if (dt_ne hu (DE.l (de_len T_len (db_var (pv 0)))) (DE.b (de_len T_len (db_var (pv 1))))) (dss_cons (dst_ret (de_tup (da_cons (DE.f (de_str)) (da_cons (DE.f (de_len T_len (db_var (pv 0)))) (da_cons (DE.f (de_len T_len (db_var (pv 1)))) da_nil)))))
    dss_nil) dss_nil)
    (dss_cons (dst_par2 rfl nd (dal_cons (de_callD T__law_differences (hr.mono (by decide)) (takes_of rfl rfl rfl rfl) (da_cons (DE.f (de_var (pv 0))) da_nil)) (dal_cons (de_callD T__law_differences (hr.mono (by decide)) (takes_of rfl rfl rfl rfl) (da_cons (DE.f (de_var (pv 1))) da_nil)) dal_nil)))
    (dss_cons (dst_for (passes_of rfl) rfl (ds_seq (DE.f (de_sset rfl T_sorted T_set (DE.b (de_add (dl_var (pv 2)) (db_var (pv 3))))))) (pg_name (i := 4) nd rfl (by first | exact Or.inl rfl | exact Or.inr rfl)) (gok_one 4) (dss_cons (dst_if (dt_ne hu (DE.l (de_cnt (pv 2) (pv 4))) (DE.b (de_cnt (pv 3) (pv 4)))) (dss_cons (dst_ret (de_tup (da_cons (DE.f (de_str)) (da_cons (DE.f (de_var (pv 4))) (da_cons (DE.f (de_cnt (pv 2) (pv 4))) (da_cons (DE.f (de_cnt (pv 3) (pv 4))) da_nil))))))
    dss_nil) dss_nil)
    dss_nil))
    (dss_cons (dst_set nd (de_callD T__law_common (hr.mono (by decide)) (takes_of rfl rfl rfl rfl) (da_cons (DE.f (de_var (pv 0))) da_nil)))
    (dss_cons (dst_set nd (de_ife (dt_eq hu (dl_var (pv 5)) (DE.b (de_int))) (de_tup (da_cons (DE.f (de_idx (dl_var (pv 0)) (DE.b (de_int)))) (da_cons (DE.f (de_idx (dl_var (pv 1)) (DE.b (de_int)))) da_nil))) (de_tup (da_cons (DE.f (de_mod (DE.l (de_idx (dl_var (pv 0)) (DE.b (de_int)))) (db_var (pv 5)))) (da_cons (DE.f (de_mod (DE.l (de_idx (dl_var (pv 1)) (DE.b (de_int)))) (db_var (pv 5)))) da_nil)))))
    (dss_cons (dst_ret (de_ife (dt_eq hu (DE.l (de_idx (dl_var (pv 6)) (DE.b (de_int)))) (DE.b (de_idx (dl_var (pv 6)) (DE.b (de_int))))) (de_non) (de_tup (da_cons (DE.f (de_str)) (da_cons (DE.f (de_idx (dl_var (pv 6)) (DE.b (de_int)))) (da_cons (DE.f (de_idx (dl_var (pv 6)) (DE.b (de_int)))) da_nil))))))
    dss_nil))))))
theorem fd__law_difference {fa : Addr} {fd : FuncData} (F : Fun kf.K "_law_difference" "_law_difference" s__law_difference fa fd) (hm : mg "_law_difference" = some (.ref fa)) (T_sorted : mg "sorted" = none) (T__law_common : FnD P w kf.K mg base 2 "_law_common" 1 phi__law_common) (T_len : mg "len" = none) (T__law_differences : FnD P w kf.K mg base 1 "_law_differences" 1 phi__law_differences) (T_set : mg "set" = none) : FnD P w kf.K mg base 3 "_law_difference" 2 phi__law_difference := fnD_fn F hm sc__law_difference (F.binds (ps := ["_law_first", "_law_second"]) fun _ _ _ _ _ _ us hl => match us, hl with | [_, _], _ => rfl) rfl (bd__law_difference T_sorted T__law_common T_len T__law_differences T_set)
abbrev s__law_equal : Stmt := top 27
abbrev N__law_equal : List Str := ["_law_actual", "_law_expected", "_law_k"]
theorem sc__law_equal : FnScope N__law_equal ["_law_actual", "_law_expected"] (defScope s__law_equal) := ⟨rfl, rfl, rfl, by decide +kernel, rfl, by decide +kernel, by decide +kernel⟩
theorem bd__law_equal {kk : Nat} {φself : List D → Ou Sl} {jself : Nat} (T__law_equal : FnD P w kf.K mg base jself "_law_equal" 2 φself) (hj : jself ≤ kk) (hk0 : 0 ≤ kk) (T_isinstance : mg "isinstance" = none) (T_bool : mg "bool" = none) (T_int : mg "int" = none) (T_str : mg "str" = none) (T_all : mg "all" = none) (T_tuple : mg "tuple" = none) (T_list : mg "list" = none) (T_len : mg "len" = none) (T_range : mg "range" = none) : Bd P w kf.K mg base N__law_equal "_law_equal" s__law_equal kk (ir__law_equal φself) := fun n f cdv A outer s H E hr => by
  have nd := sc__law_equal.nd
  have hu := hr.units
  have hu0 := hr.units0
  exact (dss_cons (dst_if (dt_is (dl_var (pv 1)) (DE.b (de_non))) (dss_cons (dst_ret (de_is (dl_var (pv 0)) (DE.b (de_non))))
    dss_nil) dss_nil)
    (dss_cons (dst_if (DB.t (DE.b (de_isi T_isinstance (db_var (pv 1)) (pe_bltn (v := .ty "bool") (by rfl) T_bool (by decide +kernel) rfl)))) (dss_cons (dst_ret (de_and (DE.b (de_isi T_isinstance (db_var (pv 0)) (pe_bltn (v := .ty "bool") (by rfl) T_bool (by decide +kernel) rfl))) (de_one (de_eq hu (dl_var (pv 0)) (db_var (pv 1))))))
    dss_nil) dss_nil)
    (dss_cons (dst_if (DB.t (DE.b (de_isi T_isinstance (db_var (pv 1)) (pe_bltn (v := .ty "int") (by rfl) T_int (by decide +kernel) rfl)))) (dss_cons (dst_ret (de_and (DE.b (de_isi T_isinstance (db_var (pv 0)) (pe_bltn (v := .ty "int") (by rfl) T_int (by decide +kernel) rfl))) (de_and (DE.b (de_not (DE.b (de_isi T_isinstance (db_var (pv 0)) (pe_bltn (v := .ty "bool") (by rfl) T_bool (by decide +kernel) rfl))))) (de_one (de_eq hu (dl_var (pv 0)) (db_var (pv 1)))))))
    dss_nil) dss_nil)
    (dss_cons (dst_if (DB.t (DE.b (de_isi T_isinstance (db_var (pv 1)) (pe_bltn (v := .ty "str") (by rfl) T_str (by decide +kernel) rfl)))) (dss_cons (dst_ret (de_and (DE.b (de_isi T_isinstance (db_var (pv 0)) (pe_bltn (v := .ty "str") (by rfl) T_str (by decide +kernel) rfl))) (de_one (de_eq hu (dl_var (pv 0)) (db_var (pv 1))))))
    dss_nil) dss_nil)
    (dss_cons (dst_if (dt_ne hu (DE.l (de_isi T_isinstance (db_var (pv 1)) (pe_bltn (v := .ty "tuple") (by rfl) T_tuple (by decide +kernel) rfl))) (DE.b (de_isi T_isinstance (db_var (pv 0)) (pe_bltn (v := .ty "tuple") (by rfl) T_tuple (by decide +kernel) rfl)))) (dss_cons (dst_ret (de_bl))
    dss_nil) dss_nil)
    (dss_cons (dst_if (dt_ne hu (DE.l (de_isi T_isinstance (db_var (pv 1)) (pe_bltn (v := .ty "list") (by rfl) T_list (by decide +kernel) rfl))) (DE.b (de_isi T_isinstance (db_var (pv 0)) (pe_bltn (v := .ty "list") (by rfl) T_list (by decide +kernel) rfl)))) (dss_cons (dst_ret (de_bl))
    dss_nil) dss_nil)
    (dss_cons (dst_if (dt_ne hu (DE.l (de_len T_len (db_var (pv 0)))) (DE.b (de_len T_len (db_var (pv 1))))) (dss_cons (dst_ret (de_bl))
    dss_nil) dss_nil)
    (dss_cons (dst_ret (de_all rfl T_all (DE.b (de_lc rfl nd (own := [("_law_k", 2)]) (ds_rng1 T_range (DE.b (de_len T_len (db_var (pv 1))))) (blkOk_by (N := N__law_equal) (sc := defScope s__law_equal) (by decide +kernel)) (fun _ _ _ _ _ => (pg_name (i := 2) nd rfl (by first | exact Or.inl rfl | exact Or.inr rfl))) (gok_one 2) (by decide) (fun _ _ _ _ _ => dc_none) (fun _ _ _ _ _ => (DE.f (de_callD T__law_equal (hr.mono hj) takes0 (da_cons (DE.f (de_idx (dl_var (pv 0)) (db_var (pv 2)))) (da_cons (DE.f (de_idx (dl_var (pv 1)) (db_var (pv 2)))) da_nil)))))))))
    dss_nil))))))))
theorem fd__law_equal {fa : Addr} {fd : FuncData} (F : Fun kf.K "_law_equal" "_law_equal" s__law_equal fa fd) (hm : mg "_law_equal" = some (.ref fa)) (T_isinstance : mg "isinstance" = none) (T_bool : mg "bool" = none) (T_int : mg "int" = none) (T_str : mg "str" = none) (T_all : mg "all" = none) (T_tuple : mg "tuple" = none) (T_list : mg "list" = none) (T_len : mg "len" = none) (T_range : mg "range" = none) : ∀ d, FnD P w kf.K mg base (0 + 1 + d) "_law_equal" 2 (phi__law_equal d)
  | 0 => fnD_no F hm sc__law_equal (F.binds (ps := ["_law_actual", "_law_expected"]) fun _ _ _ _ _ _ us hl => match us, hl with | [_, _], _ => rfl)
  | d + 1 => fnD_fn F hm sc__law_equal (F.binds (ps := ["_law_actual", "_law_expected"]) fun _ _ _ _ _ _ us hl => match us, hl with | [_, _], _ => rfl) rfl (bd__law_equal (φself := phi__law_equal d) (fd__law_equal F hm T_isinstance T_bool T_int T_str T_all T_tuple T_list T_len T_range d) (Nat.le_refl _) (by omega) T_isinstance T_bool T_int T_str T_all T_tuple T_list T_len T_range)
abbrev s_is_int_in : Stmt := top 7
abbrev N_is_int_in : List Str := ["value", "low", "high"]
theorem sc_is_int_in : FnScope N_is_int_in ["value", "low", "high"] (defScope s_is_int_in) := ⟨rfl, rfl, rfl, by decide +kernel, rfl, by decide +kernel, by decide +kernel⟩
theorem bd_is_int_in (T_isinstance : mg "isinstance" = none) (T_int : mg "int" = none) (T_bool : mg "bool" = none) : Bd P w kf.K mg base N_is_int_in "is_int_in" s_is_int_in 0 ir_is_int_in := fun n f cdv A outer s H E hr => by
  have nd := sc_is_int_in.nd
  have hu := hr.units
  have hu0 := hr.units0
  exact (dss_cons (dst_ret (de_and (DE.b (de_isi T_isinstance (db_var (pv 0)) (pe_bltn (v := .ty "int") (by rfl) T_int (by decide +kernel) rfl))) (de_and (DE.b (de_not (DE.b (de_isi T_isinstance (db_var (pv 0)) (pe_bltn (v := .ty "bool") (by rfl) T_bool (by decide +kernel) rfl))))) (de_one (de_chain_le (DE.f (de_var (pv 1))) (DE.f (de_var (pv 0))) (DE.f (de_var (pv 2))))))))
    dss_nil)
theorem fd_is_int_in {fa : Addr} {fd : FuncData} (F : Fun kf.K "is_int_in" "is_int_in" s_is_int_in fa fd) (hm : mg "is_int_in" = some (.ref fa)) (T_isinstance : mg "isinstance" = none) (T_int : mg "int" = none) (T_bool : mg "bool" = none) : FnD P w kf.K mg base 1 "is_int_in" 3 phi_is_int_in := fnD_fn F hm sc_is_int_in (F.binds (ps := ["value", "low", "high"]) fun _ _ _ _ _ _ us hl => match us, hl with | [_, _, _], _ => rfl) rfl (bd_is_int_in T_isinstance T_int T_bool)
abbrev s_check_marks : Stmt := top 8
abbrev N_check_marks : List Str := ["marks", "position", "mark"]
theorem sc_check_marks : FnScope N_check_marks ["marks"] (defScope s_check_marks) := ⟨rfl, rfl, rfl, by decide +kernel, rfl, by decide +kernel, by decide +kernel⟩
theorem bd_check_marks {tk_MIN_SEATS tk_MAX_SEATS tk_MAX_MARK : Tok} (T_enumerate : mg "enumerate" = none) (T_MIN_SEATS : mg "MIN_SEATS" = some (.int 3 tk_MIN_SEATS)) (T_isinstance : mg "isinstance" = none) (T_tuple : mg "tuple" = none) (T_len : mg "len" = none) (T_MAX_SEATS : mg "MAX_SEATS" = some (.int 8 tk_MAX_SEATS)) (T_is_int_in : FnD P w kf.K mg base 1 "is_int_in" 3 phi_is_int_in) (T_MAX_MARK : mg "MAX_MARK" = some (.int 1000000 tk_MAX_MARK)) : Bd P w kf.K mg base N_check_marks "check_marks" s_check_marks 1 (ir_check_marks false) := fun n f cdv A outer s H E hr => by
  have nd := sc_check_marks.nd
  have hu := hr.units
  have hu0 := hr.units0
  exact (dss_cons (dst_if (dt_not (DB.t (DE.b (de_isi T_isinstance (db_var (pv 0)) (pe_bltn (v := .ty "tuple") (by rfl) T_tuple (by decide +kernel) rfl))))) (dss_cons (dst_nev)
    dss_nil) dss_nil)
    (dss_cons (dst_for (passes_of rfl) rfl (ds_enum T_enumerate (DE.f (de_var (pv 0)))) (pg_tup (n := 2) rfl (pgs_cons (pg_name (i := 1) nd rfl (by first | exact Or.inl rfl | exact Or.inr rfl)) (pgs_cons (pg_name (i := 2) nd rfl (by first | exact Or.inl rfl | exact Or.inr rfl)) pgs_nil))) (gok_tup [1, 2]) (dss_cons (dst_if (PW.pt (dw_or (dt_eq hu (dl_var (pv 1)) (DE.b (de_cst (pe_glob (by rfl) T_MAX_SEATS rel_int) (fun _ => .int _)))) (dw_or1 (dt_not (DB.t (DE.b (de_callD T_is_int_in (hr.mono (by decide)) (takes_of rfl rfl rfl rfl) (da_cons (DE.f (de_var (pv 2))) (da_cons (DE.f (de_sub (DE.l (de_int)) (DE.b (de_cst (pe_glob (by rfl) T_MAX_MARK rel_int) (fun _ => .int _))))) (da_cons (DE.f (de_cst (pe_glob (by rfl) T_MAX_MARK rel_int) (fun _ => .int _))) da_nil)))))))))) (dss_cons (dst_nev)
    dss_nil) dss_nil)
    dss_nil))
    (dss_cons (dst_if (dt_lt hu0 (DE.l (de_len T_len (db_var (pv 0)))) (DE.b (de_cst (pe_glob (by rfl) T_MIN_SEATS rel_int) (fun _ => .int _)))) (dss_cons (dst_nev)
    dss_nil) dss_nil)
    dss_nil)))
theorem fd_check_marks {tk_MIN_SEATS tk_MAX_SEATS tk_MAX_MARK : Tok} {fa : Addr} {fd : FuncData} (F : Fun kf.K "check_marks" "check_marks" s_check_marks fa fd) (hm : mg "check_marks" = some (.ref fa)) (T_enumerate : mg "enumerate" = none) (T_MIN_SEATS : mg "MIN_SEATS" = some (.int 3 tk_MIN_SEATS)) (T_isinstance : mg "isinstance" = none) (T_tuple : mg "tuple" = none) (T_len : mg "len" = none) (T_MAX_SEATS : mg "MAX_SEATS" = some (.int 8 tk_MAX_SEATS)) (T_is_int_in : FnD P w kf.K mg base 1 "is_int_in" 3 phi_is_int_in) (T_MAX_MARK : mg "MAX_MARK" = some (.int 1000000 tk_MAX_MARK)) : FnD P w kf.K mg base 2 "check_marks" 1 (phi_check_marks false) := fnD_fn F hm sc_check_marks (F.binds (ps := ["marks"]) fun _ _ _ _ _ _ us hl => match us, hl with | [_], _ => rfl) rfl (bd_check_marks T_enumerate T_MIN_SEATS T_isinstance T_tuple T_len T_MAX_SEATS T_is_int_in T_MAX_MARK)
abbrev s_greatest_common : Stmt := top 10
abbrev N_greatest_common : List Str := ["values", "result", "value"]
theorem sc_greatest_common : FnScope N_greatest_common ["values"] (defScope s_greatest_common) := ⟨rfl, rfl, rfl, by decide +kernel, rfl, by decide +kernel, by decide +kernel⟩
theorem bd_greatest_common (T_abs : mg "abs" = none) : Bd P w kf.K mg base N_greatest_common "greatest_common" s_greatest_common 0 ir_greatest_common := fun n f cdv A outer s H E hr => by
  have nd := sc_greatest_common.nd
  have hu := hr.units
  have hu0 := hr.units0
  exact (dss_cons (dst_set nd (de_int))
    (dss_cons (dst_for (passes_of rfl) rfl (ds_seq (DE.f (de_var (pv 0)))) (pg_name (i := 2) nd rfl (by first | exact Or.inl rfl | exact Or.inr rfl)) (gok_one 2) (dss_cons (dst_set nd (de_abs T_abs (db_var (pv 2))))
    (dss_cons (dst_whl (passes_of rfl) (dt_gt (dl_var (pv 2)) (DE.b (de_int))) (dss_cons (dst_par2 rfl nd (dal_cons (de_var (pv 2)) (dal_cons (de_mod (dl_var (pv 1)) (db_var (pv 2))) dal_nil)))
    dss_nil))
    dss_nil)))
    (dss_cons (dst_ret (de_mv (pv 1)))
    dss_nil)))
theorem fd_greatest_common {fa : Addr} {fd : FuncData} (F : Fun kf.K "greatest_common" "greatest_common" s_greatest_common fa fd) (hm : mg "greatest_common" = some (.ref fa)) (T_abs : mg "abs" = none) : FnD P w kf.K mg base 1 "greatest_common" 1 phi_greatest_common := fnD_fn F hm sc_greatest_common (F.binds (ps := ["values"]) fun _ _ _ _ _ _ us hl => match us, hl with | [_], _ => rfl) rfl (bd_greatest_common T_abs)
abbrev s_modulus_of : Stmt := top 11
abbrev N_modulus_of : List Str := ["steps", "step"]
theorem sc_modulus_of : FnScope N_modulus_of ["steps"] (defScope s_modulus_of) := ⟨rfl, rfl, rfl, by decide +kernel, rfl, by decide +kernel, by decide +kernel⟩
theorem bd_modulus_of (T_greatest_common : FnD P w kf.K mg base 1 "greatest_common" 1 phi_greatest_common) : Bd P w kf.K mg base N_modulus_of "modulus_of" s_modulus_of 1 ir_modulus_of := fun n f cdv A outer s H E hr => by
  have nd := sc_modulus_of.nd
  have hu := hr.units
  have hu0 := hr.units0
  exact (dss_cons (dst_ret (de_callD T_greatest_common (hr.mono (by decide)) (takes_of rfl rfl rfl rfl) (da_cons (DE.f (de_lc rfl nd (own := [("step", 1)]) (ds_seq (DE.f (de_var (pv 0)))) (blkOk_by (N := N_modulus_of) (sc := defScope s_modulus_of) (by decide +kernel)) (fun _ _ _ _ _ => (pg_name (i := 1) nd rfl (by first | exact Or.inl rfl | exact Or.inr rfl))) (gok_one 1) (by decide) (fun _ _ _ _ _ => dc_none) (fun _ _ _ _ _ => (DE.f (de_sub (dl_var (pv 1)) (DE.b (de_idx (dl_var (pv 0)) (DE.b (de_int))))))))) da_nil)))
    dss_nil)
theorem fd_modulus_of {fa : Addr} {fd : FuncData} (F : Fun kf.K "modulus_of" "modulus_of" s_modulus_of fa fd) (hm : mg "modulus_of" = some (.ref fa)) (T_greatest_common : FnD P w kf.K mg base 1 "greatest_common" 1 phi_greatest_common) : FnD P w kf.K mg base 2 "modulus_of" 1 phi_modulus_of := fnD_fn F hm sc_modulus_of (F.binds (ps := ["steps"]) fun _ _ _ _ _ _ us hl => match us, hl with | [_], _ => rfl) rfl (bd_modulus_of T_greatest_common)
abbrev s_steps_of : Stmt := top 9
abbrev N_steps_of : List Str := ["marks", "seat", "mark"]
theorem sc_steps_of : FnScope N_steps_of ["marks"] (defScope s_steps_of) := ⟨rfl, rfl, rfl, by decide +kernel, rfl, by decide +kernel, by decide +kernel⟩
theorem bd_steps_of (T_tuple : mg "tuple" = none) (T_enumerate : mg "enumerate" = none) (T_len : mg "len" = none) : Bd P w kf.K mg base N_steps_of "steps_of" s_steps_of 0 ir_steps_of := fun n f cdv A outer s H E hr => by
  have nd := sc_steps_of.nd
  have hu := hr.units
  have hu0 := hr.units0
  exact (dss_cons (dst_ret (de_tuple T_tuple (DE.b (de_lc rfl nd (own := [("seat", 1), ("mark", 2)]) (ds_enum T_enumerate (DE.f (de_var (pv 0)))) (blkOk_by (N := N_steps_of) (sc := defScope s_steps_of) (by decide +kernel)) (fun _ _ _ _ _ => (pg_tup (n := 2) rfl (pgs_cons (pg_name (i := 1) nd rfl (by first | exact Or.inl rfl | exact Or.inr rfl)) (pgs_cons (pg_name (i := 2) nd rfl (by first | exact Or.inl rfl | exact Or.inr rfl)) pgs_nil)))) (gok_tup [1, 2]) (by decide) (fun _ _ _ _ _ => dc_none) (fun _ _ _ _ _ => (DE.f (de_sub (DE.l (de_idx (dl_var (pv 0)) (DE.b (de_mod (DE.l (de_add (dl_var (pv 1)) (DE.b (de_int)))) (DE.b (de_len T_len (db_var (pv 0)))))))) (db_var (pv 2)))))))))
    dss_nil)
theorem fd_steps_of {fa : Addr} {fd : FuncData} (F : Fun kf.K "steps_of" "steps_of" s_steps_of fa fd) (hm : mg "steps_of" = some (.ref fa)) (T_tuple : mg "tuple" = none) (T_enumerate : mg "enumerate" = none) (T_len : mg "len" = none) : FnD P w kf.K mg base 1 "steps_of" 1 phi_steps_of := fnD_fn F hm sc_steps_of (F.binds (ps := ["marks"]) fun _ _ _ _ _ _ us hl => match us, hl with | [_], _ => rfl) rfl (bd_steps_of T_tuple T_enumerate T_len)
abbrev s_difference : Stmt := top 13
abbrev N_difference : List Str := ["first", "second", "here", "there", "step", "modulus", "one", "other"]
theorem sc_difference : FnScope N_difference ["first", "second"] (defScope s_difference) := ⟨rfl, rfl, rfl, by decide +kernel, rfl, by decide +kernel, by decide +kernel⟩
theorem bd_difference (T_sorted : mg "sorted" = none) (T_modulus_of : FnD P w kf.K mg base 2 "modulus_of" 1 phi_modulus_of) (T_len : mg "len" = none) (T_steps_of : FnD P w kf.K mg base 1 "steps_of" 1 phi_steps_of) : Bd P w kf.K mg base N_difference "difference" s_difference 2 ir_difference := fun n f cdv A outer s H E hr => by
  have nd := sc_difference.nd
  have hu := hr.units
  have hu0 := hr.units0
  exact (dss_cons (dst_if (dt_ne hu (DE.l (de_len T_len (db_var (pv 0)))) (DE.b (de_len T_len (db_var (pv 1))))) (dss_cons (dst_ret (de_tup (da_cons (DE.f (de_str)) (da_cons (DE.f (de_len T_len (db_var (pv 0)))) (da_cons (DE.f (de_len T_len (db_var (pv 1)))) da_nil)))))
    dss_nil) dss_nil)
    (dss_cons (dst_par2 rfl nd (dal_cons (de_callD T_steps_of (hr.mono (by decide)) (takes_of rfl rfl rfl rfl) (da_cons (DE.f (de_var (pv 0))) da_nil)) (dal_cons (de_callD T_steps_of (hr.mono (by decide)) (takes_of rfl rfl rfl rfl) (da_cons (DE.f (de_var (pv 1))) da_nil)) dal_nil)))
    (dss_cons (dst_for (passes_of rfl) rfl (ds_seq (DE.f (de_sorted T_sorted (DE.b (de_add (dl_var (pv 2)) (db_var (pv 3))))))) (pg_name (i := 4) nd rfl (by first | exact Or.inl rfl | exact Or.inr rfl)) (gok_one 4) (dss_cons (dst_if (dt_ne hu (DE.l (de_cnt (pv 2) (pv 4))) (DE.b (de_cnt (pv 3) (pv 4)))) (dss_cons (dst_ret (de_tup (da_cons (DE.f (de_str)) (da_cons (DE.f (de_var (pv 4))) (da_cons (DE.f (de_cnt (pv 2) (pv 4))) (da_cons (DE.f (de_cnt (pv 3) (pv 4))) da_nil))))))
    dss_nil) dss_nil)
    dss_nil))
    (dss_cons (dst_set nd (de_callD T_modulus_of (hr.mono (by decide)) (takes_of rfl rfl rfl rfl) (da_cons (DE.f (de_var (pv 2))) da_nil)))
    (dss_cons (dst_par2 rfl nd (dal_cons (de_idx (dl_var (pv 0)) (DE.b (de_int))) (dal_cons (de_idx (dl_var (pv 1)) (DE.b (de_int))) dal_nil)))
    (dss_cons (dst_if (dt_gt (dl_var (pv 5)) (DE.b (de_int))) (dss_cons (dst_par2 rfl nd (dal_cons (de_mod (dl_var (pv 6)) (db_var (pv 5))) (dal_cons (de_mod (dl_var (pv 7)) (db_var (pv 5))) dal_nil)))
    dss_nil) dss_nil)
    (dss_cons (dst_ret (de_ife (dt_eq hu (dl_var (pv 6)) (db_var (pv 7))) (de_non) (de_tup (da_cons (DE.f (de_str)) (da_cons (DE.f (de_var (pv 6))) (da_cons (DE.f (de_var (pv 7))) da_nil))))))
    dss_nil)))))))
theorem fd_difference {fa : Addr} {fd : FuncData} (F : Fun kf.K "difference" "difference" s_difference fa fd) (hm : mg "difference" = some (.ref fa)) (T_sorted : mg "sorted" = none) (T_modulus_of : FnD P w kf.K mg base 2 "modulus_of" 1 phi_modulus_of) (T_len : mg "len" = none) (T_steps_of : FnD P w kf.K mg base 1 "steps_of" 1 phi_steps_of) : FnD P w kf.K mg base 3 "difference" 2 phi_difference := fnD_fn F hm sc_difference (F.binds (ps := ["first", "second"]) fun _ _ _ _ _ _ us hl => match us, hl with | [_, _], _ => rfl) rfl (bd_difference T_sorted T_modulus_of T_len T_steps_of)
abbrev s_find_difference : Stmt := top 14
abbrev N_find_difference : List Str := ["first", "second"]
theorem sc_find_difference : FnScope N_find_difference ["first", "second"] (defScope s_find_difference) := ⟨rfl, rfl, rfl, by decide +kernel, rfl, by decide +kernel, by decide +kernel⟩
theorem bd_find_difference (T_check_marks : FnD P w kf.K mg base 2 "check_marks" 1 (phi_check_marks false)) (T_difference : FnD P w kf.K mg base 3 "difference" 2 phi_difference) : Bd P w kf.K mg base N_find_difference "find_difference" s_find_difference 3 (ir_find_difference false) := fun n f cdv A outer s H E hr => by
  have nd := sc_find_difference.nd
  have hu := hr.units
  have hu0 := hr.units0
  exact (dss_cons (dst_expr (de_callD T_check_marks (hr.mono (by decide)) (takes_of rfl rfl rfl rfl) (da_cons (DE.f (de_var (pv 0))) da_nil)))
    (dss_cons (dst_expr (de_callD T_check_marks (hr.mono (by decide)) (takes_of rfl rfl rfl rfl) (da_cons (DE.f (de_var (pv 1))) da_nil)))
    (dss_cons (dst_ret (de_callD T_difference (hr.mono (by decide)) (takes_of rfl rfl rfl rfl) (da_cons (DE.f (de_var (pv 0))) (da_cons (DE.f (de_var (pv 1))) da_nil))))
    dss_nil)))
theorem fd_find_difference {fa : Addr} {fd : FuncData} (F : Fun kf.K "find_difference" "find_difference" s_find_difference fa fd) (hm : mg "find_difference" = some (.ref fa)) (T_check_marks : FnD P w kf.K mg base 2 "check_marks" 1 (phi_check_marks false)) (T_difference : FnD P w kf.K mg base 3 "difference" 2 phi_difference) : FnD P w kf.K mg base 4 "find_difference" 2 (phi_find_difference false) := fnD_fn F hm sc_find_difference (F.binds (ps := ["first", "second"]) fun _ _ _ _ _ _ us hl => match us, hl with | [_, _], _ => rfl) rfl (bd_find_difference T_check_marks T_difference)
abbrev s_law : Stmt := top 28
abbrev N_law : List Str := ["_law_script", "_law_d", "_law_turn", "_law_first", "_law_second", "_law_expected"]
theorem sc_law : FnScope N_law ["_law_script"] (defScope s_law) := ⟨rfl, rfl, rfl, by decide +kernel, rfl, by decide +kernel, by decide +kernel⟩
noncomputable def b0_law : Sxs := .cons (.asg 3 (.callM phi__law_marks 1 (.nil)))
    (.cons (.asg 4 (.callM phi__law_other 1 (.cons (.var 3) (.nil))))
    (.cons (.asg 5 (.call phi__law_difference (.cons (.var 3) (.cons (.var 4) (.nil)))))
    (.cons (.iff (.nt (.call (phi__law_equal 6) (.cons (.call (phi_find_difference false) (.cons (.var 3) (.cons (.var 4) (.nil)))) (.cons (.var 5) (.nil))))) (.cons (.ret (.cst (.bool false)))
    (.nil)) (.nil))
    (.cons (.iff (.cmp .NotEq (.cmp .Is (.call (phi_find_difference false) (.cons (.var 4) (.cons (.var 3) (.nil)))) (.cst .none)) (.cmp .Is (.var 5) (.cst .none))) (.cons (.ret (.cst (.bool false)))
    (.nil)) (.nil))
    (.nil)))))
noncomputable def ir_law : Sxs := .cons (.forr (.one 2) (.rng1 (.cst (.int 4))) (b0_law))
    (.cons (.ret (.cst (.bool true)))
    (.nil))
theorem bd_law (T_range : mg "range" = none) (T__law_marks : FnM P w kf.K mg base 2 "_law_marks" 0 phi__law_marks) (T__law_other : FnM P w kf.K mg base 3 "_law_other" 1 phi__law_other) (T__law_difference : FnD P w kf.K mg base 3 "_law_difference" 2 phi__law_difference) (T__law_equal : FnD P w kf.K mg base 7 "_law_equal" 2 (phi__law_equal 6)) (T_find_difference : FnD P w kf.K mg base 4 "find_difference" 2 (phi_find_difference false)) (n : Nat) (f : Addr) (cdv : Value) (A : Around) (outer : List Env) (s : Shared) (H : Hp) (E : XK) (hr : Room 7 (A.deeper (envOfC "law" (defScope s_law) s.heap.objs.size f cdv))) :
    DSs (cxOf (L2.CX P w) P w kf.K mg base N_law "law" (defScope s_law) f cdv A outer s H E) E n (defBody s_law).tail ir_law := by
  have nd := sc_law.nd
  have hu := hr.units
  have hu0 := hr.units0
  exact (dss_cons (dst_for (passes_of rfl) rfl (ds_rng1 T_range (DE.b (de_int))) (pg_name (i := 2) nd rfl (by first | exact Or.inl rfl | exact Or.inr rfl)) (gok_one 2) (dss_cons (dst_set nd (de_callM T__law_marks (hr.mono (by decide)) (takes_of rfl rfl rfl rfl) (pv 1) da_nil))
    (dss_cons (dst_set nd (de_callM T__law_other (hr.mono (by decide)) (takes_of rfl rfl rfl rfl) (pv 1) (da_cons (DE.f (de_var (pv 3))) da_nil)))
    (dss_cons (dst_set nd (de_callD T__law_difference (hr.mono (by decide)) (takes_of rfl rfl rfl rfl) (da_cons (DE.f (de_var (pv 3))) (da_cons (DE.f (de_var (pv 4))) da_nil))))
    (dss_cons (dst_if (dt_not (DB.t (DE.b (de_callD T__law_equal (hr.mono (by decide)) (takes_of rfl rfl rfl rfl) (da_cons (DE.f (de_callD T_find_difference (hr.mono (by decide)) (takes_of rfl rfl rfl rfl) (da_cons (DE.f (de_var (pv 3))) (da_cons (DE.f (de_var (pv 4))) da_nil)))) (da_cons (DE.f (de_var (pv 5))) da_nil)))))) (dss_cons (dst_ret (de_bl))
    dss_nil) dss_nil)
    (dss_cons (dst_if (dt_ne hu (DE.l (de_is (DE.l (de_callD T_find_difference (hr.mono (by decide)) (takes_of rfl rfl rfl rfl) (da_cons (DE.f (de_var (pv 4))) (da_cons (DE.f (de_var (pv 3))) da_nil)))) (DE.b (de_non)))) (DE.b (de_is (dl_var (pv 5)) (DE.b (de_non))))) (dss_cons (dst_ret (de_bl))
    dss_nil) dss_nil)
    dss_nil))))))
    (dss_cons (dst_ret (de_bl))
    dss_nil))
theorem lw {fa fR : Addr} {fd fdR : FuncData} (F : Fun kf.K "law" "law" s_law fa fd) (FR : FnOk P w kf.K mg base (L2.CX P w) 1 fR fdR ["_law_script", "_law_salt"] (spRand kf.K)) (mR : mg "_law_random" = some (.ref fR)) (kR : PySem.W.keepIn kf.K (.ref fR) = true) (bR : Binds kf.K fdR ["_law_script", "_law_salt"] []) (T_range : mg "range" = none) (T__law_marks : FnM P w kf.K mg base 2 "_law_marks" 0 phi__law_marks) (T__law_other : FnM P w kf.K mg base 3 "_law_other" 1 phi__law_other) (T__law_difference : FnD P w kf.K mg base 3 "_law_difference" 2 phi__law_difference) (T__law_equal : FnD P w kf.K mg base 7 "_law_equal" 2 (phi__law_equal 6)) (T_find_difference : FnD P w kf.K mg base 4 "find_difference" 2 (phi_find_difference false))
    (plain : ∀ ns : List Int, ns.length ≤ 63 → ∃ n en', execs n ir_law (lawEn 4 ns 6) = .ok (.rt (.fr (.bool true)) en')) : FnOk P w kf.K mg base (L2.CX P w) 8 fa fd ["_law_script"] (spLaw kf.K) := by
  refine ok_law (st0 := (defBody s_law).head (by decide +kernel)) (rest := (defBody s_law).tail) (b := ir_law) F sc_law (m := 4) rfl (by rfl) (z := 6) (E' := fun E σ => WE (wE E) σ) ⟨by decide, by decide⟩ (fun f cdv A outer s H E hr => ?_) (fun n f cdv A outer s H E hr => bd_law T_range T__law_marks T__law_other T__law_difference T__law_equal T_find_difference n f cdv A outer s H E hr) plain
  have nd := sc_law.nd
  exact ps_set (i := 1) nd rfl (by first | exact Or.inl rfl | exact Or.inr rfl) (pe_callSD FR (hr.mono (by decide)) (by rfl) mR kR bR .nil (fun σ => passAt (takes_of rfl rfl rfl rfl) σ) (pa_cons (pv 0) (pa_cons pe_int pa_nil)))
end
theorem all_mk {l : PySem.W.OpenLaw} {w : World} {K : PySem.W.Frag} {h : Heap} {mg : Str → Option Value} {fa : Addr} (X : K.In h) (G : h.Ns mainGlobals mg) (hfa : mg "law" = some (.ref fa))
    {f0 : Addr} {od0 an0 : Option Addr} {sl0 : Array (Option Value)} {oc0 kV0 dc0 pm0 cd0 ct0 : Value}
    {f1 : Addr} {od1 an1 : Option Addr} {sl1 : Array (Option Value)} {oc1 kV1 dc1 pm1 cd1 ct1 : Value}
    {f2 : Addr} {od2 an2 : Option Addr} {sl2 : Array (Option Value)} {oc2 kV2 dc2 pm2 cd2 ct2 : Value}
    {f3 : Addr} {od3 an3 : Option Addr} {sl3 : Array (Option Value)} {oc3 kV3 dc3 pm3 cd3 ct3 : Value}
    {f4 : Addr} {od4 an4 : Option Addr} {sl4 : Array (Option Value)} {oc4 kV4 dc4 pm4 cd4 ct4 : Value}
    {f5 : Addr} {od5 an5 : Option Addr} {sl5 : Array (Option Value)} {oc5 kV5 dc5 pm5 cd5 ct5 : Value}
    {f6 : Addr} {od6 an6 : Option Addr} {sl6 : Array (Option Value)} {oc6 kV6 dc6 pm6 cd6 ct6 : Value}
    {f7 : Addr} {od7 an7 : Option Addr} {sl7 : Array (Option Value)} {oc7 kV7 dc7 pm7 cd7 ct7 : Value}
    {f8 : Addr} {od8 an8 : Option Addr} {sl8 : Array (Option Value)} {oc8 kV8 dc8 pm8 cd8 ct8 : Value}
    {f9 : Addr} {od9 an9 : Option Addr} {sl9 : Array (Option Value)} {oc9 kV9 dc9 pm9 cd9 ct9 : Value}
    {f10 : Addr} {od10 an10 : Option Addr} {sl10 : Array (Option Value)} {oc10 kV10 dc10 pm10 cd10 ct10 : Value}
    {f11 : Addr} {od11 an11 : Option Addr} {sl11 : Array (Option Value)} {oc11 kV11 dc11 pm11 cd11 ct11 : Value}
    {f12 : Addr} {od12 an12 : Option Addr} {sl12 : Array (Option Value)} {oc12 kV12 dc12 pm12 cd12 ct12 : Value}
    {f13 : Addr} {od13 an13 : Option Addr} {sl13 : Array (Option Value)} {oc13 kV13 dc13 pm13 cd13 ct13 : Value}
    {f14 : Addr} {od14 an14 : Option Addr} {sl14 : Array (Option Value)} {oc14 kV14 dc14 pm14 cd14 ct14 : Value}
    {f15 : Addr} {od15 an15 : Option Addr} {sl15 : Array (Option Value)} {oc15 kV15 dc15 pm15 cd15 ct15 : Value}
    {f16 : Addr} {od16 an16 : Option Addr} {sl16 : Array (Option Value)} {oc16 kV16 dc16 pm16 cd16 ct16 : Value}
    {f17 : Addr} {od17 an17 : Option Addr} {sl17 : Array (Option Value)} {oc17 kV17 dc17 pm17 cd17 ct17 : Value}
    {f18 : Addr} {od18 an18 : Option Addr} {sl18 : Array (Option Value)} {oc18 kV18 dc18 pm18 cd18 ct18 : Value}
    {f19 : Addr} {od19 an19 : Option Addr} {sl19 : Array (Option Value)} {oc19 kV19 dc19 pm19 cd19 ct19 : Value}
    {tk_MIN_SEATS : Tok}
    {tk_MAX_SEATS : Tok}
    {tk_MAX_MARK : Tok}
    (a0 : PySem.W.nsIn K mainGlobals "_law_random" = some (some (.ref f0))) (l0 : K.lookup f0 = some ⟨oc0, od0, .func (PySem.W.fnOf "_law_random" "_law_random" (defArgs s__law_random) (defBody s__law_random) (defScope s__law_random) .none kV0 dc0 pm0 an0 cd0 ct0), sl0⟩) (c0 : PySem.W.codeIn K cd0 "_law_random" = true) (k0 : PySem.W.keepIn K (.ref f0) = true)
    (a1 : PySem.W.nsIn K mainGlobals "_law_below" = some (some (.ref f1))) (l1 : K.lookup f1 = some ⟨oc1, od1, .func (PySem.W.fnOf "_law_below" "_law_below" (defArgs s__law_below) (defBody s__law_below) (defScope s__law_below) .none kV1 dc1 pm1 an1 cd1 ct1), sl1⟩) (c1 : PySem.W.codeIn K cd1 "_law_below" = true) (k1 : PySem.W.keepIn K (.ref f1) = true)
    (a2 : PySem.W.nsIn K mainGlobals "_law_marks" = some (some (.ref f2))) (l2 : K.lookup f2 = some ⟨oc2, od2, .func (PySem.W.fnOf "_law_marks" "_law_marks" (defArgs s__law_marks) (defBody s__law_marks) (defScope s__law_marks) .none kV2 dc2 pm2 an2 cd2 ct2), sl2⟩) (c2 : PySem.W.codeIn K cd2 "_law_marks" = true) (k2 : PySem.W.keepIn K (.ref f2) = true)
    (a3 : PySem.W.nsIn K mainGlobals "_law_reflected" = some (some (.ref f3))) (l3 : K.lookup f3 = some ⟨oc3, od3, .func (PySem.W.fnOf "_law_reflected" "_law_reflected" (defArgs s__law_reflected) (defBody s__law_reflected) (defScope s__law_reflected) .none kV3 dc3 pm3 an3 cd3 ct3), sl3⟩) (c3 : PySem.W.codeIn K cd3 "_law_reflected" = true) (k3 : PySem.W.keepIn K (.ref f3) = true)
    (a4 : PySem.W.nsIn K mainGlobals "_law_all_reflected" = some (some (.ref f4))) (l4 : K.lookup f4 = some ⟨oc4, od4, .func (PySem.W.fnOf "_law_all_reflected" "_law_all_reflected" (defArgs s__law_all_reflected) (defBody s__law_all_reflected) (defScope s__law_all_reflected) .none kV4 dc4 pm4 an4 cd4 ct4), sl4⟩) (c4 : PySem.W.codeIn K cd4 "_law_all_reflected" = true) (k4 : PySem.W.keepIn K (.ref f4) = true)
    (a5 : PySem.W.nsIn K mainGlobals "_law_seats" = some (some (.ref f5))) (l5 : K.lookup f5 = some ⟨oc5, od5, .func (PySem.W.fnOf "_law_seats" "_law_seats" (defArgs s__law_seats) (defBody s__law_seats) (defScope s__law_seats) .none kV5 dc5 pm5 an5 cd5 ct5), sl5⟩) (c5 : PySem.W.codeIn K cd5 "_law_seats" = true) (k5 : PySem.W.keepIn K (.ref f5) = true)
    (a6 : PySem.W.nsIn K mainGlobals "_law_shuffled" = some (some (.ref f6))) (l6 : K.lookup f6 = some ⟨oc6, od6, .func (PySem.W.fnOf "_law_shuffled" "_law_shuffled" (defArgs s__law_shuffled) (defBody s__law_shuffled) (defScope s__law_shuffled) .none kV6 dc6 pm6 an6 cd6 ct6), sl6⟩) (c6 : PySem.W.codeIn K cd6 "_law_shuffled" = true) (k6 : PySem.W.keepIn K (.ref f6) = true)
    (a7 : PySem.W.nsIn K mainGlobals "_law_differences" = some (some (.ref f7))) (l7 : K.lookup f7 = some ⟨oc7, od7, .func (PySem.W.fnOf "_law_differences" "_law_differences" (defArgs s__law_differences) (defBody s__law_differences) (defScope s__law_differences) .none kV7 dc7 pm7 an7 cd7 ct7), sl7⟩) (c7 : PySem.W.codeIn K cd7 "_law_differences" = true) (k7 : PySem.W.keepIn K (.ref f7) = true)
    (a8 : PySem.W.nsIn K mainGlobals "_law_common" = some (some (.ref f8))) (l8 : K.lookup f8 = some ⟨oc8, od8, .func (PySem.W.fnOf "_law_common" "_law_common" (defArgs s__law_common) (defBody s__law_common) (defScope s__law_common) .none kV8 dc8 pm8 an8 cd8 ct8), sl8⟩) (c8 : PySem.W.codeIn K cd8 "_law_common" = true) (k8 : PySem.W.keepIn K (.ref f8) = true)
    (a9 : PySem.W.nsIn K mainGlobals "_law_other" = some (some (.ref f9))) (l9 : K.lookup f9 = some ⟨oc9, od9, .func (PySem.W.fnOf "_law_other" "_law_other" (defArgs s__law_other) (defBody s__law_other) (defScope s__law_other) .none kV9 dc9 pm9 an9 cd9 ct9), sl9⟩) (c9 : PySem.W.codeIn K cd9 "_law_other" = true) (k9 : PySem.W.keepIn K (.ref f9) = true)
    (a10 : PySem.W.nsIn K mainGlobals "_law_difference" = some (some (.ref f10))) (l10 : K.lookup f10 = some ⟨oc10, od10, .func (PySem.W.fnOf "_law_difference" "_law_difference" (defArgs s__law_difference) (defBody s__law_difference) (defScope s__law_difference) .none kV10 dc10 pm10 an10 cd10 ct10), sl10⟩) (c10 : PySem.W.codeIn K cd10 "_law_difference" = true) (k10 : PySem.W.keepIn K (.ref f10) = true)
    (a11 : PySem.W.nsIn K mainGlobals "_law_equal" = some (some (.ref f11))) (l11 : K.lookup f11 = some ⟨oc11, od11, .func (PySem.W.fnOf "_law_equal" "_law_equal" (defArgs s__law_equal) (defBody s__law_equal) (defScope s__law_equal) .none kV11 dc11 pm11 an11 cd11 ct11), sl11⟩) (c11 : PySem.W.codeIn K cd11 "_law_equal" = true) (k11 : PySem.W.keepIn K (.ref f11) = true)
    (a12 : PySem.W.nsIn K mainGlobals "is_int_in" = some (some (.ref f12))) (l12 : K.lookup f12 = some ⟨oc12, od12, .func (PySem.W.fnOf "is_int_in" "is_int_in" (defArgs s_is_int_in) (defBody s_is_int_in) (defScope s_is_int_in) .none kV12 dc12 pm12 an12 cd12 ct12), sl12⟩) (c12 : PySem.W.codeIn K cd12 "is_int_in" = true) (k12 : PySem.W.keepIn K (.ref f12) = true)
    (a13 : PySem.W.nsIn K mainGlobals "check_marks" = some (some (.ref f13))) (l13 : K.lookup f13 = some ⟨oc13, od13, .func (PySem.W.fnOf "check_marks" "check_marks" (defArgs s_check_marks) (defBody s_check_marks) (defScope s_check_marks) .none kV13 dc13 pm13 an13 cd13 ct13), sl13⟩) (c13 : PySem.W.codeIn K cd13 "check_marks" = true) (k13 : PySem.W.keepIn K (.ref f13) = true)
    (a14 : PySem.W.nsIn K mainGlobals "greatest_common" = some (some (.ref f14))) (l14 : K.lookup f14 = some ⟨oc14, od14, .func (PySem.W.fnOf "greatest_common" "greatest_common" (defArgs s_greatest_common) (defBody s_greatest_common) (defScope s_greatest_common) .none kV14 dc14 pm14 an14 cd14 ct14), sl14⟩) (c14 : PySem.W.codeIn K cd14 "greatest_common" = true) (k14 : PySem.W.keepIn K (.ref f14) = true)
    (a15 : PySem.W.nsIn K mainGlobals "modulus_of" = some (some (.ref f15))) (l15 : K.lookup f15 = some ⟨oc15, od15, .func (PySem.W.fnOf "modulus_of" "modulus_of" (defArgs s_modulus_of) (defBody s_modulus_of) (defScope s_modulus_of) .none kV15 dc15 pm15 an15 cd15 ct15), sl15⟩) (c15 : PySem.W.codeIn K cd15 "modulus_of" = true) (k15 : PySem.W.keepIn K (.ref f15) = true)
    (a16 : PySem.W.nsIn K mainGlobals "steps_of" = some (some (.ref f16))) (l16 : K.lookup f16 = some ⟨oc16, od16, .func (PySem.W.fnOf "steps_of" "steps_of" (defArgs s_steps_of) (defBody s_steps_of) (defScope s_steps_of) .none kV16 dc16 pm16 an16 cd16 ct16), sl16⟩) (c16 : PySem.W.codeIn K cd16 "steps_of" = true) (k16 : PySem.W.keepIn K (.ref f16) = true)
    (a17 : PySem.W.nsIn K mainGlobals "difference" = some (some (.ref f17))) (l17 : K.lookup f17 = some ⟨oc17, od17, .func (PySem.W.fnOf "difference" "difference" (defArgs s_difference) (defBody s_difference) (defScope s_difference) .none kV17 dc17 pm17 an17 cd17 ct17), sl17⟩) (c17 : PySem.W.codeIn K cd17 "difference" = true) (k17 : PySem.W.keepIn K (.ref f17) = true)
    (a18 : PySem.W.nsIn K mainGlobals "find_difference" = some (some (.ref f18))) (l18 : K.lookup f18 = some ⟨oc18, od18, .func (PySem.W.fnOf "find_difference" "find_difference" (defArgs s_find_difference) (defBody s_find_difference) (defScope s_find_difference) .none kV18 dc18 pm18 an18 cd18 ct18), sl18⟩) (c18 : PySem.W.codeIn K cd18 "find_difference" = true) (k18 : PySem.W.keepIn K (.ref f18) = true)
    (a19 : PySem.W.nsIn K mainGlobals "law" = some (some (.ref f19))) (l19 : K.lookup f19 = some ⟨oc19, od19, .func (PySem.W.fnOf "law" "law" (defArgs s_law) (defBody s_law) (defScope s_law) .none kV19 dc19 pm19 an19 cd19 ct19), sl19⟩) (c19 : PySem.W.codeIn K cd19 "law" = true) (k19 : PySem.W.keepIn K (.ref f19) = true)
    (g_MIN_SEATS : PySem.W.nsIn K mainGlobals "MIN_SEATS" = some (some (.int 3 tk_MIN_SEATS)))
    (g_MAX_SEATS : PySem.W.nsIn K mainGlobals "MAX_SEATS" = some (some (.int 8 tk_MAX_SEATS)))
    (g_MAX_MARK : PySem.W.nsIn K mainGlobals "MAX_MARK" = some (some (.int 1000000 tk_MAX_MARK)))
    (g_abs : PySem.W.nsIn K mainGlobals "abs" = some none)
    (g_len : PySem.W.nsIn K mainGlobals "len" = some none)
    (g_tuple : PySem.W.nsIn K mainGlobals "tuple" = some none)
    (g_range : PySem.W.nsIn K mainGlobals "range" = some none)
    (g_list : PySem.W.nsIn K mainGlobals "list" = some none)
    (g_max : PySem.W.nsIn K mainGlobals "max" = some none)
    (g_min : PySem.W.nsIn K mainGlobals "min" = some none)
    (g_sorted : PySem.W.nsIn K mainGlobals "sorted" = some none)
    (g_set : PySem.W.nsIn K mainGlobals "set" = some none)
    (g_isinstance : PySem.W.nsIn K mainGlobals "isinstance" = some none)
    (g_bool : PySem.W.nsIn K mainGlobals "bool" = some none)
    (g_int : PySem.W.nsIn K mainGlobals "int" = some none)
    (g_str : PySem.W.nsIn K mainGlobals "str" = some none)
    (g_all : PySem.W.nsIn K mainGlobals "all" = some none)
    (g_enumerate : PySem.W.nsIn K mainGlobals "enumerate" = some none)
    (plain : ∀ ns : List Int, ns.length ≤ 63 → ∃ n en', execs n ir_law (lawEn 4 ns 6) = .ok (.rt (.fr (.bool true)) en')) :
    ∃ fd : FuncData, (∀ (s : Shared) (u : Value), BindsTo s fd ⟨[u], []⟩ [("_law_script", u)]) ∧ ∀ base : Heap, K.In base → base.Ns mainGlobals mg → FnOk l.prog w K mg base (L2.CX l.prog w) 8 fa fd ["_law_script"] (spLaw K) := by
  have e := hfa.symm.trans (PySem.W.mg_of X G a19)
  cases e
  have T_MIN_SEATS : mg "MIN_SEATS" = some (.int 3 tk_MIN_SEATS) := PySem.W.mg_of X G g_MIN_SEATS
  have T_MAX_SEATS : mg "MAX_SEATS" = some (.int 8 tk_MAX_SEATS) := PySem.W.mg_of X G g_MAX_SEATS
  have T_MAX_MARK : mg "MAX_MARK" = some (.int 1000000 tk_MAX_MARK) := PySem.W.mg_of X G g_MAX_MARK
  have T_abs : mg "abs" = none := PySem.W.mg_none_of X G g_abs
  have T_len : mg "len" = none := PySem.W.mg_none_of X G g_len
  have T_tuple : mg "tuple" = none := PySem.W.mg_none_of X G g_tuple
  have T_range : mg "range" = none := PySem.W.mg_none_of X G g_range
  have T_list : mg "list" = none := PySem.W.mg_none_of X G g_list
  have T_max : mg "max" = none := PySem.W.mg_none_of X G g_max
  have T_min : mg "min" = none := PySem.W.mg_none_of X G g_min
  have T_sorted : mg "sorted" = none := PySem.W.mg_none_of X G g_sorted
  have T_set : mg "set" = none := PySem.W.mg_none_of X G g_set
  have T_isinstance : mg "isinstance" = none := PySem.W.mg_none_of X G g_isinstance
  have T_bool : mg "bool" = none := PySem.W.mg_none_of X G g_bool
  have T_int : mg "int" = none := PySem.W.mg_none_of X G g_int
  have T_str : mg "str" = none := PySem.W.mg_none_of X G g_str
  have T_all : mg "all" = none := PySem.W.mg_none_of X G g_all
  have T_enumerate : mg "enumerate" = none := PySem.W.mg_none_of X G g_enumerate
  have F0 := fun_mk (st := s__law_random) l0 c0 k0
  have F1 := fun_mk (st := s__law_below) l1 c1 k1
  have F2 := fun_mk (st := s__law_marks) l2 c2 k2
  have F3 := fun_mk (st := s__law_reflected) l3 c3 k3
  have F4 := fun_mk (st := s__law_all_reflected) l4 c4 k4
  have F5 := fun_mk (st := s__law_seats) l5 c5 k5
  have F6 := fun_mk (st := s__law_shuffled) l6 c6 k6
  have F7 := fun_mk (st := s__law_differences) l7 c7 k7
  have F8 := fun_mk (st := s__law_common) l8 c8 k8
  have F9 := fun_mk (st := s__law_other) l9 c9 k9
  have F10 := fun_mk (st := s__law_difference) l10 c10 k10
  have F11 := fun_mk (st := s__law_equal) l11 c11 k11
  have F12 := fun_mk (st := s_is_int_in) l12 c12 k12
  have F13 := fun_mk (st := s_check_marks) l13 c13 k13
  have F14 := fun_mk (st := s_greatest_common) l14 c14 k14
  have F15 := fun_mk (st := s_modulus_of) l15 c15 k15
  have F16 := fun_mk (st := s_steps_of) l16 c16 k16
  have F17 := fun_mk (st := s_difference) l17 c17 k17
  have F18 := fun_mk (st := s_find_difference) l18 c18 k18
  have F19 := fun_mk (st := s_law) l19 c19 k19
  letI : KF := ⟨K⟩
  refine ⟨PySem.W.fnOf "law" "law" (defArgs s_law) (defBody s_law) (defScope s_law) .none kV19 dc19 pm19 an19 cd19 ct19, fun s v => .of_eq rfl, fun base _ _ => ?_⟩
  have FR : FnOk l.prog w K mg base (L2.CX l.prog w) 1 f0 _ ["_law_script", "_law_salt"] (spRand K) := ok__law_random F0 T_abs
  have T__law_below : FnM l.prog w K mg base 1 "_law_below" 1 phi__law_below := fd__law_below F1 (PySem.W.mg_of X G a1) T_len
  have T__law_marks : FnM l.prog w K mg base 2 "_law_marks" 0 phi__law_marks := fd__law_marks F2 (PySem.W.mg_of X G a2) T_tuple T__law_below T_range
  have T__law_reflected : FnD l.prog w K mg base 1 "_law_reflected" 2 phi__law_reflected := fd__law_reflected F3 (PySem.W.mg_of X G a3) T_len
  have T__law_all_reflected : FnD l.prog w K mg base 2 "_law_all_reflected" 2 phi__law_all_reflected := fd__law_all_reflected F4 (PySem.W.mg_of X G a4) T__law_reflected
  have T__law_seats : FnM l.prog w K mg base 2 "_law_seats" 2 phi__law_seats := fd__law_seats F5 (PySem.W.mg_of X G a5) T__law_below T_range
  have T__law_shuffled : FnM l.prog w K mg base 2 "_law_shuffled" 1 phi__law_shuffled := fd__law_shuffled F6 (PySem.W.mg_of X G a6) T_list T__law_below T_len
  have T__law_differences : FnD l.prog w K mg base 1 "_law_differences" 1 phi__law_differences := fd__law_differences F7 (PySem.W.mg_of X G a7) T_range T_len
  have T__law_common : FnD l.prog w K mg base 2 "_law_common" 1 phi__law_common := fd__law_common F8 (PySem.W.mg_of X G a8) T__law_differences T_abs
  have T__law_other : FnM l.prog w K mg base 3 "_law_other" 1 phi__law_other := fd__law_other F9 (PySem.W.mg_of X G a9) T__law_below T__law_all_reflected T__law_marks T__law_seats T__law_shuffled T_tuple T_len T__law_differences T_max T_min T__law_common
  have T__law_difference : FnD l.prog w K mg base 3 "_law_difference" 2 phi__law_difference := fd__law_difference F10 (PySem.W.mg_of X G a10) T_sorted T__law_common T_len T__law_differences T_set
  have T__law_equal : FnD l.prog w K mg base 7 "_law_equal" 2 (phi__law_equal 6) := fd__law_equal F11 (PySem.W.mg_of X G a11) T_isinstance T_bool T_int T_str T_all T_tuple T_list T_len T_range 6
  have T_is_int_in : FnD l.prog w K mg base 1 "is_int_in" 3 phi_is_int_in := fd_is_int_in F12 (PySem.W.mg_of X G a12) T_isinstance T_int T_bool
  have T_check_marks : FnD l.prog w K mg base 2 "check_marks" 1 (phi_check_marks false) := fd_check_marks F13 (PySem.W.mg_of X G a13) T_enumerate T_MIN_SEATS T_isinstance T_tuple T_len T_MAX_SEATS T_is_int_in T_MAX_MARK
  have T_greatest_common : FnD l.prog w K mg base 1 "greatest_common" 1 phi_greatest_common := fd_greatest_common F14 (PySem.W.mg_of X G a14) T_abs
  have T_modulus_of : FnD l.prog w K mg base 2 "modulus_of" 1 phi_modulus_of := fd_modulus_of F15 (PySem.W.mg_of X G a15) T_greatest_common
  have T_steps_of : FnD l.prog w K mg base 1 "steps_of" 1 phi_steps_of := fd_steps_of F16 (PySem.W.mg_of X G a16) T_tuple T_enumerate T_len
  have T_difference : FnD l.prog w K mg base 3 "difference" 2 phi_difference := fd_difference F17 (PySem.W.mg_of X G a17) T_sorted T_modulus_of T_len T_steps_of
  have T_find_difference : FnD l.prog w K mg base 4 "find_difference" 2 (phi_find_difference false) := fd_find_difference F18 (PySem.W.mg_of X G a18) T_check_marks T_difference
  exact lw F19 FR (PySem.W.mg_of X G a0) k0 (F0.binds (ps := ["_law_script", "_law_salt"]) fun _ _ _ _ _ _ us hl => match us, hl with | [_, _], _ => rfl) T_range T__law_marks T__law_other T__law_difference T__law_equal T_find_difference plain
end K06

namespace K06
open VS L2
open PySem (PyData)
theorem turn {n : Nat} {ms : List D} {a3 a4 a5 a2 : Option Sl} (hm : okD ms) (h : (a3 = none ∧ a4 = none ∧ a5 = none) ∨ ∃ x y z, a3 = some (.fr x) ∧ a4 = some (.fr y) ∧ a5 = some (.fr z)) :
    ∃ ms' x y z, execs n b0_law [none, some (.own ms), a2, a3, a4, a5] = .ok (.nx [none, some (.own ms'), a2, some (.fr x), some (.fr y), some (.fr z)]) ∧ okD ms' := by
  obtain ⟨ns, ms1, e1, m1, o1⟩ := marks_ok hm
  obtain ⟨ks, ms2, e2, m2, o2⟩ := other_ok m1 o1
  have := o1.1
  have := o2.1
  have e3 := ldifference_val (ns := ns) (ms := ks) (by omega) o1.2.1 (by omega) o2.2.1
  have e4 := find_difference_val false o1 o2
  have e5 := find_difference_val false o2 o1
  have sy := diff_sym (ns := ns) (ms := ks) (by omega) (by omega)
  have eq := equal_refl 6 (diffV ns ks) (fits_diff 4 ns ks)
  obtain ⟨V, hV⟩ : ∃ V, V = diffV ns ks := ⟨_, rfl⟩
  obtain ⟨U, hU⟩ : ∃ U, U = diffV ks ns := ⟨_, rfl⟩
  rw [← hV] at e3 e4 eq
  rw [← hU] at e5
  rw [← hV, ← hU] at sy
  refine ⟨ms2, .tuple (iL ns), .tuple (iL ks), V, ?_, m2⟩
  unfold b0_law
  rw [ex_nx (e1 := [none, some (.own ms1), a2, some (.fr (.tuple (iL ns))), a4, a5]) (by rcases h with ⟨rfl, rfl, rfl⟩ | ⟨x, y, z, rfl, rfl, rfl⟩ <;> simp only [runD, runM, evalB, execs, exec, evalE, evalA, evalO, evalC, evalS, evalL, brw, two, three, asVar_var, asVar_cst, asVar_mv, asVar_bin, asVar_neg, asVar_nt, asVar_cmp, asVar_chain, asVar_andE, asVar_orE, asVar_ife, asVar_tupE, asVar_lstE, asVar_idx, asVar_slc, asVar_call, asVar_callM, asVar_popI, asVar_bi, asVar_bi2, asVar_isi, rdE, rdL, putE, updE, putsE, mb0, setL_at0, setL_at1, intOf, bindT, augD, toD, binD, cmpD, eqD_int, eqD_str, eqD_bool, idxD, biD, isiD, isNone, itemsD, slcD, atI_zero, atI_one, strict, ok_bind, ex_bind, no_bind, List.map_cons, List.map_nil, List.replicate_succ, List.replicate_zero, List.cons_append, List.nil_append, List.append_nil, List.getElem?_cons_zero, List.getElem?_cons_succ, List.getElem?_nil, List.set_cons_zero, List.set_cons_succ, List.length_cons, List.length_nil, List.length_map, Bool.not_false, Bool.not_true, if_true, if_false, Bool.false_eq_true, List.eraseIdx_cons_succ, List.eraseIdx_cons_zero, and_self, true_and, and_true, ite_true, ite_false, decide_true, decide_false, ne_eq, not_false_eq_true, not_true_eq_false, true_or, or_true, reduceCtorEq, asVar_lrng, asVar_rev, asVar_idx3, asVar_popE, revD, lstD, e1])]
  rw [ex_nx (e1 := [none, some (.own ms2), a2, some (.fr (.tuple (iL ns))), some (.fr (.tuple (iL ks))), a5]) (by rcases h with ⟨rfl, rfl, rfl⟩ | ⟨x, y, z, rfl, rfl, rfl⟩ <;> simp only [runD, runM, evalB, execs, exec, evalE, evalA, evalO, evalC, evalS, evalL, brw, two, three, asVar_var, asVar_cst, asVar_mv, asVar_bin, asVar_neg, asVar_nt, asVar_cmp, asVar_chain, asVar_andE, asVar_orE, asVar_ife, asVar_tupE, asVar_lstE, asVar_idx, asVar_slc, asVar_call, asVar_callM, asVar_popI, asVar_bi, asVar_bi2, asVar_isi, rdE, rdL, putE, updE, putsE, mb0, setL_at0, setL_at1, intOf, bindT, augD, toD, binD, cmpD, eqD_int, eqD_str, eqD_bool, idxD, biD, isiD, isNone, itemsD, slcD, atI_zero, atI_one, strict, ok_bind, ex_bind, no_bind, List.map_cons, List.map_nil, List.replicate_succ, List.replicate_zero, List.cons_append, List.nil_append, List.append_nil, List.getElem?_cons_zero, List.getElem?_cons_succ, List.getElem?_nil, List.set_cons_zero, List.set_cons_succ, List.length_cons, List.length_nil, List.length_map, Bool.not_false, Bool.not_true, if_true, if_false, Bool.false_eq_true, List.eraseIdx_cons_succ, List.eraseIdx_cons_zero, and_self, true_and, and_true, ite_true, ite_false, decide_true, decide_false, ne_eq, not_false_eq_true, not_true_eq_false, true_or, or_true, reduceCtorEq, asVar_lrng, asVar_rev, asVar_idx3, asVar_popE, revD, lstD, e2])]
  rw [ex_nx (e1 := [none, some (.own ms2), a2, some (.fr (.tuple (iL ns))), some (.fr (.tuple (iL ks))), some (.fr V)]) (by rcases h with ⟨rfl, rfl, rfl⟩ | ⟨x, y, z, rfl, rfl, rfl⟩ <;> simp only [runD, runM, evalB, execs, exec, evalE, evalA, evalO, evalC, evalS, evalL, brw, two, three, asVar_var, asVar_cst, asVar_mv, asVar_bin, asVar_neg, asVar_nt, asVar_cmp, asVar_chain, asVar_andE, asVar_orE, asVar_ife, asVar_tupE, asVar_lstE, asVar_idx, asVar_slc, asVar_call, asVar_callM, asVar_popI, asVar_bi, asVar_bi2, asVar_isi, rdE, rdL, putE, updE, putsE, mb0, setL_at0, setL_at1, intOf, bindT, augD, toD, binD, cmpD, eqD_int, eqD_str, eqD_bool, idxD, biD, isiD, isNone, itemsD, slcD, atI_zero, atI_one, strict, ok_bind, ex_bind, no_bind, List.map_cons, List.map_nil, List.replicate_succ, List.replicate_zero, List.cons_append, List.nil_append, List.append_nil, List.getElem?_cons_zero, List.getElem?_cons_succ, List.getElem?_nil, List.set_cons_zero, List.set_cons_succ, List.length_cons, List.length_nil, List.length_map, Bool.not_false, Bool.not_true, if_true, if_false, Bool.false_eq_true, List.eraseIdx_cons_succ, List.eraseIdx_cons_zero, and_self, true_and, and_true, ite_true, ite_false, decide_true, decide_false, ne_eq, not_false_eq_true, not_true_eq_false, true_or, or_true, reduceCtorEq, asVar_lrng, asVar_rev, asVar_idx3, asVar_popE, revD, lstD, e3])]
  refine Eq.trans (iff_skip (e1 := ?e1) ?h1) ?g1
  case h1 => first | (simp only [runD, runM, evalB, execs, exec, evalE, evalA, evalO, evalC, evalS, evalL, brw, two, three, asVar_var, asVar_cst, asVar_mv, asVar_bin, asVar_neg, asVar_nt, asVar_cmp, asVar_chain, asVar_andE, asVar_orE, asVar_ife, asVar_tupE, asVar_lstE, asVar_idx, asVar_slc, asVar_call, asVar_callM, asVar_popI, asVar_bi, asVar_bi2, asVar_isi, rdE, rdL, putE, updE, putsE, mb0, setL_at0, setL_at1, intOf, bindT, augD, toD, binD, cmpD, eqD_int, eqD_str, eqD_bool, idxD, biD, isiD, isNone, itemsD, slcD, atI_zero, atI_one, strict, ok_bind, ex_bind, no_bind, List.map_cons, List.map_nil, List.replicate_succ, List.replicate_zero, List.cons_append, List.nil_append, List.append_nil, List.getElem?_cons_zero, List.getElem?_cons_succ, List.getElem?_nil, List.set_cons_zero, List.set_cons_succ, List.length_cons, List.length_nil, List.length_map, Bool.not_false, Bool.not_true, if_true, if_false, Bool.false_eq_true, List.eraseIdx_cons_succ, List.eraseIdx_cons_zero, and_self, true_and, and_true, ite_true, ite_false, decide_true, decide_false, ne_eq, not_false_eq_true, not_true_eq_false, true_or, or_true, reduceCtorEq, asVar_lrng, asVar_rev, asVar_idx3, asVar_popE, revD, lstD, e4, eq]; done) | (simp only [runD, runM, evalB, execs, exec, evalE, evalA, evalO, evalC, evalS, evalL, brw, two, three, asVar_var, asVar_cst, asVar_mv, asVar_bin, asVar_neg, asVar_nt, asVar_cmp, asVar_chain, asVar_andE, asVar_orE, asVar_ife, asVar_tupE, asVar_lstE, asVar_idx, asVar_slc, asVar_call, asVar_callM, asVar_popI, asVar_bi, asVar_bi2, asVar_isi, rdE, rdL, putE, updE, putsE, mb0, setL_at0, setL_at1, intOf, bindT, augD, toD, binD, cmpD, eqD_int, eqD_str, eqD_bool, idxD, biD, isiD, isNone, itemsD, slcD, atI_zero, atI_one, strict, ok_bind, ex_bind, no_bind, List.map_cons, List.map_nil, List.replicate_succ, List.replicate_zero, List.cons_append, List.nil_append, List.append_nil, List.getElem?_cons_zero, List.getElem?_cons_succ, List.getElem?_nil, List.set_cons_zero, List.set_cons_succ, List.length_cons, List.length_nil, List.length_map, Bool.not_false, Bool.not_true, if_true, if_false, Bool.false_eq_true, List.eraseIdx_cons_succ, List.eraseIdx_cons_zero, and_self, true_and, and_true, ite_true, ite_false, decide_true, decide_false, ne_eq, not_false_eq_true, not_true_eq_false, true_or, or_true, reduceCtorEq, asVar_lrng, asVar_rev, asVar_idx3, asVar_popE, revD, lstD, e4, eq]; rfl)
  refine Eq.trans (iff_skip (e1 := ?E9) ?H9) ?G9
  case H9 => first | (simp only [runD, runM, evalB, execs, exec, evalE, evalA, evalO, evalC, evalS, evalL, brw, two, three, asVar_var, asVar_cst, asVar_mv, asVar_bin, asVar_neg, asVar_nt, asVar_cmp, asVar_chain, asVar_andE, asVar_orE, asVar_ife, asVar_tupE, asVar_lstE, asVar_idx, asVar_slc, asVar_call, asVar_callM, asVar_popI, asVar_bi, asVar_bi2, asVar_isi, rdE, rdL, putE, updE, putsE, mb0, setL_at0, setL_at1, intOf, bindT, augD, toD, binD, cmpD, eqD_int, eqD_str, eqD_bool, idxD, biD, isiD, itemsD, slcD, atI_zero, atI_one, strict, ok_bind, ex_bind, no_bind, List.map_cons, List.map_nil, List.replicate_succ, List.replicate_zero, List.cons_append, List.nil_append, List.append_nil, List.getElem?_cons_zero, List.getElem?_cons_succ, List.getElem?_nil, List.set_cons_zero, List.set_cons_succ, List.length_cons, List.length_nil, List.length_map, Bool.not_false, Bool.not_true, if_true, if_false, Bool.false_eq_true, List.eraseIdx_cons_succ, List.eraseIdx_cons_zero, and_self, true_and, and_true, ite_true, ite_false, decide_true, decide_false, ne_eq, not_false_eq_true, not_true_eq_false, true_or, or_true, reduceCtorEq, asVar_lrng, asVar_rev, asVar_idx3, asVar_popE, revD, lstD, e5, sy, beq_self_eq_true]; done) | (simp only [runD, runM, evalB, execs, exec, evalE, evalA, evalO, evalC, evalS, evalL, brw, two, three, asVar_var, asVar_cst, asVar_mv, asVar_bin, asVar_neg, asVar_nt, asVar_cmp, asVar_chain, asVar_andE, asVar_orE, asVar_ife, asVar_tupE, asVar_lstE, asVar_idx, asVar_slc, asVar_call, asVar_callM, asVar_popI, asVar_bi, asVar_bi2, asVar_isi, rdE, rdL, putE, updE, putsE, mb0, setL_at0, setL_at1, intOf, bindT, augD, toD, binD, cmpD, eqD_int, eqD_str, eqD_bool, idxD, biD, isiD, itemsD, slcD, atI_zero, atI_one, strict, ok_bind, ex_bind, no_bind, List.map_cons, List.map_nil, List.replicate_succ, List.replicate_zero, List.cons_append, List.nil_append, List.append_nil, List.getElem?_cons_zero, List.getElem?_cons_succ, List.getElem?_nil, List.set_cons_zero, List.set_cons_succ, List.length_cons, List.length_nil, List.length_map, Bool.not_false, Bool.not_true, if_true, if_false, Bool.false_eq_true, List.eraseIdx_cons_succ, List.eraseIdx_cons_zero, and_self, true_and, and_true, ite_true, ite_false, decide_true, decide_false, ne_eq, not_false_eq_true, not_true_eq_false, true_or, or_true, reduceCtorEq, asVar_lrng, asVar_rev, asVar_idx3, asVar_popE, revD, lstD, e5, sy, beq_self_eq_true]; rfl)
  rw [execs]
theorem plain (ns : List Int) (hl : ns.length ≤ 63) : ∃ n en', execs n ir_law (lawEn 4 ns 6) = .ok (.rt (.fr (.bool true)) en') := by
  obtain ⟨en', hf, _⟩ := for_run (f := execs 0 b0_law) (t := .one 2) (ds := rngD 0 4) (fun i en => ∃ ms a b c d, en = [none, some (.own ms), a, b, c, d] ∧ okD ms ∧ ((b = none ∧ c = none ∧ d = none) ∨ ∃ x y z, b = some (.fr x) ∧ c = some (.fr y) ∧ d = some (.fr z))) (en := lawEn 4 ns 6) (fun i d en hd ⟨ms, a, b, c, e, he, hm, h⟩ => by
    subst he
    obtain ⟨ms', x, y, z, h1, h2⟩ := turn (n := 0) (a2 := some (.fr d)) hm h
    exact ⟨_, _, rfl, .inl h1, ms', _, _, _, _, rfl, h2, .inr ⟨x, y, z, rfl, rfl, rfl⟩⟩) ⟨_, none, none, none, none, rfl, okD_start ns hl ⟨by decide, by decide⟩, .inl ⟨rfl, rfl, rfl⟩⟩
  refine ⟨0, en', ?_⟩
  unfold ir_law
  rw [ex_nx (e1 := en') (by
    rw [exec, evalS_rng1 (k := 4) (e1 := lawEn 4 ns 6) rfl (le_SZ (by decide))]
    exact hf)]
  rfl
end K06

open PySem PySem.W PyProof.Rows in
set_option maxRecDepth 100000 in
set_option maxHeartbeats 0 in
theorem PySem.Challenge.cw_markring_k06_differences_of_rings_holds : PySem.Challenge.rw_markring_k06_differences_of_rings.Holds := by
  w_on; o_law; k_head; (case hw => w_witness2)
  k_fill
  refine VS.walk (l := PySem.Challenge.rw_markring_k06_differences_of_rings) 8 ⟨rfl, by decide, by decide⟩ rfl rfl (fun w h Y => PySem.W.kIn_of Y) ?F
  case F =>
    intro w mg fa h KX G hmg
    refine' K06.all_mk KX G hmg ?a0 ?l0 ?c0 ?k0 ?a1 ?l1 ?c1 ?k1 ?a2 ?l2 ?c2 ?k2 ?a3 ?l3 ?c3 ?k3 ?a4 ?l4 ?c4 ?k4 ?a5 ?l5 ?c5 ?k5 ?a6 ?l6 ?c6 ?k6 ?a7 ?l7 ?c7 ?k7 ?a8 ?l8 ?c8 ?k8 ?a9 ?l9 ?c9 ?k9 ?a10 ?l10 ?c10 ?k10 ?a11 ?l11 ?c11 ?k11 ?a12 ?l12 ?c12 ?k12 ?a13 ?l13 ?c13 ?k13 ?a14 ?l14 ?c14 ?k14 ?a15 ?l15 ?c15 ?k15 ?a16 ?l16 ?c16 ?k16 ?a17 ?l17 ?c17 ?k17 ?a18 ?l18 ?c18 ?k18 ?a19 ?l19 ?c19 ?k19 ?g_MIN_SEATS ?g_MAX_SEATS ?g_MAX_MARK ?g_abs ?g_len ?g_tuple ?g_range ?g_list ?g_max ?g_min ?g_sorted ?g_set ?g_isinstance ?g_bool ?g_int ?g_str ?g_all ?g_enumerate K06.plain
    (case a0 => k_is)
    (case l0 => k_is)
    (case c0 => k_is)
    (case k0 => k_is)
    (case a1 => k_is)
    (case l1 => k_is)
    (case c1 => k_is)
    (case k1 => k_is)
    (case a2 => k_is)
    (case l2 => k_is)
    (case c2 => k_is)
    (case k2 => k_is)
    (case a3 => k_is)
    (case l3 => k_is)
    (case c3 => k_is)
    (case k3 => k_is)
    (case a4 => k_is)
    (case l4 => k_is)
    (case c4 => k_is)
    (case k4 => k_is)
    (case a5 => k_is)
    (case l5 => k_is)
    (case c5 => k_is)
    (case k5 => k_is)
    (case a6 => k_is)
    (case l6 => k_is)
    (case c6 => k_is)
    (case k6 => k_is)
    (case a7 => k_is)
    (case l7 => k_is)
    (case c7 => k_is)
    (case k7 => k_is)
    (case a8 => k_is)
    (case l8 => k_is)
    (case c8 => k_is)
    (case k8 => k_is)
    (case a9 => k_is)
    (case l9 => k_is)
    (case c9 => k_is)
    (case k9 => k_is)
    (case a10 => k_is)
    (case l10 => k_is)
    (case c10 => k_is)
    (case k10 => k_is)
    (case a11 => k_is)
    (case l11 => k_is)
    (case c11 => k_is)
    (case k11 => k_is)
    (case a12 => k_is)
    (case l12 => k_is)
    (case c12 => k_is)
    (case k12 => k_is)
    (case a13 => k_is)
    (case l13 => k_is)
    (case c13 => k_is)
    (case k13 => k_is)
    (case a14 => k_is)
    (case l14 => k_is)
    (case c14 => k_is)
    (case k14 => k_is)
    (case a15 => k_is)
    (case l15 => k_is)
    (case c15 => k_is)
    (case k15 => k_is)
    (case a16 => k_is)
    (case l16 => k_is)
    (case c16 => k_is)
    (case k16 => k_is)
    (case a17 => k_is)
    (case l17 => k_is)
    (case c17 => k_is)
    (case k17 => k_is)
    (case a18 => k_is)
    (case l18 => k_is)
    (case c18 => k_is)
    (case k18 => k_is)
    (case a19 => k_is)
    (case l19 => k_is)
    (case c19 => k_is)
    (case k19 => k_is)
    (case g_MIN_SEATS => k_is)
    (case g_MAX_SEATS => k_is)
    (case g_MAX_MARK => k_is)
    (case g_abs => k_is)
    (case g_len => k_is)
    (case g_tuple => k_is)
    (case g_range => k_is)
    (case g_list => k_is)
    (case g_max => k_is)
    (case g_min => k_is)
    (case g_sorted => k_is)
    (case g_set => k_is)
    (case g_isinstance => k_is)
    (case g_bool => k_is)
    (case g_int => k_is)
    (case g_str => k_is)
    (case g_all => k_is)
    (case g_enumerate => k_is)
