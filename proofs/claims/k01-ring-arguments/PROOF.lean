import PyProof.Rows.All
import Wide.All
import OpenK.AllK
import Wide.FinOn
import HandS.ForMost
import HandS.Exc
import HandS.Lambda
import HandS.TupAny
import HandS.TupMul
import HandS.CallSlots
import HandS.Wide
import HandS.Deep
import PyProof.Rows.SumAny
import HandS.SortInts
import HandS.SortOrd
import HandS.Iter
import KE.GoesMore
import KE.GoesEnum
import HandS.WideMore
import HandS.SetFor
import PyProof.EqAt
import PyProof.FactsAll.tuple_0
import PyProof.FactsAll.tuple_2
import HandS.Conv
import HandS.Style
import PyProof.Rows.SeqMore2
import KE.KRevSl
import HandS.WordsExc
import HandS.ExcInit
import HandS.IsInst
import HandS.Defaults
import HandS.ExcIs
import HandS.ExcField
import HandS.EndOwn
import HandS.HeadWalk
import KE.KNestM
import HandS.ExcOwn
import HandS.Dict
import HandS.SetKeys
import HandS.NamedTupSort
import KE.KSortTupAny
import KE.KDflt
import HandS.Strs
import PySem.Challenge.RW_markring_k01_ring_arguments
set_option Elab.async false
set_option linter.all false
/-! A value-semantic layer: an intermediate language whose meaning is a function on trees of data. -/
namespace VS
open PySem L2

noncomputable abbrev D := PyData
/-- what a slot holds: frozen data, a list of one's own, a list that the caller lent; an object of one's own, one that the caller lent -/
inductive Sl where
  | fr (d : D) | own (ds : List D) | mb (ds : List D) | ob (C : Str) (ds : List D) | mo (C : Str) (ds : List D)
noncomputable abbrev En := List (Option Sl)
/-- an error of an own class: its name, its fields; what the lent object's fields are then -/
structure Exn where
  cls : Str
  fs : List (Str × D)
  ms : Option (List D)
inductive Ou (α : Type) where
  | ok (a : α) | ex (e : Exn) | no
@[reducible] noncomputable def Ou.bind {α β : Type} (x : Ou α) (f : α → Ou β) : Ou β := match x with
  | .ok a => f a
  | .ex e => .ex e
  | .no => .no
noncomputable instance : Monad Ou where
  pure := Ou.ok
  bind := Ou.bind
@[simp] theorem ok_bind {α β : Type} (a : α) (f : α → Ou β) : (Ou.ok a >>= f) = f a := rfl
@[simp] theorem ex_bind {α β : Type} (e : Exn) (f : α → Ou β) : ((Ou.ex e : Ou α) >>= f) = .ex e := rfl
@[simp] theorem no_bind {α β : Type} (f : α → Ou β) : ((Ou.no : Ou α) >>= f) = .no := rfl
@[simp] theorem pure_ok {α : Type} (a : α) : (pure a : Ou α) = .ok a := rfl

noncomputable def toD : Sl → D
  | .fr d => d
  | .own ds => .list ds
  | .mb ds => .list ds
  | .ob _ _ => .dict []
  | .mo _ _ => .dict []
/-- the lent object's fields -/
noncomputable def obs : En → Option (List D)
  | some (.mo _ ds) :: _ => some ds
  | _ => none
noncomputable def tag {α : Type} (en : En) : Ou α → Ou α
  | .ex e => .ex ⟨e.cls, e.fs, obs en⟩
  | x => x
theorem tag_ok {α : Type} {en : En} {a : α} : tag en (.ok a) = .ok a := rfl
theorem tag_no {α : Type} {en : En} : tag en (.no : Ou α) = .no := rfl
theorem tag_ex {α : Type} {en : En} {c : Str} {fs : List (Str × D)} {ms : Option (List D)} : tag en (.ex ⟨c, fs, ms⟩ : Ou α) = .ex ⟨c, fs, obs en⟩ := rfl
theorem obs_none {en : En} : obs (none :: en) = none := rfl
theorem obs_fr {en : En} {d : D} : obs (some (.fr d) :: en) = none := rfl
theorem obs_own {en : En} {ds : List D} : obs (some (.own ds) :: en) = none := rfl
theorem obs_mb {en : En} {ds : List D} : obs (some (.mb ds) :: en) = none := rfl
theorem obs_ob {en : En} {C : Str} {ds : List D} : obs (some (.ob C ds) :: en) = none := rfl
theorem obs_mo {en : En} {C : Str} {ds : List D} : obs (some (.mo C ds) :: en) = some ds := rfl
/-- an object's fields -/
noncomputable def obD (C : Str) (en : En) (i : Nat) : Ou (List D) := match en[i]? with
  | some (some (.ob C' ds)) => if C' = C then .ok ds else .no
  | some (some (.mo C' ds)) => if C' = C then .ok ds else .no
  | _ => .no
/-- an object's fields are changed -/
noncomputable def updO (C : Str) (en : En) (i : Nat) (f : List D → Ou (List D)) : Ou En := match en[i]? with
  | some (some (.ob C' ds)) => if C' = C then (do let es ← f ds; .ok (en.set i (some (.ob C es)))) else .no
  | some (some (.mo C' ds)) => if C' = C then (do let es ← f ds; .ok (en.set i (some (.mo C es)))) else .no
  | _ => .no
/-- a field gets a value; the next field is new -/
noncomputable def fldPut (j : Nat) (d : D) (ds : List D) : Ou (List D) := if j < ds.length then .ok (ds.set j d) else if j = ds.length then .ok (ds ++ [d]) else .no
/-- the list in a field -/
noncomputable def fldLst (j : Nat) (ds : List D) : Ou (List D) := match ds[j]? with
  | some (.list xs) => .ok xs
  | _ => .no
/-- the list in a field, its last item -/
noncomputable def fldLast (j : Nat) (ds : List D) : Ou D := match ds[j]? with
  | some (.list xs) => match xs.getLast? with
    | some d => .ok d
    | none => .no
  | _ => .no
/-- .. goes -/
noncomputable def fldPop (j : Nat) (ds : List D) : Ou (List D) := match ds[j]? with
  | some (.list xs) => .ok (ds.set j (.list xs.dropLast))
  | _ => .no
/-- a temporary object's fields -/
noncomputable def asOb (C : Str) : Sl → Ou (List D)
  | .ob C' fs => if C' = C then .ok fs else .no
  | _ => .no
noncomputable def fldAt (ds : List D) (j : Nat) : Ou D := match ds[j]? with
  | some d => .ok d
  | none => .no

@[irreducible] noncomputable def SZ : Nat := 16777216
theorem SZ_lit : SZ = 16777216 := by unfold SZ; rfl
theorem SZ_eq : SZ = sizeLine := by rw [SZ_lit, sizeLine_eq]
theorem le_SZ {n : Nat} (h : n ≤ 1000000) : n ≤ SZ := by rw [SZ_lit]; omega

/-! ### operators -/
noncomputable def wInt (a : Int) : Prop := -(2 ^ 64) < a ∧ a < 2 ^ 64
noncomputable instance (a : Int) : Decidable (wInt a) := inferInstanceAs (Decidable (_ ∧ _))
/-- a list of ints -/
noncomputable def intsD : List D → Option (List Int)
  | [] => some []
  | .int i :: r => (intsD r).map (i :: ·)
  | _ :: _ => none
noncomputable def blsD : List D → Option (List Bool)
  | [] => some []
  | .bool i :: r => (blsD r).map (i :: ·)
  | _ :: _ => none
noncomputable def repD (k : Int) (xs : List D) : List D := (List.replicate k.toNat xs).flatten

/-- a op b; lists come as own ones -/
noncomputable def binD (op : Operator) (a b : D) : Ou Sl := match op, a, b with
  | .Add, .int i, .int j => .ok (.fr (.int (i + j)))
  | .Add, .list xs, .list ys => if xs.length + ys.length ≤ SZ then .ok (.own (xs ++ ys)) else .no
  | .Add, .tuple xs, .tuple ys => if xs.length + ys.length ≤ SZ then .ok (.fr (.tuple (xs ++ ys))) else .no
  | .Add, .str x, .str y => if x.length + y.length ≤ SZ then .ok (.fr (.str (x ++ y))) else .no
  | .Sub, .int i, .int j => .ok (.fr (.int (i - j)))
  | .Mult, .int i, .int j => if (wInt i ∨ wInt j) ∨ i.natAbs.log2 + j.natAbs.log2 < 1000000 then .ok (.fr (.int (i * j))) else .no
  | .Mult, .list xs, .int k => if -(2 ^ 63) ≤ k ∧ k < 2 ^ 63 ∧ xs.length * k.toNat ≤ SZ then .ok (.own (repD k xs)) else .no
  | .Mult, .tuple xs, .int k => if 2 ≤ k ∧ k ≤ 1000 ∧ xs ≠ [] ∧ xs.length ≤ 1000 then .ok (.fr (.tuple (repD k xs))) else if -1000 ≤ k ∧ k ≤ 1 ∧ xs ≠ [] then .ok (.fr (.tuple (repD k xs))) else .no
  | .FloorDiv, .int i, .int j => if (j ≠ 0 ∧ j.natAbs < 1073741824) ∨ (0 < j ∧ j.natAbs.log2 < 9000) then .ok (.fr (.int (i.fdiv j))) else .no
  | .Mod, .int i, .int j => if j ≠ 0 then .ok (.fr (.int (i.fmod j))) else .no
  | .Pow, .int i, .int j => if 0 ≤ j ∧ j ≤ 1000000 ∧ i.natAbs < 2 ^ 64 then .ok (.fr (.int (i ^ j.toNat))) else .no
  | _, _, _ => .no

/-- flat values -/
noncomputable def flatD : D → Bool
  | .none | .bool _ | .int _ | .str _ => true
  | _ => false
noncomputable def eqD (a b : D) : Ou Bool := match a, b with
  | .int i, .int j => .ok (i == j)
  | .str i, .str j => .ok (i == j)
  | .bool i, .bool j => .ok (i == j)
  | _, _ => if SeqAt.shaped a = true ∧ SeqAt.shaped b = true then .ok (PyData.eqv a b) else .no
/-- x in xs, all flat -/
noncomputable def eqF : D → D → Bool
  | .none, .none => true
  | .bool a, .bool b => a == b
  | .bool a, .int b => (if a then 1 else 0) == b
  | .int a, .bool b => a == (if b then 1 else 0)
  | .int a, .int b => a == b
  | .str a, .str b => a == b
  | _, _ => false
noncomputable def inD (x : D) (xs : List D) : Bool := xs.any fun y => eqF y x
noncomputable def isNone : D → Bool
  | .none => true
  | _ => false
noncomputable def isBl (k : Bool) : D → Bool
  | .bool j => decide (j = k)
  | _ => false
noncomputable def cmpD (op : CmpOp) (a b : D) : Ou Bool := match op with
  | .Eq => eqD a b
  | .NotEq => do let r ← eqD a b; .ok (!r)
  | .Lt => match a, b with
    | .int i, .int j => .ok (decide (i < j))
    | .tuple xs, .tuple ys => match intsD xs, intsD ys with
      | some ns, some ms => .ok (HT.lexLt ns ms)
      | _, _ => .no
    | _, _ => .no
  | .LtE => match a, b with
    | .int i, .int j => .ok (decide (i ≤ j))
    | _, _ => .no
  | .Gt => match a, b with
    | .int i, .int j => .ok (decide (j < i))
    | _, _ => .no
  | .GtE => match a, b with
    | .int i, .int j => .ok (decide (j ≤ i))
    | _, _ => .no
  | .Is => match b with
    | .none => .ok (isNone a)
    | .bool k => if flatD a = true then .ok (isBl k a) else .no
    | _ => .no
  | .IsNot => match b with
    | .none => .ok (!isNone a)
    | _ => .no
  | .In => match b with
    | .list xs => if flatD a = true ∧ xs.all flatD = true then .ok (inD a xs) else if SeqAt.shaped a = true ∧ SeqAt.shaped (.list xs) = true then .ok (xs.any fun z => PyData.eqv z a) else .no
    | .tuple xs => if flatD a = true ∧ xs.all flatD = true then .ok (inD a xs) else .no
    | _ => .no
  | .NotIn => match b with
    | .list xs => if flatD a = true ∧ xs.all flatD = true then .ok (!inD a xs) else if SeqAt.shaped a = true ∧ SeqAt.shaped (.list xs) = true then .ok (!xs.any fun z => PyData.eqv z a) else .no
    | .tuple xs => if flatD a = true ∧ xs.all flatD = true then .ok (!inD a xs) else .no
    | _ => .no

noncomputable def itemsD : D → Option (List D)
  | .list xs => some xs
  | .tuple xs => some xs
  | _ => none
/-- a[i] -/
noncomputable def idxD (a i : D) : Ou D := match a, i with
  | .list xs, .int k => match atI xs k with | some d => .ok d | none => .no
  | .tuple xs, .int k => match atI xs k with | some d => .ok d | none => .no
  | _, _ => .no
/-- the items of xs[lo:hi] -/
noncomputable def cutD (xs : List D) (lo hi : Option Int) : List D := (xs.drop (HT.sIx xs.length 0 lo)).take (HT.sIx xs.length xs.length hi - HT.sIx xs.length 0 lo)
noncomputable def slcD (a : D) (lo hi : Option Int) : Ou Sl := match a with
  | .list xs => .ok (.own (cutD xs lo hi))
  | .tuple xs => .ok (.fr (.tuple (cutD xs lo hi)))
  | _ => .no

/-! ### built-ins -/
/-- in order -/
noncomputable def srt (ns : List Int) : List Int := ns.mergeSort fun a b => decide (a ≤ b)
/-- each once -/
noncomputable def ddp : List Int → List Int
  | [] => []
  | a :: r => if a ∈ ddp r then ddp r else a :: ddp r
/-- sorted(set(xs)) -/
noncomputable def sset (ns : List Int) : List Int := srt (ddp ns)
/-- xs.pop(k) -/
noncomputable def popL (k : Int) (ds : List D) : Option (D × List D) := match ixN ds.length k with
  | some j => match ds[j]? with
    | some d => some (d, ds.eraseIdx j)
    | none => none
  | none => none
noncomputable def popA (k : Int) (ds : List D) : Ou (D × List D) := if ds.length ≤ SZ then (match popL k ds with
  | some p => .ok p
  | none => .no) else .no
inductive Bi where
  | nilq | dvm | count | sset | len | abs | min1 | max1 | min2 | max2 | sum | sorted | list | tuple | int | all | any
noncomputable def biD (b : Bi) (as : List D) : Ou Sl := match b with
  | .nilq => (match as with
    | [.list xs] => .ok (.fr (.bool xs.isEmpty))
    | _ => .no)
  | .dvm => (match as with
    | [.int i, .int j] => if 0 < j ∧ j < 2 ^ 30 then .ok (.fr (.tuple [.int (i / j), .int (i % j)])) else .no
    | _ => .no)
  | .count => (match as with
    | [.list xs, .int k] => (match intsD xs with | some ns => .ok (.fr (.int (ns.count k : Nat))) | none => .no)
    | [.tuple xs, .int k] => (match intsD xs with | some ns => .ok (.fr (.int (ns.count k : Nat))) | none => .no)
    | _ => .no)
  | .sset => (match as with
    | [.list xs] => match intsD xs with | some ns => if ns.length < 64 ∨ (ns.length < 4000 ∧ (ddp ns).length < 64) then .ok (.own ((sset ns).map PyData.int)) else .no | none => .no
    | [.tuple xs] => match intsD xs with | some ns => if ns.length < 64 ∨ (ns.length < 4000 ∧ (ddp ns).length < 64) then .ok (.own ((sset ns).map PyData.int)) else .no | none => .no
    | _ => .no)
  | .len => (match as with
    | [.list xs] => .ok (.fr (.int xs.length))
    | [.tuple xs] => .ok (.fr (.int xs.length))
    | [.str x] => if x.length ≤ SZ then .ok (.fr (.int x.length)) else .no
    | _ => .no)
  | .abs => (match as with
    | [.int i] => .ok (.fr (.int (if i < 0 then -i else i)))
    | _ => .no)
  | .min1 => (match as with
    | [.list xs] => match intsD xs with | some (n :: ns) => .ok (.fr (.int (ns.foldl min n))) | _ => .no
    | [.tuple xs] => match intsD xs with | some (n :: ns) => .ok (.fr (.int (ns.foldl min n))) | _ => .no
    | _ => .no)
  | .max1 => (match as with
    | [.list xs] => match intsD xs with | some (n :: ns) => .ok (.fr (.int (ns.foldl max n))) | _ => .no
    | [.tuple xs] => match intsD xs with | some (n :: ns) => .ok (.fr (.int (ns.foldl max n))) | _ => .no
    | _ => .no)
  | .min2 => (match as with
    | [.int i, .int j] => .ok (.fr (.int (if j < i then j else i)))
    | _ => .no)
  | .max2 => (match as with
    | [.int i, .int j] => .ok (.fr (.int (if j > i then j else i)))
    | _ => .no)
  | .sum => (match as with
    | [.list xs] => match intsD xs with | some ns => .ok (.fr (.int ns.sum)) | none => .no
    | [.tuple xs] => match intsD xs with | some ns => .ok (.fr (.int ns.sum)) | none => .no
    | _ => .no)
  | .sorted => (match as with
    | [.list xs] => match intsD xs with | some ns => .ok (.own ((srt ns).map PyData.int)) | none => .no
    | [.tuple xs] => match intsD xs with | some ns => .ok (.own ((srt ns).map PyData.int)) | none => .no
    | _ => .no)
  | .list => (match as with
    | [.list xs] => .ok (.own xs)
    | [.tuple xs] => .ok (.own xs)
    | _ => .no)
  | .tuple => (match as with
    | [.list xs] => .ok (.fr (.tuple xs))
    | [.tuple xs] => .ok (.fr (.tuple xs))
    | _ => .no)
  | .int => (match as with
    | [.int i] => .ok (.fr (.int i))
    | [.bool k] => .ok (.fr (.int (if k then 1 else 0)))
    | _ => .no)
  | .all => (match as with
    | [.list xs] => match blsD xs with | some bs => .ok (.fr (.bool (bs.all id))) | none => .no
    | _ => .no)
  | .any => (match as with
    | [.list xs] => match blsD xs with | some bs => .ok (.fr (.bool (bs.any id))) | none => .no
    | _ => .no)

/-- xs[::-1] -/
noncomputable def revD (a : D) : Ou Sl := match a with
  | .list xs => .ok (.own xs.reverse)
  | .tuple xs => .ok (.fr (.tuple xs.reverse))
  | _ => .no
noncomputable def lstD (a : D) : Ou (List D) := match a with
  | .list xs => .ok xs
  | _ => .no
/-- xs.index(k, lo), ints -/
noncomputable def findD (o x y : D) : Ou Sl := match o, x, y with
  | .list xs, .int k, .int lo => match intsD xs with
    | some ns => if 0 ≤ lo ∧ lo < 2 ^ 62 ∧ ns.length < SZ then (match (ns.drop lo.toNat).findIdx? (· == k) with
      | some j => .ok (.fr (.int ((lo.toNat + j : Nat) : Int)))
      | none => .no) else .no
    | none => .no
  | _, _, _ => .no
/-- xs.index(x), any data -/
noncomputable def findA (o x : D) : Ou Sl := match o with
  | .list xs => if SeqAt.shaped x = true ∧ SeqAt.shaped (.list xs) = true then (match xs.findIdx? (fun z => PyData.eqv z x) with
    | some j => .ok (.fr (.int (j : Nat)))
    | none => .no) else .no
  | _ => .no
/-- the list that is walked while it is set aside: a name's own one, or one in a field -/
noncomputable def aside (en : En) (i : Nat) (f : Option (Str × Nat)) : Ou (List D) := match en[i]?, f with
  | some (some (.own ds)), none => .ok ds
  | some (some (.ob C ds)), some (C', j) => if C' = C then (match ds[j]? with
    | some (.list xs) => .ok xs
    | _ => .no) else .no
  | some (some (.mo C ds)), some (C', j) => if C' = C then (match ds[j]? with
    | some (.list xs) => .ok xs
    | _ => .no) else .no
  | _, _ => .no
/-- the exception at a -/
noncomputable def excAt (a : Nat) (od : Option Nat) : D → Bool
  | .dict ((.int k, x) :: _) => decide (k = (a : Nat)) && (match od, x with
    | none, _ => true
    | some dd, .int l => decide (l = (dd : Nat))
    | some _, _ => false)
  | _ => false
noncomputable def fldO (f : Str) : List (D × D) → Option D
  | (.str n, x) :: r => if n = f then some x else fldO f r
  | _ => none
/-- what an error's catcher says of a method's outcome -/
noncomputable def caughtO (η : Exn → Ou D) (C : Str) (i : Nat) (en : En) : Ou (Sl × List D) → Ou (Sl × En)
  | .ok p => .ok (.fr .none, en.set i (some (.ob C p.2)))
  | .ex e => match η e, e.ms with
    | .ok d, some fs => .ok (.fr d, en.set i (some (.ob C fs)))
    | _, _ => .no
  | .no => .no
/-- a field of the exception at a, whose dict stands at dd -/
noncomputable def fldD (a dd : Nat) (f : Str) : D → Ou D
  | .dict ((.int k, .int l) :: r) => if k = (a : Nat) ∧ l = (dd : Nat) then (match fldO f r with
    | some x => .ok x
    | none => .no) else .no
  | _ => .no
/-- what an error's catcher says of an outcome -/
noncomputable def caught {α : Type} (η : Exn → Ou D) : Ou α → Ou D
  | .ok _ => .ok .none
  | .ex e => match η e with
    | .ok d => .ok d
    | _ => .no
  | .no => .no
noncomputable def blsL : D → Ou (List Bool)
  | .list xs => match blsD xs with
    | some bs => .ok bs
    | none => .no
  | _ => .no
/-! ### isinstance -/
inductive Ty where
  | int | bool | str | tuple | list
noncomputable def isiD : Ty → D → Ou Bool
  | _, .dict _ => .no
  | .int, .int _ => .ok true
  | .int, .bool _ => .ok true
  | .bool, .bool _ => .ok true
  | .str, .str _ => .ok true
  | .tuple, .tuple _ => .ok true
  | .list, .list _ => .ok true
  | _, _ => .ok false

/-! ### dicts of dicts of ints -/
noncomputable abbrev nsC : Str := "{{}}"
noncomputable def nstD (ks : List (Int × List Int)) : List D := ks.map fun p => .tuple [.int p.1, .list (p.2.map PyData.int)]
noncomputable def nstI : List D → Option (List (Int × List Int))
  | [] => some []
  | .tuple [.int k, .list ms] :: r => match intsD ms, nstI r with
    | some ns, some ks => some ((k, ns) :: ks)
    | _, _ => none
  | _ => none
noncomputable def getN (ks : List (Int × List Int)) (k : Int) : Option (List Int) := (ks.find? fun p => decide (p.1 = k)).map (·.2)
noncomputable def setN (ks : List (Int × List Int)) (k : Int) : List (Int × List Int) := if (getN ks k).isSome = true then ks else ks ++ [(k, [])]
noncomputable def addI (ms : List Int) (m : Int) : List Int := if m ∈ ms then ms else ms ++ [m]
noncomputable def addN (ks : List (Int × List Int)) (k m : Int) : List (Int × List Int) := ks.map fun p => if p.1 = k then (p.1, addI p.2 m) else p
/-- d.get(k, {}) sorted -/
noncomputable def nstSrt (k : D) (ds : List D) : Ou Sl := match k, nstI ds with
  | .int k, some ks => if ((getN ks k).getD []).length < 64 then .ok (.own ((srt ((getN ks k).getD [])).map PyData.int)) else .no
  | _, _ => .no
noncomputable def nstSet (k : D) (ds : List D) : Ou (List D) := match k, nstI ds with
  | .int k, some ks => if ks.length < SZ then .ok (nstD (setN ks k)) else .no
  | _, _ => .no
noncomputable def nstAdd (k m : D) (ds : List D) : Ou (List D) := match k, m, nstI ds with
  | .int k, .int m, some ks => match getN ks k with
    | some ms => if ms.length < SZ then .ok (nstD (addN ks k m)) else .no
    | none => .no
  | _, _, _ => .no
/-- the keys of the inner dict -/
noncomputable def nstKeys (k : D) (s : Option (Option Sl)) : Ou (List D) := match k, s with
  | .int k, some (some (.ob C ds)) => if C = nsC then (match nstI ds with
    | some ks => match getN ks k with
      | some ms => .ok (ms.map PyData.int)
      | none => .no
    | none => .no) else .no
  | _, _ => .no
/-! ### the language -/
inductive Tg where
  | one (i : Nat)
  | tup (is : List Nat)
noncomputable def bindT (t : Tg) (d : D) (en : En) : Ou En := match t with
  | .one i => .ok (en.set i (some (.fr d)))
  | .tup is => match d with
    | .tuple ds => if ds.length = is.length then .ok ((is.zip ds).foldl (fun e p => e.set p.1 (some (.fr p.2))) en) else .no
    | _ => .no
mutual
inductive Ex where
  | cst (d : D)
  | var (i : Nat)
  | mv (i : Nat)
  | bin (op : Operator) (a b : Ex)
  | neg (a : Ex)
  | nt (a : Ex)
  | cmp (op : CmpOp) (a b : Ex)
  | chain (o1 o2 : CmpOp) (a b c : Ex)
  | andE (a b : Ex)
  | orE (a b : Ex)
  | ife (c a b : Ex)
  | tupE (es : Exs)
  | lstE (es : Exs)
  | idx (a b : Ex)
  | slc (a : Ex) (lo hi : Exo)
  | call (φ : List D → Ou Sl) (es : Exs)
  | callM (φ : List D → List D → Ou (D × List D)) (i : Nat) (es : Exs)
  | callB (φ : List D → Ou Sl) (es : Exs)
  | popI (i k : Nat)
  | popE (i : Nat) (e : Ex)
  | bi (b : Bi) (e : Ex)
  | bi2 (b : Bi) (e1 e2 : Ex)
  | isi (T : Ty) (e : Ex)
  | lrng (e : Ex)
  | rev (e : Ex)
  | idx3 (i : Nat) (e1 e2 : Ex)
  | nevE
  | isE (a : Nat) (od : Option Nat) (i : Nat) (b : Bool)
  | fldE (a dd i : Nat) (f : Str)
  | errC (η : Exn → Ou D) (φ : List D → Ou Sl) (es : Exs)
  | fo (C : Str) (i j : Nat)
  | callO (C : Str) (φ : List D → List D → Ou (Sl × List D)) (i : Nat) (es : Exs)
  | callT (C : Str) (φ : List D → List D → Ou (Sl × List D)) (e : Ex) (es : Exs)
  | mkO (C : Str) (φ : List D → Ou (List D)) (es : Exs)
  | popF (C : Str) (i j : Nat)
  | errO (C : Str) (η : Exn → Ou D) (φ : List D → List D → Ou (Sl × List D)) (i : Nat) (es : Exs)
  | cntB (i : Nat)
  | idxB (i : Nat)
  | lc (elt : Ex) (tg : Tg) (src : Sr) (cond : Exo) (vs : List Nat)
  | lcB (elt : Ex) (tg : Tg) (i : Nat) (f : Option (Str × Nat)) (cond : Exo) (vs : List Nat)
  | idxD (i : Nat) (e : Ex)
  | dnew (k m : Int)
  | dsrt (i : Nat) (e : Ex)
  | lcK (elt : Ex) (tg : Tg) (i : Nat) (e : Ex) (cond : Exo) (vs : List Nat)
  | fn (f : En → Ou (Sl × En))
inductive Exs where
  | nil
  | cons (e : Ex) (es : Exs)
inductive Exo where
  | none
  | some (e : Ex)
inductive Sr where
  | rng1 (a : Ex)
  | rng2 (a b : Ex)
  | seq (e : Ex)
  | enum (e : Ex)
  | zip (a b : Ex)
  | zip3 (a b c : Ex)
  | rngD (a b : Ex)
end

/-- an argument that is lent: a name, or a value -/
inductive Arg where
  | ref (i : Nat) | val (d : D)
/-- a borrowed reading of a slot -/
noncomputable def rdE (en : En) (i : Nat) : Ou D := match en[i]? with
  | some (some s) => .ok (toD s)
  | _ => .no
noncomputable def argsD (en : En) : List Arg → Ou (List D)
  | [] => .ok []
  | .ref i :: as => do let d ← rdE en i; let ds ← argsD en as; .ok (d :: ds)
  | .val d :: as => do let ds ← argsD en as; .ok (d :: ds)
/-- a list that may be changed -/
noncomputable def rdL (en : En) (i : Nat) : Ou (List D) := match en[i]? with
  | some (some (.own ds)) => .ok ds
  | some (some (.mb ds)) => .ok ds
  | _ => .no
noncomputable def wipeE (en : En) (vs : List Nat) : En := vs.foldr (fun i e => e.set i none) en
/-- behind a comprehension: its own names as they were -/
noncomputable def backE (en en' : En) (vs : List Nat) : En := vs.foldr (fun i e => e.set i (en[i]?.getD none)) en'
noncomputable def enumD : Nat → List D → List D
  | _, [] => []
  | k, x :: r => .tuple [.int k, x] :: enumD (k + 1) r
noncomputable def rngD (lo : Int) : Nat → List D
  | 0 => []
  | n + 1 => .int lo :: rngD (lo + 1) n
noncomputable def zipD : List D → List D → List D
  | x :: r, y :: s => .tuple [x, y] :: zipD r s
  | _, _ => []
/-- i, i - 1, .. -/
noncomputable def downD (lo : Int) : Nat → List D
  | 0 => []
  | n + 1 => .int lo :: downD (lo - 1) n
noncomputable def zipD3 : List D → List D → List D → List D
  | x :: r, y :: s, z :: t => .tuple [x, y, z] :: zipD3 r s t
  | _, _, _ => []
/-- the loop of a comprehension -/
noncomputable def lcGo (f : En → Ou (D × En)) (c : En → Ou (Bool × En)) (t : Tg) (vs : List Nat) : List D → En → List D → Ou (List D × En)
  | [], en, acc => .ok (acc, en)
  | d :: r, en, acc => do
    let e1 ← bindT t d (wipeE en vs)
    let (b, e2) ← c e1
    if b = true then do
      let (x, e3) ← f e2
      lcGo f c t vs r e3 (acc ++ [x])
    else lcGo f c t vs r e2 acc
noncomputable def strict {α : Type} (x : Ou α) : Ou α := match x with
  | .ok a => .ok a
  | _ => .no

noncomputable def asVar : Ex → Option Nat
  | .var i => some i
  | _ => none
/-- borrowed: a slot is read as it stands -/
noncomputable def brw (v : Option Nat) (f : En → Ou (Sl × En)) (en : En) : Ou (D × En) := match v with
  | some i => do let d ← rdE en i; .ok (d, en)
  | none => do let (r, e1) ← f en; .ok (toD r, e1)
/-- two in a row: a name on the left is read when the right one has its value -/
noncomputable def two (v : Option Nat) (fa : En → Ou (Sl × En)) (fb : En → Ou (D × En)) (en : En) : Ou (D × D × En) := match v with
  | some i => do
    let _ ← rdE en i
    let (y, e1) ← fb en
    let x ← rdE e1 i
    .ok (x, y, e1)
  | none => do
    let (x, e1) ← fa en
    let (y, e2) ← fb e1
    .ok (toD x, y, e2)
/-- a base and two parts -/
noncomputable def three (v : Option Nat) (fa : En → Ou (Sl × En)) (fb fc : En → Ou (Option Int × En)) (en : En) : Ou (D × Option Int × Option Int × En) := match v with
  | some i => do
    let _ ← rdE en i
    let (l, e1) ← fb en
    let (h, e2) ← fc e1
    let x ← rdE e2 i
    .ok (x, l, h, e2)
  | none => do
    let (x, e1) ← fa en
    let (l, e2) ← fb e1
    let (h, e3) ← fc e2
    .ok (toD x, l, h, e3)
mutual
noncomputable def evalE : Ex → En → Ou (Sl × En)
  | .cst d, en => .ok (.fr d, en)
  | .var i, en => match en[i]? with
    | some (some (.fr d)) => .ok (.fr d, en)
    | some (some (.own ds)) => .ok (.fr (.list ds), en.set i (some (.fr (.list ds))))
    | _ => .no
  | .mv i, en => match en[i]? with
    | some (some (.fr d)) => .ok (.fr d, en)
    | some (some (.own ds)) => .ok (.own ds, en.set i none)
    | some (some (.ob C ds)) => .ok (.ob C ds, en.set i none)
    | _ => .no
  | .bin op a b, en => do
    let (x, y, e2) ← two (asVar a) (evalE a) (brw (asVar b) (evalE b)) en
    let r ← binD op x y
    .ok (r, e2)
  | .neg a, en => do
    let (x, e1) ← brw (asVar a) (evalE a) en
    match x with
    | .int i => .ok (.fr (.int (-i)), e1)
    | _ => .no
  | .nt a, en => do
    let (x, e1) ← brw (asVar a) (evalE a) en
    match x with
    | .bool i => .ok (.fr (.bool (!i)), e1)
    | _ => .no
  | .cmp op a b, en => do
    let (x, y, e2) ← two (asVar a) (evalE a) (brw (asVar b) (evalE b)) en
    let r ← cmpD op x y
    .ok (.fr (.bool r), e2)
  | .chain o1 o2 a b c, en => do
    let (x, e1) ← evalE a en
    let (y, e2) ← evalE b e1
    let r ← cmpD o1 (toD x) (toD y)
    if r = true then do
      let (z, e3) ← evalE c e2
      let r' ← cmpD o2 (toD y) (toD z)
      .ok (.fr (.bool r'), e3)
    else .ok (.fr (.bool false), e2)
  | .andE a b, en => do
    let (x, e1) ← brw (asVar a) (evalE a) en
    match x with
    | .bool true => evalE b e1
    | .bool false => .ok (.fr (.bool false), e1)
    | _ => .no
  | .orE a b, en => do
    let (x, e1) ← brw (asVar a) (evalE a) en
    match x with
    | .bool true => .ok (.fr (.bool true), e1)
    | .bool false => evalE b e1
    | _ => .no
  | .ife c a b, en => do
    let (x, e1) ← brw (asVar c) (evalE c) en
    match x with
    | .bool true => evalE a e1
    | .bool false => evalE b e1
    | _ => .no
  | .tupE es, en => do
    let (ds, e1) ← evalA es en
    if ds.length ≤ SZ then .ok (.fr (.tuple ds), e1) else .no
  | .lstE es, en => do
    let (ds, e1) ← evalA es en
    if ds.length ≤ SZ then .ok (.own ds, e1) else .no
  | .idx a b, en => do
    let (x, y, e2) ← two (asVar a) (evalE a) (brw (asVar b) (evalE b)) en
    let r ← idxD x y
    .ok (.fr r, e2)
  | .slc a lo hi, en => do
    let (x, l, h, e3) ← three (asVar a) (evalE a) (evalO lo) (evalO hi) en
    let r ← slcD x l h
    .ok (r, e3)
  | .call φ es, en => do
    let (ds, e1) ← evalA es en
    let r ← tag e1 (φ ds)
    .ok (r, e1)
  | .callB φ es, en => do
    let (as, e1) ← evalAr es en
    let ds ← argsD e1 as
    let r ← tag e1 (φ ds)
    if flatD (toD r) = true then .ok (.fr (toD r), e1) else .no
  | .callM φ i es, en => do
    let _ ← rdE en i
    let (ds, e1) ← evalA es en
    match e1[i]? with
    | some (some (.own ms)) => do
      let (r, ms') ← strict (φ ms ds)
      .ok (.fr r, e1.set i (some (.own ms')))
    | some (some (.mb ms)) => do
      let (r, ms') ← strict (φ ms ds)
      .ok (.fr r, e1.set i (some (.mb ms')))
    | _ => .no
  | .popI i k, en => match en[i]? with
    | some (some (.own ms)) => match ms[k]? with
      | some d => .ok (.fr d, en.set i (some (.own (ms.eraseIdx k))))
      | none => .no
    | some (some (.mb ms)) => match ms[k]? with
      | some d => .ok (.fr d, en.set i (some (.mb (ms.eraseIdx k))))
      | none => .no
    | _ => .no
  | .popE i a, en => do
    let _ ← rdL en i
    let (d, e1) ← brw (asVar a) (evalE a) en
    match d with
    | .int k => match e1[i]? with
      | some (some (.own ms)) => do
        let (d, ms') ← popA k ms
        .ok (.fr d, e1.set i (some (.own ms')))
      | some (some (.mb ms)) => do
        let (d, ms') ← popA k ms
        .ok (.fr d, e1.set i (some (.mb ms')))
      | _ => .no
    | _ => .no
  | .bi b e, en => do
    let (d, e1) ← brw (asVar e) (evalE e) en
    let r ← biD b [d]
    .ok (r, e1)
  | .isi T e, en => do
    let (d, e1) ← brw (asVar e) (evalE e) en
    let r ← isiD T d
    .ok (.fr (.bool r), e1)
  | .bi2 b a c, en => do
    let (x, y, e1) ← two (asVar a) (evalE a) (brw (asVar c) (evalE c)) en
    let r ← biD b [x, y]
    .ok (r, e1)
  | .lrng e, en => do
    let (d, e1) ← brw (asVar e) (evalE e) en
    match d with
    | .int i => if -(2 ^ 62) ≤ i ∧ i ≤ 2 ^ 24 then .ok (.own (rngD 0 i.toNat), e1) else .no
    | _ => .no
  | .rev e, en => do
    let (d, e1) ← brw (asVar e) (evalE e) en
    let r ← revD d
    .ok (r, e1)
  | .idx3 i a b, en => do
    let o0 ← rdE en i
    let _ ← lstD o0
    let (x, e1) ← brw (asVar a) (evalE a) en
    let (y, e2) ← brw (asVar b) (evalE b) e1
    let o ← rdE e2 i
    let r ← findD o x y
    .ok (r, e2)
  | .nevE, _ => .no
  | .isE a od i b, en => do
    let d ← rdE en i
    if excAt a od d = true then .ok (.fr (.bool b), en) else .no
  | .fldE a dd i f, en => do
    let d ← rdE en i
    let r ← fldD a dd f d
    .ok (.fr r, en)
  | .errC η φ es, en => do
    let (ds, e1) ← strict (evalA es en)
    let r ← caught η (φ ds)
    .ok (.fr r, e1)
  | .fo C i j, en => do
    let ds ← obD C en i
    let d ← fldAt ds j
    .ok (.fr d, en)
  | .callO C φ i es, en => do
    let _ ← obD C en i
    let (ds, e1) ← evalA es en
    match e1[i]? with
    | some (some (.ob C' fs)) => if C' = C then (do let (r, fs') ← tag e1 (φ fs ds); .ok (r, e1.set i (some (.ob C fs')))) else .no
    | some (some (.mo C' fs)) => if C' = C then (do let (r, fs') ← φ fs ds; .ok (r, e1.set i (some (.mo C fs')))) else .no
    | _ => .no
  | .callT C φ e es, en => do
    let (o, e1) ← evalE e en
    let fs ← asOb C o
    let (ds, e2) ← evalA es e1
    let (r, _) ← tag e2 (φ fs ds)
    .ok (r, e2)
  | .mkO C φ es, en => do
    let (ds, e1) ← evalA es en
    let fs ← tag e1 (φ ds)
    .ok (.ob C fs, e1)
  | .popF C i j, en => do
    let ds ← obD C en i
    let d ← fldLast j ds
    let e1 ← updO C en i (fldPop j)
    .ok (.fr d, e1)
  | .errO C η φ i es, en => do
    let (ds, e1) ← strict (evalA es en)
    match e1[i]? with
    | some (some (.ob C' fs)) => if C' = C then caughtO η C i e1 (φ fs ds) else .no
    | _ => .no
  | .cntB i, en => do
    let d ← rdE en i
    let bs ← blsL d
    .ok (.fr (.int (bs.count true : Nat)), en)
  | .idxB i, en => do
    let d ← rdE en i
    let bs ← blsL d
    match bs.findIdx? id with
    | some j => .ok (.fr (.int (j : Nat)), en)
    | none => .no
  | .lc elt tg src cond vs, en => do
    let (items, e1) ← evalS src en
    if items.length ≤ SZ then do
      let (xs, e2) ← strict (lcGo (fun e => do let (r, e') ← evalE elt e; .ok (toD r, e')) (evalC cond) tg vs items e1 [])
      .ok (.own xs, backE e1 e2 vs)
    else .no
  | .lcB elt tg i f cond vs, en => do
    let items ← aside en i f
    if items.length ≤ SZ ∧ i ∉ vs then do
      let (xs, e2) ← strict (lcGo (fun e => do let (r, e') ← evalE elt e; .ok (toD r, e')) (evalC cond) tg vs items (en.set i none) [])
      .ok (.own xs, (backE (en.set i none) e2 vs).set i (en[i]?.getD none))
    else .no
  | .dnew k m, en => .ok (.ob nsC (nstD [(k, [m])]), en)
  | .dsrt i a, en => do
    let _ ← obD nsC en i
    let (k, e1) ← brw (asVar a) (evalE a) en
    let ds ← obD nsC e1 i
    let r ← nstSrt k ds
    .ok (r, e1)
  | .lcK elt tg i a cond vs, en => do
    let (k, e1) ← brw (asVar a) (evalE a) en
    let items ← nstKeys k (e1[i]?)
    if items.length ≤ SZ then do
      let (xs, e2) ← strict (lcGo (fun e => do let (r, e') ← evalE elt e; .ok (toD r, e')) (evalC cond) tg vs items (e1.set i none) [])
      .ok (.own xs, backE (e1.set i none) e2 vs)
    else .no
  | .idxD i a, en => do
    let o0 ← rdE en i
    let _ ← lstD o0
    let (x, e1) ← brw (asVar a) (evalE a) en
    let o ← rdE e1 i
    let r ← findA o x
    .ok (r, e1)
  | .fn f, en => f en
noncomputable def evalA : Exs → En → Ou (List D × En)
  | .nil, en => .ok ([], en)
  | .cons e es, en => do
    let (r, e1) ← evalE e en
    let (ds, e2) ← evalA es e1
    .ok (toD r :: ds, e2)
noncomputable def evalAr : Exs → En → Ou (List Arg × En)
  | .nil, en => .ok ([], en)
  | .cons e es, en => match asVar e with
    | some i => do
      let _ ← rdE en i
      let (as, e1) ← evalAr es en
      .ok (.ref i :: as, e1)
    | none => do
      let (r, e1) ← evalE e en
      let (as, e2) ← evalAr es e1
      .ok (.val (toD r) :: as, e2)
noncomputable def evalO : Exo → En → Ou (Option Int × En)
  | .none, en => .ok (none, en)
  | .some e, en => do
    let (d, e1) ← brw (asVar e) (evalE e) en
    match d with
    | .int i => .ok (some i, e1)
    | _ => .no
noncomputable def evalC : Exo → En → Ou (Bool × En)
  | .none, en => .ok (true, en)
  | .some e, en => do
    let (d, e1) ← brw (asVar e) (evalE e) en
    match d with
    | .bool i => .ok (i, e1)
    | _ => .no
noncomputable def evalS : Sr → En → Ou (List D × En)
  | .rng1 a, en => do
    let (d, e1) ← brw (asVar a) (evalE a) en
    match d with
    | .int i => if -(2 ^ 62) ≤ i ∧ i < 2 ^ 62 then .ok (rngD 0 i.toNat, e1) else .no
    | _ => .no
  | .rng2 a b, en => do
    let (d, e1) ← brw (asVar a) (evalE a) en
    let (d', e2) ← brw (asVar b) (evalE b) e1
    match d, d' with
    | .int i, .int j => if (-(2 ^ 62) ≤ i ∧ i < 2 ^ 62) ∧ -(2 ^ 62) ≤ j ∧ j < 2 ^ 62 then .ok (rngD i (j - i).toNat, e2) else .no
    | _, _ => .no
  | .seq e, en => do
    let (r, e1) ← evalE e en
    match itemsD (toD r) with
    | some xs => .ok (xs, e1)
    | none => .no
  | .enum e, en => do
    let (r, e1) ← evalE e en
    match itemsD (toD r) with
    | some xs => .ok (enumD 0 xs, e1)
    | none => .no
  | .zip a b, en => do
    let (r, e1) ← evalE a en
    let (r', e2) ← evalE b e1
    match itemsD (toD r), itemsD (toD r') with
    | some xs, some ys => .ok (zipD xs ys, e2)
    | _, _ => .no
  | .rngD a b, en => do
    let (d, e1) ← brw (asVar a) (evalE a) en
    let (d', e2) ← brw (asVar b) (evalE b) e1
    match d, d' with
    | .int i, .int j => if (-(2 ^ 62) ≤ i ∧ i < 2 ^ 62) ∧ -(2 ^ 62) ≤ j ∧ j < 2 ^ 62 then .ok (downD i (i - j).toNat, e2) else .no
    | _, _ => .no
  | .zip3 a b c, en => do
    let (r, e1) ← evalE a en
    let (r', e2) ← evalE b e1
    let (r'', e3) ← evalE c e2
    match itemsD (toD r), itemsD (toD r'), itemsD (toD r'') with
    | some xs, some ys, some zs => .ok (zipD3 xs ys zs, e3)
    | _, _, _ => .no
end
noncomputable abbrev evalB (e : Ex) : En → Ou (D × En) := brw (asVar e) (evalE e)
end VS

/-! The statements of the intermediate language. -/
namespace VS
open PySem L2

inductive Fl where
  | nx (en : En) | rt (r : Sl) (en : En) | bk (en : En) | ct (en : En)
inductive TgE where
  | nm (i : Nat)
  | sub (i : Nat) (ix : Ex)
  | fld (C : Str) (i j : Nat)
mutual
inductive Sx where
  | asg (i : Nat) (e : Ex)
  | par (is : List Nat) (es : Exs)
  | unp (ts : List TgE) (e : Ex)
  | setI (i : Nat) (ix e : Ex)
  | aug (i : Nat) (op : Operator) (e : Ex)
  | augI (i : Nat) (ix : Ex) (op : Operator) (e : Ex)
  | app (i : Nat) (e : Ex)
  | rem (i : Nat) (e : Ex)
  | ext (i : Nat) (e : Ex)
  | expr (e : Ex)
  | ret (e : Ex)
  | retN
  | iff (c : Ex) (a b : Sxs)
  | whl (c : Ex) (b : Sxs)
  | forr (tg : Tg) (src : Sr) (b : Sxs)
  | brk
  | cnt
  | pass
  | setF (C : Str) (i j : Nat) (e : Ex)
  | setL (C : Str) (i j : Nat) (e : Ex)
  | appF (C : Str) (i j : Nat) (e : Ex)
  | dadd (i : Nat) (a b : Ex)
  | raise (C : Str) (mk : List D → List (Str × D)) (es : Exs)
  | nev
  | fnS (f : En → Ou En)
  | tryC (ws : List Nat) (b h : Sxs) (rr : Bool)
inductive Sxs where
  | nil
  | cons (s : Sx) (r : Sxs)
end

/-- a name is stored: not over a lent list -/
noncomputable def putE (en : En) (i : Nat) (r : Sl) : Ou En := match en[i]?, r with
  | some (some (.mb _)), _ => .no
  | some (some (.mo _ _)), _ => .no
  | none, _ => .no
  | _, .mb _ => .no
  | _, .mo _ _ => .no
  | _, r => .ok (en.set i (some r))
/-- a list of one's own (or a lent one) is changed -/
noncomputable def updE (en : En) (i : Nat) (f : List D → Ou (List D)) : Ou En := match en[i]? with
  | some (some (.own ds)) => do let es ← f ds; .ok (en.set i (some (.own es)))
  | some (some (.mb ds)) => do let es ← f ds; .ok (en.set i (some (.mb es)))
  | _ => .no
/-- the list in a field grows -/
noncomputable def fldApp (j : Nat) (d : D) (ds : List D) : Ou (List D) := match ds[j]? with
  | some (.list xs) => if xs.length < SZ then .ok (ds.set j (.list (xs ++ [d]))) else .no
  | _ => .no
noncomputable def setL (k : Int) (d : D) (ds : List D) : Ou (List D) := match ixN ds.length k with
  | some j => .ok (ds.set j d)
  | none => .no
noncomputable def intOf : D → Ou Int
  | .int k => .ok k
  | _ => .no
noncomputable def evalL : Exs → En → Ou (List Sl × En)
  | .nil, en => .ok ([], en)
  | .cons e es, en => do
    let (r, e1) ← evalE e en
    let (ds, e2) ← evalL es e1
    .ok (r :: ds, e2)
noncomputable def putsE : List Nat → List Sl → En → Ou En
  | [], [], en => .ok en
  | i :: is, r :: rs, en => do let e1 ← putE en i r; putsE is rs e1
  | _, _, _ => .no
noncomputable def stores : List TgE → List D → En → Ou En
  | [], [], en => .ok en
  | .nm i :: ts, d :: ds, en => do let e1 ← putE en i (.fr d); stores ts ds e1
  | .sub i ix :: ts, d :: ds, en => do
    let _ ← rdE en i
    let (k, e1) ← evalB ix en
    let k ← intOf k
    let e2 ← updE e1 i (setL k d)
    stores ts ds e2
  | .fld C i j :: ts, d :: ds, en => do
    let e2 ← updO C en i (fldPut j d)
    stores ts ds e2
  | _, _, _ => .no
noncomputable def forGo (f : En → Ou Fl) (t : Tg) : List D → En → Ou Fl
  | [], en => .ok (.nx en)
  | d :: r, en => do
    let e1 ← bindT t d en
    match ← f e1 with
    | .nx e2 => forGo f t r e2
    | .ct e2 => forGo f t r e2
    | .bk e2 => .ok (.nx e2)
    | .rt v e2 => .ok (.rt v e2)
noncomputable def whlGo (c : En → Ou (D × En)) (f : En → Ou Fl) : Nat → En → Ou Fl
  | 0, _ => .no
  | n + 1, en => do
    let (b, e1) ← c en
    match b with
    | .bool true => match ← f e1 with
      | .nx e2 => whlGo c f n e2
      | .ct e2 => whlGo c f n e2
      | .bk e2 => .ok (.nx e2)
      | .rt v e2 => .ok (.rt v e2)
    | .bool false => .ok (.nx e1)
    | _ => .no
/-- op= on ints -/
noncomputable def augD (op : Operator) (i j : Int) : Ou Int := match op with
  | .Add => .ok (i + j)
  | .Sub => .ok (i - j)
  | .Mult => if wInt i ∨ wInt j then .ok (i * j) else .no
  | .FloorDiv => if 0 < j ∧ j.natAbs.log2 < 9000 then .ok (i / j) else .no
  | _ => .no
/-- xs.remove(int) -/
noncomputable def remL (d : D) (ds : List D) : Ou (List D) := match d, intsD ds with
  | .int k, some ns => match ns.findIdx? (· == k) with
    | some j => .ok (ds.eraseIdx j)
    | none => .no
  | _, _ => .no

/-- what is known behind an error: data in names that the suite does not store, the lent object -/
noncomputable def excE (ms : Option (List D)) (ws : List Nat) : Nat → En → En
  | _, [] => []
  | k, x :: r => (match x with
    | some (.fr d) => if k ∈ ws then none else some (.fr d)
    | some (.mo C _) => if k = 0 then (match ms with | some fs => some (.mo C fs) | none => none) else none
    | _ => none) :: excE ms ws (k + 1) r
/-- the handler's end: raised again, or on -/
noncomputable def reX (rr : Bool) (e : Exn) : Fl → Ou Fl
  | .nx en => if rr = true then .ex ⟨e.cls, e.fs, obs en⟩ else .ok (.nx en)
  | f => .ok f
noncomputable def tryX (e : Exn) (h : Ou Fl) (rr : Bool) : Ou Fl := do
  let f ← h
  reX rr e f
mutual
noncomputable def exec (n : Nat) : Sx → En → Ou Fl
  | .asg i e, en => do
    let (r, e1) ← evalE e en
    let e2 ← putE e1 i r
    .ok (.nx e2)
  | .par is es, en => do
    let (rs, e1) ← evalL es en
    let e2 ← putsE is rs e1
    .ok (.nx e2)
  | .unp ts e, en => do
    let (d, e1) ← evalB e en
    match d with
    | .tuple ds => do
      let e2 ← strict (stores ts ds e1)
      .ok (.nx e2)
    | _ => .no
  | .setI i ix e, en => do
    let (r, e1) ← evalE e en
    let _ ← rdE e1 i
    let (k, e2) ← evalB ix e1
    let k ← intOf k
    let e3 ← updE e2 i (setL k (toD r))
    .ok (.nx e3)
  | .aug i op e, en => do
    let x ← rdE en i
    let x ← intOf x
    let (y, e1) ← evalB e en
    let y ← intOf y
    let r ← augD op x y
    let e2 ← putE e1 i (.fr (.int r))
    .ok (.nx e2)
  | .augI i ix op e, en => do
    let _ ← rdE en i
    let (k, e1) ← evalB ix en
    let k ← intOf k
    let o ← rdE e1 i
    let x ← idxD o (.int k)
    let x ← intOf x
    let (y, e2) ← evalB e e1
    let y ← intOf y
    let r ← augD op x y
    let e3 ← updE e2 i (setL k (.int r))
    .ok (.nx e3)
  | .app i e, en => do
    let _ ← rdL en i
    let (r, e1) ← evalE e en
    let e2 ← updE e1 i fun ds => if ds.length < SZ then .ok (ds ++ [toD r]) else .no
    .ok (.nx e2)
  | .rem i e, en => do
    let _ ← rdL en i
    let (d, e1) ← evalB e en
    let e2 ← updE e1 i (remL d)
    .ok (.nx e2)
  | .ext i e, en => do
    let _ ← rdL en i
    let (r, e1) ← evalE e en
    match toD r with
    | .list xs => do
      let e2 ← updE e1 i fun ds => if ds.length + xs.length ≤ SZ then .ok (ds ++ xs) else .no
      .ok (.nx e2)
    | _ => .no
  | .expr e, en => do
    let (_, e1) ← evalE e en
    .ok (.nx e1)
  | .ret e, en => do
    let (r, e1) ← evalE e en
    .ok (.rt r e1)
  | .retN, en => .ok (.rt (.fr .none) en)
  | .iff c a b, en => do
    let (d, e1) ← evalB c en
    match d with
    | .bool true => execs n a e1
    | .bool false => execs n b e1
    | _ => .no
  | .whl c b, en => whlGo (evalB c) (execs n b) n en
  | .forr tg src b, en => do
    let (items, e1) ← evalS src en
    forGo (execs n b) tg items e1
  | .brk, en => .ok (.bk en)
  | .cnt, en => .ok (.ct en)
  | .pass, en => .ok (.nx en)
  | .setF C i j e, en => do
    let (r, e1) ← evalE e en
    let e2 ← updO C e1 i (fldPut j (toD r))
    .ok (.nx e2)
  | .setL C i j e, en => do
    let (r, e1) ← evalE e en
    match r with
    | .own ds => do
      let e2 ← updO C e1 i (fldPut j (.list ds))
      .ok (.nx e2)
    | _ => .no
  | .appF C i j e, en => do
    let ds ← obD C en i
    let _ ← fldLst j ds
    let (r, e1) ← evalE e en
    let e2 ← updO C e1 i (fldApp j (toD r))
    .ok (.nx e2)
  | .dadd i a b, en => do
    let _ ← obD nsC en i
    let (k, e1) ← evalB a en
    let e2 ← updO nsC e1 i (nstSet k)
    let (m, e3) ← evalB b e2
    let e4 ← updO nsC e3 i (nstAdd k m)
    .ok (.nx e4)
  | .raise C mk es, en => do
    let (ds, e1) ← evalA es en
    .ex ⟨C, mk ds, obs e1⟩
  | .nev, _ => .no
  | .fnS f, en => do
    let e1 ← f en
    .ok (.nx e1)
  | .tryC ws b h rr, en => match execs n b en with
    | .ok f => .ok f
    | .ex e => tryX e (execs n h (excE e.ms ws 0 en)) rr
    | .no => .no
noncomputable def execs (n : Nat) : Sxs → En → Ou Fl
  | .nil, en => .ok (.nx en)
  | .cons s r, en => do
    match ← exec n s en with
    | .nx e1 => execs n r e1
    | f => .ok f
end
/-- a def: its body upon its arguments; m more names -/
noncomputable def runD (n : Nat) (b : Sxs) (m : Nat) (ds : List D) : Ou Sl := do
  match ← execs n b (ds.map (fun d => some (.fr d)) ++ List.replicate m none) with
  | .nx _ => .ok (.fr .none)
  | .rt r _ => .ok r
  | _ => .no
/-- the lent list of the first slot -/
noncomputable def mb0 (en : En) : Ou (List D) := match en with
  | some (.mb ms) :: _ => .ok ms
  | _ => .no
/-- a def whose first parameter is a list that it changes -/
noncomputable def runM (n : Nat) (b : Sxs) (m : Nat) (ms : List D) (ds : List D) : Ou (D × List D) := do
  match ← execs n b (some (.mb ms) :: (ds.map (fun d => some (.fr d)) ++ List.replicate m none)) with
  | .nx e => do let ms' ← mb0 e; .ok (.none, ms')
  | .rt r e => do let ms' ← mb0 e; .ok (toD r, ms')
  | _ => .no
/-- the lent object of the first slot -/
noncomputable def mo0 (en : En) : Ou (List D) := match en with
  | some (.mo _ fs) :: _ => .ok fs
  | _ => .no
/-- no object is handed out -/
noncomputable def noOb : Sl → Ou Sl
  | .fr d => .ok (.fr d)
  | .own ds => .ok (.own ds)
  | _ => .no
/-- a method: its body upon its object's fields and its arguments -/
noncomputable def runO (n : Nat) (b : Sxs) (m : Nat) (C : Str) (fs : List D) (ds : List D) : Ou (Sl × List D) := do
  match ← execs n b (some (.mo C fs) :: (ds.map (fun d => some (.fr d)) ++ List.replicate m none)) with
  | .nx e => do let fs' ← mo0 e; .ok (.fr .none, fs')
  | .rt r e => do let fs' ← mo0 e; let r ← noOb r; .ok (r, fs')
  | _ => .no
end VS

/-! What a slot's data is on the heap. -/
namespace VS
open PySem L2

/-- the heap without what stands at O -/
noncomputable def hid (H : Hp) (O : List Addr) : Hp := fun b => if b ∈ O then none else H b
theorem hid_in {H : Hp} {O : List Addr} {b : Addr} (h : b ∈ O) : hid H O b = none := by unfold hid; rw [if_pos h]
theorem hid_out {H : Hp} {O : List Addr} {b : Addr} (h : b ∉ O) : hid H O b = H b := by unfold hid; rw [if_neg h]
theorem hid_le {H : Hp} {O : List Addr} : Same (hid H O) H := fun b o h => by
  unfold hid at h
  split at h
  · cases h
  · exact h
theorem hid_some {H : Hp} {O : List Addr} {b : Addr} {o : HO} (h : hid H O b = some o) : b ∉ O ∧ H b = some o := by
  unfold hid at h
  split at h
  · cases h
  · exact ⟨by assumption, h⟩
theorem hid_sub {H : Hp} {O O' : List Addr} (s : ∀ a ∈ O', a ∈ O) : Same (hid H O) (hid H O') := fun b o h => by
  obtain ⟨n, e⟩ := hid_some h
  rw [hid_out fun q => n (s b q)]
  exact e
theorem hid_upd {H : Hp} {O : List Addr} {a : Addr} {o : HO} (h : a ∈ O) : hid (upd H a o) O = hid H O := by
  funext b
  unfold hid
  split
  · rfl
  · rename_i n
    exact upd_ne fun e => n (e ▸ h)

/-- what a field of a class holds: data, or a list of the object's own -/
inductive Kd where
  | val | lst
/-- a class: where it stands, its fields in the order in which they are stored first -/
structure ClsI where
  A : Addr
  fs : List (Str × Kd)
/-- what the top has written: the module's own objects -/
class KF where
  K : PySem.W.Frag
  /-- the tables of code objects that the law writes -/
  T : List (Addr × Str)
  /-- the classes -/
  C : Str → Option ClsI
section
/-- a tuple, its object known to be plain: tracked, or one of the module's own -/
noncomputable def TupAtK (K : PySem.W.Frag) (H : Hp) (a : Addr) (xs : List V) : Prop := (∃ o, H a = some (.frz o (.tup xs)) ∧ o.dict = none) ∨
  ∃ (o : Obj) (its : Array Value) (n : Nat), K.lookup a = some o ∧ o.cls = .type "tuple" ∧ o.dict = none ∧ o.data = .seq its n ∧ its.size ≤ sizeLine ∧ Vals xs its.toList
mutual
/-- the value's data -/
inductive RpK (K : PySem.W.Frag) (H : Hp) : V → D → Prop where
  | non : RpK K H .non .none
  | bl (b : Bool) : RpK K H (.bl b) (.bool b)
  | int (i : Int) : RpK K H (.int i) (.int i)
  | str (x : Str) : RpK K H (.str x) (.str x)
  | lst {a : Addr} {xs : List V} {ds : List D} : H a = some (.lst xs) → RpAK K H xs ds → RpK K H (.ref a) (.list ds)
  | tup {a : Addr} {xs : List V} {ds : List D} : TupAtK K H a xs → RpAK K H xs ds → RpK K H (.ref a) (.tuple ds)
  /-- some object of which nothing is known -/
  | any (a : Addr) : RpK K H (.ref a) (.dict [])
  /-- some object of which nothing is known but where it stands -/
  | opq (a : Addr) : RpK K H (.ref a) (.dict [(.int (a : Nat), .none)])
  /-- an exception at a, its dict at dd -/
  | exc {a dd : Addr} {gs : List (Str × V)} {ns : List Str} {vs : List V} {ds : List D} : H dd = some (.xd gs) → (∀ (i : Nat) n, ns[i]? = some n → ∃ v, vs[i]? = some v ∧ gs.lookup n = some v) → RpAK K H vs ds →
      RpK K H (.ref a) (.dict ((.int (a : Nat), .int (dd : Nat)) :: (ns.zip ds).map fun p => (.str p.1, p.2)))
inductive RpAK (K : PySem.W.Frag) (H : Hp) : List V → List D → Prop where
  | nil : RpAK K H [] []
  | cons {v : V} {vs : List V} {d : D} {ds : List D} : RpK K H v d → RpAK K H vs ds → RpAK K H (v :: vs) (d :: ds)
end
variable [kf : KF]
noncomputable abbrev TupAt (H : Hp) (a : Addr) (xs : List V) : Prop := TupAtK kf.K H a xs
noncomputable abbrev Rp (H : Hp) (v : V) (d : D) : Prop := RpK kf.K H v d
noncomputable abbrev RpA (H : Hp) (vs : List V) (ds : List D) : Prop := RpAK kf.K H vs ds
theorem TupAtK.mono {H H' : Hp} {a : Addr} {xs : List V} (s : Same H H') (h : TupAt H a xs) : TupAt H' a xs := by
  rcases h with ⟨o, h1, h2⟩ | h
  · exact .inl ⟨o, s _ _ h1, h2⟩
  · exact .inr h
theorem TupAtK.of {H : Hp} {a : Addr} {xs : List V} {o : Obj} (h : H a = some (.frz o (.tup xs))) (hd : o.dict = none) : TupAt H a xs := .inl ⟨o, h, hd⟩
theorem TupAtK.sq {K : PySem.W.Frag} {H : Hp} {a : Addr} {xs : List V} (h : TupAt H a xs) (hk : K = kf.K) : SqT K H a xs := by
  subst hk
  rcases h with ⟨o, h1, h2⟩ | ⟨o, its, n, h1, h2, _, h3, h4, h5⟩
  · exact .inl (.inr ⟨o, h1⟩)
  · exact .inr ⟨o, its, n, h1, h2, h3, h4, h5⟩
section
variable {H H' : Hp}
mutual
theorem RpK.mono (s : Same H H') : ∀ {v : V} {d : D}, Rp H v d → Rp H' v d
  | _, _, .non => .non
  | _, _, .bl b => .bl b
  | _, _, .int i => .int i
  | _, _, .str x => .str x
  | _, _, .lst h r => .lst (s _ _ h) (RpAK.mono s r)
  | _, _, .tup h r => .tup (h.mono s) (RpAK.mono s r)
  | _, _, .any a => .any a
  | _, _, .opq a => .opq a
  | _, _, .exc h k r => .exc (s _ _ h) k (RpAK.mono s r)
theorem RpAK.mono (s : Same H H') : ∀ {vs : List V} {ds : List D}, RpA H vs ds → RpA H' vs ds
  | _, _, .nil => .nil
  | _, _, .cons h r => .cons (RpK.mono s h) (RpAK.mono s r)
end
theorem RpAK.length : ∀ {vs : List V} {ds : List D}, RpA H vs ds → vs.length = ds.length
  | _, _, .nil => rfl
  | _, _, .cons _ r => congrArg (· + 1) r.length
theorem RpAK.get : ∀ {vs : List V} {ds : List D} {i : Nat} {d : D}, RpA H vs ds → ds[i]? = some d → ∃ v, vs[i]? = some v ∧ Rp H v d
  | _, _, _, _, .nil, e => by simp at e
  | _, _, 0, _, .cons h _, e => by simp at e; subst e; exact ⟨_, rfl, h⟩
  | _, _, i + 1, d, .cons _ r, e => by
    obtain ⟨u, h1, h2⟩ := RpAK.get (i := i) (d := d) r (by simpa using e)
    exact ⟨u, by simpa using h1, h2⟩
theorem RpAK.append : ∀ {xs ys : List V} {ds es : List D}, RpA H xs ds → RpA H ys es → RpA H (xs ++ ys) (ds ++ es)
  | _, _, _, _, .nil, s => s
  | _, _, _, _, .cons h r, s => .cons h (r.append s)
theorem RpAK.take : ∀ (n : Nat) {vs : List V} {ds : List D}, RpA H vs ds → RpA H (vs.take n) (ds.take n)
  | 0, _, _, _ => .nil
  | _ + 1, _, _, .nil => .nil
  | n + 1, _, _, .cons h r => .cons h (r.take n)
theorem RpAK.drop : ∀ (n : Nat) {vs : List V} {ds : List D}, RpA H vs ds → RpA H (vs.drop n) (ds.drop n)
  | 0, _, _, r => r
  | _ + 1, _, _, .nil => .nil
  | n + 1, _, _, .cons _ r => r.drop n
theorem RpAK.set {v : V} {d : D} (h : Rp H v d) : ∀ (n : Nat) {vs : List V} {ds : List D}, RpA H vs ds → RpA H (vs.set n v) (ds.set n d)
  | _, _, _, .nil => .nil
  | 0, _, _, .cons _ r => .cons h r
  | n + 1, _, _, .cons q r => .cons q (r.set h n)
theorem RpAK.erase : ∀ (n : Nat) {vs : List V} {ds : List D}, RpA H vs ds → RpA H (vs.eraseIdx n) (ds.eraseIdx n)
  | _, _, _, .nil => .nil
  | 0, _, _, .cons _ r => r
  | n + 1, _, _, .cons q r => .cons q (r.erase n)
theorem RpAK.rep {vs : List V} {ds : List D} (h : RpA H vs ds) : ∀ k : Nat, RpA H (List.replicate k vs).flatten (List.replicate k ds).flatten
  | 0 => .nil
  | k + 1 => by
    rw [List.replicate_succ, List.replicate_succ, List.flatten_cons, List.flatten_cons]
    exact h.append (h.rep k)
theorem RpAK.cut {vs : List V} {ds : List D} (h : RpA H vs ds) (lo hi : Option Int) : RpA H (cutV vs lo hi) (cutD ds lo hi) := by
  unfold cutV cutD
  rw [h.length]
  exact (h.drop _).take _
theorem RpAK.ints : ∀ {vs : List V} {ds : List D} {ns : List Int}, RpA H vs ds → intsD ds = some ns → vs = ns.map V.int
  | _, _, ns, .nil, e => by
    have q : [] = ns := Option.some.inj e
    subst q
    rfl
  | _, _, ns, .cons h r, e => by
    cases h with
    | int i =>
      rename_i vs' ds'
      show _ :: _ = _
      unfold intsD at e
      cases q : intsD ds' with
      | none => rw [q] at e; cases e
      | some ms =>
        rw [q] at e
        have z : i :: ms = ns := Option.some.inj e
        subst z
        rw [r.ints q]
        rfl
    | _ => cases e
theorem RpAK.bls : ∀ {vs : List V} {ds : List D} {ns : List Bool}, RpA H vs ds → blsD ds = some ns → vs = ns.map V.bl
  | _, _, ns, .nil, e => by
    have q : [] = ns := Option.some.inj e
    subst q
    rfl
  | _, _, ns, .cons h r, e => by
    cases h with
    | bl i =>
      rename_i vs' ds'
      show _ :: _ = _
      unfold blsD at e
      cases q : blsD ds' with
      | none => rw [q] at e; cases e
      | some ms =>
        rw [q] at e
        have z : i :: ms = ns := Option.some.inj e
        subst z
        rw [r.bls q]
        rfl
    | _ => cases e
mutual
theorem RpK.dp {K : PySem.W.Frag} (hk : K = kf.K) : ∀ {v : V} {d : D}, Rp H v d → d.canLay0 = true → Dp K H v d
  | _, _, .non, _ => .non
  | _, _, .bl b, _ => .bl b
  | _, _, .int i, _ => .int i
  | _, _, .str x, _ => .str x
  | _, _, .lst h r, c => .lst (SqL.of h) (RpAK.dp hk r c)
  | _, _, .tup h r, c => .tup (h.sq hk) (RpAK.dp hk r c)
  | _, _, .opq _, c => by cases c
  | _, _, .exc _ _ _, c => by cases c
theorem RpAK.dp {K : PySem.W.Frag} (hk : K = kf.K) : ∀ {vs : List V} {ds : List D}, RpA H vs ds → PyData.canLayAll0 ds = true → DpAll K H vs ds
  | _, _, .nil, _ => .nil
  | _, _, .cons h r, c => by
    have c := Bool.and_eq_true_iff.mp c
    exact .cons (RpK.dp hk h c.1) (RpAK.dp hk r c.2)
end
theorem RpK.flat : ∀ {v : V} {d : D}, Rp H v d → flatD d = true → flatV v = true
  | _, _, .non, _ => rfl
  | _, _, .bl b, _ => rfl
  | _, _, .int i, _ => rfl
  | _, _, .str x, _ => rfl
  | _, _, .lst _ _, e => by cases e
  | _, _, .tup _ _, e => by cases e
  | _, _, .opq _, e => by cases e
  | _, _, .exc _ _ _, e => by cases e
theorem RpAK.flat : ∀ {vs : List V} {ds : List D}, RpA H vs ds → ds.all flatD = true → vs.all flatV = true
  | _, _, .nil, _ => rfl
  | _, _, .cons h r, e => by
    rw [List.all_cons, Bool.and_eq_true] at e
    rw [List.all_cons, h.flat e.1, r.flat e.2]
    rfl
theorem RpK.eqF : ∀ {v u : V} {d e : D}, Rp H v d → Rp H u e → flatD d = true → flatD e = true → eqV v u = VS.eqF d e := by
  intro v u d e h1 h2 f1 f2
  cases h1 <;> cases h2 <;> first | rfl | cases f1 | cases f2
theorem RpAK.inF {u : V} {e : D} (h : Rp H u e) (f : flatD e = true) : ∀ {vs : List V} {ds : List D}, RpA H vs ds → ds.all flatD = true → inV u vs = inD e ds
  | _, _, .nil, _ => rfl
  | _, _, .cons q r, g => by
    rw [List.all_cons, Bool.and_eq_true] at g
    unfold inV inD
    rw [List.any_cons, List.any_cons, q.eqF h g.1 f]
    exact congrArg _ (RpAK.inF h f r g.2)
end

/-! ### where one stands -/
/-- a def's entry: the heap, what it may change, what it must not hand out -/
structure Ent where
  H0 : Hp
  M : List Addr
  O0 : List Addr
  /-- the object that the caller lent, its class -/
  mo : Option (Str × Addr)
/-- the heap, the names' data, what is hidden (own and lent lists), where the lists stand -/
structure Sn where
  H : Hp
  en : En
  O : List Addr
  ad : Nat → Addr
  /-- what an object's slot has of its own: the object, its dict, its lists -/
  fp : Nat → List Addr
noncomputable def obAt (en : En) (i : Nat) (C : Str) (ds : List D) : Prop := en[i]? = some (some (Sl.ob C ds)) ∨ en[i]? = some (some (Sl.mo C ds))
noncomputable def isO (en : En) (i : Nat) : Prop := ∃ C ds, obAt en i C ds
noncomputable def isL (en : En) (i : Nat) : Prop := ∃ ds, en[i]? = some (some (Sl.own ds)) ∨ en[i]? = some (some (Sl.mb ds))
noncomputable abbrev Sn.F (S : Sn) : Hp := hid S.H S.O
/-- an object's fields: its lists stand apart -/
inductive FRK (K : PySem.W.Frag) (H F : Hp) : List Kd → List V → List D → List Addr → Prop where
  | nil {ks : List Kd} : FRK K H F ks [] [] []
  | val {ks : List Kd} {v : V} {vs : List V} {d : D} {ds : List D} {ps : List Addr} : RpK K F v d → FRK K H F ks vs ds ps → FRK K H F (.val :: ks) (v :: vs) (d :: ds) ps
  | lst {ks : List Kd} {p : Addr} {xs : List V} {es : List D} {vs : List V} {ds : List D} {ps : List Addr} : H p = some (.lst xs) → RpAK K F xs es → p ∉ ps → FRK K H F ks vs ds ps → FRK K H F (.lst :: ks) (.ref p :: vs) (.list es :: ds) (p :: ps)
noncomputable abbrev FR (H F : Hp) (ks : List Kd) (vs : List V) (ds : List D) (ps : List Addr) : Prop := FRK kf.K H F ks vs ds ps
/-- the object at a, its region, its fields -/
noncomputable def InR (H F : Hp) (C : Str) (a : Addr) (rg : List Addr) (ds : List D) : Prop :=
  ∃ c dx vs ps, kf.C C = some c ∧ H a = some (.ins c.A dx ((c.fs.map Prod.fst).zip vs)) ∧ H dx = some (.own a) ∧ a ∈ rg ∧ dx ∈ rg ∧ (∀ p ∈ ps, p ∈ rg) ∧ FR H F (c.fs.map Prod.snd) vs ds ps
noncomputable def keysK (ms : List Int) : List (Key × V) := ms.map fun m => (.inl m, .bl true)
noncomputable def nstK (ks : List (Int × List Int)) (qs : List Addr) : List (Key × V) := List.zipWith (fun p q => (Sum.inl p.1, V.ref q)) ks qs
/-- .. a dict of dicts of ints -/
noncomputable def NsR (H : Hp) (a : Addr) (rg : List Addr) (ds : List D) : Prop :=
  ∃ ks qs, ds = nstD ks ∧ (ks.map Prod.fst).Nodup ∧ qs.length = ks.length ∧ H a = some (.dK (nstK ks qs)) ∧ (a :: qs).Nodup ∧ a ∈ rg ∧ (∀ q ∈ qs, q ∈ rg) ∧ ∀ (j : Nat) p q, ks[j]? = some p → qs[j]? = some q → H q = some (.dK (keysK p.2))
omit [kf : KF] in
theorem NsR.keep {H H' : Hp} {a : Addr} {rg rg' : List Addr} {ds : List D} (h : NsR H a rg ds) (k : ∀ b ∈ rg, ∀ o, H b = some o → H' b = some o) (g : ∀ b ∈ rg, b ∈ rg') : NsR H' a rg' ds := by
  obtain ⟨ks, qs, h1, h2, h3, h4, h5, h6, h7, h8⟩ := h
  exact ⟨ks, qs, h1, h2, h3, k _ h6 _ h4, h5, g _ h6, fun q hq => g q (h7 q hq), fun j p q e1 e2 => k _ (h7 q (List.mem_of_getElem? e2)) _ (h8 j p q e1 e2)⟩
noncomputable def ObR (H F : Hp) (C : Str) (a : Addr) (rg : List Addr) (ds : List D) : Prop := InR H F C a rg ds ∨ (C = nsC ∧ kf.C C = none ∧ NsR H a rg ds)
theorem ObR.cls {H F : Hp} {C : Str} {a : Addr} {rg : List Addr} {ds : List D} {c : ClsI} (h : ObR H F C a rg ds) (hC : kf.C C = some c) : InR H F C a rg ds := by
  rcases h with h | ⟨_, h, _⟩
  · exact h
  · rw [hC] at h; cases h
theorem FRK.keep {H H' F F' : Hp} (s : Same F F') : ∀ {ks : List Kd} {vs : List V} {ds : List D} {ps : List Addr}, FR H F ks vs ds ps → (∀ b ∈ ps, ∀ o, H b = some o → H' b = some o) → FR H' F' ks vs ds ps
  | _, _, _, _, .nil, _ => .nil
  | _, _, _, _, .val h r, k => .val (h.mono s) (r.keep s k)
  | _, _, _, _, .lst h1 h2 h3 r, k => .lst (k _ (List.mem_cons_self ..) _ h1) (h2.mono s) h3 (r.keep s fun b hb => k b (List.mem_cons_of_mem _ hb))
theorem ObR.keep {H H' F F' : Hp} {C : Str} {a : Addr} {rg rg' : List Addr} {ds : List D} (h : ObR H F C a rg ds) (s : Same F F') (k : ∀ b ∈ rg, ∀ o, H b = some o → H' b = some o) (g : ∀ b ∈ rg, b ∈ rg') : ObR H' F' C a rg' ds := by
  rcases h with ⟨c, dx, vs, ps, h1, h2, h3, h4, h5, h6, h7⟩ | ⟨h1, h2, h3⟩
  · exact .inl ⟨c, dx, vs, ps, h1, k _ h4 _ h2, k _ h5 _ h3, g _ h4, g _ h5, fun p hp => g p (h6 p hp), h7.keep s fun b hb => k b (h6 b hb)⟩
  · exact .inr ⟨h1, h2, h3.keep k g⟩
/-- an instance, its dict, a list -/
noncomputable def okO (x : Option HO) : Prop := match x with
  | some (.ins _ _ _) => True
  | some (.dK _) => True
  | some (.own _) => True
  | some (.lst _) => True
  | _ => False
omit [kf : KF] in
theorem okO.tbl {x : Option HO} (h : okO x) (ps : Array Value) : x ≠ some (.tbl ps) := fun e => by subst e; exact h
omit [kf : KF] in
theorem okO.ne {x : Option HO} (h : okO x) : x ≠ none := fun e => by subst e; exact h
/-- the objects' slots -/
structure Obs (t : Ent) (S : Sn) (σ : L2.St) : Prop where
  rep : ∀ (i : Nat) C ds, obAt S.en i C ds → σ[i]? = some (some (V.ref (S.ad i))) ∧ ObR S.H S.F C (S.ad i) (S.fp i) ds
  rg : ∀ (i : Nat), isO S.en i → ∀ b ∈ S.fp i, b ∈ S.O ∧ okO (S.H b)
  own : ∀ (i : Nat) C ds, S.en[i]? = some (some (Sl.ob C ds)) → ∀ b ∈ S.fp i, t.H0 b = none ∧ b ∉ t.O0
  len : ∀ (i : Nat) C ds, S.en[i]? = some (some (Sl.mo C ds)) → t.mo = some (C, S.ad i) ∧ (∀ b ∈ t.M, b ∈ S.fp i) ∧ ∀ b ∈ S.fp i, b ∈ t.M ∨ (t.H0 b = none ∧ b ∉ t.O0)
  dL : ∀ (i j : Nat), isO S.en i → isL S.en j → S.ad j ∉ S.fp i
  dO : ∀ (i j : Nat) (b : Addr), isO S.en i → isO S.en j → b ∈ S.fp i → b ∈ S.fp j → i = j
theorem isO_of {en : En} {i : Nat} {C : Str} {ds : List D} (h : obAt en i C ds) : isO en i := ⟨C, ds, h⟩
theorem Obs.keep {t : Ent} {S S' : Sn} {σ σ' : L2.St} (B : Obs t S σ) (hen : ∀ (i : Nat) x, S'.en[i]? = some (some x) → (∀ d, x ≠ .fr d) → (∀ ds, x ≠ .own ds) → (∀ ds, x ≠ .mb ds) → S.en[i]? = some (some x))
    (hσ : ∀ i, isO S'.en i → σ'[i]? = σ[i]?) (had : ∀ i, isO S'.en i → S'.ad i = S.ad i ∧ S'.fp i = S.fp i)
    (hH : ∀ i, isO S'.en i → ∀ b ∈ S.fp i, b ∈ S'.O ∧ S'.H b = S.H b) (hF : Same S.F S'.F) (hL : ∀ i j, isO S'.en i → isL S'.en j → S'.ad j ∉ S.fp i) : Obs t S' σ' := by
  have ho : ∀ {i C ds}, obAt S'.en i C ds → obAt S.en i C ds := fun {i C ds} h => by
    rcases h with h | h
    · exact .inl (hen i _ h (fun d e => by cases e) (fun d e => by cases e) (fun d e => by cases e))
    · exact .inr (hen i _ h (fun d e => by cases e) (fun d e => by cases e) (fun d e => by cases e))
  have hoo : ∀ {i}, isO S'.en i → isO S.en i := fun {i} ⟨C, ds, h⟩ => ⟨C, ds, ho h⟩
  refine ⟨fun i C ds h => ?_, fun i h b hb => ?_, fun i C ds h b hb => ?_, fun i C ds h => ?_, fun i j hi hj => ?_, fun i j b hi hj h1 h2 => ?_⟩
  · obtain ⟨h1, h2⟩ := B.rep i C ds (ho h)
    obtain ⟨a1, a2⟩ := had i (isO_of h)
    rw [hσ i (isO_of h), a1, a2]
    exact ⟨h1, h2.keep hF (fun b hb o e => ((hH i (isO_of h) b hb).2).trans e) fun b hb => hb⟩
  · rw [(had i h).2] at hb
    refine ⟨(hH i h b hb).1, ?_⟩
    rw [(hH i h b hb).2]
    exact (B.rg i (hoo h) b hb).2
  · rw [(had i (isO_of (.inl h))).2] at hb
    exact B.own i C ds (hen i _ h (fun d e => by cases e) (fun d e => by cases e) (fun d e => by cases e)) b hb
  · obtain ⟨a1, a2⟩ := had i (isO_of (.inr h))
    rw [a1, a2]
    exact B.len i C ds (hen i _ h (fun d e => by cases e) (fun d e => by cases e) (fun d e => by cases e))
  · rw [(had i hi).2]
    exact hL i j hi hj
  · rw [(had i hi).2] at h1
    rw [(had j hj).2] at h2
    exact B.dO i j b (hoo hi) (hoo hj) h1 h2
theorem Obs.nil {t : Ent} {S : Sn} {σ : L2.St} (h : ∀ i, ¬ isO S.en i) : Obs t S σ := ⟨fun i C ds e => absurd (isO_of e) (h i), fun i e => absurd e (h i), fun i C ds e => absurd (isO_of (.inl e)) (h i), fun i C ds e => absurd (isO_of (.inr e)) (h i), fun i j e => absurd e (h i), fun i j b e => absurd e (h i)⟩
structure Rel (t : Ent) (S : Sn) (σ : L2.St) : Prop where
  len : S.en.length = σ.length
  keep : ∀ b o, t.H0 b = some o → b ∉ t.M → S.H b = some o
  sup : ∀ a ∈ t.O0, a ∈ S.O
  subM : ∀ a ∈ t.M, a ∈ t.O0
  new : ∀ a ∈ S.O, a ∈ t.O0 ∨ t.H0 a = none
  trk : ∀ a ∈ S.O, S.H a ≠ none
  fr : ∀ (i : Nat) d, S.en[i]? = some (some (Sl.fr d)) → ∃ v, σ[i]? = some (some v) ∧ Rp S.F v d
  li : ∀ (i : Nat) ds, S.en[i]? = some (some (Sl.own ds)) ∨ S.en[i]? = some (some (Sl.mb ds)) → σ[i]? = some (some (V.ref (S.ad i))) ∧ S.ad i ∈ S.O ∧ ∃ xs, S.H (S.ad i) = some (.lst xs) ∧ RpA S.F xs ds
  ow : ∀ (i : Nat) ds, S.en[i]? = some (some (Sl.own ds)) → t.H0 (S.ad i) = none ∧ S.ad i ∉ t.O0
  mb : ∀ (i : Nat) ds, S.en[i]? = some (some (Sl.mb ds)) → S.ad i ∈ t.M
  inj : ∀ (i j : Nat), isL S.en i → isL S.en j → S.ad i = S.ad j → i = j
  tb : LamX.Tabs kf.T S.H
  tM : ∀ p ∈ kf.T, p.1 ∈ t.M
  os : Obs t S σ
/-- an object stands as it was, or is a table -/
noncomputable def Kp (S S' : Sn) (a : Addr) : Prop := S'.H a = S.H a ∨ ∃ ps, S.H a = some (.tbl ps)
omit [kf : KF] in
theorem Kp.trans {A B C : Sn} {a : Addr} (x : Kp A B a) (y : Kp B C a) : Kp A C a := by
  rcases x with x | x
  · rcases y with y | ⟨ps, y⟩
    · exact .inl (y.trans x)
    · exact .inr ⟨ps, x.symm.trans y⟩
  · exact .inr x
omit [kf : KF] in
theorem Kp.lst {S S' : Sn} {a : Addr} {xs : List V} (k : Kp S S' a) (h : S.H a = some (.lst xs)) : S'.H a = some (.lst xs) := by
  rcases k with k | ⟨ps, k⟩
  · exact k.trans h
  · rw [h] at k; cases k
omit [kf : KF] in
theorem tabs_same {T : List (Addr × Str)} {H H' : Hp} (t : LamX.Tabs T H) (s : Same H H') : LamX.Tabs T H' := t.ext s
omit [kf : KF] in
theorem tabs_but {T : List (Addr × Str)} {H H' : Hp} {a : Addr} {xs : List V} (t : LamX.Tabs T H) (ha : H a = some (.lst xs)) (s : ∀ b o, H b = some o → b ≠ a → H' b = some o) : LamX.Tabs T H' := fun p hp => by
  obtain ⟨ps, h1, h2, h3⟩ := t p hp
  refine ⟨ps, s _ _ h1 fun e => ?_, h2, fun pos cv hc => ?_⟩
  · rw [e, ha] at h1; cases h1
  · obtain ⟨c, e1, e2⟩ := h3 pos cv hc
    refine ⟨c, e1, s _ _ e2 fun e => ?_⟩
    rw [e, ha] at e2; cases e2
/-- what an expression's evaluation leaves -/
structure Le (S S' : Sn) : Prop where
  le : Same S.F S'.F
  per : ∀ a, S.H a ≠ none → S'.H a ≠ none
  sl : ∀ i, isL S'.en i → isL S.en i ∧ S'.ad i = S.ad i
  so : ∀ i, isO S'.en i → isO S.en i ∧ S'.ad i = S.ad i ∧ ∀ b ∈ S'.fp i, b ∈ S.fp i ∨ S.H b = none
  tmp : ∀ a ∈ S.O, S.H a ≠ none → (∀ i, isL S.en i → S.ad i ≠ a) → (∀ i, isO S.en i → a ∉ S.fp i) → a ∈ S'.O ∧ Kp S S' a
omit [kf : KF] in
theorem Le.refl (S : Sn) : Le S S := ⟨Same.refl _, fun _ h => h, fun _ h => ⟨h, rfl⟩, fun i h => ⟨h, rfl, fun b hb => .inl hb⟩, fun a h _ _ _ => ⟨h, .inl rfl⟩⟩
omit [kf : KF] in
theorem Le.nobj {A B : Sn} (x : Le A B) {a : Addr} (ha : A.H a ≠ none) (n : ∀ i, isO A.en i → a ∉ A.fp i) : ∀ i, isO B.en i → a ∉ B.fp i := fun i h e => by
  obtain ⟨h1, _, h3⟩ := x.so i h
  rcases h3 a e with h3 | h3
  · exact n i h1 h3
  · exact ha h3
omit [kf : KF] in
theorem Le.ntmp {A B : Sn} (x : Le A B) {a : Addr} (n : ∀ i, isL A.en i → A.ad i ≠ a) : ∀ i, isL B.en i → B.ad i ≠ a := fun i h e => n i (x.sl i h).1 ((x.sl i h).2.symm.trans e)
omit [kf : KF] in
theorem Le.trans {A B C : Sn} (x : Le A B) (y : Le B C) : Le A C := ⟨x.le.trans y.le, fun a h => y.per a (x.per a h), fun i h => ⟨(x.sl i (y.sl i h).1).1, (y.sl i h).2.trans (x.sl i (y.sl i h).1).2⟩, fun i h => by
  obtain ⟨h1, h2, h3⟩ := y.so i h
  obtain ⟨g1, g2, g3⟩ := x.so i h1
  refine ⟨g1, h2.trans g2, fun b hb => ?_⟩
  rcases h3 b hb with q | q
  · exact g3 b q
  · refine .inr ?_
    cases e : A.H b with
    | none => rfl
    | some o => exact absurd q (x.per b (by rw [e]; simp)), fun a h hn n m => by
  obtain ⟨h1, e1⟩ := x.tmp a h hn n m
  obtain ⟨h2, e2⟩ := y.tmp a h1 (x.per a hn) (x.ntmp n) (x.nobj hn m)
  exact ⟨h2, e1.trans e2⟩⟩
/-- an object that no slot holds -/
structure ObV (t : Ent) (S : Sn) (p : Addr) (rg : List Addr) (C : Str) (ds : List D) : Prop where
  re : ObR S.H S.F C p rg ds
  mem : ∀ b ∈ rg, b ∈ S.O ∧ S.H b ≠ none ∧ okO (S.H b) ∧ t.H0 b = none ∧ b ∉ t.O0
  nL : ∀ b ∈ rg, ∀ i, isL S.en i → S.ad i ≠ b
  nO : ∀ b ∈ rg, ∀ i, isO S.en i → b ∉ S.fp i
/-- a value as an expression hands it out -/
noncomputable def VR (t : Ent) (S : Sn) (v : V) : Sl → Prop
  | .fr d => Rp S.F v d
  | .own ds => ∃ p xs, v = .ref p ∧ p ∈ S.O ∧ t.H0 p = none ∧ p ∉ t.O0 ∧ S.H p = some (.lst xs) ∧ RpA S.F xs ds ∧ (∀ i, isL S.en i → S.ad i ≠ p) ∧ ∀ i, isO S.en i → p ∉ S.fp i
  | .mb _ => False
  | .ob C ds => ∃ p rg, v = .ref p ∧ ObV t S p rg C ds
  | .mo _ _ => False
/-- a borrowed value -/
noncomputable def SB (S : Sn) (v : V) (d : D) : Prop := match d with
  | .list ds => ∃ a xs, v = .ref a ∧ S.H a = some (.lst xs) ∧ RpA S.F xs ds
  | d => Rp S.F v d
theorem SB.of {S : Sn} {v : V} {d : D} (h : Rp S.F v d) : SB S v d := by
  cases h with
  | lst h r => exact ⟨_, _, rfl, hid_le _ _ h, r⟩
  | any a => exact .any a
  | opq a => exact .opq a
  | exc h k r => exact .exc h k r
  | tup h r => exact .tup h r
  | non => exact .non
  | bl b => exact .bl b
  | int i => exact .int i
  | str x => exact .str x
theorem SB.rp {S : Sn} {v : V} {d : D} (h : SB S v d) : Rp S.H v d := by
  cases d with
  | list ds => obtain ⟨a, xs, rfl, e, r⟩ := h; exact .lst e (r.mono hid_le)
  | tuple ds => exact RpK.mono hid_le h
  | none => exact RpK.mono hid_le h
  | bool b => exact RpK.mono hid_le h
  | int i => exact RpK.mono hid_le h
  | str x => exact RpK.mono hid_le h
  | dict k => exact RpK.mono hid_le (show Rp S.F v _ from h)
theorem SB.int {S : Sn} {v : V} {i : Int} (h : SB S v (.int i)) : v = .int i := by cases (show Rp S.F v (.int i) from h); rfl
theorem SB.bool {S : Sn} {v : V} {i : Bool} (h : SB S v (.bool i)) : v = .bl i := by cases (show Rp S.F v (.bool i) from h); rfl
theorem SB.str {S : Sn} {v : V} {i : Str} (h : SB S v (.str i)) : v = .str i := by cases (show Rp S.F v (.str i) from h); rfl
theorem SB.tup {S : Sn} {v : V} {ds : List D} (h : SB S v (.tuple ds)) : ∃ a xs, v = .ref a ∧ TupAt S.H a xs ∧ RpA S.F xs ds ∧ Rp S.F v (.tuple ds) := by
  cases (show Rp S.F v (.tuple ds) from h) with
  | tup h' r => exact ⟨_, _, rfl, h'.mono hid_le, r, .tup h' r⟩
/-- a temporary list is let go: it is data -/
noncomputable def Sn.drop (S : Sn) (p : Addr) : Sn := { S with O := S.O.filter (· ≠ p) }
omit [kf : KF] in
theorem mem_drop {S : Sn} {p a : Addr} : a ∈ (S.drop p).O ↔ a ∈ S.O ∧ a ≠ p := by simp [Sn.drop]
omit [kf : KF] in
theorem drop_le {S : Sn} {p : Addr} : Same S.F (S.drop p).F := hid_sub fun a h => (mem_drop.mp h).1
theorem Rel.drop {t : Ent} {S : Sn} {σ : L2.St} {p : Addr} (R : Rel t S σ) (hp : p ∉ t.O0) (n : ∀ i, isL S.en i → S.ad i ≠ p) (m : ∀ i, isO S.en i → p ∉ S.fp i) : Rel t (S.drop p) σ where
  len := R.len
  keep := R.keep
  sup := fun a h => mem_drop.mpr ⟨R.sup a h, fun e => hp (e ▸ h)⟩
  subM := R.subM
  new := fun a h => R.new a (mem_drop.mp h).1
  trk := fun a h => R.trk a (mem_drop.mp h).1
  fr := fun i d e => let ⟨v, h1, h2⟩ := R.fr i d e; ⟨v, h1, h2.mono drop_le⟩
  li := fun i ds e => let ⟨h1, h2, xs, h3, h4⟩ := R.li i ds e; ⟨h1, mem_drop.mpr ⟨h2, n i ⟨ds, e⟩⟩, xs, h3, h4.mono drop_le⟩
  ow := R.ow
  mb := R.mb
  inj := R.inj
  tb := R.tb
  tM := R.tM
  os := R.os.keep (fun i x h _ _ _ => h) (fun _ _ => rfl) (fun _ _ => ⟨rfl, rfl⟩) (fun i hi b hb => ⟨mem_drop.mpr ⟨(R.os.rg i hi b hb).1, fun e => m i hi (e ▸ hb)⟩, rfl⟩) drop_le (fun i j hi hj => R.os.dL i j hi hj)
/-- behind an expression that left a temporary list, from S: the list was not there in S -/
theorem Le.dropped {t : Ent} {σ : L2.St} {S S' : Sn} {p : Addr} (R : Rel t S σ) (x : Le S S') (hp : S.H p = none ∨ ∃ i, isL S.en i ∧ S.ad i = p) : Le S (S'.drop p) := ⟨x.le.trans drop_le, x.per, x.sl, x.so, fun a h hn n m => by
  obtain ⟨h1, e1⟩ := x.tmp a h hn n m
  refine ⟨mem_drop.mpr ⟨h1, fun e => ?_⟩, e1⟩
  rcases hp with hp | ⟨i, hi, e2⟩
  · subst e; exact R.trk a h hp
  · exact n i hi (e2.trans e.symm)⟩
/-- an expression's end: its value, as it is; the list it left is not one that stood -/
structure EPost (t : Ent) (S S' : Sn) (σ : L2.St) (v : V) (r : Sl) : Prop where
  rel : Rel t S' σ
  le : Le S S'
  val : VR t S' v r
  tmp : ∀ p ds, r = .own ds → v = .ref p → S.H p = none ∨ ∃ i, isL S.en i ∧ S.ad i = p
  tmpO : ∀ C ds, r = .ob C ds → ∃ p rg, v = .ref p ∧ ObV t S' p rg C ds ∧ ∀ b ∈ rg, S.H b = none ∨ ∃ i, isO S.en i ∧ b ∈ S.fp i
/-- .. let go -/
structure FPost (t : Ent) (S S' : Sn) (σ : L2.St) (v : V) (d : D) : Prop where
  rel : Rel t S' σ
  le : Le S S'
  val : Rp S'.F v d
structure BPost (t : Ent) (S S' : Sn) (σ : L2.St) (v : V) (d : D) : Prop where
  rel : Rel t S' σ
  le : Le S S'
  val : SB S' v d
theorem EPost.fr {t : Ent} {S S' : Sn} {σ : L2.St} {v : V} {d : D} (R : Rel t S' σ) (l : Le S S') (h : Rp S'.F v d) : EPost t S S' σ v (.fr d) := ⟨R, l, h, fun p ds e => (nomatch e), fun C ds e => (nomatch e)⟩
theorem EPost.let_go {t : Ent} {S S' : Sn} {σ : L2.St} {v : V} {r : Sl} (R : Rel t S σ) (P : EPost t S S' σ v r) : ∃ S'' : Sn, S''.H = S'.H ∧ S''.en = S'.en ∧ S''.ad = S'.ad ∧ (∀ a ∈ S''.O, a ∈ S'.O) ∧ FPost t S S'' σ v (toD r) := by
  cases r with
  | fr d => exact ⟨S', rfl, rfl, rfl, fun _ h => h, P.rel, P.le, P.val⟩
  | mb ds => exact absurd P.val (fun h => h)
  | mo C ds => exact absurd P.val (fun h => h)
  | ob C ds =>
    obtain ⟨p, rg, rfl, _⟩ := P.val
    exact ⟨S', rfl, rfl, rfl, fun _ h => h, P.rel, P.le, .any p⟩
  | own ds =>
    obtain ⟨p, xs, rfl, hp, h0, hO, hx, hr, hn, hm⟩ := P.val
    refine ⟨S'.drop p, rfl, rfl, rfl, fun a h => (mem_drop.mp h).1, P.rel.drop hO hn hm, P.le.dropped R (P.tmp p ds rfl rfl), ?_⟩
    refine .lst ?_ (hr.mono drop_le)
    show hid S'.H (S'.drop p).O p = _
    rw [hid_out fun h => (mem_drop.mp h).2 rfl]
    exact hx
theorem FPost.b {t : Ent} {S S' : Sn} {σ : L2.St} {v : V} {d : D} (P : FPost t S S' σ v d) : BPost t S S' σ v d := ⟨P.rel, P.le, .of P.val⟩
/-- a name, borrowed -/
theorem Rel.borrow {t : Ent} {S : Sn} {σ : L2.St} (R : Rel t S σ) {i : Nat} {d : D} (h : rdE S.en i = .ok d) : ∃ v, σ[i]? = some (some v) ∧ SB S v d := by
  unfold rdE at h
  split at h
  · rename_i s e
    have h' : toD s = d := by injection h
    subst h'
    cases s with
    | fr d => obtain ⟨v, h1, h2⟩ := R.fr i d e; exact ⟨v, h1, .of h2⟩
    | own ds => obtain ⟨h1, h2, xs, h3, h4⟩ := R.li i ds (.inl e); exact ⟨_, h1, _, xs, rfl, h3, h4⟩
    | mb ds => obtain ⟨h1, h2, xs, h3, h4⟩ := R.li i ds (.inr e); exact ⟨_, h1, _, xs, rfl, h3, h4⟩
    | ob C ds => exact ⟨_, (R.os.rep i C ds (.inl e)).1, .any _⟩
    | mo C ds => exact ⟨_, (R.os.rep i C ds (.inr e)).1, .any _⟩
  · cases h
omit [kf : KF] in
theorem en_set {en : En} {i j : Nat} {x : Option Sl} (h : i < en.length) : (en.set i x)[j]? = if i = j then some x else en[j]? := by
  rw [List.getElem?_set]
  by_cases e : i = j
  · subst e; simp [h]
  · simp [e]
omit [kf : KF] in
theorem lt_of_some {α : Type} {l : List α} {i : Nat} {x : α} (h : l[i]? = some x) : i < l.length := (List.getElem?_eq_some_iff.mp h).1
/-- an own list is let go: from now on it is data -/
noncomputable def Sn.frz (S : Sn) (i : Nat) (ds : List D) : Sn := { S with en := S.en.set i (some (.fr (.list ds))), O := S.O.filter (· ≠ S.ad i) }
theorem Rel.frz {t : Ent} {S : Sn} {σ : L2.St} (R : Rel t S σ) {i : Nat} {ds : List D} (h : S.en[i]? = some (some (Sl.own ds))) :
    Rel t (S.frz i ds) σ ∧ Le S (S.frz i ds) ∧ σ[i]? = some (some (V.ref (S.ad i))) ∧ Rp (S.frz i ds).F (.ref (S.ad i)) (.list ds) := by
  have hi := lt_of_some h
  obtain ⟨h1, h2, xs, h3, h4⟩ := R.li i ds (.inl h)
  obtain ⟨h5, h6⟩ := R.ow i ds h
  have mO : ∀ {a}, a ∈ (S.frz i ds).O ↔ a ∈ S.O ∧ a ≠ S.ad i := by intro a; simp [Sn.frz]
  have le : Same S.F (S.frz i ds).F := hid_sub fun a h => (mO.mp h).1
  have hr : Rp (S.frz i ds).F (.ref (S.ad i)) (.list ds) := by
    refine .lst ?_ (h4.mono le)
    show hid S.H (S.frz i ds).O (S.ad i) = _
    rw [hid_out fun h => (mO.mp h).2 rfl]
    exact h3
  have old : ∀ {j x}, (S.frz i ds).en[j]? = some (some x) → (∀ d, x ≠ .fr d) → j ≠ i ∧ S.en[j]? = some (some x) := by
    intro j x e nx
    rw [show (S.frz i ds).en = S.en.set i (some (.fr (.list ds))) from rfl, en_set hi] at e
    split at e
    · exact absurd (Option.some.inj (Option.some.inj e)).symm (nx _)
    · rename_i ne; exact ⟨fun q => ne q.symm, e⟩
  have oldL : ∀ {j}, isL (S.frz i ds).en j → j ≠ i ∧ isL S.en j := by
    rintro j ⟨es, e | e⟩
    · obtain ⟨a, b⟩ := old e (fun d => by simp); exact ⟨a, es, .inl b⟩
    · obtain ⟨a, b⟩ := old e (fun d => by simp); exact ⟨a, es, .inr b⟩
  have oldX : ∀ (j : Nat) x, (S.frz i ds).en[j]? = some (some x) → (∀ d, x ≠ .fr d) → (∀ ds, x ≠ .own ds) → (∀ ds, x ≠ .mb ds) → S.en[j]? = some (some x) := fun j x e a _ _ => (old e a).2
  have oldO : ∀ {j}, isO (S.frz i ds).en j → isO S.en j := by
    rintro j ⟨C, es, e | e⟩
    · exact ⟨C, es, .inl (old e (fun d => by simp)).2⟩
    · exact ⟨C, es, .inr (old e (fun d => by simp)).2⟩
  refine ⟨⟨?_, R.keep, fun a ha => mO.mpr ⟨R.sup a ha, fun e => h6 (e ▸ ha)⟩, R.subM, fun a ha => R.new a (mO.mp ha).1, fun a ha => R.trk a (mO.mp ha).1, ?_, ?_, ?_, ?_, ?_, R.tb, R.tM, ?_⟩, ⟨le, fun a h => h, fun j hj => ⟨(oldL hj).2, rfl⟩, fun j hj => ⟨oldO hj, rfl, fun b hb => .inl hb⟩, fun a ha _ n _ => ⟨mO.mpr ⟨ha, fun e => n i ⟨ds, .inl h⟩ e.symm⟩, .inl rfl⟩⟩, h1, hr⟩
  · show (S.en.set i _).length = _
    rw [List.length_set]; exact R.len
  · intro j d e
    rw [show (S.frz i ds).en = S.en.set i (some (.fr (.list ds))) from rfl, en_set hi] at e
    split at e
    · rename_i q
      subst q
      have z : PyData.list ds = d := by simpa using e
      subst z
      exact ⟨_, h1, hr⟩
    · obtain ⟨v, a, b⟩ := R.fr j d e
      exact ⟨v, a, b.mono le⟩
  · intro j es e
    have q : j ≠ i ∧ (S.en[j]? = some (some (Sl.own es)) ∨ S.en[j]? = some (some (Sl.mb es))) := by
      rcases e with e | e
      · exact ⟨(old e (fun d => by simp)).1, .inl (old e (fun d => by simp)).2⟩
      · exact ⟨(old e (fun d => by simp)).1, .inr (old e (fun d => by simp)).2⟩
    obtain ⟨a, b, ys, c, d⟩ := R.li j es q.2
    exact ⟨a, mO.mpr ⟨b, fun z => q.1 (R.inj j i ⟨es, q.2⟩ ⟨ds, .inl h⟩ z)⟩, ys, c, d.mono le⟩
  · intro j es e
    exact R.ow j es (old e (fun d => by simp)).2
  · intro j es e
    exact R.mb j es (old e (fun d => by simp)).2
  · intro j k hj hk z
    exact R.inj j k (oldL hj).2 (oldL hk).2 z
  · exact R.os.keep oldX (fun _ _ => rfl) (fun _ _ => ⟨rfl, rfl⟩) (fun j hj b hb => ⟨mO.mpr ⟨(R.os.rg j (oldO hj) b hb).1, fun e => R.os.dL j i (oldO hj) ⟨ds, .inl h⟩ (e ▸ hb)⟩, rfl⟩) le (fun j k hj hk => R.os.dL j k (oldO hj) (oldL hk).2)
/-- .. moved: a temporary list -/
noncomputable def Sn.mvd (S : Sn) (i : Nat) : Sn := { S with en := S.en.set i none }
theorem Rel.mvd {t : Ent} {S : Sn} {σ : L2.St} (R : Rel t S σ) {i : Nat} {ds : List D} (h : S.en[i]? = some (some (Sl.own ds))) : ∃ v, σ[i]? = some (some v) ∧ EPost t S (S.mvd i) σ v (.own ds) := by
  have hi := lt_of_some h
  obtain ⟨h1, h2, xs, h3, h4⟩ := R.li i ds (.inl h)
  obtain ⟨h5, h6⟩ := R.ow i ds h
  have old : ∀ {j x}, (S.mvd i).en[j]? = some (some x) → j ≠ i ∧ S.en[j]? = some (some x) := by
    intro j x e
    rw [show (S.mvd i).en = S.en.set i none from rfl, en_set hi] at e
    split at e
    · cases e
    · rename_i ne; exact ⟨fun q => ne q.symm, e⟩
  have oldL : ∀ {j}, isL (S.mvd i).en j → j ≠ i ∧ isL S.en j := by
    rintro j ⟨es, e | e⟩
    · exact ⟨(old e).1, es, .inl (old e).2⟩
    · exact ⟨(old e).1, es, .inr (old e).2⟩
  have oldO : ∀ {j}, isO (S.mvd i).en j → isO S.en j := by
    rintro j ⟨C, es, e | e⟩
    · exact ⟨C, es, .inl (old e).2⟩
    · exact ⟨C, es, .inr (old e).2⟩
  refine ⟨_, h1, ⟨?_, R.keep, R.sup, R.subM, R.new, R.trk, fun j d e => R.fr j d (old e).2, ?_, fun j es e => R.ow j es (old e).2, fun j es e => R.mb j es (old e).2, fun j k hj hk z => R.inj j k (oldL hj).2 (oldL hk).2 z, R.tb, R.tM, R.os.keep (fun j x e _ _ _ => (old e).2) (fun _ _ => rfl) (fun _ _ => ⟨rfl, rfl⟩) (fun j hj b hb => ⟨(R.os.rg j (oldO hj) b hb).1, rfl⟩) (Same.refl _) (fun j k hj hk => R.os.dL j k (oldO hj) (oldL hk).2)⟩, ⟨Same.refl _, fun a h => h, fun j hj => ⟨(oldL hj).2, rfl⟩, fun j hj => ⟨oldO hj, rfl, fun b hb => .inl hb⟩, fun a ha _ n _ => ⟨ha, .inl rfl⟩⟩, ⟨_, xs, rfl, h2, h5, h6, h3, h4, fun j hj z => (oldL hj).1 (R.inj j i (oldL hj).2 ⟨ds, .inl h⟩ z), fun j hj => R.os.dL j i (oldO hj) ⟨ds, .inl h⟩⟩, fun p es e1 e2 => .inr ⟨i, ⟨ds, .inl h⟩, by injection e2⟩, fun C es e => nomatch e⟩
  · show (S.en.set i _).length = _
    rw [List.length_set]; exact R.len
  · intro j es e
    refine R.li j es ?_
    rcases e with e | e
    · exact .inl (old e).2
    · exact .inr (old e).2
/-- .. an object -/
theorem Rel.mvdO {t : Ent} {S : Sn} {σ : L2.St} (R : Rel t S σ) {i : Nat} {C : Str} {ds : List D} (h : S.en[i]? = some (some (Sl.ob C ds))) : ∃ v, σ[i]? = some (some v) ∧ EPost t S (S.mvd i) σ v (.ob C ds) := by
  have hi := lt_of_some h
  obtain ⟨h1, h2⟩ := R.os.rep i C ds (.inl h)
  have io : isO S.en i := isO_of (.inl h)
  have old : ∀ {j x}, (S.mvd i).en[j]? = some (some x) → j ≠ i ∧ S.en[j]? = some (some x) := by
    intro j x e
    rw [show (S.mvd i).en = S.en.set i none from rfl, en_set hi] at e
    split at e
    · cases e
    · rename_i ne; exact ⟨fun q => ne q.symm, e⟩
  have oldL : ∀ {j}, isL (S.mvd i).en j → j ≠ i ∧ isL S.en j := by
    rintro j ⟨es, e | e⟩
    · exact ⟨(old e).1, es, .inl (old e).2⟩
    · exact ⟨(old e).1, es, .inr (old e).2⟩
  have oldO : ∀ {j}, isO (S.mvd i).en j → j ≠ i ∧ isO S.en j := by
    rintro j ⟨C, es, e | e⟩
    · exact ⟨(old e).1, C, es, .inl (old e).2⟩
    · exact ⟨(old e).1, C, es, .inr (old e).2⟩
  have V : ObV t (S.mvd i) (S.ad i) (S.fp i) C ds := ⟨h2, fun b hb => ⟨(R.os.rg i io b hb).1, R.trk b (R.os.rg i io b hb).1, (R.os.rg i io b hb).2, R.os.own i C ds h b hb⟩, fun b hb j hj e => R.os.dL i j io (oldL hj).2 (e ▸ hb), fun b hb j hj e => (oldO hj).1 (R.os.dO j i b (oldO hj).2 io e hb)⟩
  refine ⟨_, h1, ⟨?_, R.keep, R.sup, R.subM, R.new, R.trk, fun j d e => R.fr j d (old e).2, ?_, fun j es e => R.ow j es (old e).2, fun j es e => R.mb j es (old e).2, fun j k hj hk z => R.inj j k (oldL hj).2 (oldL hk).2 z, R.tb, R.tM, R.os.keep (fun j x e _ _ _ => (old e).2) (fun _ _ => rfl) (fun _ _ => ⟨rfl, rfl⟩) (fun j hj b hb => ⟨(R.os.rg j (oldO hj).2 b hb).1, rfl⟩) (Same.refl _) (fun j k hj hk => R.os.dL j k (oldO hj).2 (oldL hk).2)⟩, ⟨Same.refl _, fun a h => h, fun j hj => ⟨(oldL hj).2, rfl⟩, fun j hj => ⟨(oldO hj).2, rfl, fun b hb => .inl hb⟩, fun a ha _ n _ => ⟨ha, .inl rfl⟩⟩, ⟨_, _, rfl, V⟩, fun p es e1 => (nomatch e1), fun C' es e1 => ?_⟩
  · show (S.en.set i _).length = _
    rw [List.length_set]; exact R.len
  · intro j es e
    refine R.li j es ?_
    rcases e with e | e
    · exact .inl (old e).2
    · exact .inr (old e).2
  · cases e1
    exact ⟨_, _, rfl, V, fun b hb => .inr ⟨i, io, hb⟩⟩
theorem Le.noneH {A B : Sn} (x : Le A B) {p : Addr} (h : B.H p = none) : A.H p = none := by
  cases q : A.H p with
  | none => rfl
  | some o => exact absurd h (x.per p (by rw [q]; simp))
theorem EPost.trans {t : Ent} {A B C : Sn} {σ : L2.St} {v : V} {r : Sl} (x : Le A B) (P : EPost t B C σ v r) : EPost t A C σ v r := ⟨P.rel, x.trans P.le, P.val, fun p ds e1 e2 => by
  rcases P.tmp p ds e1 e2 with h | ⟨i, h, e⟩
  · exact .inl (x.noneH h)
  · exact .inr ⟨i, (x.sl i h).1, (x.sl i h).2.symm.trans e⟩, fun C ds e => by
  obtain ⟨p, rg, h1, h2, h3⟩ := P.tmpO C ds e
  refine ⟨p, rg, h1, h2, fun b hb => ?_⟩
  rcases h3 b hb with h | ⟨i, h, e⟩
  · exact .inl (x.noneH h)
  · obtain ⟨q1, _, q3⟩ := x.so i h
    rcases q3 b e with q | q
    · exact .inr ⟨i, q1, q⟩
    · exact .inl q⟩
/-- a new object -/
theorem Rel.fresh {t : Ent} {S : Sn} {σ : L2.St} (R : Rel t S σ) {p : Addr} (hp : S.H p = none) : p ∉ S.O ∧ p ∉ t.O0 ∧ t.H0 p = none := by
  have h1 : p ∉ S.O := fun h => R.trk p h hp
  have h2 : p ∉ t.O0 := fun h => h1 (R.sup p h)
  refine ⟨h1, h2, ?_⟩
  cases e : t.H0 p with
  | none => rfl
  | some o => rw [R.keep p o e fun h => h2 (R.subM p h)] at hp; cases hp
omit [kf : KF] in
theorem same_upd {H : Hp} {p : Addr} {o : HO} (hp : H p = none) : Same H (upd H p o) := fun b u e => by rw [upd_ne (ne_of_none e hp)]; exact e
/-- the heap has grown: nothing that stood has changed -/
theorem Rel.grow {t : Ent} {S : Sn} {σ : L2.St} (R : Rel t S σ) {H' : Hp} (s : Same S.H H') : Rel t { S with H := H' } σ ∧ Le S { S with H := H' } := by
  have le : Same S.F (hid H' S.O) := fun b o h => by
    obtain ⟨n, e⟩ := hid_some h
    rw [hid_out n]
    exact s _ _ e
  have per : ∀ a, S.H a ≠ none → H' a ≠ none := fun a h => by
    cases e : S.H a with
    | none => exact absurd e h
    | some o => rw [s _ _ e]; simp
  have eq : ∀ a, S.H a ≠ none → H' a = S.H a := fun a h => by
    cases e : S.H a with
    | none => exact absurd e h
    | some o => exact s _ _ e
  refine ⟨⟨R.len, fun b o h m => s _ _ (R.keep b o h m), R.sup, R.subM, R.new, fun a h => per a (R.trk a h), fun i d e => ?_, fun i ds e => ?_, R.ow, R.mb, R.inj, tabs_same R.tb s, R.tM, R.os.keep (fun i x e _ _ _ => e) (fun _ _ => rfl) (fun _ _ => ⟨rfl, rfl⟩) (fun i hi b hb => ⟨(R.os.rg i hi b hb).1, eq b (R.trk b (R.os.rg i hi b hb).1)⟩) le (fun i j hi hj => R.os.dL i j hi hj)⟩, ⟨le, per, fun i h => ⟨h, rfl⟩, fun i h => ⟨h, rfl, fun b hb => .inl hb⟩, fun a h hn _ _ => ⟨h, .inl (eq a hn)⟩⟩⟩
  · obtain ⟨v, h1, h2⟩ := R.fr i d e
    exact ⟨v, h1, h2.mono le⟩
  · obtain ⟨h1, h2, xs, h3, h4⟩ := R.li i ds e
    exact ⟨h1, h2, xs, s _ _ h3, h4.mono le⟩
/-- .. and a list in it is the expression's own -/
theorem Rel.growL {t : Ent} {S : Sn} {σ : L2.St} (R : Rel t S σ) {H' : Hp} (s : Same S.H H') {p : Addr} {xs : List V} {ds : List D} (hp : S.H p = none) (hx : H' p = some (.lst xs)) (hr : RpA (hid H' (p :: S.O)) xs ds) :
    EPost t S { S with H := H', O := p :: S.O } σ (.ref p) (.own ds) := by
  obtain ⟨n1, n2, n3⟩ := R.fresh hp
  have le : Same S.F (hid H' (p :: S.O)) := fun b o h => by
    obtain ⟨n, e⟩ := hid_some h
    rw [hid_out fun q => by
      rcases List.mem_cons.mp q with q | q
      · subst q; rw [hp] at e; cases e
      · exact n q]
    exact s _ _ e
  have per : ∀ a, S.H a ≠ none → H' a ≠ none := fun a h => by
    cases e : S.H a with
    | none => exact absurd e h
    | some o => rw [s _ _ e]; simp
  have eq : ∀ a, S.H a ≠ none → H' a = S.H a := fun a h => by
    cases e : S.H a with
    | none => exact absurd e h
    | some o => exact s _ _ e
  refine ⟨⟨R.len, fun b o h m => s _ _ (R.keep b o h m), fun a h => List.mem_cons_of_mem _ (R.sup a h), R.subM, fun a h => ?_, fun a h => ?_, fun i d e => ?_, fun i ds e => ?_, R.ow, R.mb, R.inj, tabs_same R.tb s, R.tM, R.os.keep (fun i x e _ _ _ => e) (fun _ _ => rfl) (fun _ _ => ⟨rfl, rfl⟩) (fun i hi b hb => ⟨List.mem_cons_of_mem _ (R.os.rg i hi b hb).1, eq b (R.trk b (R.os.rg i hi b hb).1)⟩) le (fun i j hi hj => R.os.dL i j hi hj)⟩, ⟨le, per, fun i h => ⟨h, rfl⟩, fun i h => ⟨h, rfl, fun b hb => .inl hb⟩, fun a h hn _ _ => ⟨List.mem_cons_of_mem _ h, .inl (eq a hn)⟩⟩, ⟨p, xs, rfl, List.mem_cons_self .., n3, n2, hx, hr, fun i hi e => ?_, fun i hi e => n1 (R.os.rg i hi p e).1⟩, fun q es e1 e2 => .inl ?_, fun C es e => nomatch e⟩
  · rcases List.mem_cons.mp h with h | h
    · exact .inr (h ▸ n3)
    · exact R.new a h
  · rcases List.mem_cons.mp h with h | h
    · subst h
      show H' a ≠ none
      rw [hx]
      simp
    · exact per a (R.trk a h)
  · obtain ⟨v, h1, h2⟩ := R.fr i d e
    exact ⟨v, h1, h2.mono le⟩
  · obtain ⟨h1, h2, xs, h3, h4⟩ := R.li i ds e
    exact ⟨h1, List.mem_cons_of_mem _ h2, xs, s _ _ h3, h4.mono le⟩
  · obtain ⟨es, hi⟩ := hi
    have q := (R.li i es hi).2.1
    exact n1 (e ▸ q)
  · injection e2 with e3
    rw [← e3]
    exact hp
/-- .. and some new objects are the expression's own -/
theorem Rel.growO {t : Ent} {S : Sn} {σ : L2.St} (R : Rel t S σ) {H' : Hp} (s : Same S.H H') {rg : List Addr} (hn : ∀ b ∈ rg, S.H b = none ∧ H' b ≠ none) :
    Rel t { S with H := H', O := rg ++ S.O } σ ∧ Le S { S with H := H', O := rg ++ S.O } := by
  have le : Same S.F (hid H' (rg ++ S.O)) := fun b o h => by
    obtain ⟨n, e⟩ := hid_some h
    rw [hid_out fun q => by
      rcases List.mem_append.mp q with q | q
      · rw [(hn b q).1] at e; cases e
      · exact n q]
    exact s _ _ e
  have eq : ∀ a, S.H a ≠ none → H' a = S.H a := fun a h => by
    cases e : S.H a with
    | none => exact absurd e h
    | some o => exact s _ _ e
  have per : ∀ a, S.H a ≠ none → H' a ≠ none := fun a h => by rw [eq a h]; exact h
  refine ⟨⟨R.len, fun b o h m => s _ _ (R.keep b o h m), fun a h => List.mem_append_right _ (R.sup a h), R.subM, fun a h => ?_, fun a h => ?_, fun i d e => ?_, fun i ds e => ?_, R.ow, R.mb, R.inj, tabs_same R.tb s, R.tM, R.os.keep (fun i x e _ _ _ => e) (fun _ _ => rfl) (fun _ _ => ⟨rfl, rfl⟩) (fun i hi b hb => ⟨List.mem_append_right _ (R.os.rg i hi b hb).1, eq b (R.trk b (R.os.rg i hi b hb).1)⟩) le (fun i j hi hj => R.os.dL i j hi hj)⟩, ⟨le, per, fun i h => ⟨h, rfl⟩, fun i h => ⟨h, rfl, fun b hb => .inl hb⟩, fun a h hn _ _ => ⟨List.mem_append_right _ h, .inl (eq a hn)⟩⟩⟩
  · rcases List.mem_append.mp h with h | h
    · refine .inr ?_
      cases e : t.H0 a with
      | none => rfl
      | some o =>
        by_cases m : a ∈ t.M
        · exact absurd (hn a h).1 (R.trk a (R.sup a (R.subM a m)))
        · have q := (hn a h).1
          rw [R.keep a o e m] at q
          cases q
    · exact R.new a h
  · rcases List.mem_append.mp h with h | h
    · exact (hn a h).2
    · exact per a (R.trk a h)
  · obtain ⟨v, h1, h2⟩ := R.fr i d e
    exact ⟨v, h1, h2.mono le⟩
  · obtain ⟨h1, h2, xs, h3, h4⟩ := R.li i ds e
    exact ⟨h1, List.mem_append_right _ h2, xs, s _ _ h3, h4.mono le⟩
/-- what is known of the lent object where an error leaves -/
noncomputable def obsR (t : Ent) (ms : Option (List D)) (H' : Hp) : Prop := ∀ C a ds, t.mo = some (C, a) → ms = some ds → ∃ rg, ObR H' (hid H' (rg ++ t.O0)) C a rg ds ∧ (∀ b ∈ t.M, b ∈ rg) ∧ ∀ b ∈ rg, okO (H' b) ∧ (b ∈ t.M ∨ (t.H0 b = none ∧ b ∉ t.O0))
theorem Rel.obs {t : Ent} {S : Sn} {σ : L2.St} (R : Rel t S σ) {en : En} (e : S.en = en) {H' : Hp} (s : Same S.H H') : obsR t (VS.obs en) H' := by
  subst e
  intro C a ds h1 h2
  have h0 : ∃ C', S.en[0]? = some (some (Sl.mo C' ds)) := by
    unfold VS.obs at h2
    split at h2
    · rename_i C' ds' r q
      have e := Option.some.inj h2
      subst e
      exact ⟨C', by rw [q]; rfl⟩
    · cases h2
  obtain ⟨C', h0⟩ := h0
  obtain ⟨q1, q3, q2⟩ := R.os.len 0 C' ds h0
  rw [h1] at q1
  have q0 := Option.some.inj q1
  cases q0
  obtain ⟨_, q4⟩ := R.os.rep 0 C ds (.inr h0)
  have io : isO S.en 0 := isO_of (.inr h0)
  refine ⟨S.fp 0, q4.keep (fun b o h => ?_) (fun b hb o e => s _ _ e) (fun b hb => hb), q3, fun b hb => ⟨?_, q2 b hb⟩⟩
  rotate_left
  · have q5 := (R.os.rg 0 io b hb).2
    cases e : S.H b with
    | none => exact absurd e q5.ne
    | some o =>
      rw [s _ _ e, ← e]
      exact q5
  obtain ⟨n, e⟩ := hid_some h
  rw [hid_out fun q => n (by
    rcases List.mem_append.mp q with q | q
    · exact (R.os.rg 0 io b q).1
    · exact R.sup b q)]
  exact s _ _ e
theorem Rel.newL {t : Ent} {S : Sn} {σ : L2.St} (R : Rel t S σ) {p : Addr} {xs : List V} {ds : List D} (hp : S.H p = none) (hr : RpA S.F xs ds) :
    EPost t S { S with H := upd S.H p (.lst xs), O := p :: S.O } σ (.ref p) (.own ds) := by
  obtain ⟨n1, n2, n3⟩ := R.fresh hp
  refine R.growL (same_upd hp) hp upd_same (hr.mono fun b o h => ?_)
  obtain ⟨n, e⟩ := hid_some h
  have nb : b ≠ p := ne_of_none e hp
  rw [hid_out fun q => by
    rcases List.mem_cons.mp q with q | q
    · exact nb q
    · exact n q, upd_ne nb]
  exact e
theorem Rel.newF {t : Ent} {S : Sn} {σ : L2.St} (R : Rel t S σ) {p : Addr} {o : Obj} {xs : List V} {ds : List D} (hp : S.H p = none) (ho : o.dict = none) (hr : RpA S.F xs ds) :
    FPost t S { S with H := upd S.H p (.frz o (.tup xs)) } σ (.ref p) (.tuple ds) := by
  obtain ⟨R', l⟩ := R.grow (same_upd (o := .frz o (.tup xs)) hp)
  refine ⟨R', l, .tup (.of (o := o) ?_ ho) (hr.mono l.le)⟩
  show hid (upd S.H p (.frz o (.tup xs))) S.O p = _
  rw [hid_out (R.fresh hp).1, upd_same]
theorem FPost.e {t : Ent} {S S' : Sn} {σ : L2.St} {v : V} {d : D} (P : FPost t S S' σ v d) : EPost t S S' σ v (.fr d) := .fr P.rel P.le P.val
end
end VS

/-! Tuples made, their objects known: displays, tuple(xs), +, slices, * int. -/
namespace VS
open PySem PySem.Spec PyProof.Rows L2 HT
/-- the object of a new tuple -/
noncomputable def tob (its : List Value) : Obj := { cls := .type "tuple", data := .seq its.toArray }
/-- what is wanted of a new tuple -/
noncomputable def NewT (H : Hp) (xs : List V) (Q : VK) : Prop := ∀ (p : Addr) (o : Obj), H p = none → o.dict = none → Q (.ref p) (upd H p (.frz o (.tup xs)))
section
variable {X : Cx} {pins : List (Addr × Obj)} {σ : L2.St} {H : Hp} {s : Shared} {h' : Heap} {a : Addr} {t' : Nat} {xs : List V} {its : List Value}
theorem laidF (I : Inv X pins σ H s) (k : ∀ b u, s.heap.get? b = some u → h'.get? b = some u) (hp : s.heap.objs.size ≤ a) (hz : xs.length ≤ sizeLine) (r : Vals xs its) (e : h'.get? a = some (tob its)) :
    Inv X pins σ (upd H a (.frz (tob its) (.tup xs))) { s with heap := h', toks := t' } :=
  I.laid (t' := t') k hp ⟨e, hz, its, r, ⟨_, e, rfl, _, rfl⟩⟩
theorem newF_end {Q : VK} (I : Inv X pins σ H s) (hz : xs.length ≤ sizeLine) (r : Vals xs its) (q : NewT H xs Q) : EP X pins σ Q (.ref s.heap.objs.size) { s with heap := s.heap.push (tob its) } :=
  ⟨.ref s.heap.objs.size, _, laidF (t' := s.toks) I (fun b ob e => Heap.get?_push_of_some _ e) (Nat.le_refl _) hz r (Heap.get?_push_size _ rfl), rfl, q _ _ (I.hok.fresh (Nat.le_refl _)) rfl⟩
end
section
variable {X : Cx} {es : List Expr} {t : L2.TA} {pos : Pos}
noncomputable def tTupF (t : L2.TA) : TE := fun σ H Q => t σ H fun xs H1 => xs.length ≤ sizeLine ∧ NewT H1 xs Q
theorem pe_tupF {x1 : Nat} (h : PA X es t) : PE X (.Tuple es x1 pos) (tTupF t) := by
  refine ⟨fun pins s σ H Q I hq => ?_⟩
  exact wpAny_Tuple_spliced (thn (h.run pos pins s σ H _ I hq) fun us s1 ⟨xs, H1, I1, r, z, q⟩ => ⟨by rw [← r.length]; exact z, newF_end I1 z r q⟩)
noncomputable def rTupOf (K : PySem.W.Frag) : List V → Hp → VK → Prop := fun xs H Q => ∃ p ys, xs = [.ref p] ∧ ((SqL K H p ys ∧ NewT H ys Q) ∨ (SqT K H p ys ∧ Q (.ref p) H))
theorem cr_tupOf : CallR X (.type "tuple") (rTupOf X.K) := by
  intro pins s σ H xs us Q I r h
  obtain ⟨p, ys, rfl, h⟩ := h
  obtain ⟨u, rfl, rx⟩ := vals1 r
  cases rx
  rcases h with ⟨hq, q⟩ | ⟨hq, q⟩
  · obtain ⟨its, r', pl, hz⟩ := I.list hq
    have hlen := r'.length
    refine call_tuple_list pl.isList (fun h' kp => ?_) (by simp only [List.size_toArray] <;> omega)
    exact newF_end (I.kept (t' := s.toks) kp) hz r' q
  · obtain ⟨its, r', pl, hz⟩ := I.tuple hq
    exact call_tuple_same pl ⟨.ref p, H, I, rfl, q⟩
/-- t + u -/
noncomputable def rCatF (K : PySem.W.Frag) : R2 := fun x y H Q => ∃ a b xs ys, x = .ref a ∧ y = .ref b ∧ SqT K H a xs ∧ SqT K H b ys ∧ xs.length + ys.length ≤ sizeLine ∧
  (xs = [] → Q (.ref b) H) ∧ (xs ≠ [] → ys = [] → Q (.ref a) H) ∧ (xs ≠ [] → ys ≠ [] → NewT H (xs ++ ys) Q)
theorem op_catF : OpR X (binaryOp .Add) (rCatF X.K) := by
  intro pins s σ H x y v u Q I rx ry h
  obtain ⟨a, b, xs, ys, rfl, rfl, ha, hb, hz, q0, q1, q2⟩ := h
  cases rx
  cases ry
  obtain ⟨its, r1, p1, _⟩ := I.tuple ha
  obtain ⟨its2, r2, p2, _⟩ := I.tuple hb
  by_cases hx : xs = []
  · subst hx
    cases r1
    exact cat_tup0 p1 p2 ⟨.ref b, H, I, rfl, q0 rfl⟩
  · refine HT.cat_tup p1 p2 (fun z => hx (r1.nil_iff.mp z)) (fun z => ⟨.ref a, H, I, rfl, q1 hx (r2.nil_iff.mp z)⟩) (fun z => ?_) (by rw [← r1.length, ← r2.length]; exact hz)
    exact newF_end I (by rw [List.length_append]; exact hz) (r1.append r2) (q2 hx fun w => z (r2.nil_iff.mpr w))
/-- t[lo:hi] -/
noncomputable def rSlF (K : PySem.W.Frag) : V → Option Int → Option Int → Hp → VK → Prop := fun x lo hi H Q => ∃ a xs, x = .ref a ∧ SqT K H a xs ∧
  (HT.sIx xs.length 0 lo = 0 ∧ HT.sIx xs.length xs.length hi = xs.length → Q (.ref a) H) ∧ (¬ (HT.sIx xs.length 0 lo = 0 ∧ HT.sIx xs.length xs.length hi = xs.length) → NewT H (cutV xs lo hi) Q)
theorem sl_tupF : SlR X (rSlF X.K) := by
  intro pins s σ H x v vl vu lo hi sl Q I rx hs pl pu h
  obtain ⟨a, xs, rfl, hx, q1, q2⟩ := h
  by_cases hw : HT.sIx xs.length 0 lo = 0 ∧ HT.sIx xs.length xs.length hi = xs.length
  · exact sl_tupA pins s σ H _ v vl vu lo hi sl Q I rx hs pl pu ⟨a, xs, rfl, hx, q1, fun z => absurd hw z⟩
  · cases rx
    obtain ⟨its, r, ht, hz⟩ := I.tuple hx
    have hlen : its.toArray.size = xs.length := by rw [List.size_toArray]; exact r.length.symm
    refine ⟨"tuple", _, PyProof.Rows.slot_tuple_getitem.lookup, ht.typeIs, ?_⟩
    refine HT.getItem_tuple_cut ht hs pl pu (by rw [hlen]; exact hw) ?_ (by rw [hlen]; exact hz)
    rw [hlen]
    exact newF_end I (Nat.le_trans (cutV_length xs lo hi) hz) ((r.drop (HT.sIx xs.length 0 lo)).take (HT.sIx xs.length xs.length hi - HT.sIx xs.length 0 lo)) (q2 hw)
noncomputable def rRepF (K : PySem.W.Frag) : R2 := fun x y H Q => ∃ l k xs, x = .ref l ∧ y = .int k ∧ SqT K H l xs ∧ xs ≠ [] ∧ 2 ≤ k ∧ k ≤ 1000 ∧ xs.length ≤ 1000 ∧ NewT H (List.replicate k.toNat xs).flatten Q
theorem op_repF : OpR X (binaryOp .Mult) (rRepF X.K) := by
  intro pins s σ H x y v u Q I rx ry h
  obtain ⟨l, k, xs, rfl, rfl, hT, hne, h1, h2, hz, q⟩ := h
  cases rx
  obtain ⟨t, rfl⟩ := ry
  obtain ⟨its, r, ⟨⟨cls, dd, data, sl⟩, ho, hc, n, hd⟩, hs⟩ := I.tuple hT
  simp only at hc hd
  subst hc hd
  have lh : its.length = xs.length := r.length.symm
  have hn : its ≠ [] := fun e => hne (by
    rw [e] at lh
    exact List.eq_nil_of_length_eq_zero lh.symm)
  have hi : its.toArray.isEmpty = false := by
    cases its with
    | nil => exact absurd rfl hn
    | cons a b => rfl
  have sz0 : its.toArray.size = xs.length := by rw [List.size_toArray, lh]
  have hm : ((its.toArray.size : Nat) : Int) * k ≤ 1000000 := by
    rw [sz0]
    have a1 : ((xs.length : Nat) : Int) * k ≤ 1000 * k := Int.mul_le_mul_of_nonneg_right (by omega) (by omega)
    omega
  have flh : (List.replicate k.toNat its).flatten.length ≤ sizeLine := by
    rw [PyProof.Rows.lm_len_rep_flat, lh, sizeLine_eq]
    have a1 : k.toNat * xs.length ≤ 1000 * 1000 := Nat.mul_le_mul (by omega) hz
    omega
  have c0 : (decide (k < -(2 ^ 63)) || decide (k ≥ 2 ^ 63)) = false := by
    rw [decide_eq_false (by omega), decide_eq_false (by omega)] <;> rfl
  have c1 : (its.toArray.isEmpty || k == 1) = false := by
    rw [hi, Bool.false_or]
    exact beq_eq_false_iff_ne.mpr (by omega)
  have c2 : (decide (k ≤ 0) || its.toArray.isEmpty) = false := by
    rw [hi, Bool.or_false]
    exact decide_eq_false (by omega)
  have c4 : Builtin.Tuple.tupleTooMany (((its.toArray.size : Nat) : Int) * k) = false := by
    unfold Builtin.Tuple.tupleTooMany
    rw [sizeLine_eq]
    exact decide_eq_false (by omega)
  refine wpAny_binaryOp_repeat_ref (T := "tuple") (U := "int") (by decide) ⟨_, ho, rfl⟩ (fun s' => typeIs_int s' k t) noFill_tuple_mul F.fills_int_mul F.slot_int_rmul repeat_tuple F.slot_int_index.lookup
    (call_meets F.slot_int_rmul (typeIs_int s k t) F.entry_int_rmul (F.args_int_rmul_2 _ _) (int_rmul_tuple k t l its.toArray n dd sl)
      ⟨ho, rfl, ⟨_, ho, rfl⟩, call_meets F.slot_tuple_mul ⟨_, ho, rfl⟩ F.entry_tuple_mul (F.args_tuple_mul_2 _ _) (tuple_mulW l its.toArray n dd sl k t c0 c1 c2 (by omega) c4 (by rw [size_rep, List.size_toArray]; exact flh)) ⟨ho, ?_⟩⟩)
  rw [size_rep]
  exact newF_end I (by rw [PyProof.Rows.lm_len_rep_flat, sizeLine_eq]; have a1 : k.toNat * xs.length ≤ 1000 * 1000 := Nat.mul_le_mul (by omega) hz; omega) (r.rep k.toNat) q
theorem tuple_mul0 (l : Addr) (items : Array Value) (n : Nat) (dd : Option Addr) (sl : Array (Option Value)) (x : Int) (u : Tok) (c0 : (decide (x < -(2 ^ 63)) || decide (x ≥ 2 ^ 63)) = false) (c1 : (items.isEmpty || x == 1) = false) (c2 : (decide (x ≤ 0) || items.isEmpty) = true) :
    Meets (Builtin.«tuple.__mul__» ⟨[.ref l, .int x u], []⟩) (fun _ R s => s.heap.get? l = some { cls := .type "tuple", dict := dd, data := .seq items n, slots := sl } ∧
      R (.ok (.ret (Value.ref s.heap.objs.size))) { s with heap := s.heap.push { cls := Value.type "tuple", data := Data.seq #[] }, toks := s.toks }) :=
  .of_wp fun prog w A R s h => by
    obtain ⟨hp, g, d, tk, os⟩ := s
    obtain ⟨hl, h⟩ := h
    have f1 := AutoSeq1.idx_int
    wp_walk using wpAny_loadPart' hl
    repeat (first
      | (refine wpAny_ite_false (decide_eq_false (by rw [c0]; exact Bool.false_ne_true)) ?_; wp_walk using wpAny_loadPart' hl)
      | (refine wpAny_ite_false (decide_eq_false (by rw [c1]; exact Bool.false_ne_true)) ?_; wp_walk using wpAny_loadPart' hl)
      | (refine wpAny_ite_true (decide_eq_true c2) ?_; wp_walk using wpAny_loadPart' hl))
    exact ⟨_, rfl, h⟩
theorem tuple_mul1 (l : Addr) (items : Array Value) (n : Nat) (dd : Option Addr) (sl : Array (Option Value)) (x : Int) (u : Tok) (c0 : (decide (x < -(2 ^ 63)) || decide (x ≥ 2 ^ 63)) = false) (c1 : (items.isEmpty || x == 1) = true) :
    Meets (Builtin.«tuple.__mul__» ⟨[.ref l, .int x u], []⟩) (fun _ R s => s.heap.get? l = some { cls := .type "tuple", dict := dd, data := .seq items n, slots := sl } ∧
      R (.ok (.ret (Value.ref l))) s) :=
  .of_wp fun prog w A R s h => by
    obtain ⟨hp, g, d, tk, os⟩ := s
    obtain ⟨hl, h⟩ := h
    have f1 := AutoSeq1.idx_int
    wp_walk using wpAny_loadPart' hl
    repeat (first
      | (refine wpAny_ite_false (decide_eq_false (by rw [c0]; exact Bool.false_ne_true)) ?_; wp_walk using wpAny_loadPart' hl)
      | (refine wpAny_ite_true (decide_eq_true c1) ?_; wp_walk using wpAny_loadPart' hl))
    exact ⟨_, rfl, h⟩
noncomputable def rRep0F (K : PySem.W.Frag) : R2 := fun x y H Q => ∃ l k xs, x = .ref l ∧ y = .int k ∧ SqT K H l xs ∧ xs ≠ [] ∧ -1000 ≤ k ∧ k ≤ 0 ∧ NewT H [] Q
theorem op_rep0F : OpR X (binaryOp .Mult) (rRep0F X.K) := by
  intro pins s σ H x y v u Q I rx ry h
  obtain ⟨l, k, xs, rfl, rfl, hT, hne, h1, h2, q⟩ := h
  cases rx
  obtain ⟨t, rfl⟩ := ry
  obtain ⟨its, r, ⟨⟨cls, dd, data, sl⟩, ho, hc, n, hd⟩, hs⟩ := I.tuple hT
  simp only at hc hd
  subst hc hd
  have lh : its.length = xs.length := r.length.symm
  have hn : its ≠ [] := fun e => hne (by
    rw [e] at lh
    exact List.eq_nil_of_length_eq_zero lh.symm)
  have hi : its.toArray.isEmpty = false := by
    cases its with
    | nil => exact absurd rfl hn
    | cons a b => rfl
  have c0 : (decide (k < -(2 ^ 63)) || decide (k ≥ 2 ^ 63)) = false := by
    rw [decide_eq_false (by omega), decide_eq_false (by omega)] <;> rfl
  have c1 : (its.toArray.isEmpty || k == 1) = false := by
    rw [hi, Bool.false_or]
    exact beq_eq_false_iff_ne.mpr (by omega)
  have c2 : (decide (k ≤ 0) || its.toArray.isEmpty) = true := by
    rw [hi, Bool.or_false]
    exact decide_eq_true (by omega)
  refine wpAny_binaryOp_repeat_ref (T := "tuple") (U := "int") (by decide) ⟨_, ho, rfl⟩ (fun s' => typeIs_int s' k t) noFill_tuple_mul F.fills_int_mul F.slot_int_rmul repeat_tuple F.slot_int_index.lookup
    (call_meets F.slot_int_rmul (typeIs_int s k t) F.entry_int_rmul (F.args_int_rmul_2 _ _) (int_rmul_tuple k t l its.toArray n dd sl)
      ⟨ho, rfl, ⟨_, ho, rfl⟩, call_meets F.slot_tuple_mul ⟨_, ho, rfl⟩ F.entry_tuple_mul (F.args_tuple_mul_2 _ _) (tuple_mul0 l its.toArray n dd sl k t c0 c1 c2) ⟨ho, ?_⟩⟩)
  exact newF_end (xs := []) (its := []) I (by rw [sizeLine_eq]; exact Nat.zero_le _) .nil q
noncomputable def rRep1F (K : PySem.W.Frag) : R2 := fun x y H Q => ∃ l k xs, x = .ref l ∧ y = .int k ∧ SqT K H l xs ∧ k = 1 ∧ Q (.ref l) H
theorem op_rep1F : OpR X (binaryOp .Mult) (rRep1F X.K) := by
  intro pins s σ H x y v u Q I rx ry h
  obtain ⟨l, k, xs, rfl, rfl, hT, hk1, q⟩ := h
  cases rx
  obtain ⟨t, rfl⟩ := ry
  obtain ⟨its, r, ⟨⟨cls, dd, data, sl⟩, ho, hc, n, hd⟩, hs⟩ := I.tuple hT
  simp only at hc hd
  subst hc hd
  have lh : its.length = xs.length := r.length.symm
  subst hk1
  have c0 : (decide ((1 : Int) < -(2 ^ 63)) || decide ((1 : Int) ≥ 2 ^ 63)) = false := by decide
  have c1 : (its.toArray.isEmpty || (1 : Int) == 1) = true := by simp
  refine wpAny_binaryOp_repeat_ref (T := "tuple") (U := "int") (by decide) ⟨_, ho, rfl⟩ (fun s' => typeIs_int s' 1 t) noFill_tuple_mul F.fills_int_mul F.slot_int_rmul repeat_tuple F.slot_int_index.lookup
    (call_meets F.slot_int_rmul (typeIs_int s 1 t) F.entry_int_rmul (F.args_int_rmul_2 _ _) (int_rmul_tuple 1 t l its.toArray n dd sl)
      ⟨ho, rfl, ⟨_, ho, rfl⟩, call_meets F.slot_tuple_mul ⟨_, ho, rfl⟩ F.entry_tuple_mul (F.args_tuple_mul_2 _ _) (tuple_mul1 l its.toArray n dd sl 1 t c0 c1) ⟨ho, ?_⟩⟩)
  exact ⟨.ref l, _, I, rfl, q⟩
end
end VS

/-! Each construct does what the language says: expressions. -/
namespace VS
open PySem PySem.Spec PyProof.Rows L2
variable [kf : KF]

omit [kf : KF] in
theorem _root_.L2.PE.imp {X : Cx} {e : Expr} {t t' : TE} (h : PE X e t) (i : ∀ σ H Q, t' σ H Q → t σ H Q) : PE X e t' := ⟨fun pins s σ H Q I q => h.run pins s σ H Q I (i σ H Q q)⟩
omit [kf : KF] in
theorem _root_.L2.PA.imp {X : Cx} {e : List Expr} {t t' : L2.TA} (h : PA X e t) (i : ∀ σ H Q, t' σ H Q → t σ H Q) : PA X e t' := ⟨fun pos pins s σ H Q I q => h.run pos pins s σ H Q I (i σ H Q q)⟩
omit [kf : KF] in
theorem _root_.L2.PT.imp {X : Cx} {e : Expr} {t t' : TT} (h : PT X e t) (i : ∀ σ H Q, t' σ H Q → t σ H Q) : PT X e t' := ⟨fun pins s σ H Q I q => h.run pins s σ H Q I (i σ H Q q)⟩
omit [kf : KF] in
theorem _root_.L2.PW.imp {X : Cx} {e : Expr} {t t' : TT} (h : PW X e t) (i : ∀ σ H Q, t' σ H Q → t σ H Q) : PW X e t' := ⟨fun wh pins s σ H Q I q => h.run wh pins s σ H Q I (i σ H Q q)⟩

/-- what is wanted of an outcome -/
noncomputable def Ou.post {α : Type} (x : Ou α) (P : α → Prop) (E : Exn → Prop) : Prop := match x with
  | .ok a => P a
  | .ex e => E e
  | .no => False
omit [kf : KF] in
theorem post_bind {α β : Type} {x : Ou α} {f : α → Ou β} {P : β → Prop} {E : Exn → Prop} : (x >>= f).post P E ↔ x.post (fun a => (f a).post P E) E := by cases x <;> exact Iff.rfl
omit [kf : KF] in
theorem post_imp {α : Type} {x : Ou α} {P P' : α → Prop} {E : Exn → Prop} (h : x.post P E) (i : ∀ a, x = .ok a → P a → P' a) : x.post P' E := by
  cases x with
  | ok a => exact i a rfl h
  | ex e => exact h
  | no => exact h
/-- an error, as it lies on the heap -/
noncomputable def ExR (mg : Str → Option Value) (e : Exn) (cls : Value) (d : Option Addr) (H : Hp) : Prop :=
  ∃ C, mg e.cls = some (.ref C) ∧ cls = .ref C ∧ (e.fs = [] → d = none) ∧ (e.fs ≠ [] → ∃ dd gs, d = some dd ∧ H dd = some (.xd gs) ∧ ∀ n x, (n, x) ∈ e.fs → ∃ v, gs.lookup n = some v ∧ Rp H v x)
noncomputable def RW (mg : Str → Option Value) (W : WX) (t : Ent) (σ : L2.St) (e : Exn) : Prop := ∀ cls d H', (∀ b o, t.H0 b = some o → b ∉ t.M → H' b = some o) → ExR mg e cls d H' → obsR t e.ms H' → W cls d σ H'

noncomputable def tG {α : Type} (Po : Ent → Sn → Sn → L2.St → V → α → Prop) (mg : Str → Option Value) (W : WX) (ev : En → Ou (α × En)) : TE := fun σ H Q =>
  ∃ t S, S.H = H ∧ Rel t S σ ∧ (ev S.en).post (fun p => ∀ v S', S'.en = p.2 → Po t S S' σ v p.1 → Q v S'.H) (RW mg W t σ)
noncomputable def evF (ir : Ex) (en : En) : Ou (D × En) := do let (r, e1) ← evalE ir en; .ok (toD r, e1)
noncomputable abbrev tEE (mg : Str → Option Value) (W : WX) (ir : Ex) : TE := tG EPost mg W (evalE ir)
noncomputable abbrev tEF (mg : Str → Option Value) (W : WX) (ir : Ex) : TE := tG FPost mg W (evF ir)
noncomputable abbrev tEB (mg : Str → Option Value) (W : WX) (ir : Ex) : TE := tG BPost mg W (evalB ir)
noncomputable def tEL (mg : Str → Option Value) (W : WX) (ir : Ex) : TE := match asVar ir with
  | some i => tVar i
  | none => tEF mg W ir
noncomputable abbrev DE (X : Cx) (W : WX) (e : Expr) (ir : Ex) : Prop := PE X e (tEE X.mg W ir)
noncomputable abbrev DF (X : Cx) (W : WX) (e : Expr) (ir : Ex) : Prop := PE X e (tEF X.mg W ir)
noncomputable abbrev DB (X : Cx) (W : WX) (e : Expr) (ir : Ex) : Prop := PE X e (tEB X.mg W ir)
noncomputable abbrev DL (X : Cx) (W : WX) (e : Expr) (ir : Ex) : Prop := PE X e (tEL X.mg W ir)
section
variable {X : Cx} {W : WX} {e ea eb ec : Expr} {ir ia ib ic : Ex} {pos : Pos}
theorem DE.f (h : DE X W e ir) : DF X W e ir := h.imp fun σ H Q ⟨t, S, eH, R, h⟩ => ⟨t, S, eH, R, by
  unfold evF at h
  rw [post_bind] at h
  refine post_imp h fun p _ hp v S' e1 P => ?_
  obtain ⟨S'', h1, h2, h3, _, P'⟩ := P.let_go R
  rw [← h1]
  exact hp v S'' (h2.trans e1) P'⟩
theorem DF.b (h : DF X W e ir) (hv : asVar ir = none := by rfl) : DB X W e ir := h.imp fun σ H Q ⟨t, S, eH, R, h⟩ => ⟨t, S, eH, R, by
  unfold evalB brw at h
  rw [hv] at h
  exact post_imp h fun p _ hp v S' e1 P => hp v S' e1 P.b⟩
theorem DE.b (h : DE X W e ir) (hv : asVar ir = none := by rfl) : DB X W e ir := DF.b h.f hv
theorem DE.l (h : DE X W e ir) (hv : asVar ir = none := by rfl) : DL X W e ir := by
  unfold DL tEL
  rw [hv]
  exact h.f
theorem db_var {i : Nat} (h : PE X e (tVar i)) : DB X W e (.var i) := h.imp fun σ H Q ⟨t, S, eH, R, h⟩ => by
  subst eH
  simp only [evalB, brw, asVar] at h
  cases q : rdE S.en i with
  | ok d =>
    rw [q] at h
    obtain ⟨v, h1, h2⟩ := R.borrow q
    exact ⟨v, h1, h v S rfl ⟨R, Le.refl _, h2⟩⟩
  | ex e => unfold rdE at q; split at q <;> cases q
  | no => rw [q] at h; exact h.elim
theorem dl_var {i : Nat} (h : PE X e (tVar i)) : DL X W e (.var i) := h
theorem de_var {i : Nat} (h : PE X e (tVar i)) : DE X W e (.var i) := h.imp fun σ H Q ⟨t, S, eH, R, h⟩ => by
  subst eH
  simp only [evalE] at h
  split at h
  · rename_i d q
    obtain ⟨v, h1, h2⟩ := R.fr i d q
    exact ⟨v, h1, h v S rfl (.fr R (Le.refl _) h2)⟩
  · rename_i ds q
    obtain ⟨R', l, h1, h2⟩ := R.frz q
    exact ⟨_, h1, h _ (S.frz i ds) rfl (.fr R' l h2)⟩
  · exact h.elim
theorem de_mv {i : Nat} (h : PE X e (tVar i)) : DE X W e (.mv i) := h.imp fun σ H Q ⟨t, S, eH, R, h⟩ => by
  subst eH
  simp only [evalE] at h
  split at h
  · rename_i d q
    obtain ⟨v, h1, h2⟩ := R.fr i d q
    exact ⟨v, h1, h v S rfl (.fr R (Le.refl _) h2)⟩
  · rename_i ds q
    obtain ⟨v, h1, P⟩ := R.mvd q
    exact ⟨_, h1, h _ (S.mvd i) rfl P⟩
  · rename_i C ds q
    obtain ⟨v, h1, P⟩ := R.mvdO q
    exact ⟨_, h1, h _ (S.mvd i) rfl P⟩
  · exact h.elim
/-- a constant -/
theorem de_cst {v : V} {d : D} (h : PE X e (tC v)) (r : ∀ H, Rp H v d) : DE X W e (.cst d) := h.imp fun σ H Q ⟨t, S, eH, R, h⟩ => by
  subst eH
  exact h v S rfl (.fr R (Le.refl _) (r _))
theorem de_int {i : Int} {j : Nat} : DE X W (.Constant (.int i) j pos) (.cst (.int i)) := de_cst pe_int fun _ => .int i
theorem de_str {i : Str} {j : Nat} : DE X W (.Constant (.str i) j pos) (.cst (.str i)) := de_cst pe_str fun _ => .str i
theorem de_bl {i : Bool} {j : Nat} : DE X W (.Constant (.bool i) j pos) (.cst (.bool i)) := de_cst pe_bl fun _ => .bl i
theorem de_non {j : Nat} : DE X W (.Constant .none j pos) (.cst .none) := de_cst pe_non fun _ => .non

/-! ### two operands -/
/-- two operands' readings: the second one's state, both borrowed -/
theorem two_post {α : Type} {g : D → D → Ou α} {fin : α → Sl} {σ : L2.St} {H : Hp} {Q : VK} {r : R2} {ev : En → Ou (Sl × En)}
    (hev : ev = fun en => do let (x, y, e2) ← two (asVar ia) (evalE ia) (evalB ib) en; let r ← g x y; .ok (fin r, e2))
    (hop : ∀ t S σ x y dx dy rr Q, Rel t S σ → SB S x dx → SB S y dy → g dx dy = .ok rr → (∀ v S', S'.en = S.en → EPost t S S' σ v (fin rr) → Q v S'.H) → r x y S.H Q)
    (hex : ∀ dx dy e, g dx dy ≠ .ex e)
    (h : tG EPost X.mg W ev σ H Q) : tOp r (tEL X.mg W ia) (tEB X.mg W ib) σ H Q := by
  subst hev
  obtain ⟨t, S, eH, R, h⟩ := h
  subst eH
  have core : ∀ {S1 S2 : Sn} {x y : V} {dx dy : D} {e2 : En}, S2.en = e2 → Le S S2 → Rel t S2 σ → SB S2 x dx → SB S2 y dy → (g dx dy >>= fun r => Ou.ok (fin r, e2)).post (fun p => ∀ v S', S'.en = p.2 → EPost t S S' σ v p.1 → Q v S'.H) (RW X.mg W t σ) → r x y S2.H Q := by
    intro S1 S2 x y dx dy e2 e l R2 hx hy q
    cases z : g dx dy with
    | ok rr =>
      rw [z] at q
      exact hop t S2 σ x y dx dy rr Q R2 hx hy z fun v S' e' P => q v S' (e'.trans e) (P.trans l)
    | ex e => exact absurd z (hex _ _ e)
    | no => rw [z] at q; exact q.elim
  unfold tEL
  simp only [post_bind] at h
  cases hv : asVar ia with
  | none =>
    rw [hv] at h
    unfold two at h
    simp only [post_bind] at h
    refine ⟨t, S, rfl, R, ?_⟩
    unfold evF
    rw [post_bind]
    refine post_imp h fun p hp h1 x S1 e1 P1 => ⟨t, S1, rfl, P1.rel, ?_⟩
    rw [e1]
    refine post_imp h1 fun q hq h2 y S2 e2 P2 => ?_
    refine core (S1 := S1) e2 (P1.le.trans P2.le) P2.rel (.of (P1.val.mono P2.le.le)) P2.val ?_
    rw [post_bind]
    exact h2
  | some i =>
    rw [hv] at h
    unfold two at h
    simp only [post_bind] at h
    obtain ⟨d0, q0⟩ : ∃ d0, rdE S.en i = .ok d0 := by
      cases q : rdE S.en i with
      | no => rw [q] at h; exact h.elim
      | ex e => unfold rdE at q; split at q <;> cases q
      | ok d => exact ⟨d, rfl⟩
    rw [q0] at h
    have h := (show ((evalB ib S.en).post _ _) from h)
    obtain ⟨v, hi, _⟩ := R.borrow q0
    refine ⟨v, hi, t, S, rfl, R, ?_⟩
    refine post_imp h fun p hp h1 y S1 e1 P1 => ?_
    cases q : rdE p.2 i with
    | no => rw [q] at h1; exact h1.elim
    | ex e => unfold rdE at q; split at q <;> cases q
    | ok d =>
      rw [q] at h1
      obtain ⟨v', h3, h4⟩ := P1.rel.borrow (i := i) (d := d) (by rw [e1]; exact q)
      have ev : v' = v := by rw [hi] at h3; simpa using h3.symm
      subst ev
      refine core (S1 := S1) e1 P1.le P1.rel h4 P1.val ?_
      rw [post_bind]
      exact h1
/-- the answer of an int -/
theorem ans_int {t : Ent} {S : Sn} {σ : L2.St} {Q : VK} {i : Int} (R : Rel t S σ) (k : ∀ v S', S'.en = S.en → EPost t S S' σ v (.fr (.int i)) → Q v S'.H) : Q (.int i) S.H := k _ S rfl (.fr R (Le.refl _) (.int i))
theorem ans_bl {t : Ent} {S : Sn} {σ : L2.St} {Q : VK} {i : Bool} (R : Rel t S σ) (k : ∀ v S', S'.en = S.en → EPost t S S' σ v (.fr (.bool i)) → Q v S'.H) : Q (.bl i) S.H := k _ S rfl (.fr R (Le.refl _) (.bl i))
theorem ans_str {t : Ent} {S : Sn} {σ : L2.St} {Q : VK} {i : Str} (R : Rel t S σ) (k : ∀ v S', S'.en = S.en → EPost t S S' σ v (.fr (.str i)) → Q v S'.H) : Q (.str i) S.H := k _ S rfl (.fr R (Le.refl _) (.str i))
theorem ans_own {t : Ent} {S : Sn} {σ : L2.St} {Q : VK} {p : Addr} {xs : List V} {ds : List D} (R : Rel t S σ) (hp : S.H p = none) (hr : RpA S.F xs ds) (k : ∀ v S', S'.en = S.en → EPost t S S' σ v (.own ds) → Q v S'.H) : Q (.ref p) (upd S.H p (.lst xs)) :=
  k (.ref p) { S with H := upd S.H p (.lst xs), O := p :: S.O } rfl (R.newL hp hr)
theorem ans_tup {t : Ent} {S : Sn} {σ : L2.St} {Q : VK} {xs : List V} {ds : List D} (R : Rel t S σ) (hr : RpA S.F xs ds) (k : ∀ v S', S'.en = S.en → EPost t S S' σ v (.fr (.tuple ds)) → Q v S'.H) : NewT S.H xs Q :=
  fun p o hp ho => k (.ref p) { S with H := upd S.H p (.frz o (.tup xs)) } rfl (R.newF hp ho hr).e
theorem ans_fr {t : Ent} {S : Sn} {σ : L2.St} {Q : VK} {v : V} {d : D} (R : Rel t S σ) (h : Rp S.F v d) (k : ∀ v S', S'.en = S.en → EPost t S S' σ v (.fr d) → Q v S'.H) : Q v S.H := k v S rfl (.fr R (Le.refl _) h)

noncomputable def rAddV (K : PySem.W.Frag) : R2 := fun x y H Q => (rI0 (fun i j => .int (i + j)) x y H Q) ∨ (rCat x y H Q) ∨ (rCatF K x y H Q) ∨ (∃ i j, x = .str i ∧ y = .str j ∧ i.length + j.length ≤ sizeLine ∧ Q (.str (i ++ j)) H)
omit [kf : KF] in
theorem op_addV : OpR X (binaryOp .Add) (rAddV X.K) := op_add.or (op_cat.or (op_catF.or op_add_str))
noncomputable def HopB (op : Operator) (r : R2) : Prop := ∀ t S σ x y dx dy rr Q, Rel t S σ → SB S x dx → SB S y dy → binD op dx dy = .ok rr → (∀ v S', S'.en = S.en → EPost t S S' σ v rr → Q v S'.H) → r x y S.H Q
theorem hop_add {K : PySem.W.Frag} (hk : K = kf.K) : HopB .Add (rAddV K) := by
  intro t S σ x y dx dy rr Q R hx hy h k
  unfold binD at h
  split at h <;> simp only [reduceCtorEq] at *
  · have hx := hx.int
    have hy := hy.int
    subst hx hy
    have e := Ou.ok.inj h
    subst e
    exact .inl ⟨_, _, rfl, rfl, ans_int R k⟩
  · split at h
    · rename_i xs ys hz
      obtain ⟨a, us, rfl, ha, ra⟩ := hx
      obtain ⟨b, vs, rfl, hb, rb⟩ := hy
      have e := Ou.ok.inj h
      subst e
      refine .inr (.inl ⟨a, b, us, vs, rfl, rfl, ha, hb, by rw [ra.length, rb.length, ← SZ_eq]; exact hz, fun p hp => ?_⟩)
      exact ans_own R hp (ra.append rb) k
    · cases h
  · split at h
    · rename_i xs ys hz
      obtain ⟨a, us, rfl, ha, ra, pa⟩ := hx.tup
      obtain ⟨b, vs, rfl, hb, rb, pb⟩ := hy.tup
      have e := Ou.ok.inj h
      subst e
      refine .inr (.inr (.inl ⟨a, b, us, vs, rfl, rfl, ha.sq hk, hb.sq hk, by rw [ra.length, rb.length, ← SZ_eq]; exact hz, fun q => ?_, fun q1 q2 => ?_, fun _ _ => ?_⟩))
      · subst q
        cases ra
        exact k _ S rfl (.fr R (Le.refl _) pb)
      · subst q2
        cases rb
        rw [List.append_nil] at k
        exact k _ S rfl (.fr R (Le.refl _) pa)
      · exact ans_tup R (ra.append rb) k
    · cases h
  · split at h
    · rename_i xs ys hz
      have hx := hx.str
      have hy := hy.str
      subst hx hy
      have e := Ou.ok.inj h
      subst e
      exact .inr (.inr (.inr ⟨_, _, rfl, rfl, by rw [← SZ_eq]; exact hz, ans_str R k⟩))
    · cases h
omit [kf : KF] in
theorem binD_ex {op : Operator} : ∀ dx dy e, binD op dx dy ≠ .ex e := by
  intro dx dy e h
  unfold binD at h
  split at h <;> first | cases h | (split at h <;> first | cases h | (split at h <;> cases h))
theorem de_bin {op : Operator} {r : R2} (ho : OpR X (binaryOp op) r) (hop : HopB op r) (ha : DL X W ea ia) (hb : DB X W eb ib) : DE X W (.BinOp ea op eb pos) (.bin op ia ib) :=
  (pe_op ho ha hb).imp fun σ H Q h => two_post (g := binD op) (fin := id) (by funext en; simp only [evalE] <;> rfl) hop binD_ex h
theorem hop_sub : HopB .Sub (rI0 fun i j => .int (i - j)) := by
  intro t S σ x y dx dy rr Q R hx hy h k
  unfold binD at h
  split at h <;> simp only [reduceCtorEq] at *
  have hx := hx.int
  have hy := hy.int
  subst hx hy
  have e := Ou.ok.inj h
  subst e
  exact ⟨_, _, rfl, rfl, ans_int R k⟩
theorem de_sub (ha : DL X W ea ia) (hb : DB X W eb ib) : DE X W (.BinOp ea .Sub eb pos) (.bin .Sub ia ib) := de_bin op_sub hop_sub ha hb
theorem de_add (ha : DL X W ea ia) (hb : DB X W eb ib) (hk : X.K = kf.K := by rfl) : DE X W (.BinOp ea .Add eb pos) (.bin .Add ia ib) := de_bin op_addV (hop_add hk) ha hb
noncomputable def rMulV (K : PySem.W.Frag) : R2 := fun x y H Q => (rI CMul (fun i j => .int (i * j)) x y H Q) ∨ (rI CMulW (fun i j => .int (i * j)) x y H Q) ∨ rRep x y H Q ∨ rRepF K x y H Q ∨ rRep0F K x y H Q ∨ rRep1F K x y H Q
omit [kf : KF] in
theorem op_mulV : OpR X (binaryOp .Mult) (rMulV X.K) := op_mul.or (op_mulW.or (op_rep.or (op_repF.or (op_rep0F.or op_rep1F))))
theorem hop_mul {K : PySem.W.Frag} (hk : K = kf.K) : HopB .Mult (rMulV K) := by
  intro t S σ x y dx dy rr Q R hx hy h k
  unfold binD at h
  split at h <;> simp only [reduceCtorEq] at *
  · split at h
    · rename_i hz
      have hx := hx.int
      have hy := hy.int
      subst hx hy
      have e := Ou.ok.inj h
      subst e
      rcases hz with hz | hz
      · exact .inl ⟨_, _, rfl, rfl, hz, ans_int R k⟩
      · exact .inr (.inl ⟨_, _, rfl, rfl, hz, ans_int R k⟩)
    · cases h
  · split at h
    · rename_i xs n hz
      obtain ⟨a, us, rfl, ha, ra⟩ := hx
      have hy := hy.int
      subst hy
      have e := Ou.ok.inj h
      subst e
      exact .inr (.inr (.inl ⟨a, _, us, rfl, rfl, ha, hz.1, hz.2.1, by rw [ra.length, ← SZ_eq]; exact hz.2.2, fun p hp => ans_own R hp (ra.rep _) k⟩))
    · cases h
  · split at h
    · rename_i xs n hz
      obtain ⟨a, us, rfl, ha, ra, _⟩ := hx.tup
      have hy := hy.int
      subst hy
      have e := Ou.ok.inj h
      subst e
      refine .inr (.inr (.inr (.inl ⟨a, _, us, rfl, rfl, ha.sq hk, ?_, hz.1, hz.2.1, by rw [ra.length]; exact hz.2.2.2, ans_tup R (ra.rep _) k⟩)))
      intro q
      subst q
      cases ra
      exact hz.2.2.1 rfl
    · split at h
      · rename_i xs n _t _n hz
        obtain ⟨a, us, rfl, ha, ra, pa⟩ := hx.tup
        have hy := hy.int
        subst hy
        have e := Ou.ok.inj h
        subst e
        have hne : us ≠ [] := by
          intro q
          subst q
          cases ra
          exact hz.2.2 rfl
        by_cases h1 : n = 1
        · subst h1
          refine .inr (.inr (.inr (.inr (.inr ⟨a, _, us, rfl, rfl, ha.sq hk, rfl, ?_⟩))))
          refine k _ S rfl (.fr R (Le.refl _) ?_)
          have e : repD 1 xs = xs := by
            show (List.replicate 1 xs).flatten = xs
            simp
          rw [e]
          exact pa
        · refine .inr (.inr (.inr (.inr (.inl ⟨a, _, us, rfl, rfl, ha.sq hk, hne, hz.1, by omega, ?_⟩))))
          have e : repD n xs = [] := by
            unfold repD
            rw [Int.toNat_of_nonpos (by omega)]
            rfl
          rw [e] at k
          exact ans_tup R .nil k
      · cases h
theorem de_mul (ha : DL X W ea ia) (hb : DB X W eb ib) (hk : X.K = kf.K := by rfl) : DE X W (.BinOp ea .Mult eb pos) (.bin .Mult ia ib) := de_bin op_mulV (hop_mul hk) ha hb
noncomputable def rDivV : R2 := fun x y H Q => (rI CDivN (fun i j => .int (i.fdiv j)) x y H Q) ∨ (rI CDivW (fun i j => .int (i / j)) x y H Q)
omit [kf : KF] in
theorem op_divV : OpR X (binaryOp .FloorDiv) rDivV := op_fdivN.or op_fdivW
theorem hop_div : HopB .FloorDiv rDivV := by
  intro t S σ x y dx dy rr Q R hx hy h k
  unfold binD at h
  split at h <;> simp only [reduceCtorEq] at *
  split at h
  · rename_i i j hz
    have hx := hx.int
    have hy := hy.int
    subst hx hy
    have e := Ou.ok.inj h
    subst e
    rcases hz with hz | hz
    · exact .inl ⟨_, _, rfl, rfl, hz, ans_int R k⟩
    · refine .inr ⟨_, _, rfl, rfl, hz, ?_⟩
      show Q (.int (_ / _)) S.H
      rw [← Int.fdiv_eq_ediv_of_nonneg _ (Int.le_of_lt hz.1)]
      exact ans_int R k
  · cases h
theorem de_div (ha : DL X W ea ia) (hb : DB X W eb ib) : DE X W (.BinOp ea .FloorDiv eb pos) (.bin .FloorDiv ia ib) := de_bin op_divV hop_div ha hb
theorem hop_mod : HopB .Mod (rI (fun _ j => j ≠ 0) fun i j => .int (i.fmod j)) := by
  intro t S σ x y dx dy rr Q R hx hy h k
  unfold binD at h
  split at h <;> simp only [reduceCtorEq] at *
  split at h
  · rename_i i j hz
    have hx := hx.int
    have hy := hy.int
    subst hx hy
    have e := Ou.ok.inj h
    subst e
    exact ⟨_, _, rfl, rfl, hz, ans_int R k⟩
  · cases h
theorem de_mod (ha : DL X W ea ia) (hb : DB X W eb ib) : DE X W (.BinOp ea .Mod eb pos) (.bin .Mod ia ib) := de_bin op_modN hop_mod ha hb
/-! ### comparisons -/
noncomputable def HopC (op : CmpOp) (r : R2) : Prop := ∀ t S σ x y dx dy rr Q, Rel t S σ → SB S x dx → SB S y dy → cmpD op dx dy = .ok rr → (∀ v S', S'.en = S.en → EPost t S S' σ v (.fr (.bool rr)) → Q v S'.H) → r x y S.H Q
omit [kf : KF] in
theorem eqD_ex : ∀ dx dy e, eqD dx dy ≠ .ex e := by
  intro dx dy e h
  unfold eqD at h
  split at h <;> first | cases h | (split at h <;> cases h)
omit [kf : KF] in
theorem cmpD_ex {op : CmpOp} : ∀ dx dy e, cmpD op dx dy ≠ .ex e := by
  intro dx dy e h
  unfold cmpD at h
  split at h
  · exact eqD_ex _ _ _ h
  · cases q : eqD dx dy with
    | ok a => rw [q] at h; cases h
    | ex e => exact eqD_ex _ _ _ q
    | no => rw [q] at h; cases h
  all_goals (split at h <;> first | (cases h; done) | (split at h <;> first | (cases h; done) | (split at h <;> cases h)))
theorem de_cmp {op : CmpOp} {r : R2} (ho : OpR X (compareOp op) r) (hop : HopC op r) (ha : DL X W ea ia) (hb : DB X W eb ib) (hm : behindInMarks op eb = false) : DE X W (.Compare ea [op] [eb] pos) (.cmp op ia ib) :=
  (pe_cmpR ho ha hb hm).imp fun σ H Q h => two_post (g := cmpD op) (fin := fun r => .fr (.bool r)) (by funext en; simp only [evalE] <;> rfl) hop cmpD_ex h
noncomputable def rEqV (K : PySem.W.Frag) : R2 := fun x y H Q => rEq x y H Q ∨ rEqD K x y H Q
noncomputable def rNeV (K : PySem.W.Frag) : R2 := fun x y H Q => rNe x y H Q ∨ rNeD K x y H Q
theorem hop_eq {K : PySem.W.Frag} (hk : K = kf.K) : HopC .Eq (rEqV K) := by
  intro t S σ x y dx dy rr Q R hx hy h k
  simp only [cmpD] at h
  unfold eqD at h
  split at h
  · have e := Ou.ok.inj h
    subst e
    rw [hx.int, hy.int]
    exact .inl ⟨rfl, by rw [dec_int]; exact ans_bl R k⟩
  · have e := Ou.ok.inj h
    subst e
    rw [hx.str, hy.str]
    exact .inl ⟨rfl, by rw [dec_str]; exact ans_bl R k⟩
  · have e := Ou.ok.inj h
    subst e
    rw [hx.bool, hy.bool]
    exact .inl ⟨rfl, by rw [dec_bl]; exact ans_bl R k⟩
  · split at h
    · rename_i hz
      have e := Ou.ok.inj h
      subst e
      exact .inr ⟨_, _, hx.rp.dp hk (PySem.SeqAt.canLay_of_shaped hz.1), hy.rp.dp hk (PySem.SeqAt.canLay_of_shaped hz.2), hz.1, hz.2, ans_bl R k⟩
    · cases h
theorem hop_ne {K : PySem.W.Frag} (hk : K = kf.K) : HopC .NotEq (rNeV K) := by
  intro t S σ x y dx dy rr Q R hx hy h k
  simp only [cmpD] at h
  cases q : eqD dx dy with
  | ex e => rw [q] at h; cases h
  | no => rw [q] at h; cases h
  | ok r0 =>
    rw [q] at h
    have e := Ou.ok.inj h
    subst e
    unfold eqD at q
    split at q
    · have e := Ou.ok.inj q
      subst e
      rw [hx.int, hy.int]
      exact .inl ⟨rfl, by rw [dec_int]; exact ans_bl R k⟩
    · have e := Ou.ok.inj q
      subst e
      rw [hx.str, hy.str]
      exact .inl ⟨rfl, by rw [dec_str]; exact ans_bl R k⟩
    · have e := Ou.ok.inj q
      subst e
      rw [hx.bool, hy.bool]
      exact .inl ⟨rfl, by rw [dec_bl]; exact ans_bl R k⟩
    · split at q
      · rename_i hz
        have e := Ou.ok.inj q
        subst e
        exact .inr ⟨_, _, hx.rp.dp hk (PySem.SeqAt.canLay_of_shaped hz.1), hy.rp.dp hk (PySem.SeqAt.canLay_of_shaped hz.2), hz.1, hz.2, ans_bl R k⟩
      · cases q
theorem de_eq (hu : X.A.units + 64 < cLine) (ha : DL X W ea ia) (hb : DB X W eb ib) (hk : X.K = kf.K := by rfl) : DE X W (.Compare ea [.Eq] [eb] pos) (.cmp .Eq ia ib) := de_cmp (r := rEqV X.K) (op_eq.or (op_eqD hu)) (hop_eq hk) ha hb (nomark _)
noncomputable def rLtV (K : PySem.W.Frag) : R2 := fun x y H Q => rI0 (fun i j => .bl (decide (i < j))) x y H Q ∨ rLtT K x y H Q
theorem hop_lt {K : PySem.W.Frag} (hk : K = kf.K) : HopC .Lt (rLtV K) := by
  intro t S σ x y dx dy rr Q R hx hy h k
  simp only [cmpD] at h
  split at h
  · have e := Ou.ok.inj h
    subst e
    rw [hx.int, hy.int]
    exact .inl ⟨_, _, rfl, rfl, ans_bl R k⟩
  · split at h
    · rename_i ns ms e1 e2
      have e := Ou.ok.inj h
      subst e
      obtain ⟨a, us, rfl, ha, ra, pa⟩ := hx.tup
      obtain ⟨b, vs, rfl, hb, rb, pb⟩ := hy.tup
      have u1 := ra.ints e1
      have u2 := rb.ints e2
      subst u1 u2
      exact .inr ⟨a, b, _, _, rfl, rfl, ha.sq hk, hb.sq hk, ans_bl R k⟩
    · cases h
  · cases h
theorem hop_le : HopC .LtE (rI0 fun i j => .bl (decide (i ≤ j))) := by
  intro t S σ x y dx dy rr Q R hx hy h k
  simp only [cmpD] at h
  split at h
  · have e := Ou.ok.inj h
    subst e
    rw [hx.int, hy.int]
    exact ⟨_, _, rfl, rfl, ans_bl R k⟩
  · cases h
theorem hop_gt : HopC .Gt (rI0 fun i j => .bl (decide (j < i))) := by
  intro t S σ x y dx dy rr Q R hx hy h k
  simp only [cmpD] at h
  split at h
  · have e := Ou.ok.inj h
    subst e
    rw [hx.int, hy.int]
    exact ⟨_, _, rfl, rfl, ans_bl R k⟩
  · cases h
theorem rIn_of {K : PySem.W.Frag} (hk : K = kf.K) {n : Bool} {t : Ent} {S : Sn} {σ : L2.St} {x y : V} {dx : D} {xs : List D} {Q : VK} (R : Rel t S σ) (hx : SB S x dx) (hy : (∃ a us, y = .ref a ∧ S.H a = some (.lst us) ∧ RpA S.F us xs) ∨ ∃ a us, y = .ref a ∧ TupAt S.H a us ∧ RpA S.F us xs)
    (h1 : flatD dx = true) (h2 : xs.all flatD = true) (k : ∀ v S', S'.en = S.en → EPost t S S' σ v (.fr (.bool (if n then !inD dx xs else inD dx xs))) → Q v S'.H) : rIn K n x y S.H Q := by
  have hf : Rp S.F x dx := by
    cases dx with
    | none => exact hx
    | bool b => exact hx
    | int b => exact hx
    | str b => exact hx
    | list b => cases h1
    | tuple b => cases h1
    | dict b => cases h1
  rcases hy with ⟨a, us, rfl, ha, ra⟩ | ⟨a, us, rfl, ha, ra⟩
  · refine ⟨a, us, rfl, .inl (.of ha), hf.flat h1, ra.flat h2, ?_⟩
    rw [RpAK.inF hf h1 ra h2]
    exact ans_bl R k
  · refine ⟨a, us, rfl, .inr (ha.sq hk), hf.flat h1, ra.flat h2, ?_⟩
    rw [RpAK.inF hf h1 ra h2]
    exact ans_bl R k
theorem un65 {k : Nat} {A : Around} (r : Room k A) : A.units + 65 < cLine := by have := r.un; omega
noncomputable def rInV (K : PySem.W.Frag) : R2 := fun x y H Q => rIn K false x y H Q ∨ rInD K x y H Q
theorem op_inV (hu : X.A.units + 65 < cLine) : OpR X (compareOp .In) (rInV X.K) := op_in_seq.or (op_inD hu)
theorem hop_in {K : PySem.W.Frag} (hk : K = kf.K) : HopC .In (rInV K) := by
  intro t S σ x y dx dy rr Q R hx hy h k
  simp only [cmpD] at h
  split at h
  · split at h
    · rename_i hz
      have e := Ou.ok.inj h
      subst e
      exact .inl (rIn_of hk R hx (.inl hy) hz.1 hz.2 k)
    · split at h
      · rename_i hz
        have e := Ou.ok.inj h
        subst e
        exact .inr ⟨_, _, hx.rp.dp hk (PySem.SeqAt.canLay_of_shaped hz.1), hy.rp.dp hk (PySem.SeqAt.canLay_of_shaped hz.2), hz.1, hz.2, ans_bl R k⟩
      · cases h
  · split at h
    · rename_i hz
      have e := Ou.ok.inj h
      subst e
      obtain ⟨a, us, e1, ha, ra, _⟩ := hy.tup
      exact .inl (rIn_of hk R hx (.inr ⟨a, us, e1, ha, ra⟩) hz.1 hz.2 k)
    · cases h
  · cases h
end
end VS

/-! Each construct does what the language says: one operand, tests, displays, items, slices, calls. -/
namespace VS
open PySem PySem.Spec PyProof.Rows L2
variable [kf : KF]
section
variable {X : Cx} {W : WX} {e ea eb ec : Expr} {es : List Expr} {ir ia ib ic : Ex} {is : Exs} {pos : Pos}
theorem one_post {g : D → Ou Sl} {σ : L2.St} {H : Hp} {Q : VK} {r : V → Hp → VK → Prop} {ev : En → Ou (Sl × En)}
    (hev : ev = fun en => do let (x, e1) ← evalB ia en; let r ← g x; .ok (r, e1))
    (hop : ∀ t S σ x dx rr Q, Rel t S σ → SB S x dx → g dx = .ok rr → (∀ v S', S'.en = S.en → EPost t S S' σ v rr → Q v S'.H) → r x S.H Q)
    (hex : ∀ dx e, g dx ≠ .ex e) (h : tG EPost X.mg W ev σ H Q) : tEB X.mg W ia σ H fun x H1 => r x H1 Q := by
  subst hev
  obtain ⟨t, S, eH, R, h⟩ := h
  subst eH
  simp only [post_bind] at h
  refine ⟨t, S, rfl, R, post_imp h fun p hp h1 x S1 e1 P1 => ?_⟩
  cases z : g p.1 with
  | ok rr =>
    rw [z] at h1
    exact hop t S1 σ x p.1 rr Q P1.rel P1.val z fun v S' e' P => h1 v S' (e'.trans e1) (P.trans P1.le)
  | ex e => exact absurd z (hex _ _)
  | no => rw [z] at h1; exact h1.elim
theorem de_neg (ha : DB X W ea ia) : DE X W (.UnaryOp .USub ea pos) (.neg ia) := (pe_un un_neg ha).imp fun σ H Q h => by
  refine one_post (X := X) (W := W) (ia := ia) (g := fun x => match x with | .int i => .ok (.fr (.int (-i))) | _ => .no) (r := rU fun i => .int (-i)) (ev := evalE (.neg ia)) ?_ ?_ ?_ h
  · funext en
    simp only [evalE]
    congr 1
    funext p
    obtain ⟨x, e1⟩ := p
    cases x <;> rfl
  · intro t S σ x dx rr Q R hx z k
    cases dx <;> simp only [reduceCtorEq] at z
    have e := Ou.ok.inj z
    subst e
    exact ⟨_, hx.int, ans_int R k⟩
  · intro dx e z
    cases dx <;> cases z
theorem de_not (ha : DB X W ea ia) : DE X W (.UnaryOp .Not ea pos) (.nt ia) := (pe_not ha).imp fun σ H Q h => by
  refine one_post (X := X) (W := W) (ia := ia) (g := fun x => match x with | .bool i => .ok (.fr (.bool (!i))) | _ => .no) (r := fun x H Q => ∃ c, x = .bl c ∧ Q (.bl (!c)) H) (ev := evalE (.nt ia)) ?_ ?_ ?_ h
  · funext en
    simp only [evalE]
    congr 1
    funext p
    obtain ⟨x, e1⟩ := p
    cases x <;> rfl
  · intro t S σ x dx rr Q R hx z k
    cases dx <;> simp only [reduceCtorEq] at z
    have e := Ou.ok.inj z
    subst e
    exact ⟨_, hx.bool, ans_bl R k⟩
  · intro dx e z
    cases dx <;> cases z
/-! ### and, or, if .. else, tests -/
theorem de_one {op : PySem.BoolOp} (h : DE X W ea ia) : DE X W (.BoolOp op [ea] pos) ia := pe_one h
theorem de_and {rest : List Expr} (ha : DB X W ea ia) (hb : DE X W (.BoolOp .And (eb :: rest) pos) ib) : DE X W (.BoolOp .And (ea :: eb :: rest) pos) (.andE ia ib) := (pe_and ha hb).imp fun σ H Q ⟨t, S, eH, R, h⟩ => by
  subst eH
  simp only [evalE, post_bind] at h
  refine ⟨t, S, rfl, R, post_imp h fun p hp h1 x S1 e1 P1 => ?_⟩
  obtain ⟨d, en⟩ := p
  have e1 : S1.en = en := e1
  cases d <;> (try exact h1.elim)
  rename_i b
  refine ⟨b, P1.val.bool, ?_⟩
  cases b with
  | true =>
    show tEE X.mg W ib σ S1.H Q
    exact ⟨t, S1, rfl, P1.rel, by rw [e1]; exact post_imp h1 fun q hq h2 v S' e' P => h2 v S' e' (P.trans P1.le)⟩
  | false => exact h1 _ S1 e1 (.fr P1.rel P1.le (.bl false))
/-- a test's reading -/
noncomputable def tTT (mg : Str → Option Value) (W : WX) (ir : Ex) : TT := fun σ H Q =>
  ∃ t S, S.H = H ∧ Rel t S σ ∧ (evalB ir S.en).post (fun p => ∃ b, p.1 = .bool b ∧ ∀ S', S'.en = p.2 → Rel t S' σ → Le S S' → Q b S'.H) (RW mg W t σ)
noncomputable abbrev DT (X : Cx) (W : WX) (e : Expr) (ir : Ex) : Prop := PT X e (tTT X.mg W ir)
noncomputable abbrev DW (X : Cx) (W : WX) (e : Expr) (ir : Ex) : Prop := PW X e (tTT X.mg W ir)
theorem DB.t (h : DB X W e ir) (he : ∀ whole, isTrue e X.env whole = (do let v ← whole; standAt e.pos; holding [v] (truthy v)) := by intro _; rfl) : DT X W e ir := (pt_val h he).imp fun σ H Q ⟨t, S, eH, R, h⟩ => by
  subst eH
  refine ⟨t, S, rfl, R, post_imp h fun p hp ⟨b, eb, h1⟩ x S1 e1 P1 => ?_⟩
  have hv := P1.val
  rw [eb] at hv
  exact ⟨b, hv.bool, h1 S1 e1 P1.rel P1.le⟩
theorem dt_not (h : DT X W ea ia) : DT X W (.UnaryOp .Not ea pos) (.nt ia) := (pt_not h).imp fun σ H Q ⟨t, S, eH, R, h⟩ => by
  subst eH
  simp only [evalB, brw, asVar, evalE, post_bind] at h
  refine ⟨t, S, rfl, R, post_imp h fun p hp h1 => ?_⟩
  obtain ⟨d, en⟩ := p
  cases d <;> (try exact h1.elim)
  rename_i b
  refine ⟨b, rfl, fun S' e1 R1 l1 => ?_⟩
  obtain ⟨b', eb, h2⟩ := h1
  have z : (!b) = b' := by simpa [toD] using eb
  subst z
  exact h2 S' e1 R1 l1
theorem dw_and1 (ha : DT X W ea ia) : DW X W (.BoolOp .And [ea] pos) ia := pw_and1 ha
theorem dw_or1 (ha : DT X W ea ia) : DW X W (.BoolOp .Or [ea] pos) ia := pw_or1 ha
omit [kf : KF] in
theorem brw_none {ir : Ex} (hv : asVar ir = none) (en : En) : evalB ir en = (do let (r, e1) ← evalE ir en; .ok (toD r, e1)) := by
  unfold evalB brw
  rw [hv]
theorem dw_and {rest : List Expr} (ha : DT X W ea ia) (hb : DW X W (.BoolOp .And (eb :: rest) pos) ib) (hv : asVar ib = none := by rfl) : DW X W (.BoolOp .And (ea :: eb :: rest) pos) (.andE ia ib) := (pw_and ha hb).imp fun σ H Q ⟨t, S, eH, R, h⟩ => by
  subst eH
  rw [brw_none rfl] at h
  simp only [evalE, post_bind] at h
  refine ⟨t, S, rfl, R, post_imp h fun p hp h1 => ?_⟩
  obtain ⟨d, en⟩ := p
  cases d <;> (try exact h1.elim)
  rename_i b
  refine ⟨b, rfl, fun S' e1 R1 l1 => ?_⟩
  have e1 : S'.en = en := e1
  cases b with
  | true =>
    show tTT X.mg W ib σ S'.H Q
    refine ⟨t, S', rfl, R1, ?_⟩
    rw [brw_none hv, e1, post_bind]
    exact post_imp h1 fun q hq ⟨b, e2, h2⟩ => ⟨b, e2, fun S2 e3 R2 l2 => h2 S2 e3 R2 (l1.trans l2)⟩
  | false =>
    obtain ⟨b', e2, h2⟩ := h1
    have z : false = b' := by simpa [toD] using e2
    subst z
    exact h2 S' e1 R1 l1
theorem dw_or {rest : List Expr} (ha : DT X W ea ia) (hb : DW X W (.BoolOp .Or (eb :: rest) pos) ib) (hv : asVar ib = none := by rfl) : DW X W (.BoolOp .Or (ea :: eb :: rest) pos) (.orE ia ib) := (pw_or ha hb).imp fun σ H Q ⟨t, S, eH, R, h⟩ => by
  subst eH
  rw [brw_none rfl] at h
  simp only [evalE, post_bind] at h
  refine ⟨t, S, rfl, R, post_imp h fun p hp h1 => ?_⟩
  obtain ⟨d, en⟩ := p
  cases d <;> (try exact h1.elim)
  rename_i b
  refine ⟨b, rfl, fun S' e1 R1 l1 => ?_⟩
  have e1 : S'.en = en := e1
  cases b with
  | false =>
    show tTT X.mg W ib σ S'.H Q
    refine ⟨t, S', rfl, R1, ?_⟩
    rw [brw_none hv, e1, post_bind]
    exact post_imp h1 fun q hq ⟨b, e2, h2⟩ => ⟨b, e2, fun S2 e3 R2 l2 => h2 S2 e3 R2 (l1.trans l2)⟩
  | true =>
    obtain ⟨b', e2, h2⟩ := h1
    have z : true = b' := by simpa [toD] using e2
    subst z
    exact h2 S' e1 R1 l1
theorem de_ife (hc : DT X W ec ic) (ha : DE X W ea ia) (hb : DE X W eb ib) : DE X W (.IfExp ec ea eb pos) (.ife ic ia ib) := (pe_ifExp hc ha hb).imp fun σ H Q ⟨t, S, eH, R, h⟩ => by
  subst eH
  simp only [evalE, post_bind] at h
  refine ⟨t, S, rfl, R, post_imp h fun p hp h1 => ?_⟩
  obtain ⟨d, en⟩ := p
  cases d <;> (try exact h1.elim)
  rename_i b
  refine ⟨b, rfl, fun S1 e1 R1 l1 => ?_⟩
  have e1 : S1.en = en := e1
  cases b with
  | true =>
    show tEE X.mg W ia σ S1.H Q
    exact ⟨t, S1, rfl, R1, by rw [e1]; exact post_imp h1 fun q hq h2 v S' e' P => h2 v S' e' (P.trans l1)⟩
  | false =>
    show tEE X.mg W ib σ S1.H Q
    exact ⟨t, S1, rfl, R1, by rw [e1]; exact post_imp h1 fun q hq h2 v S' e' P => h2 v S' e' (P.trans l1)⟩
/-! ### a chain of two comparisons of ints -/
theorem de_chain {o1 o2 : CmpOp} {r1 r2 : R2} (p1 : OpR X (compareOp o1) r1) (p2 : OpR X (compareOp o2) r2) (h1 : HopC o1 r1) (h2 : HopC o2 r2) (ha : DF X W ea ia) (hb : DF X W eb ib) (hc : DF X W ec ic)
    (hm : lastMarks [o1, o2] [eb, ec] = false := by with_unfolding_all rfl) : DE X W (.Compare ea [o1, o2] [eb, ec] pos) (.chain o1 o2 ia ib ic) := (pe_chain p1 p2 ha hb hc hm).imp fun σ H Q ⟨t, S, eH, R, h⟩ => by
  subst eH
  simp only [evalE, post_bind] at h
  refine ⟨t, S, rfl, R, ?_⟩
  unfold evF
  rw [post_bind]
  refine post_imp h fun p hp k1 x S1 e1 P1 => ⟨t, S1, rfl, P1.rel, ?_⟩
  rw [show S1.en = p.2 from e1]
  unfold evF
  rw [post_bind]
  refine post_imp k1 fun q hq k2 y S2 e2 P2 => ?_
  have e2 : S2.en = q.2 := e2
  have vx : SB S2 x (toD p.1) := .of (P1.val.mono P2.le.le)
  have l2 := P1.le.trans P2.le
  cases z : cmpD o1 (toD p.1) (toD q.1) with
  | ex e => exact absurd z (cmpD_ex _ _ _)
  | no => rw [z] at k2; exact k2.elim
  | ok b =>
    rw [z] at k2
    refine h1 t S2 σ x y _ _ b _ P2.rel vx (.of P2.val) z fun v S3 e3 P3 => ?_
    have vv : SB S3 v (.bool b) := .of P3.val
    refine ⟨b, vv.bool, ?_⟩
    have l3 := l2.trans P3.le
    cases b with
    | false => exact k2 _ S3 (e3.trans e2) (.fr P3.rel l3 (.bl false))
    | true =>
      have k2 := (show (if true = true then _ else _ : Ou (Sl × En)).post _ _ from k2)
      rw [if_pos rfl, post_bind] at k2
      simp only [post_bind] at k2
      rw [if_pos rfl]
      refine ⟨t, S3, rfl, P3.rel, ?_⟩
      rw [e3.trans e2]
      unfold evF
      rw [post_bind]
      refine post_imp k2 fun w hw k3 u S4 e4 P4 => ?_
      have e4 : S4.en = w.2 := e4
      have l4 := l3.trans P4.le
      cases z' : cmpD o2 (toD q.1) (toD w.1) with
      | ex e => exact absurd z' (cmpD_ex _ _ _)
      | no => rw [z'] at k3; exact k3.elim
      | ok b' =>
        rw [z'] at k3
        exact h2 t S4 σ y u _ _ b' _ P4.rel (.of (P2.val.mono (P3.le.trans P4.le).le)) (.of P4.val) z' fun v S5 e5 P5 => k3 v S5 (e5.trans e4) (P5.trans l4)
theorem de_chain_le (ha : DF X W ea ia) (hb : DF X W eb ib) (hc : DF X W ec ic)
    (hm : lastMarks [.LtE, .LtE] [eb, ec] = false := by with_unfolding_all rfl) : DE X W (.Compare ea [.LtE, .LtE] [eb, ec] pos) (.chain .LtE .LtE ia ib ic) := de_chain op_le op_le hop_le hop_le ha hb hc hm

/-! ### arguments and displays -/
noncomputable def tAA (mg : Str → Option Value) (W : WX) (is : Exs) : L2.TA := fun σ H Q =>
  ∃ t S, S.H = H ∧ Rel t S σ ∧ (evalA is S.en).post (fun p => ∀ vs S', S'.en = p.2 → Rel t S' σ → Le S S' → RpA S'.F vs p.1 → Q vs S'.H) (RW mg W t σ)
noncomputable abbrev DA (X : Cx) (W : WX) (es : List Expr) (is : Exs) : Prop := PA X es (tAA X.mg W is)
theorem da_nil : DA X W [] .nil := pa_nil.imp fun σ H Q ⟨t, S, eH, R, h⟩ => by
  subst eH
  exact h [] S rfl R (Le.refl _) .nil
theorem da_cons (ha : DF X W e ir) (hr : DA X W es is) (hs : starEach (e :: es) X.env = (false, eval e X.env) :: starEach es X.env := by rfl) : DA X W (e :: es) (.cons ir is) := (pa_cons ha hr hs).imp fun σ H Q ⟨t, S, eH, R, h⟩ => by
  subst eH
  simp only [evalA, post_bind] at h
  refine ⟨t, S, rfl, R, ?_⟩
  unfold evF
  rw [post_bind]
  refine post_imp h fun p hp k1 x S1 e1 P1 => ⟨t, S1, rfl, P1.rel, ?_⟩
  rw [show S1.en = p.2 from e1]
  refine post_imp k1 fun q hq k2 vs S2 e2 R2 l2 r2 => ?_
  exact k2 (x :: vs) S2 e2 R2 (P1.le.trans l2) (.cons (P1.val.mono l2.le) r2)
theorem de_tup {x1 : Nat} (h : DA X W es is) : DE X W (.Tuple es x1 pos) (.tupE is) := (pe_tupF h).imp fun σ H Q ⟨t, S, eH, R, h⟩ => by
  subst eH
  simp only [evalE, post_bind] at h
  refine ⟨t, S, rfl, R, post_imp h fun p hp k1 vs S1 e1 R1 l1 r1 => ?_⟩
  split at k1
  · rename_i hz
    refine ⟨by rw [r1.length, ← SZ_eq]; exact hz, ?_⟩
    exact ans_tup R1 r1 fun v S' e' P => k1 v S' (e'.trans e1) (P.trans l1)
  · exact k1.elim
theorem de_lst (h : DA X W es is) : DE X W (.List es pos) (.lstE is) := (pe_lst h).imp fun σ H Q ⟨t, S, eH, R, h⟩ => by
  subst eH
  simp only [evalE, post_bind] at h
  refine ⟨t, S, rfl, R, post_imp h fun p hp k1 vs S1 e1 R1 l1 r1 => ?_⟩
  split at k1
  · rename_i hz
    refine ⟨by rw [r1.length, ← SZ_eq]; exact hz, fun a ha => ?_⟩
    exact ans_own R1 ha r1 fun v S' e' P => k1 v S' (e'.trans e1) (P.trans l1)
  · exact k1.elim
/-! ### items and slices -/
theorem atI_rp {S : Hp} {us : List V} {ds : List D} {k : Int} {d : D} (r : RpA S us ds) (h : atI ds k = some d) : ∃ v, atI us k = some v ∧ Rp S v d := by
  unfold atI at h ⊢
  rw [r.length]
  cases q : ixN ds.length k with
  | none => rw [q] at h; cases h
  | some j =>
    rw [q] at h
    obtain ⟨v, h1, h2⟩ := r.get h
    exact ⟨v, h1, h2⟩
omit [kf : KF] in
theorem idxD_ex : ∀ a b e, idxD a b ≠ .ex e := by
  intro a b e h
  unfold idxD at h
  split at h <;> first | cases h | (split at h <;> cases h)
theorem de_idx (ha : DL X W ea ia) (hb : DB X W eb ib) (hs : PlainIx eb := by intro _ _; rfl) (hk : X.K = kf.K := by rfl) : DE X W (.Subscript ea eb pos) (.idx ia ib) :=
  (pe_ix ix_seq ha hb hs).imp fun σ H Q h => two_post (g := idxD) (fin := .fr) (by funext en; simp only [evalE] <;> rfl) (by
    intro t S σ x y dx dy rr Q R hx hy z k
    unfold idxD at z
    split at z
    · split at z
      · rename_i d hd
        have e := Ou.ok.inj z
        subst e
        obtain ⟨a, us, rfl, h1, h2⟩ := hx
        obtain ⟨v, h3, h4⟩ := atI_rp h2 hd
        exact .inl ⟨a, us, _, v, rfl, hy.int, .of h1, h3, ans_fr R h4 k⟩
      · cases z
    · split at z
      · rename_i d hd
        have e := Ou.ok.inj z
        subst e
        obtain ⟨a, us, rfl, h1, h2, _⟩ := hx.tup
        obtain ⟨v, h3, h4⟩ := atI_rp h2 hd
        exact .inr (.inl ⟨a, us, _, v, rfl, hy.int, h1.sq hk, h3, ans_fr R h4 k⟩)
      · cases z
    · cases z) idxD_ex h
noncomputable def tOO (mg : Str → Option Value) (W : WX) (io : Exo) : TO := fun σ H Q =>
  ∃ t S, S.H = H ∧ Rel t S σ ∧ (evalO io S.en).post (fun p => ∀ S', S'.en = p.2 → Rel t S' σ → Le S S' → Q p.1 S'.H) (RW mg W t σ)
noncomputable abbrev DO (X : Cx) (W : WX) (e : Option Expr) (io : Exo) : Prop := PO X e (tOO X.mg W io)
omit [kf : KF] in
theorem _root_.L2.PO.imp {X : Cx} {e : Option Expr} {t t' : TO} (h : PO X e t) (i : ∀ σ H Q, t' σ H Q → t σ H Q) : PO X e t' := ⟨fun pins s σ H Q I q => h.run pins s σ H Q I (i σ H Q q)⟩
theorem do_none : DO X W none .none := po_none.imp fun σ H Q ⟨t, S, eH, R, h⟩ => by
  subst eH
  exact h S rfl R (Le.refl _)
theorem do_some (h : DB X W e ir) : DO X W (some e) (.some ir) := (po_some h).imp fun σ H Q ⟨t, S, eH, R, h⟩ => by
  subst eH
  simp only [evalO, post_bind] at h
  refine ⟨t, S, rfl, R, post_imp h fun p hp k1 x S1 e1 P1 => ?_⟩
  obtain ⟨d, en⟩ := p
  have hv := P1.val
  cases d <;> (try exact k1.elim)
  rename_i i
  exact ⟨i, hv.int, k1 S1 e1 P1.rel P1.le⟩
noncomputable def rSlV (K : PySem.W.Frag) : V → Option Int → Option Int → Hp → VK → Prop := fun x lo hi H Q => rSlL K x lo hi H Q ∨ rSlF K x lo hi H Q
theorem slcD_ok {t : Ent} {S : Sn} {σ : L2.St} {x : V} {dx : D} {rr : Sl} {lo hi : Option Int} {Q : VK} {K : PySem.W.Frag} (hk : K = kf.K) (R : Rel t S σ) (hx : SB S x dx) (z : slcD dx lo hi = .ok rr) (k : ∀ v S', S'.en = S.en → EPost t S S' σ v rr → Q v S'.H) : rSlV K x lo hi S.H Q := by
  unfold slcD at z
  split at z
  · have e := Ou.ok.inj z
    subst e
    obtain ⟨a, us, rfl, h1, h2⟩ := hx
    exact .inl ⟨a, us, rfl, .of h1, fun p hp => ans_own R hp (h2.cut lo hi) k⟩
  · have e := Ou.ok.inj z
    subst e
    obtain ⟨a, us, rfl, h1, h2, h3⟩ := hx.tup
    refine .inr ⟨a, us, rfl, h1.sq hk, fun q => ?_, fun q => ans_tup R (h2.cut lo hi) k⟩
    refine ans_fr R ?_ k
    rename_i ds
    have : cutD ds lo hi = ds := by
      unfold cutD
      rw [← h2.length, q.1, q.2, h2.length]
      simp
    rw [this]
    exact h3
  · cases z
omit [kf : KF] in
theorem slcD_ex : ∀ a lo hi e, slcD a lo hi ≠ .ex e := by
  intro a lo hi e h
  unfold slcD at h
  split at h <;> cases h
theorem de_slc {lo hi : Option Expr} {io ih : Exo} {p2 : Pos} (ha : DL X W ea ia) (hl : DO X W lo io) (hh : DO X W hi ih) (hk : X.K = kf.K := by rfl) : DE X W (.Subscript ea (.Slice lo hi none p2) pos) (.slc ia io ih) :=
  (pe_slice (r := rSlV X.K) (sl_list.or sl_tupF) ha hl hh).imp fun σ H Q ⟨t, S, eH, R, h⟩ => by
    subst eH
    simp only [evalE, post_bind] at h
    have fin : ∀ {S3 : Sn} {x : V} {d : D} {l u : Option Int} {en : En}, S3.en = en → Le S S3 → Rel t S3 σ → SB S3 x d → (slcD d l u >>= fun r => Ou.ok (r, en)).post (fun p => ∀ v S', S'.en = p.2 → EPost t S S' σ v p.1 → Q v S'.H) (RW X.mg W t σ) → rSlV X.K x l u S3.H Q := by
      intro S3 x d l u en e3 l3 R3 hx k
      cases z : slcD d l u with
      | ex e => exact absurd z (slcD_ex _ _ _ _)
      | no => rw [z] at k; exact k.elim
      | ok rr =>
        rw [z] at k
        exact slcD_ok hk R3 hx z fun v S' e' P => k v S' (e'.trans e3) (P.trans l3)
    unfold tEL
    cases hv : asVar ia with
    | none =>
      rw [hv] at h
      unfold three at h
      simp only [post_bind] at h
      refine ⟨t, S, rfl, R, ?_⟩
      unfold evF
      rw [post_bind]
      refine post_imp h fun p hp k1 x S1 e1 P1 => ⟨t, S1, rfl, P1.rel, ?_⟩
      rw [show S1.en = p.2 from e1]
      refine post_imp k1 fun q hq k2 S2 e2 R2 l2 => ⟨t, S2, rfl, R2, ?_⟩
      rw [show S2.en = q.2 from e2]
      refine post_imp k2 fun w hw k3 S3 e3 R3 l3 => ?_
      exact fin e3 ((P1.le.trans l2).trans l3) R3 (.of ((P1.val.mono l2.le).mono l3.le)) (by rw [post_bind]; exact k3)
    | some i =>
      rw [hv] at h
      unfold three at h
      simp only [post_bind] at h
      obtain ⟨d0, q0⟩ : ∃ d0, rdE S.en i = .ok d0 := by
        cases q : rdE S.en i with
        | no => rw [q] at h; exact h.elim
        | ex e => unfold rdE at q; split at q <;> cases q
        | ok d => exact ⟨d, rfl⟩
      rw [q0] at h
      have h := (show ((evalO io S.en).post _ _) from h)
      obtain ⟨v, hi, _⟩ := R.borrow q0
      refine ⟨v, hi, t, S, rfl, R, ?_⟩
      refine post_imp h fun q hq k2 S2 e2 R2 l2 => ⟨t, S2, rfl, R2, ?_⟩
      rw [show S2.en = q.2 from e2]
      refine post_imp k2 fun w hw k3 S3 e3 R3 l3 => ?_
      have e3 : S3.en = w.2 := e3
      cases q : rdE w.2 i with
      | no => rw [q] at k3; exact k3.elim
      | ex e => unfold rdE at q; split at q <;> cases q
      | ok d =>
        rw [q] at k3
        obtain ⟨v', h3, h4⟩ := R3.borrow (i := i) (d := d) (by rw [e3]; exact q)
        have ev : v' = v := by rw [hi] at h3; simpa using h3.symm
        subst ev
        exact fin e3 (l2.trans l3) R3 h4 (by rw [post_bind]; exact k3)
end
end VS

/-! Calls of defs, built-ins. -/
namespace VS
open PySem PySem.Spec PyProof.Rows L2
variable [kf : KF]
/-- what a call hands back: from the heap H, nothing of O handed out -/
noncomputable def Ret (H : Hp) (O : List Addr) (v : V) (H' : Hp) : Sl → Prop
  | .fr d => Rp (hid H' O) v d
  | .own ds => ∃ p xs, v = .ref p ∧ H p = none ∧ H' p = some (.lst xs) ∧ RpA (hid H' (p :: O)) xs ds
  | .mb _ => False
  | .ob C ds => ∃ p rg, v = .ref p ∧ (∀ b ∈ rg, H b = none ∧ H' b ≠ none ∧ okO (H' b)) ∧ ObR H' (hid H' (rg ++ O)) C p rg ds
  | .mo _ _ => False
/-- the promise of a def by its function on data -/
noncomputable def spD (mg : Str → Option Value) (n : Nat) (φ : List D → Ou Sl) : Sp := fun vs H Q E =>
  ∃ O ds, (∀ a ∈ O, H a ≠ none) ∧ RpA (hid H O) vs ds ∧ ds.length = n ∧
    (φ ds).post (fun r => ∀ v H', Same H H' → Ret H O v H' r → Q v H') (fun e => ∀ cls d H', Same H H' → ExR mg e cls d H' → E cls d H')
/-- .. of a def whose first argument is a list that it changes -/
noncomputable def spM (n : Nat) (φ : List D → List D → Ou (D × List D)) : Sp := fun vs H Q _ =>
  ∃ O p xs ws ms ds r ms', vs = .ref p :: ws ∧ p ∈ O ∧ (∀ a ∈ O, H a ≠ none) ∧ H p = some (.lst xs) ∧ RpA (hid H O) xs ms ∧ RpA (hid H O) ws ds ∧ ds.length = n ∧ φ ms ds = .ok (r, ms') ∧
    ∀ v H' xs', (∀ b o, H b = some o → b ≠ p → H' b = some o) → H' p = some (.lst xs') → RpA (hid H' O) xs' ms' → Rp (hid H' O) v r → Q v H'
structure FnD (P : Program) (w : World) (K : PySem.W.Frag) (mg : Str → Option Value) (base : Heap) (k : Nat) (x : Str) (n : Nat) (φ : List D → Ou Sl) : Prop where
  ex : ∃ f fd ps, mg x = some (.ref f) ∧ PySem.W.keepIn K (.ref f) = true ∧ FnOk P w K mg base (L2.CX P w) k f fd ps (spD mg n φ) ∧ Binds K fd ps []
structure FnM (P : Program) (w : World) (K : PySem.W.Frag) (mg : Str → Option Value) (base : Heap) (k : Nat) (x : Str) (n : Nat) (φ : List D → List D → Ou (D × List D)) : Prop where
  ex : ∃ f fd ps, mg x = some (.ref f) ∧ PySem.W.keepIn K (.ref f) = true ∧ FnOk P w K mg base (L2.CX P w) k f fd ps (spM n φ) ∧ Binds K fd ps []
section
variable {X : Cx} {W : WX} {e ea eb ec : Expr} {es : List Expr} {ir ia ib ic : Ex} {is : Exs} {pos p : Pos} {k n : Nat} {x : Str}
theorem Rel.ret {t : Ent} {S : Sn} {σ : L2.St} (R : Rel t S σ) {v : V} {H' : Hp} {r : Sl} (s : Same S.H H') (h : Ret S.H S.O v H' r) : ∃ S', S'.H = H' ∧ S'.en = S.en ∧ EPost t S S' σ v r := by
  cases r with
  | fr d =>
    obtain ⟨R', l⟩ := R.grow s
    exact ⟨{ S with H := H' }, rfl, rfl, .fr R' l h⟩
  | mb ds => exact h.elim
  | mo C ds => exact h.elim
  | ob C ds =>
    obtain ⟨p, rg, rfl, hn, hr⟩ := h
    obtain ⟨R', l⟩ := R.growO s (rg := rg) fun b hb => ⟨(hn b hb).1, (hn b hb).2.1⟩
    have V : ObV t { S with H := H', O := rg ++ S.O } p rg C ds := ⟨hr, fun b hb => ⟨List.mem_append_left _ hb, (hn b hb).2.1, (hn b hb).2.2, (R.fresh (hn b hb).1).2.2, (R.fresh (hn b hb).1).2.1⟩, fun b hb i ⟨es, hi⟩ e => (R.fresh (hn b hb).1).1 (e ▸ (R.li i es hi).2.1), fun b hb i hi e => (R.fresh (hn b hb).1).1 (R.os.rg i hi b e).1⟩
    refine ⟨{ S with H := H', O := rg ++ S.O }, rfl, rfl, ⟨R', l, ⟨p, rg, rfl, V⟩, fun q es e => (by cases e), fun C' ds' e => ?_⟩⟩
    cases e
    exact ⟨p, rg, rfl, V, fun b hb => .inl (hn b hb).1⟩
  | own ds =>
    obtain ⟨p, xs, rfl, hp, hx, hr⟩ := h
    exact ⟨{ S with H := H', O := p :: S.O }, rfl, rfl, R.growL s hp hx hr⟩
theorem ret_keep {t : Ent} {S : Sn} {σ : L2.St} (R : Rel t S σ) {H' : Hp} (s : Same S.H H') : ∀ b o, t.H0 b = some o → b ∉ t.M → H' b = some o := fun b o h m => s _ _ (R.keep b o h m)
/-- f(e, ..), f a def -/
theorem de_call {φ : List D → Ou Sl} (F : FnD X.prog X.w X.K X.mg X.base k x n φ) (hr : Room k X.A) (tk : Takes X W) (ha : DA X W (e :: es) is) (hn : ∀ ds en en', evalA is en = .ok (ds, en') → ds.length = n) (hg : Gl X x := by rfl)
    (hdb : (x == ("__debug__" : Str)) = false := by decide) (he : starEach (e :: es) X.env = (false, eval e X.env) :: starEach es X.env := by rfl) (hpl : (backTo pos (starEach es X.env)).any (·.1) = false := by rfl) :
    DE X W (.Call (.Name x p) (e :: es) [] pos) (.call φ is) := by
  obtain ⟨f, fd, ps, hm, hk, ok, hb⟩ := F.ex
  refine (pe_callSD ok hr hg hm hk hb .nil (fun σ => passAt tk σ) ha hdb he hpl).imp fun σ H Q ⟨t, S, eH, R, h⟩ => ?_
  subst eH
  simp only [evalE, post_bind] at h
  refine ⟨t, S, rfl, R, post_imp h fun q hq k1 vs S1 e1 R1 l1 r1 => ?_⟩
  have e1 : S1.en = q.2 := e1
  show spD X.mg n φ (vs ++ []) S1.H Q (WE W σ)
  rw [List.append_nil]
  refine ⟨S1.O, q.1, R1.trk, r1, hn _ _ _ hq, ?_⟩
  cases z : φ q.1 with
  | no => rw [z] at k1; exact k1.elim
  | ex ee =>
    rw [z] at k1
    exact fun cls d H' s E => k1 cls d H' (ret_keep R1 s) E (R1.obs e1 s)
  | ok r =>
    rw [z] at k1
    intro v H' s hr'
    obtain ⟨S', a1, a2, P⟩ := R1.ret s hr'
    rw [← a1]
    exact k1 v S' (a2.trans e1) (P.trans l1)
noncomputable def lenS : Exs → Nat
  | .nil => 0
  | .cons _ r => lenS r + 1
omit [kf : KF] in
theorem evalA_len : ∀ (is : Exs) (ds : List D) (en en' : En), evalA is en = .ok (ds, en') → ds.length = lenS is
  | .nil, ds, en, en', h => by
    simp only [evalA, Ou.ok.injEq, Prod.mk.injEq] at h
    rw [← h.1]
    rfl
  | .cons e r, ds, en, en', h => by
    simp only [evalA] at h
    cases q : evalE e en with
    | no => rw [q] at h; cases h
    | ex e => rw [q] at h; cases h
    | ok a =>
      rw [q] at h
      simp only [ok_bind] at h
      cases q2 : evalA r a.2 with
      | no => rw [q2] at h; cases h
      | ex e => rw [q2] at h; cases h
      | ok b =>
        rw [q2] at h
        simp only [ok_bind, Ou.ok.injEq, Prod.mk.injEq] at h
        rw [← h.1, List.length_cons, evalA_len r b.1 a.2 b.2 q2]
        rfl
theorem de_callD {φ : List D → Ou Sl} (F : FnD X.prog X.w X.K X.mg X.base k x n φ) (hr : Room k X.A) (tk : Takes X W) (ha : DA X W (e :: es) is) (hn : lenS is = n := by rfl) (hg : Gl X x := by rfl)
    (hdb : (x == ("__debug__" : Str)) = false := by decide) (he : starEach (e :: es) X.env = (false, eval e X.env) :: starEach es X.env := by rfl) (hpl : (backTo pos (starEach es X.env)).any (·.1) = false := by rfl) :
    DE X W (.Call (.Name x p) (e :: es) [] pos) (.call φ is) := de_call F hr tk ha (fun ds en en' h => (evalA_len is ds en en' h).trans hn) hg hdb he hpl

/-! ### a list that is lent -/
theorem Rel.lend {t : Ent} {S : Sn} {σ : L2.St} (R : Rel t S σ) {i : Nat} {ms ms' : List D} {c : List D → Sl} (hc : c = Sl.own ∨ c = Sl.mb) (hi : S.en[i]? = some (some (c ms))) {H' : Hp} {xs' : List V}
    (s : ∀ b o, S.H b = some o → b ≠ S.ad i → H' b = some o) (hx : H' (S.ad i) = some (.lst xs')) (hr : RpA (hid H' S.O) xs' ms') :
    Rel t { S with H := H', en := S.en.set i (some (c ms')) } σ ∧ Le S { S with H := H', en := S.en.set i (some (c ms')) } := by
  have hi' : S.en[i]? = some (some (Sl.own ms)) ∨ S.en[i]? = some (some (Sl.mb ms)) := by rcases hc with hc | hc <;> subst hc <;> simp [hi]
  have lt := lt_of_some hi
  obtain ⟨h1, h2, xs, h3, h4⟩ := R.li i ms hi'
  have hl : isL S.en i := ⟨ms, hi'⟩
  have le : Same S.F (hid H' S.O) := fun b o h => by
    obtain ⟨n, e⟩ := hid_some h
    rw [hid_out n]
    exact s _ _ e fun q => n (q ▸ h2)
  have per : ∀ a, S.H a ≠ none → H' a ≠ none := fun a h => by
    by_cases q : a = S.ad i
    · subst q; rw [hx]; simp
    · cases e : S.H a with
      | none => exact absurd e h
      | some o => rw [s _ _ e q]; simp
  have get : ∀ j, (S.en.set i (some (c ms')))[j]? = if i = j then some (some (c ms')) else S.en[j]? := fun j => en_set lt
  have oldL : ∀ j, isL (S.en.set i (some (c ms'))) j → isL S.en j := by
    rintro j ⟨es, e⟩
    by_cases q : i = j
    · subst q; exact hl
    · rw [get, if_neg q] at e; exact ⟨es, e⟩
  have oldX : ∀ (j : Nat) x, (S.en.set i (some (c ms')))[j]? = some (some x) → (∀ ds, x ≠ .own ds) → (∀ ds, x ≠ .mb ds) → S.en[j]? = some (some x) := fun j x e h1 h2 => by
    rw [get] at e
    split at e
    · have e := Option.some.inj (Option.some.inj e)
      rcases hc with hc | hc
      · exact absurd (e.symm.trans (by rw [hc])) (h1 ms')
      · exact absurd (e.symm.trans (by rw [hc])) (h2 ms')
    · exact e
  have oldO : ∀ j, isO (S.en.set i (some (c ms'))) j → isO S.en j := by
    rintro j ⟨C, es, e | e⟩
    · exact ⟨C, es, .inl (oldX j _ e (fun _ z => nomatch z) (fun _ z => nomatch z))⟩
    · exact ⟨C, es, .inr (oldX j _ e (fun _ z => nomatch z) (fun _ z => nomatch z))⟩
  have eqO : ∀ j, isO (S.en.set i (some (c ms'))) j → ∀ b ∈ S.fp j, H' b = S.H b := fun j hj b hb => by
    have q := R.os.rg j (oldO j hj) b hb
    cases e : S.H b with
    | none => exact absurd e (R.trk b q.1)
    | some o => exact s _ _ e fun z => R.os.dL j i (oldO j hj) hl (z ▸ hb)
  refine ⟨⟨?_, fun b o h m => ?_, R.sup, R.subM, R.new, fun a h => per a (R.trk a h), fun j d e => ?_, fun j es e => ?_, fun j es e => ?_, fun j es e => ?_, fun j l hj hl' z => R.inj j l (oldL j hj) (oldL l hl') z, tabs_but R.tb h3 s, R.tM, R.os.keep (fun j x e a b c => oldX j x e b c) (fun _ _ => rfl) (fun _ _ => ⟨rfl, rfl⟩) (fun j hj b hb => ⟨(R.os.rg j (oldO j hj) b hb).1, eqO j hj b hb⟩) le (fun j k hj hk => R.os.dL j k (oldO j hj) (oldL k hk))⟩, ⟨le, per, fun j h => ⟨oldL j h, rfl⟩, fun j h => ⟨oldO j h, rfl, fun b hb => .inl hb⟩, fun a h hn n m => ⟨h, ?_⟩⟩⟩
  · show (S.en.set i _).length = _
    rw [List.length_set]; exact R.len
  · refine s _ _ (R.keep b o h m) fun q => ?_
    rcases hi' with hi' | hi'
    · have := (R.ow i ms hi').1
      rw [← q, h] at this
      cases this
    · exact m (q ▸ R.mb i ms hi')
  · have e : (S.en.set i (some (c ms')))[j]? = _ := e
    rw [get] at e
    split at e
    · rcases hc with hc | hc <;> subst hc <;> simp at e
    · obtain ⟨v, a, b⟩ := R.fr j d e
      exact ⟨v, a, b.mono le⟩
  · by_cases q : i = j
    · subst q
      have z : (S.en.set i (some (c ms')))[i]? = some (some (Sl.own es)) ∨ (S.en.set i (some (c ms')))[i]? = some (some (Sl.mb es)) := e
      rw [get, if_pos rfl] at z
      have : ms' = es := by
        rcases hc with hc | hc <;> subst hc <;> simpa using z
      subst this
      exact ⟨h1, h2, xs', hx, hr⟩
    · have z : (S.en.set i (some (c ms')))[j]? = some (some (Sl.own es)) ∨ (S.en.set i (some (c ms')))[j]? = some (some (Sl.mb es)) := e
      rw [get, if_neg q] at z
      obtain ⟨a, b, ys, c1, d1⟩ := R.li j es z
      exact ⟨a, b, ys, s _ _ c1 fun w => q (R.inj i j hl ⟨es, z⟩ w.symm), d1.mono le⟩
  · have e : (S.en.set i (some (c ms')))[j]? = _ := e
    rw [get] at e
    split at e
    · rename_i q
      subst q
      rcases hi' with hi' | hi'
      · exact R.ow i ms hi'
      · rw [hi] at hi'
        rcases hc with hc | hc
        · subst hc; simp at hi'
        · subst hc; simp at *
    · exact R.ow j es e
  · have e : (S.en.set i (some (c ms')))[j]? = _ := e
    rw [get] at e
    split at e
    · rename_i q
      subst q
      rcases hi' with hi' | hi'
      · rw [hi] at hi'
        rcases hc with hc | hc
        · subst hc; simp at *
        · subst hc; simp at hi'
      · exact R.mb i ms hi'
    · exact R.mb j es e
  · have na : a ≠ S.ad i := fun q => n i hl q.symm
    refine .inl ?_
    show H' a = S.H a
    cases e : S.H a with
    | none => exact absurd e (R.trk a h)
    | some o => exact s _ _ e na
omit [kf : KF] in
/-- f(d, e, ..), f changes the list at d -/
theorem strict_ok {α : Type} {x : Ou α} {P : α → Prop} {E : Exn → Prop} (h : (strict x).post P E) : ∃ a, x = .ok a ∧ P a := by
  cases x with
  | ok a => exact ⟨a, rfl, h⟩
  | ex e => exact h.elim
  | no => exact h.elim
theorem de_callM {φ : List D → List D → Ou (D × List D)} {i : Nat} (F : FnM X.prog X.w X.K X.mg X.base k x n φ) (hr : Room k X.A) (tk : Takes X W) (hv : PE X e (tVar i)) (ha : DA X W es is) (hn : lenS is = n := by rfl) (hg : Gl X x := by rfl)
    (hdb : (x == ("__debug__" : Str)) = false := by decide) (he : starEach (e :: es) X.env = (false, eval e X.env) :: starEach es X.env := by rfl) (hpl : (backTo pos (starEach es X.env)).any (·.1) = false := by rfl) :
    DE X W (.Call (.Name x p) (e :: es) [] pos) (.callM φ i is) := by
  obtain ⟨f, fd, ps, hm, hk, ok, hb⟩ := F.ex
  refine (pe_callSD ok hr hg hm hk hb .nil (fun σ => passAt tk σ) (pa_cons hv ha he) hdb he hpl).imp fun σ H Q ⟨t, S, eH, R, h⟩ => ?_
  subst eH
  simp only [evalE, post_bind] at h
  have core : ∀ {S1 : Sn} {vs : List V} {ds : List D} {en : En} {ms : List D} {c : List D → Sl}, c = Sl.own ∨ c = Sl.mb → S1.en = en → Rel t S1 σ → Le S S1 → RpA S1.F vs ds → ds.length = n → S1.en[i]? = some (some (c ms)) →
      (strict (φ ms ds)).post (fun q => ∀ v S', S'.en = en.set i (some (c q.2)) → EPost t S S' σ v (.fr q.1) → Q v S'.H) (RW X.mg W t σ) → spM n φ (.ref (S1.ad i) :: vs) S1.H Q (WE W σ) := by
    intro S1 vs ds en ms c hc e1 R1 l1 r1 hd hi z
    obtain ⟨q, hq, k2⟩ := strict_ok z
    have hi' : S1.en[i]? = some (some (Sl.own ms)) ∨ S1.en[i]? = some (some (Sl.mb ms)) := by rcases hc with hc | hc <;> subst hc <;> simp [hi]
    obtain ⟨h1, h2, xs, h3, h4⟩ := R1.li i ms hi'
    refine ⟨S1.O, S1.ad i, xs, vs, ms, ds, q.1, q.2, rfl, h2, R1.trk, h3, h4, r1, hd, hq, fun v H' xs' s hx hr' hret => ?_⟩
    obtain ⟨R2, l2⟩ := R1.lend hc hi s hx hr'
    have P : EPost t S1 { S1 with H := H', en := S1.en.set i (some (c q.2)) } σ v (.fr q.1) := .fr R2 l2 hret
    refine k2 v { S1 with H := H', en := S1.en.set i (some (c q.2)) } ?_ (P.trans l1)
    rw [← e1]
  have hlen : ∀ q, evalA is S.en = .ok q → q.1.length = n := fun q hq => (evalA_len is q.1 S.en q.2 hq).trans hn
  obtain ⟨d0, q0⟩ : ∃ d0, rdE S.en i = .ok d0 := by
    cases q : rdE S.en i with
    | no => rw [q] at h; exact h.elim
    | ex e => unfold rdE at q; split at q <;> cases q
    | ok d => exact ⟨d, rfl⟩
  rw [q0] at h
  have h := (show ((evalA is S.en).post _ _) from h)
  obtain ⟨v, hvi, _⟩ := R.borrow q0
  refine ⟨v, hvi, t, S, rfl, R, post_imp h fun q hq k1 vs S1 e1 R1 l1 r1 => ?_⟩
  have e1 : S1.en = q.2 := e1
  show spM n φ ((v :: vs) ++ []) S1.H Q (WE W σ)
  rw [List.append_nil]
  split at k1
  · rename_i ms hms
    have hi := (R1.li i ms (.inl (by rw [e1]; exact hms))).1
    rw [hvi] at hi
    have ev : v = .ref (S1.ad i) := by simpa using hi
    subst ev
    exact core (.inl rfl) e1 R1 l1 r1 (hlen q hq) (by rw [e1]; exact hms) (by rw [post_bind] at k1; exact k1)
  · rename_i ms hms
    have hi := (R1.li i ms (.inr (by rw [e1]; exact hms))).1
    rw [hvi] at hi
    have ev : v = .ref (S1.ad i) := by simpa using hi
    subst ev
    exact core (.inr rfl) e1 R1 l1 r1 (hlen q hq) (by rw [e1]; exact hms) (by rw [post_bind] at k1; exact k1)
  · exact k1.elim
/-! ### a call that keeps nothing of its arguments -/
theorem rp_flat {H H' : Hp} {v : V} {d : D} (h : Rp H v d) (f : flatD d = true) : Rp H' v d := by
  cases h with
  | non => exact .non
  | bl b => exact .bl b
  | int i => exact .int i
  | str x => exact .str x
  | lst _ _ => cases f
  | tup _ _ => cases f
  | any _ => cases f
  | opq _ => cases f
  | exc _ _ _ => cases f
end
end VS

/-! sum, max, min of a tuple or a list of ints. -/
namespace VS
open PySem PySem.Spec PyProof.Rows L2
section
variable {prog : Program} {w : World} {A : Around} {E : Value → Shared → Prop} {s : Shared} {l : Addr} {xs : Array (Int × Tok)}
variable {its : List Value} {ns : List Int} {Q : Value → Shared → Prop}
end
section
variable {X : Cx} {W : WX} {e ea eb ec : Expr} {es : List Expr} {ir ia ib ic : Ex} {is : Exs} {pos p : Pos}
end
end VS

/-! sorted of a tuple of ints. -/
namespace VS
open PySem PySem.Spec PyProof.Rows L2 SrtO
section
variable {prog : Program} {w : World} {A : Around} {E : Value → Shared → Prop} {s : Shared}
end
section
variable {X : Cx}
end
end VS

/-! Built-ins. -/
namespace VS
open PySem PySem.Spec PyProof.Rows L2
variable [kf : KF]
section
variable {X : Cx} {W : WX} {e ea eb ec : Expr} {es : List Expr} {ir ia ib ic : Ex} {is : Exs} {pos p : Pos} {k n : Nat} {x : Str}
omit [kf : KF] in
theorem biD_ex {b : Bi} : ∀ ds e, biD b ds ≠ .ex e := by
  intro ds e h
  cases b <;> simp only [biD] at h <;> first | cases h | (split at h <;> first | cases h | (split at h <;> first | cases h | (split at h <;> cases h)))
noncomputable abbrev HopI (b : Bi) (r : List V → Hp → VK → Prop) : Prop := ∀ t S σ x dx rr Q, Rel t S σ → SB S x dx → biD b [dx] = .ok rr → (∀ v S', S'.en = S.en → EPost t S S' σ v rr → Q v S'.H) → r [x] S.H Q
theorem bi1_post {b : Bi} {r : List V → Hp → VK → Prop} (hop : HopI b r) {σ : L2.St} {H : Hp} {Q : VK} (h : tEE X.mg W (.bi b ia) σ H Q) : tCB r (tCons (tEB X.mg W ia) tNil) σ H Q :=
  one_post (X := X) (W := W) (ia := ia) (g := fun d => biD b [d]) (r := fun x H Q => r [x] H Q) (ev := evalE (.bi b ia)) (by funext en; simp only [evalE] <;> rfl) hop (fun dx e => biD_ex _ _) h
theorem de_biB {b : Bi} {id : String} {r : List V → Hp → VK → Prop} (hc : CallR X (.builtin id) r) (hop : HopI b r) (hm : X.mg x = none) (hv : bootBuiltins x = some (.builtin id)) (ha : DB X W ea ia) (hg : Gl X x := by rfl) (hn : x ≠ "__name__" := by decide) (hdb : (x == ("__debug__" : Str)) = false := by decide)
    (he : starEach [ea] X.env = (false, eval ea X.env) :: starEach [] X.env := by rfl) : DE X W (.Call (.Name x p) [ea] [] pos) (.bi b ia) := (pe_callB hc hg hm hv (pa_cons ha pa_nil he) hn hdb he rfl).imp fun σ H Q h => bi1_post hop h
theorem de_biT {b : Bi} {T : String} {r : List V → Hp → VK → Prop} (hc : CallR X (.type T) r) (hop : HopI b r) (hm : X.mg x = none) (hv : bootBuiltins x = some (.type T)) (ha : DB X W ea ia) (hg : Gl X x := by rfl) (hn : x ≠ "__name__" := by decide) (hdb : (x == ("__debug__" : Str)) = false := by decide)
    (he : starEach [ea] X.env = (false, eval ea X.env) :: starEach [] X.env := by rfl) : DE X W (.Call (.Name x p) [ea] [] pos) (.bi b ia) := (pe_callTy hc hg hm hv (pa_cons ha pa_nil he) hn hdb he rfl).imp fun σ H Q h => bi1_post hop h
noncomputable def rLenV (K : PySem.W.Frag) : List V → Hp → VK → Prop := fun xs H Q => (∃ p ys, xs = [.ref p] ∧ (SqL K H p ys ∨ SqT K H p ys) ∧ Q (.int ys.length) H) ∨ (∃ z, xs = [.str z] ∧ z.length ≤ sizeLine ∧ Q (.int z.length) H)
theorem hop_len {K : PySem.W.Frag} (hk : K = kf.K) : HopI .len (rLenV K) := by
  intro t S σ x dx rr Q R hx z k
  simp only [biD] at z
  split at z <;> simp only [reduceCtorEq, List.cons.injEq, and_true, and_false] at *
  · rename_i xs e
    subst e
    have e := Ou.ok.inj z
    subst e
    obtain ⟨a, us, rfl, h1, h2⟩ := hx
    exact .inl ⟨a, us, rfl, .inl (.of h1), by rw [h2.length]; exact ans_int R k⟩
  · rename_i xs e
    subst e
    have e := Ou.ok.inj z
    subst e
    obtain ⟨a, us, rfl, h1, h2, _⟩ := hx.tup
    exact .inl ⟨a, us, rfl, .inr (h1.sq hk), by rw [h2.length]; exact ans_int R k⟩
  · rename_i xs e
    subst e
    split at z
    · rename_i hz
      have e := Ou.ok.inj z
      subst e
      rw [hx.str]
      exact .inr ⟨_, rfl, by rw [← SZ_eq]; exact hz, ans_int R k⟩
    · cases z
theorem de_len (hm : X.mg "len" = none) (ha : DB X W ea ia) (hg : Gl X "len" := by rfl) (he : starEach [ea] X.env = (false, eval ea X.env) :: starEach [] X.env := by rfl) (hk : X.K = kf.K := by rfl) : DE X W (.Call (.Name "len" p) [ea] [] pos) (.bi .len ia) := de_biB (call_len_seq.or call_len_str) (hop_len hk) hm PySem.boot_len ha hg (by decide) (by decide) he
theorem hop_list {K : PySem.W.Frag} (hk : K = kf.K) : HopI .list (fun xs H Q => ∃ p ys, xs = [.ref p] ∧ (SqL K H p ys ∨ SqT K H p ys) ∧ ∀ l, H l = none → Q (.ref l) (upd H l (.lst ys))) := by
  intro t S σ x dx rr Q R hx z k
  simp only [biD] at z
  split at z <;> simp only [reduceCtorEq, List.cons.injEq, and_true, and_false] at *
  · rename_i xs e
    subst e
    have e := Ou.ok.inj z
    subst e
    obtain ⟨a, us, rfl, h1, h2⟩ := hx
    exact ⟨a, us, rfl, .inl (.of h1), fun l hl => ans_own R hl h2 k⟩
  · rename_i xs e
    subst e
    have e := Ou.ok.inj z
    subst e
    obtain ⟨a, us, rfl, h1, h2, _⟩ := hx.tup
    exact ⟨a, us, rfl, .inr (h1.sq hk), fun l hl => ans_own R hl h2 k⟩
theorem de_list (hm : X.mg "list" = none) (ha : DB X W ea ia) (hg : Gl X "list" := by rfl) (he : starEach [ea] X.env = (false, eval ea X.env) :: starEach [] X.env := by rfl) (hk : X.K = kf.K := by rfl) : DE X W (.Call (.Name "list" p) [ea] [] pos) (.bi .list ia) := de_biT call_list_of (hop_list hk) hm (by decide +kernel) ha hg (by decide) (by decide) he
theorem hop_tuple {K : PySem.W.Frag} (hk : K = kf.K) : HopI .tuple (rTupOf K) := by
  intro t S σ x dx rr Q R hx z k
  simp only [biD] at z
  split at z <;> simp only [reduceCtorEq, List.cons.injEq, and_true, and_false] at *
  · rename_i xs e
    subst e
    have e := Ou.ok.inj z
    subst e
    obtain ⟨a, us, rfl, h1, h2⟩ := hx
    exact ⟨a, us, rfl, .inl ⟨.of h1, ans_tup R h2 k⟩⟩
  · rename_i xs e
    subst e
    have e := Ou.ok.inj z
    subst e
    obtain ⟨a, us, rfl, h1, h2, h3⟩ := hx.tup
    exact ⟨a, us, rfl, .inr ⟨h1.sq hk, ans_fr R h3 k⟩⟩
theorem de_tuple (hm : X.mg "tuple" = none) (ha : DB X W ea ia) (hg : Gl X "tuple" := by rfl) (he : starEach [ea] X.env = (false, eval ea X.env) :: starEach [] X.env := by rfl) (hk : X.K = kf.K := by rfl) : DE X W (.Call (.Name "tuple" p) [ea] [] pos) (.bi .tuple ia) := de_biT cr_tupOf (hop_tuple hk) hm (by decide +kernel) ha hg (by decide) (by decide) he
end
end VS

/-! What a loop walks: enumerate, zip over lists and tuples; the tuples that they make are known objects. -/
namespace VS
open PySem PySem.Spec PyProof.Rows L2
noncomputable def SqK (k : Bool) (K : PySem.W.Frag) (H : Hp) (a : Addr) (xs : List V) : Prop := match k with
  | true => SqT K H a xs
  | false => SqL K H a xs
noncomputable def itK (k : Bool) (h : Heap) (it a : Addr) (i : Nat) : Prop := match k with
  | true => h.IsTupleIter it a i
  | false => h.IsListIter it a i
noncomputable def sqK (k : Bool) (h : Heap) (a : Addr) (its : Array Value) : Prop := match k with
  | true => h.IsTuple a its
  | false => h.IsList a its
noncomputable def itObj (k : Bool) (a : Addr) : Obj := match k with
  | true => { cls := .type "tuple_iterator", data := .fields #[.ref a, .int 0 0] }
  | false => { cls := .type "list_iterator", data := .fields #[.ref a, .int 0 0] }
theorem itK_obj {k : Bool} {h : Heap} {it a : Addr} {i : Nat} (x : itK k h it a i) : ∃ o, h.get? it = some o ∧ ∀ v, o.data ≠ .cell v := by
  cases k <;> (obtain ⟨o, ho, hc, hd⟩ := x; exact ⟨o, ho, fun v q => by rw [hd] at q; cases q⟩)
theorem itK_at {k : Bool} {h h' : Heap} {it a : Addr} {i : Nat} (x : itK k h it a i) (e : ∀ o, h.get? it = some o → h'.get? it = some o) : itK k h' it a i := by
  cases k
  · exact Heap.IsListIter.at x e
  · exact Heap.IsTupleIter.at x e
theorem itK_lt {k : Bool} {h : Heap} {it a : Addr} {i : Nat} (x : itK k h it a i) : it < h.objs.size := by
  obtain ⟨o, ho, _⟩ := itK_obj x
  exact Heap.lt_size ho
theorem itK_new {k : Bool} {h : Heap} {it a : Addr} (e : h.get? it = some (itObj k a)) : itK k h it a 0 := by
  cases k
  · exact ⟨_, e, rfl, rfl⟩
  · exact ⟨_, e, rfl, rfl⟩
theorem drK (k : Bool) {prog : Program} {w : World} {A : Around} (hh : A.handled = none) (it a : Addr) (hne : a ≠ it) (items : Array Value) :
    Draws prog w A it [it, a] items.size (fun i v => items[i]? = some v) (fun i h => itK k h it a i ∧ sqK k h a items) := by
  cases k
  · exact Draws.list hh it a hne items
  · exact Draws.tuple hh it a hne items
theorem begK (k : Bool) (a : Addr) (items : Array Value) : Begins (.ref a) (itObj k a) fun h => sqK k h a items := by
  cases k
  · exact begins_list a items
  · exact begins_tuple a items
section
variable {X : Cx} {pins : List (Addr × Obj)} {σ : L2.St} {H : Hp} {s : Shared}
theorem inv_sq {k : Bool} {a : Addr} {xs : List V} (I : Inv X pins σ H s) (h : SqK k X.K H a xs) : ∃ its, Vals xs its ∧ sqK k s.heap a its.toArray ∧ a < s.heap.objs.size := by
  cases k
  · obtain ⟨its, rv, p, hz⟩ := I.list h
    exact ⟨its, rv, p.isList, p.lt⟩
  · obtain ⟨its, rv, p, hz⟩ := I.tuple h
    have p' : s.heap.IsTuple a its.toArray := p
    exact ⟨its, rv, p', by obtain ⟨_, q, _⟩ := p; exact Heap.lt_size q⟩
theorem sq_inj {k : Bool} {a : Addr} {xs ys : List V} (I : Inv X pins σ H s) (h : SqK k X.K H a xs) (h' : SqK k X.K H a ys) : xs = ys := by
  cases k
  · exact I.list_inj h h'
  · exact I.tuple_inj h h'
end
theorem enum_new1 {v : Value} {o : Obj} {H : Heap → Prop} (B : Begins v o H) :
    Meets (Builtin.«enumerate.__new__» ⟨[.type "enumerate", v], []⟩) (fun _ R s => H s.heap ∧
      R (.ok (.ret (.ref (s.heap.push o).objs.size)))
        { s with heap := (s.heap.push o).push { cls := .type "enumerate", data := .fields #[.none, .bool false, .ref s.heap.objs.size, rawInt 0, .none, .none] } }) :=
  .of_wp fun prog w A R s h => by
    obtain ⟨hp, g, d, tk, os⟩ := s; obtain ⟨h1, h⟩ := h
    have hsub := sub_enumerate
    have q1 : ∀ {A' : Around} {E : Value → Shared → Prop} {Q : Value → Shared → Prop}, Q (.ref hp.objs.size) ⟨(hp.push o), g, d, tk, os⟩ → wpAny (model prog w) A' (pyIter v) Q E ⟨hp, g, d, tk, os⟩ :=
      fun q => B.iter prog w _ _ ⟨hp, g, d, tk, os⟩ _ h1 q
    wp_walk using q1
    refine wpAny_stack_any fun st => wpAny_pure ?_
    split
    · rename_i c _ _ _ _ _
      cases (c == Value.type "enumerate")
      · wp_walk using q1
        exact ⟨_, rfl, h⟩
      · wp_walk using q1
        exact ⟨_, rfl, h⟩
    · wp_walk using q1
      exact ⟨_, rfl, h⟩
theorem enum_begins1 {prog : Program} {w : World} {A : Around} {E : Value → Shared → Prop} {s : Shared} {v : Value} {o : Obj} {H : Heap → Prop} {Q : Value → Shared → Prop} (B : Begins v o H) (h1 : H s.heap)
    (h : ∀ h', IsEnum h' (s.heap.objs.size + 1) s.heap.objs.size 0 .none → h'.get? s.heap.objs.size = some o → h'.objs.size = s.heap.objs.size + 2 →
      (∀ b o, s.heap.get? b = some o → h'.get? b = some o) → Q (.ref (s.heap.objs.size + 1)) { s with heap := h' }) :
    wpAny (model prog w) A (call (.type "enumerate") [v]) Q E s := by
  refine callType_new F.called_enumerate (by decide) (F.typeCall_enumerate_1 _) (F.newCall_enumerate_1 _) (fun obj => F.args_object_init_2 obj _) F.entry_enumerate_new
    (enum_new1 B) ⟨h1, ?_⟩
  have hz : (s.heap.push o).objs.size = s.heap.objs.size + 1 := Heap.size_push ..
  show _ ∧ _
  rw [hz]
  have he : IsEnum ((s.heap.push o).push { cls := .type "enumerate", data := .fields #[.none, .bool false, .ref s.heap.objs.size, rawInt 0, .none, .none] }) (s.heap.objs.size + 1) s.heap.objs.size 0 .none := by
    have := Heap.get?_push_size (s.heap.push o) (o := { cls := .type "enumerate", data := .fields #[.none, .bool false, .ref s.heap.objs.size, rawInt 0, .none, .none] }) rfl
    rw [hz] at this; exact this
  refine ⟨⟨_, he, rfl⟩, h _ he (Heap.get?_push_of_some _ (Heap.get?_push_size _ B.free)) (by rw [Heap.size_push, hz]) fun b o x => Heap.get?_push_of_some _ (Heap.get?_push_of_some _ x)⟩
/-- a new known tuple at T -/
noncomputable def NewAt (H : Hp) (v : V) (H' : Hp) (xs : List V) : Prop := ∃ (T : Addr) (o : Obj), v = .ref T ∧ H T = none ∧ o.dict = none ∧ H' = upd H T (.frz o (.tup xs))
/-- the list or the tuple at a, each item in a new pair -/
noncomputable def IteK (k : Bool) (K : PySem.W.Frag) (a : Addr) : It :=
  ⟨fun i H => ∃ (xs : List V) (x : V), SqK k K H a xs ∧ xs[i]? = some x, fun i H v H' => ∃ x, NewAt H v H' [.int (i : Nat), x] ∧ ∀ xs, SqK k K H a xs → xs[i]? = some x, fun i H => ∃ xs : List V, SqK k K H a xs ∧ xs.length = i⟩
theorem turn_enumK {P : Program} {w : World} {K : PySem.W.Frag} {elts : List Expr} {kk : Nat} {tpos : Pos} (k : Bool) (a e it : Addr) (hai : a ≠ it) (hea : e ≠ a) :
    Turn P w K (.Tuple elts kk tpos) (IteK k K a) [e, it] e (fun i h => (∃ old, IsEnum h e it ((i : Nat) : Int) old) ∧ itK k h it a i ∧ e ≠ it) where
  mem := by simp
  obj := fun i h st b hb => by
    obtain ⟨⟨old, he⟩, hit, _⟩ := st
    have e' : b = e ∨ b = it := by simpa using hb
    rcases e' with z | z
    · rw [z]; exact ⟨_, he, fun v q => nomatch q⟩
    · rw [z]; exact itK_obj hit
  keep := fun i h h' st k => let ⟨⟨old, he⟩, hi, hne⟩ := st; ⟨⟨old, k e (by simp) _ he⟩, itK_at hi fun o q => k it (by simp) o q, hne⟩
  item := by
    intro X hP hw hK hc i pins s σ H E I hf st hg
    subst hP hw hK
    obtain ⟨⟨old, he⟩, hit, hne⟩ := st
    obtain ⟨xs, x, hq, hx⟩ := hg
    obtain ⟨its, rv, p, _⟩ := inv_sq I hq
    obtain ⟨u, hu, ru⟩ := rv.get hx
    have hel : e < s.heap.objs.size := Heap.lt_size he
    have hil : it < s.heap.objs.size := itK_lt hit
    have hlt : i < its.toArray.size := by simpa using (List.getElem?_eq_some_iff.mp hu).1
    have hh : X.A.in1.handled = none := I.ok.hd hc
    refine wpAny_pyNext_enum_itemD (drK k hh it a hai its.toArray) he ⟨hit, p⟩ hlt hne (by simp [hea, hne]) fun x' h' tk hP ho hst' hT hsz hk => ?_
    obtain ⟨hit', hp'⟩ := hst'
    have ex : x' = u := by
      have : its.toArray[i]? = some u := by simpa using hu
      rw [this] at hP
      exact (Option.some.inj hP).symm
    subst ex
    refine ⟨_, rfl, wpAny_letOwnedTupleGo_enum (s := { s with heap := h', toks := tk + 1 }) ho fun h'' he' sb => ?_⟩
    have hT2 : h''.get? s.heap.objs.size = some (tob [.int i tk, x']) := (sb.2 _ (Nat.ne_of_gt hel)).trans hT
    have new : ObjOk X.prog X.w (upd H s.heap.objs.size (.frz (tob [.int i tk, x']) (.tup [.int (i : Nat), x]))) h'' s.heap.objs.size (.frz (tob [.int i tk, x']) (.tup [.int (i : Nat), x])) :=
      ⟨hT2, by show 2 ≤ sizeLine; decide, [.int i tk, x'], .cons ⟨_, rfl⟩ (.cons ru .nil), ⟨_, hT2, rfl, _, rfl⟩⟩
    have I1 : Inv X pins σ (upd H s.heap.objs.size (.frz (tob [.int i tk, x']) (.tup [.int (i : Nat), x]))) { s with heap := h'', toks := tk + 1 } :=
      I.turnedNew (ch := [e, it]) (fun b ob hb q => (sb.2 b (fun z => hb (by simp [z]))).trans (hk b ob (fun z => hb (by simp [z])) (fun z => hb (by simp [z])) q)) hf (Nat.le_refl _) new
    refine ⟨.ref s.heap.objs.size, _, I1, rfl, ⟨x, ⟨_, _, rfl, I.hok.fresh (Nat.le_refl _), rfl, rfl⟩, fun ys hy => by rw [sq_inj I hy hq]; exact hx⟩, ⟨⟨x', ?_⟩, itK_at hit' fun o q => (sb.2 it (Ne.symm hne)).trans q, hne⟩, fun b hb => ?_⟩
    · have e1 : ((i + 1 : Nat) : Int) = (i : Int) + 1 := by omega
      rw [e1]; exact he'
    · have hb' : b < s.heap.objs.size := by
        have e' : b = e ∨ b = it := by simpa using hb
        rcases e' with z | z
        · rw [z]; exact hel
        · rw [z]; exact hil
      rw [upd_ne (Nat.ne_of_lt hb')]
      exact (hf b hb).1
  done := by
    intro X hP hw hK hc i pins s σ H E I hf st hg
    subst hP hw hK
    obtain ⟨⟨old, he⟩, hit, hne⟩ := st
    obtain ⟨xs, hq, hx⟩ := hg
    obtain ⟨its, rv, p, _⟩ := inv_sq I hq
    obtain ⟨f0, f1, f2, f3, f4, f5⟩ := hf it (by simp)
    have hl := rv.length
    have hh : X.A.in1.handled = none := I.ok.hd hc
    have ei : i = its.toArray.size := by simp; omega
    subst ei
    exact wpAny_pyNext_enum_endD (drK k hh it a hai its.toArray) he ⟨hit, p⟩ fun h' eb => ⟨rfl, I.turned (t' := s.toks) (fun b o hb q => eb b o hb q) f0 f1 f3 f4 f5⟩
  self := fun A i s Q E st h => let ⟨⟨_, he⟩, _⟩ := st; wpAny_pyIter_enum he h
/-- enumerate of a list or a tuple -/
noncomputable def iEnumA (K : PySem.W.Frag) (ta : L2.TA) : TI := fun σ H R => ta σ H fun vs H1 => ∃ k a xs, vs = [.ref a] ∧ SqK k K H1 a xs ∧ R (IteK k K a) H1
theorem pi_enumA {X : Cx} {e : Expr} {ta : L2.TA} {p pos tpos : Pos} {elts : List Expr} {kk : Nat} (hg : Gl X "enumerate") (hm : X.mg "enumerate" = none) (ha : PA X [e] ta) (hs : starEach [e] X.env = [(false, eval e X.env)] := by rfl) :
    PI X (.Tuple elts kk tpos) (.Call (.Name "enumerate" p) [e] [] pos) (iEnumA X.K ta) := by
  refine ⟨fun pins s σ H R I h => ?_⟩
  refine Call_ (ld_blt I hg hm boot_enumerate (PyProof.Rows.callWith_type1 (thn (ha.run pos pins s σ H _ I h) fun us s1 ⟨vs, H1, I1, r1, q1⟩ => ?_) hs rfl))
  obtain ⟨k, a, xs, ex, hq, q⟩ := q1
  subst ex
  cases r1 with
  | cons r rr =>
    cases rr
    cases r
    obtain ⟨its, rv, p', lt⟩ := inv_sq I1 hq
    refine enum_begins1 (begK k a its.toArray) p' fun h' he hit hsz hk => wpAny_pyIter_enum he ?_
    have I2 : Inv X pins σ H1 { s1 with heap := h' } := I1.kept (t' := s1.toks) hk
    refine ⟨s1.heap.objs.size + 1, [s1.heap.objs.size + 1, s1.heap.objs.size], _, _, H1, rfl, I2, turn_enumK k a (s1.heap.objs.size + 1) s1.heap.objs.size (Nat.ne_of_lt lt) (Nat.ne_of_gt (Nat.lt_succ_of_lt lt)), ⟨⟨.none, he⟩, itK_new hit, Nat.succ_ne_self _⟩, fun b hb => ?_, q⟩
    have e' : b = s1.heap.objs.size + 1 ∨ b = s1.heap.objs.size := by simpa using hb
    rcases e' with z | z
    · rw [z]; exact I1.fpOk (Nat.le_succ _) (I1.hok.fresh (Nat.le_succ _))
    · rw [z]; exact I1.fpOk (Nat.le_refl _) (I1.hok.fresh (Nat.le_refl _))
end VS

/-! Sources of loops, comprehensions. -/
namespace VS
open PySem PySem.Spec PyProof.Rows L2
variable [kf : KF]
/-- the iterator J yields the data ds, from a heap whose frozen part is F -/
structure Walks (F : Hp) (J : It) (ds : List D) : Prop where
  go : ∀ i H O, Same F (hid H O) → i < ds.length → J.go i H
  yld : ∀ i H O x H' d, Same F (hid H O) → (∀ a ∈ O, H a ≠ none) → ds[i]? = some d → J.yld i H x H' → Same H H' ∧ Rp (hid H' O) x d
  stop : ∀ i H O, Same F (hid H O) → ds.length = i → J.stop i H
omit [kf : KF] in
theorem enumD_get : ∀ (k : Nat) (ds : List D) (i : Nat) (d : D), (enumD k ds)[i]? = some d → ∃ x, ds[i]? = some x ∧ d = .tuple [.int ((k + i : Nat) : Int), x]
  | k, [], i, d, h => by simp [enumD] at h
  | k, x :: r, 0, d, h => by
    simp [enumD] at h
    exact ⟨x, rfl, h.symm⟩
  | k, x :: r, i + 1, d, h => by
    simp only [enumD, List.getElem?_cons_succ] at h
    obtain ⟨y, h1, h2⟩ := enumD_get (k + 1) r i d h
    refine ⟨y, by simpa using h1, ?_⟩
    rw [h2]
    have : k + 1 + i = k + (i + 1) := by omega
    rw [this]
omit [kf : KF] in
theorem enumD_length : ∀ (k : Nat) (ds : List D), (enumD k ds).length = ds.length
  | _, [] => rfl
  | k, x :: r => by simp [enumD, enumD_length (k + 1) r]
omit [kf : KF] in
theorem rngD_length : ∀ (lo : Int) (n : Nat), (rngD lo n).length = n
  | _, 0 => rfl
  | lo, n + 1 => by simp [rngD, rngD_length (lo + 1) n]
omit [kf : KF] in
theorem rngD_get : ∀ (lo : Int) (n i : Nat) (d : D), (rngD lo n)[i]? = some d → i < n ∧ d = .int (lo + (i : Nat))
  | lo, 0, i, d, h => by simp [rngD] at h
  | lo, n + 1, 0, d, h => by simp [rngD] at h; exact ⟨by omega, by rw [← h]; simp⟩
  | lo, n + 1, i + 1, d, h => by
    simp only [rngD, List.getElem?_cons_succ] at h
    obtain ⟨h1, h2⟩ := rngD_get (lo + 1) n i d h
    refine ⟨by omega, ?_⟩
    rw [h2]
    congr 1
    omega
theorem walks_rng {F : Hp} {lo : Int} {n : Nat} : Walks F (Itr lo n) (rngD lo n) where
  go := fun i H O _ h => by rw [rngD_length] at h; exact h
  yld := fun i H O x H' d s t h y => by
    obtain ⟨e1, e2⟩ := y
    subst e1 e2
    obtain ⟨_, h2⟩ := rngD_get _ _ _ _ h
    subst h2
    exact ⟨Same.refl _, .int _⟩
  stop := fun i H O _ h => by rw [rngD_length] at h; exact Nat.le_of_eq h
/-- a list or a tuple of frozen data -/
noncomputable def SqF (k : Bool) (F : Hp) (a : Addr) (xs : List V) : Prop := match k with
  | true => TupAt F a xs
  | false => F a = some (.lst xs)
theorem SqF.sq {k : Bool} {F H : Hp} {O : List Addr} {a : Addr} {xs : List V} {K : PySem.W.Frag} (h : SqF k F a xs) (s : Same F (hid H O)) (hk : K = kf.K) : SqK k K H a xs := by
  cases k
  · exact SqL.of (hid_le _ _ (s _ _ h))
  · exact ((TupAtK.mono s h).mono hid_le).sq hk
theorem new_tup {H : Hp} {O : List Addr} {v : V} {H' : Hp} {xs : List V} {ds : List D} (t : ∀ a ∈ O, H a ≠ none) (n : NewAt H v H' xs) (r : RpA (hid H O) xs ds) : Same H H' ∧ Rp (hid H' O) v (.tuple ds) := by
  obtain ⟨T, o, e1, hT, ho, e2⟩ := n
  subst e1 e2
  have nT : T ∉ O := fun q => t T q hT
  have s : Same (hid H O) (hid (upd H T (.frz o (.tup xs))) O) := fun b o h => by
    obtain ⟨n, e⟩ := hid_some h
    rw [hid_out n, upd_ne (ne_of_none e hT)]
    exact e
  exact ⟨same_upd hT, .tup (.of (o := o) (by rw [hid_out nT, upd_same]) ho) (r.mono s)⟩
theorem walks_enum {K : PySem.W.Frag} (hk : K = kf.K) {k : Bool} {F : Hp} {a : Addr} {xs : List V} {ds : List D} (h : SqF k F a xs) (r : RpA F xs ds) : Walks F (IteK k K a) (enumD 0 ds) where
  go := fun i H O s hi => by
    rw [enumD_length, ← r.length] at hi
    exact ⟨xs, xs[i], h.sq s hk, List.getElem?_eq_getElem hi⟩
  yld := fun i H O x H' d s t hd y => by
    obtain ⟨x', n, e3⟩ := y
    obtain ⟨d', h1, h2⟩ := enumD_get _ _ _ _ hd
    obtain ⟨v, h3, h4⟩ := r.get h1
    have e := e3 xs (h.sq s hk)
    rw [h3] at e
    cases e
    subst h2
    rw [Nat.zero_add]
    exact new_tup t n (.cons (.int _) (.cons (h4.mono s) .nil))
  stop := fun i H O s hi => ⟨xs, h.sq s hk, by rw [enumD_length] at hi; rw [r.length]; exact hi⟩
/-! ### the sources -/
noncomputable def tSrc (mg : Str → Option Value) (W : WX) (sr : Sr) : TI := fun σ H R =>
  ∃ t S, S.H = H ∧ Rel t S σ ∧ (evalS sr S.en).post (fun p => ∀ J S', S'.en = p.2 → Rel t S' σ → Le S S' → Walks S'.F J p.1 → R J S'.H) (RW mg W t σ)
noncomputable abbrev DS (X : Cx) (W : WX) (tg e : Expr) (sr : Sr) : Prop := PI X tg e (tSrc X.mg W sr)
omit [kf : KF] in
theorem _root_.L2.PI.imp {X : Cx} {tg e : Expr} {t t' : TI} (h : PI X tg e t) (i : ∀ σ H Q, t' σ H Q → t σ H Q) : PI X tg e t' := ⟨fun pins s σ H Q I q => h.run pins s σ H Q I (i σ H Q q)⟩
section
variable {X : Cx} {W : WX} {e ea eb ec tg : Expr} {es : List Expr} {ir ia ib ic : Ex} {is : Exs} {pos p : Pos} {k n : Nat} {x : Str}
theorem ds_enum {elts : List Expr} {kk : Nat} {tpos : Pos} (hm : X.mg "enumerate" = none) (h : DF X W e ir) (hg : Gl X "enumerate" := by rfl) (hs : starEach [e] X.env = [(false, eval e X.env)] := by rfl) (hk : X.K = kf.K := by rfl) :
    DS X W (.Tuple elts kk tpos) (.Call (.Name "enumerate" p) [e] [] pos) (.enum ir) := (pi_enumA hg hm (pa_cons h pa_nil hs) hs).imp fun σ H Q ⟨t, S, eH, R, h⟩ => by
  subst eH
  simp only [evalS, post_bind] at h
  refine ⟨t, S, rfl, R, ?_⟩
  unfold evF
  rw [post_bind]
  refine post_imp h fun p hp k1 v S1 e1 P1 => ?_
  have e1 : S1.en = p.2 := e1
  have hv : Rp S1.F v (toD p.1) := P1.val
  cases q : toD p.1 <;> rw [q] at k1 hv <;> (try exact k1.elim)
  · cases hv with
    | lst ha ra => exact ⟨false, _, _, rfl, .of (hid_le _ _ ha), k1 _ S1 e1 P1.rel P1.le (walks_enum (k := false) hk ha ra)⟩
  · cases hv with
    | tup ha ra => exact ⟨true, _, _, rfl, (ha.mono hid_le).sq hk, k1 _ S1 e1 P1.rel P1.le (walks_enum (k := true) hk ha ra)⟩
theorem ds_rng1 (hm : X.mg "range" = none) (h : DB X W e ir) (hg : Gl X "range" := by rfl) (hs : starEach [e] X.env = [(false, eval e X.env)] := by rfl) : DS X W tg (.Call (.Name "range" p) [e] [] pos) (.rng1 ir) := (pi_range1 hg hm (pa_cons h pa_nil hs) hs).imp fun σ H Q ⟨t, S, eH, R, h⟩ => by
  subst eH
  simp only [evalS, post_bind] at h
  refine ⟨t, S, rfl, R, post_imp h fun p hp k1 v S1 e1 P1 => ?_⟩
  obtain ⟨d, en⟩ := p
  have hv := P1.val
  cases d <;> (try exact k1.elim)
  rename_i i
  simp only at k1
  split at k1
  · rename_i hz
    exact ⟨i, by rw [hv.int], hz.1, hz.2, k1 _ S1 e1 P1.rel P1.le walks_rng⟩
  · exact k1.elim
end
end VS

/-! Targets, comprehensions. -/
namespace VS
open PySem PySem.Spec PyProof.Rows L2
variable [kf : KF]
/-- a name gets data -/
theorem Rel.setFr {t : Ent} {S : Sn} {σ : L2.St} (R : Rel t S σ) {v : V} {d : D} (h : Rp S.F v d) (i : Nat) :
    Rel t { S with en := S.en.set i (some (.fr d)) } (σ.set i (some v)) ∧ Le S { S with en := S.en.set i (some (.fr d)) } := by
  have get : ∀ j x, (S.en.set i (some (Sl.fr d)))[j]? = some (some x) → (i = j ∧ x = .fr d) ∨ (i ≠ j ∧ S.en[j]? = some (some x)) := by
    intro j x e
    rw [List.getElem?_set] at e
    split at e
    · rename_i q
      split at e
      · exact .inl ⟨q, by simpa using e.symm⟩
      · cases e
    · rename_i q
      exact .inr ⟨q, e⟩
  have getV : ∀ j, i ≠ j → (σ.set i (some v))[j]? = σ[j]? := fun j q => by rw [List.getElem?_set]; simp [q]
  have oldL : ∀ j, isL (S.en.set i (some (Sl.fr d))) j → i ≠ j ∧ isL S.en j := by
    rintro j ⟨es, e | e⟩
    · rcases get _ _ e with ⟨_, q⟩ | ⟨q, e⟩
      · cases q
      · exact ⟨q, es, .inl e⟩
    · rcases get _ _ e with ⟨_, q⟩ | ⟨q, e⟩
      · cases q
      · exact ⟨q, es, .inr e⟩
  have oldX : ∀ j x, (S.en.set i (some (Sl.fr d)))[j]? = some (some x) → (∀ d, x ≠ .fr d) → i ≠ j ∧ S.en[j]? = some (some x) := fun j x e a => by
    rcases get _ _ e with ⟨_, q⟩ | q
    · exact absurd q (a d)
    · exact q
  have oldO : ∀ j, isO (S.en.set i (some (Sl.fr d))) j → i ≠ j ∧ isO S.en j := by
    rintro j ⟨C, es, e | e⟩
    · obtain ⟨q, e⟩ := oldX _ _ e (fun _ z => nomatch z)
      exact ⟨q, C, es, .inl e⟩
    · obtain ⟨q, e⟩ := oldX _ _ e (fun _ z => nomatch z)
      exact ⟨q, C, es, .inr e⟩
  refine ⟨⟨?_, R.keep, R.sup, R.subM, R.new, R.trk, fun j d' e => ?_, fun j es e => ?_, fun j es e => ?_, fun j es e => ?_, fun j l hj hl z => R.inj j l (oldL j hj).2 (oldL l hl).2 z, R.tb, R.tM, R.os.keep (fun j x e a _ _ => (oldX j x e a).2) (fun j hj => getV j (oldO j hj).1) (fun _ _ => ⟨rfl, rfl⟩) (fun j hj b hb => ⟨(R.os.rg j (oldO j hj).2 b hb).1, rfl⟩) (Same.refl _) (fun j k hj hk => R.os.dL j k (oldO j hj).2 (oldL k hk).2)⟩, ⟨Same.refl _, fun _ h => h, fun j hj => ⟨(oldL j hj).2, rfl⟩, fun j hj => ⟨(oldO j hj).2, rfl, fun b hb => .inl hb⟩, fun a h _ n _ => ⟨h, .inl rfl⟩⟩⟩
  · show (S.en.set i _).length = (σ.set i _).length
    rw [List.length_set, List.length_set]; exact R.len
  · have e : (S.en.set i (some (Sl.fr d)))[j]? = some (some (Sl.fr d')) := e
    have lt := lt_of_some e
    rcases get _ _ e with ⟨q, e'⟩ | ⟨q, e'⟩
    · subst q
      cases e'
      rw [List.length_set, R.len] at lt
      exact ⟨v, by rw [List.getElem?_set]; simp [lt], h⟩
    · obtain ⟨u, a, b⟩ := R.fr j d' e'
      exact ⟨u, by rw [getV j q]; exact a, b⟩
  · have q : i ≠ j ∧ (S.en[j]? = some (some (Sl.own es)) ∨ S.en[j]? = some (some (Sl.mb es))) := by
      rcases e with e | e
      · rcases get _ _ e with ⟨_, q⟩ | ⟨q, e⟩
        · cases q
        · exact ⟨q, .inl e⟩
      · rcases get _ _ e with ⟨_, q⟩ | ⟨q, e⟩
        · cases q
        · exact ⟨q, .inr e⟩
    obtain ⟨a, b, ys, c1, d1⟩ := R.li j es q.2
    exact ⟨by rw [getV j q.1]; exact a, b, ys, c1, d1⟩
  · rcases get _ _ e with ⟨_, q⟩ | ⟨q, e⟩
    · cases q
    · exact R.ow j es e
  · rcases get _ _ e with ⟨_, q⟩ | ⟨q, e⟩
    · cases q
    · exact R.mb j es e
/-- a name is forgotten -/
theorem Rel.clr {t : Ent} {S : Sn} {σ : L2.St} (R : Rel t S σ) (i : Nat) :
    Rel t { S with en := S.en.set i none } (σ.set i none) ∧ Le S { S with en := S.en.set i none } := by
  have get : ∀ j x, (S.en.set i none)[j]? = some (some x) → i ≠ j ∧ S.en[j]? = some (some x) := by
    intro j x e
    rw [List.getElem?_set] at e
    split at e
    · split at e <;> cases e
    · rename_i q
      exact ⟨q, e⟩
  have getV : ∀ j, i ≠ j → (σ.set i none)[j]? = σ[j]? := fun j q => by rw [List.getElem?_set]; simp [q]
  have oldL : ∀ j, isL (S.en.set i none) j → i ≠ j ∧ isL S.en j := by
    rintro j ⟨es, e | e⟩
    · exact ⟨(get _ _ e).1, es, .inl (get _ _ e).2⟩
    · exact ⟨(get _ _ e).1, es, .inr (get _ _ e).2⟩
  have oldO : ∀ j, isO (S.en.set i none) j → i ≠ j ∧ isO S.en j := by
    rintro j ⟨C, es, e | e⟩
    · exact ⟨(get _ _ e).1, C, es, .inl (get _ _ e).2⟩
    · exact ⟨(get _ _ e).1, C, es, .inr (get _ _ e).2⟩
  refine ⟨⟨?_, R.keep, R.sup, R.subM, R.new, R.trk, fun j d' e => ?_, fun j es e => ?_, fun j es e => R.ow j es (get _ _ e).2, fun j es e => R.mb j es (get _ _ e).2, fun j l hj hl z => R.inj j l (oldL j hj).2 (oldL l hl).2 z, R.tb, R.tM, R.os.keep (fun j x e _ _ _ => (get j x e).2) (fun j hj => getV j (oldO j hj).1) (fun _ _ => ⟨rfl, rfl⟩) (fun j hj b hb => ⟨(R.os.rg j (oldO j hj).2 b hb).1, rfl⟩) (Same.refl _) (fun j k hj hk => R.os.dL j k (oldO j hj).2 (oldL k hk).2)⟩, ⟨Same.refl _, fun _ h => h, fun j hj => ⟨(oldL j hj).2, rfl⟩, fun j hj => ⟨(oldO j hj).2, rfl, fun b hb => .inl hb⟩, fun a h _ n _ => ⟨h, .inl rfl⟩⟩⟩
  · show (S.en.set i _).length = (σ.set i _).length
    rw [List.length_set, List.length_set]; exact R.len
  · obtain ⟨q, e⟩ := get _ _ e
    obtain ⟨u, a, b⟩ := R.fr j d' e
    exact ⟨u, by rw [getV j q]; exact a, b⟩
  · have q : i ≠ j ∧ (S.en[j]? = some (some (Sl.own es)) ∨ S.en[j]? = some (some (Sl.mb es))) := by
      rcases e with e | e
      · exact ⟨(get _ _ e).1, .inl (get _ _ e).2⟩
      · exact ⟨(get _ _ e).1, .inr (get _ _ e).2⟩
    obtain ⟨a, b, ys, c1, d1⟩ := R.li j es q.2
    exact ⟨by rw [getV j q.1]; exact a, b, ys, c1, d1⟩
theorem Rel.wipe {t : Ent} {S : Sn} {σ : L2.St} (R : Rel t S σ) : ∀ vs : List Nat, Rel t { S with en := wipeE S.en vs } (L2.wipe σ vs) ∧ Le S { S with en := wipeE S.en vs }
  | [] => ⟨R, Le.refl _⟩
  | i :: vs => by
    obtain ⟨R1, l1⟩ := Rel.wipe R vs
    obtain ⟨R2, l2⟩ := R1.clr i
    exact ⟨R2, l1.trans l2⟩
omit [kf : KF] in
theorem wipe_mem {σ : L2.St} {x : Option V} : ∀ {vs : List Nat} {i : Nat}, i ∈ vs → L2.wipe (σ.set i x) vs = L2.wipe σ vs := by
  intro vs i h
  apply List.ext_getElem?
  intro j
  induction vs with
  | nil => cases h
  | cons a vs ih =>
    show ((L2.wipe (σ.set i x) vs).set a none)[j]? = ((L2.wipe σ vs).set a none)[j]?
    rw [List.getElem?_set, List.getElem?_set]
    have hl : (L2.wipe (σ.set i x) vs).length = (L2.wipe σ vs).length := by rw [wipe_length, wipe_length, List.length_set]
    by_cases e : a = j
    · subst e
      rw [hl, if_pos rfl, if_pos rfl]
    · rw [if_neg e, if_neg e]
      rcases List.mem_cons.mp h with h | h
      · subst h
        clear ih h
        induction vs with
        | nil => show (σ.set i x)[j]? = σ[j]?; rw [List.getElem?_set]; simp [e]
        | cons b vs ih' =>
          show ((L2.wipe (σ.set i x) vs).set b none)[j]? = ((L2.wipe σ vs).set b none)[j]?
          have hl' : (L2.wipe (σ.set i x) vs).length = (L2.wipe σ vs).length := by rw [wipe_length, wipe_length, List.length_set]
          rw [List.getElem?_set, List.getElem?_set, hl', ih' hl']
      · exact ih h
omit [kf : KF] in
theorem wipe_idem {σ : L2.St} : ∀ {vs ws : List Nat}, (∀ i ∈ vs, i ∈ ws) → L2.wipe (L2.wipe σ vs) ws = L2.wipe σ ws
  | [], ws, _ => rfl
  | i :: vs, ws, h => by
    show L2.wipe ((L2.wipe σ vs).set i none) ws = _
    rw [wipe_mem (h i (List.mem_cons_self ..))]
    exact wipe_idem fun j hj => h j (List.mem_cons_of_mem _ hj)
/-! ### targets -/
noncomputable def Tg.ix : Tg → List Nat
  | .one i => [i]
  | .tup is => is
noncomputable def GOk (tg : Tg) (g : TG) : Prop := ∀ t S σ v d en' Q, Rel t S σ → Rp S.F v d → bindT tg d S.en = .ok en' →
  (∀ σ', Rel t { S with en := en' } σ' → Le S { S with en := en' } → (∀ vs, (∀ i ∈ tg.ix, i ∈ vs) → L2.wipe σ' vs = L2.wipe σ vs) → Q σ' S.H) → g v σ S.H Q
theorem gok_one (i : Nat) : GOk (.one i) (gName i) := fun t S σ v d en' Q R h e k => by
  have e := Ou.ok.inj e
  subst e
  obtain ⟨R', l⟩ := R.setFr h i
  exact k _ R' l fun vs hv => wipe_mem (hv i (List.mem_singleton.mpr rfl))
noncomputable def gNs : List Nat → TGs
  | [] => gNil
  | i :: is => gCons (gName i) (gNs is)
theorem gok_tup {K : PySem.W.Frag} {n : Nat} (is : List Nat) (hn : is.length = n := by rfl) (hk : K = kf.K := by rfl) : GOk (.tup is) (gTup K n (gNs is)) := fun t S σ v d en' Q R h e k => by
  subst hn
  unfold bindT at e
  simp only at e
  cases d <;> simp only [reduceCtorEq] at e
  rename_i ds
  split at e
  · rename_i hl
    have e := Ou.ok.inj e
    subst e
    cases h with
    | tup ha ra =>
      rename_i a xs
      refine ⟨a, xs, rfl, (ha.mono hid_le).sq hk, by rw [ra.length]; exact hl, ?_⟩
      have main : ∀ (js : List Nat) (xs : List V) (ds : List D) (S0 : Sn) (σ0 : L2.St), S0.H = S.H → S0.O = S.O → S0.ad = S.ad → S0.fp = S.fp → RpA S.F xs ds → ds.length = js.length → Rel t S0 σ0 → Le S S0 →
          (∀ σ', Rel t { S with en := (js.zip ds).foldl (fun e p => e.set p.1 (some (.fr p.2))) S0.en } σ' → Le S { S with en := (js.zip ds).foldl (fun e p => e.set p.1 (some (.fr p.2))) S0.en } → (∀ vs, (∀ i ∈ js, i ∈ vs) → L2.wipe σ' vs = L2.wipe σ0 vs) → Q σ' S.H) → gNs js xs σ0 S.H Q := by
        intro js
        induction js with
        | nil =>
          intro xs ds S0 σ0 e1 e2 e3 e4 r hl R0 l0 k0
          have hd : ds = [] := List.length_eq_zero_iff.mp hl
          subst hd
          cases r
          refine ⟨rfl, k0 σ0 ?_ ?_ fun _ _ => rfl⟩
          · cases S0; cases e1; cases e2; cases e3; cases e4; exact R0
          · cases S0; cases e1; cases e2; cases e3; cases e4; exact l0
        | cons j js ih =>
          intro xs ds S0 σ0 e1 e2 e3 e4 r hl R0 l0 k0
          cases r with
          | nil => cases hl
          | cons h1 r1 =>
            rename_i v vs d ds
            refine ⟨v, vs, rfl, ?_⟩
            have h1' : Rp S0.F v d := by
              have : S0.F = S.F := by unfold Sn.F; rw [e1, e2]
              rw [this]; exact h1
            obtain ⟨R1, l1⟩ := R0.setFr h1' j
            refine ih vs ds { S0 with en := S0.en.set j (some (.fr d)) } (σ0.set j (some v)) e1 e2 e3 e4 r1 (by simpa using hl) R1 (l0.trans l1) fun σ' R' l' w' => ?_
            refine k0 σ' R' l' fun ws hw => ?_
            rw [w' ws fun i hi => hw i (List.mem_cons_of_mem _ hi)]
            exact wipe_mem (hw j (List.mem_cons_self ..))
      exact main is xs ds S σ rfl rfl rfl rfl ra hl R (Le.refl _) k
  · cases e
/-! ### comprehensions -/
noncomputable abbrev W0 : WX := fun _ _ _ _ => False
noncomputable def tCond (mg : Str → Option Value) (io : Exo) : TT := fun σ H Q =>
  ∃ t S, S.H = H ∧ Rel t S σ ∧ (evalC io S.en).post (fun p => ∀ S', S'.en = p.2 → Rel t S' σ → Le S S' → Q p.1 S'.H) (RW mg W0 t σ)
noncomputable abbrev DC (X : Cx) (ifs : List Expr) (io : Exo) : Prop := PTs X ifs (tCond X.mg io)
omit [kf : KF] in
theorem _root_.L2.PTs.imp {X : Cx} {ifs : List Expr} {t t' : TT} (h : PTs X ifs t) (i : ∀ σ H Q, t' σ H Q → t σ H Q) : PTs X ifs t' := ⟨fun pins s σ H Q I q => h.run pins s σ H Q I (i σ H Q q)⟩
theorem dc_none {X : Cx} : DC X [] .none := pts_nil.imp fun σ H Q ⟨t, S, eH, R, h⟩ => by
  subst eH
  exact h S rfl R (Le.refl _)
omit [kf : KF] in
theorem post_ok {α : Type} {x : Ou α} {a : α} {P : α → Prop} {E : Exn → Prop} (e : x = .ok a) (h : P a) : x.post P E := by rw [e]; exact h
omit [kf : KF] in
theorem bind_ok {α β : Type} {x : Ou α} {f : α → Ou β} {b : β} (h : (x >>= f) = .ok b) : ∃ a, x = .ok a ∧ f a = .ok b := by
  cases x with
  | ok a => exact ⟨a, rfl, h⟩
  | ex e => cases h
  | no => cases h
omit [kf : KF] in
theorem wipeE_get {en : En} : ∀ {vs : List Nat} {j : Nat}, j ∉ vs → (wipeE en vs)[j]? = en[j]?
  | [], _, _ => rfl
  | i :: vs, j, h => by
    show ((wipeE en vs).set i none)[j]? = _
    rw [List.getElem?_set, if_neg (show ¬ i = j from fun e => h (by rw [e]; exact List.mem_cons_self ..))]
    exact wipeE_get fun q => h (List.mem_cons_of_mem _ q)
omit [kf : KF] in
theorem wipeE_len {en : En} : ∀ {vs : List Nat}, (wipeE en vs).length = en.length
  | [] => rfl
  | i :: vs => by
    show ((wipeE en vs).set i none).length = _
    rw [List.length_set]
    exact wipeE_len
omit [kf : KF] in
theorem wipeE_in {en : En} : ∀ {vs : List Nat} {j : Nat} {x : Sl}, j ∈ vs → (wipeE en vs)[j]? ≠ some (some x)
  | [], _, _, h => by cases h
  | i :: vs, j, x, h => by
    show ((wipeE en vs).set i none)[j]? ≠ _
    rw [List.getElem?_set]
    split
    · split <;> simp
    · rename_i q
      rcases List.mem_cons.mp h with h | h
      · exact absurd h.symm q
      · exact wipeE_in h
omit [kf : KF] in
theorem backE_get {en e' : En} : ∀ {vs : List Nat} {j : Nat}, j ∉ vs → (backE en e' vs)[j]? = e'[j]?
  | [], _, _ => rfl
  | i :: vs, j, h => by
    show ((backE en e' vs).set i _)[j]? = _
    rw [List.getElem?_set, if_neg (show ¬ i = j from fun e => h (by rw [e]; exact List.mem_cons_self ..))]
    exact backE_get fun q => h (List.mem_cons_of_mem _ q)
omit [kf : KF] in
theorem backE_len {en e' : En} : ∀ {vs : List Nat}, (backE en e' vs).length = e'.length
  | [] => rfl
  | i :: vs => by
    show ((backE en e' vs).set i _).length = _
    rw [List.length_set]
    exact backE_len
omit [kf : KF] in
theorem backE_in {en e' : En} (hl : e'.length = en.length) : ∀ {vs : List Nat} {j : Nat}, j ∈ vs → (backE en e' vs)[j]? = en[j]?
  | [], _, h => by cases h
  | i :: vs, j, h => by
    show ((backE en e' vs).set i _)[j]? = _
    rw [List.getElem?_set]
    split
    · rename_i q
      subst q
      rw [backE_len, hl]
      split
      · rename_i l
        rw [List.getElem?_eq_getElem l]
        rfl
      · rename_i l
        rw [List.getElem?_eq_none (by omega)]
    · rename_i q
      rcases List.mem_cons.mp h with h | h
      · exact absurd h.symm q
      · exact backE_in hl h
end VS

/-! Comprehensions. -/
namespace VS
open PySem PySem.Spec PyProof.Rows L2
variable [kf : KF]
/-- as Le, but for the list at D that is being filled -/
structure LeD (D : Addr) (S S' : Sn) : Prop where
  le : Same S.F S'.F
  per : ∀ a, S.H a ≠ none → S'.H a ≠ none
  sl : ∀ i, isL S'.en i → isL S.en i ∧ S'.ad i = S.ad i
  so : ∀ i, isO S'.en i → isO S.en i ∧ S'.ad i = S.ad i ∧ ∀ b ∈ S'.fp i, b ∈ S.fp i ∨ S.H b = none
  tmp : ∀ a ∈ S.O, S.H a ≠ none → a ≠ D → (∀ i, isL S.en i → S.ad i ≠ a) → (∀ i, isO S.en i → a ∉ S.fp i) → a ∈ S'.O ∧ Kp S S' a
omit [kf : KF] in
theorem LeD.refl (D : Addr) (S : Sn) : LeD D S S := ⟨Same.refl _, fun _ h => h, fun _ h => ⟨h, rfl⟩, fun i h => ⟨h, rfl, fun b hb => .inl hb⟩, fun a h _ _ _ _ => ⟨h, .inl rfl⟩⟩
omit [kf : KF] in
theorem LeD.noneH {D : Addr} {A B : Sn} (x : LeD D A B) {p : Addr} (h : B.H p = none) : A.H p = none := by
  cases q : A.H p with
  | none => rfl
  | some o => exact absurd h (x.per p (by rw [q]; simp))
omit [kf : KF] in
theorem LeD.nobj {D : Addr} {A B : Sn} (x : LeD D A B) {a : Addr} (ha : A.H a ≠ none) (n : ∀ i, isO A.en i → a ∉ A.fp i) : ∀ i, isO B.en i → a ∉ B.fp i := fun i h e => by
  obtain ⟨h1, _, h3⟩ := x.so i h
  rcases h3 a e with h3 | h3
  · exact n i h1 h3
  · exact ha h3
omit [kf : KF] in
theorem LeD.trans {D : Addr} {A B C : Sn} (x : LeD D A B) (y : LeD D B C) : LeD D A C := ⟨x.le.trans y.le, fun a h => y.per a (x.per a h), fun i h => ⟨(x.sl i (y.sl i h).1).1, (y.sl i h).2.trans (x.sl i (y.sl i h).1).2⟩, fun i h => by
  obtain ⟨h1, h2, h3⟩ := y.so i h
  obtain ⟨g1, g2, g3⟩ := x.so i h1
  refine ⟨g1, h2.trans g2, fun b hb => ?_⟩
  rcases h3 b hb with q | q
  · exact g3 b q
  · exact .inr (x.noneH q), fun a h hn nd n m => by
  obtain ⟨h1, e1⟩ := x.tmp a h hn nd n m
  obtain ⟨h2, e2⟩ := y.tmp a h1 (x.per a hn) nd (fun i hi e => n i (x.sl i hi).1 ((x.sl i hi).2.symm.trans e)) (x.nobj hn m)
  exact ⟨h2, e1.trans e2⟩⟩
omit [kf : KF] in
theorem Le.d {S S' : Sn} (x : Le S S') (D : Addr) : LeD D S S' := ⟨x.le, x.per, x.sl, x.so, fun a h hn _ n m => x.tmp a h hn n m⟩
/-- the list at D, hidden, no slot's, is rewritten -/
theorem Rel.poke {t : Ent} {S : Sn} {σ : L2.St} (R : Rel t S σ) {D : Addr} {xs : List V} (hD : D ∈ S.O) {ys : List V} (hL : S.H D = some (.lst ys)) (h0 : t.H0 D = none) (hn : ∀ i, isL S.en i → S.ad i ≠ D) (hm : ∀ i, isO S.en i → D ∉ S.fp i) :
    Rel t { S with H := upd S.H D (.lst xs) } σ ∧ LeD D S { S with H := upd S.H D (.lst xs) } := by
  have F : hid (upd S.H D (.lst xs)) S.O = S.F := hid_upd hD
  have per : ∀ a, S.H a ≠ none → upd S.H D (.lst xs) a ≠ none := fun a h => by
    by_cases e : a = D
    · subst e; rw [upd_same]; simp
    · rw [upd_ne e]; exact h
  refine ⟨⟨R.len, fun b o h m => ?_, R.sup, R.subM, R.new, fun a h => per a (R.trk a h), fun i d e => ?_, fun i ds e => ?_, R.ow, R.mb, R.inj, tabs_but R.tb hL (fun b o e n => (upd_ne n).trans e), R.tM, R.os.keep (fun j x e _ _ _ => e) (fun _ _ => rfl) (fun _ _ => ⟨rfl, rfl⟩) (fun j hj b hb => ⟨(R.os.rg j hj b hb).1, upd_ne fun z => hm j hj (z ▸ hb)⟩) (by rw [show ({ S with H := upd S.H D (.lst xs) } : Sn).F = S.F from F]; exact Same.refl _) (fun j k hj hk => R.os.dL j k hj hk)⟩, ⟨?_, per, fun i h => ⟨h, rfl⟩, fun i h => ⟨h, rfl, fun b hb => .inl hb⟩, fun a h _ nd n _ => ⟨h, .inl (upd_ne nd)⟩⟩⟩
  · show upd S.H D (.lst xs) b = some o
    rw [upd_ne (ne_of_none h h0)]
    exact R.keep b o h m
  · obtain ⟨v, h1, h2⟩ := R.fr i d e
    refine ⟨v, h1, ?_⟩
    show Rp (hid (upd S.H D (.lst xs)) S.O) v d
    rw [F]
    exact h2
  · obtain ⟨h1, h2, ys, h3, h4⟩ := R.li i ds e
    refine ⟨h1, h2, ys, ?_, ?_⟩
    · show upd S.H D (.lst xs) (S.ad i) = _
      rw [upd_ne (hn i ⟨ds, e⟩)]
      exact h3
    · show RpA (hid (upd S.H D (.lst xs)) S.O) ys ds
      rw [F]
      exact h4
  · show Same S.F (hid (upd S.H D (.lst xs)) S.O)
    rw [F]
    exact Same.refl _
/-- as Walks, where more is known of the heap -/
structure WalksZ (F : Hp) (Z : Hp → Prop) (J : It) (ds : List D) : Prop where
  go : ∀ i H O, Same F (hid H O) → Z H → i < ds.length → J.go i H
  yld : ∀ i H O x H' d, Same F (hid H O) → Z H → (∀ a ∈ O, H a ≠ none) → ds[i]? = some d → J.yld i H x H' → Same H H' ∧ Rp (hid H' O) x d
  stop : ∀ i H O, Same F (hid H O) → Z H → ds.length = i → J.stop i H
theorem Walks.z {F : Hp} {J : It} {ds : List D} (w : Walks F J ds) : WalksZ F (fun _ => True) J ds := ⟨fun i H O s _ => w.go i H O s, fun i H O x H' d s _ => w.yld i H O x H' d s, fun i H O s _ => w.stop i H O s⟩
/-- a loop that collects: one turn after the other -/
noncomputable def seqGo (st : D → En → List D → Ou (List D × En)) : List D → En → List D → Ou (List D × En)
  | [], en, acc => .ok (acc, en)
  | d :: r, en, acc => do
    let (acc', e') ← st d en acc
    seqGo st r e' acc'
/-- between two turns -/
structure LcI (t : Ent) (σ : L2.St) (vs : List Nat) (D : Addr) (Sd : Sn) (n : Nat) (Sc : Sn) (acc : List PyData) (av : List V) (en : En) : Prop where
  rel : Rel t Sc (L2.wipe σ vs)
  le : LeD D Sd Sc
  mem : D ∈ Sc.O
  at_ : Sc.H D = some (.lst av)
  ra : RpA Sc.F av acc
  ns : ∀ j, isL Sc.en j → Sc.ad j ≠ D
  een : Sc.en = wipeE en vs
  len : en.length = n
structure LcD (t : Ent) (σ : L2.St) (D : Addr) (Sd : Sn) (n : Nat) : Prop where
  D0 : t.H0 D = none
  ne : Sd.H D ≠ none
  no : ∀ j, isO Sd.en j → D ∉ Sd.fp j
  len : σ.length = n
theorem lc_coreG {st : D → En → List D → Ou (List D × En)} {TURN : Addr → V → L2.St → Hp → (Hp → Prop) → Prop} {B : Nat → List D → Prop} {vs : List Nat} {σ : L2.St} {Q : VK} {t : Ent} {S1 : Sn} {J : It} {items xs : List D} {e2 : En} {Z : Hp → Prop} (R1 : Rel t S1 σ) (wk : WalksZ S1.F Z J items)
    (hZ : ∀ D Sc, S1.H D = none → LeD D { S1 with H := upd S1.H D (.lst []), O := D :: S1.O, en := wipeE S1.en vs } Sc → Z Sc.H) (hB : B 0 [])
    (turn : ∀ D Sd, LcD t σ D Sd S1.en.length → ∀ i Sc acc av en x H' d acc' en' Nx, i < items.length → B i acc → LcI t σ vs D Sd S1.en.length Sc acc av en → Same Sc.H H' → Rp (hid H' Sc.O) x d → st d en acc = .ok (acc', en') →
      (∀ Sc' av', B (i + 1) acc' → LcI t σ vs D Sd S1.en.length Sc' acc' av' en' → Nx Sc'.H) → TURN D x (L2.wipe σ vs) H' Nx)
    (hgo : seqGo st items S1.en [] = .ok (xs, e2)) (k2 : ∀ v S', S'.en = backE S1.en e2 vs → EPost t S1 S' σ v (.own xs) → Q v S'.H) :
    ∀ D, S1.H D = none → ∃ W : Nat → Nat → Hp → Prop, (∃ m, W 0 m (upd S1.H D (.lst []))) ∧ ∀ i m H, W i m H →
      (J.stop i H ∧ Q (.ref D) H) ∨ (J.go i H ∧ ∃ Nx : Hp → Prop, (∀ H', Nx H' → ∃ m', m' < m ∧ W (i + 1) m' H') ∧ ∀ x H', J.yld i H x H' → TURN D x (L2.wipe σ vs) H' Nx) := by
  intro D hD
  have l1 : Le S1 S1 := Le.refl _
  obtain ⟨nD, nD0, hD0⟩ := R1.fresh hD
  -- the state at the start of the loop
  have P0 : EPost t S1 { S1 with H := upd S1.H D (.lst []), O := D :: S1.O } σ (.ref D) (.own []) := R1.newL hD .nil
  obtain ⟨Rw, lw⟩ := P0.rel.wipe vs
  have le0 : LeD D S1 { S1 with H := upd S1.H D (.lst []), O := D :: S1.O, en := wipeE S1.en vs } := (P0.le.trans lw).d D
  obtain ⟨pD, xD, eD, hDO, _, _, hDx, _, hDn⟩ := P0.val
  -- the invariant
  obtain ⟨Sd, hSd⟩ : ∃ Sd : Sn, Sd = { S1 with H := upd S1.H D (.lst []), O := D :: S1.O, en := wipeE S1.en vs } := ⟨_, rfl⟩
  rw [← hSd] at Rw le0
  have SdH : Sd.H = upd S1.H D (.lst []) := by rw [hSd]
  have SdO : Sd.O = D :: S1.O := by rw [hSd]
  have SdE : Sd.en = wipeE S1.en vs := by rw [hSd]
  have SdA : Sd.ad = S1.ad := by rw [hSd]
  have SdP : Sd.fp = S1.fp := by rw [hSd]
  have SdN : ∀ a, S1.H a ≠ none → Sd.H a ≠ none := fun a h => by
    rw [SdH]
    by_cases e : a = D
    · rw [e, upd_same]; simp
    · rw [upd_ne e]; exact h
  have SdD : Sd.H D ≠ none := by rw [SdH, upd_same]; simp
  have nDo : ∀ j, isO Sd.en j → D ∉ Sd.fp j := fun j hj e => nD (R1.os.rg j (le0.so j hj).1 D (by rw [SdP] at e; exact e)).1
  have hG : LcD t σ D Sd S1.en.length := ⟨hD0, SdD, nDo, R1.len.symm⟩
  let I : Nat → Hp → Prop := fun i H => ∃ (Sc : Sn) (acc : List PyData) (av : List V) (en : En), Sc.H = H ∧ LcI t σ vs D Sd S1.en.length Sc acc av en ∧ B i acc ∧ i ≤ items.length ∧ seqGo st (items.drop i) en acc = .ok (xs, e2)
  refine ⟨fun i m H => I i H ∧ m = items.length - i, ⟨items.length, ⟨?_, by omega⟩⟩, ?_⟩
  · refine ⟨Sd, [], [], S1.en, SdH, ⟨Rw, LeD.refl _ _, by rw [SdO]; exact List.mem_cons_self .., by rw [SdH]; exact upd_same, .nil, ?_, SdE, rfl⟩, hB, Nat.zero_le _, ?_⟩
    · intro j hj e
      obtain ⟨es, hj'⟩ := (le0.sl j hj).1
      have := (R1.li j es hj').2.1
      rw [SdA] at e
      exact nD (e ▸ this)
    · rw [List.drop_zero]; exact hgo
  rintro i m H ⟨⟨Sc, acc, av, en, eH, hI, hb, hi, hgo'⟩, em⟩
  have hI' := hI
  obtain ⟨Rc, lcd, hDc, hDv, ra, hns, een, hlen⟩ := hI'
  subst eH
  have zS : Z Sc.H := hZ D Sc hD (hSd ▸ lcd)
  have lc : LeD D S1 Sc := le0.trans lcd
  have sF : Same S1.F (hid Sc.H Sc.O) := lc.le
  by_cases hlast : i = items.length
  · -- the end
    refine .inl ⟨wk.stop i Sc.H Sc.O sF zS hlast.symm, ?_⟩
    subst hlast
    rw [List.drop_length] at hgo'
    simp only [seqGo, Ou.ok.injEq, Prod.mk.injEq] at hgo'
    obtain ⟨e3, e4⟩ := hgo'
    subst e3 e4
    have getN : ∀ j, j ∉ vs → (backE S1.en en vs)[j]? = Sc.en[j]? := fun j h => by rw [backE_get h, een, wipeE_get h]
    have getI : ∀ j, j ∈ vs → (backE S1.en en vs)[j]? = S1.en[j]? := fun j h => backE_in hlen h
    have up : ∀ j v, (L2.wipe σ vs)[j]? = some (some v) → σ[j]? = some (some v) := fun j v h => (wipe_some h).1
    have isLf : ∀ j, isL (backE S1.en en vs) j → isL S1.en j := by
      rintro j ⟨es, e⟩
      by_cases hj : j ∈ vs
      · rw [getI j hj] at e; exact ⟨es, e⟩
      · rw [getN j hj] at e; exact (lc.sl j ⟨es, e⟩).1
    have adf : ∀ j, isL Sc.en j → Sc.ad j = S1.ad j := fun j h => (lc.sl j h).2
    have liI : ∀ j es, j ∈ vs → (S1.en[j]? = some (some (Sl.own es)) ∨ S1.en[j]? = some (some (Sl.mb es))) → S1.ad j ∈ Sc.O ∧ Sc.H (S1.ad j) = S1.H (S1.ad j) := by
      intro j es hj e
      have h1 := R1.li j es e
      have nd : S1.ad j ≠ D := fun q => nD (q ▸ h1.2.1)
      have hne : S1.H (S1.ad j) ≠ none := R1.trk _ h1.2.1
      have := lcd.tmp (S1.ad j) (by rw [SdO]; exact List.mem_cons_of_mem _ h1.2.1) (SdN _ hne) nd (by
        rw [SdE, SdA]
        rintro l ⟨fs, hl'⟩ e'
        have nl : l ∉ vs := fun q => by rcases hl' with hl' | hl' <;> exact wipeE_in q hl'
        rw [wipeE_get nl] at hl'
        have : l = j := R1.inj l j ⟨fs, hl'⟩ ⟨es, e⟩ e'
        exact nl (this ▸ hj)) (fun l hl e' => by
        rw [SdP] at e'
        exact R1.os.dL l j (le0.so l hl).1 ⟨es, e⟩ e')
      refine ⟨this.1, ?_⟩
      obtain ⟨xs1, hx1, _⟩ := h1.2.2
      have hSd : Sd.H (S1.ad j) = some (.lst xs1) := by rw [SdH, upd_ne nd]; exact hx1
      rw [this.2.lst hSd, hx1]
    have isOf : ∀ j, isO (backE S1.en en vs) j → isO S1.en j := by
      rintro j ⟨C, es, e⟩
      by_cases hj : j ∈ vs
      · unfold obAt at e
        rw [getI j hj] at e; exact ⟨C, es, e⟩
      · unfold obAt at e
        rw [getN j hj] at e; exact (lc.so j ⟨C, es, e⟩).1
    have isOc : ∀ j, j ∉ vs → isO (backE S1.en en vs) j → isO Sc.en j := by
      rintro j hj ⟨C, es, e⟩
      unfold obAt at e
      rw [getN j hj] at e; exact ⟨C, es, e⟩
    have obI : ∀ j, j ∈ vs → isO S1.en j → ∀ b ∈ S1.fp j, b ∈ Sc.O ∧ Sc.H b = S1.H b := by
      intro j hj ho b hb
      have h1 := R1.os.rg j ho b hb
      have nd : b ≠ D := fun q => nD (q ▸ h1.1)
      have hne : S1.H b ≠ none := R1.trk _ h1.1
      have := lcd.tmp b (by rw [SdO]; exact List.mem_cons_of_mem _ h1.1) (SdN _ hne) nd (fun l hl e' => by
        rw [SdA] at e'
        exact R1.os.dL j l ho (le0.sl l hl).1 (e' ▸ hb)) (fun l hl e' => by
        have ho' := (le0.so l hl).1
        rw [SdP] at e'
        have q : l = j := R1.os.dO l j b ho' ho e' hb
        obtain ⟨C, es, hl⟩ := hl
        rw [SdE] at hl
        rcases hl with hl | hl <;> exact wipeE_in (q ▸ hj) hl)
      refine ⟨this.1, ?_⟩
      rcases this.2 with k | ⟨ps, k⟩
      · rw [k, SdH, upd_ne nd]
      · rw [SdH, upd_ne nd] at k
        exact absurd k (h1.2.tbl ps)
    have obN : ∀ j, j ∉ vs → isO (backE S1.en en vs) j → ∀ b ∈ Sc.fp j, b ∈ S1.fp j ∨ S1.H b = none := fun j hj ho b hb => by
      rcases (lc.so j (isOc j hj ho)).2.2 b hb with q | q
      · exact .inl q
      · exact .inr q
    have obT : ∀ b, S1.H b ≠ none → Sc.H b ≠ none := fun b h => lc.per b h
    have nslot : ∀ j, isL (backE S1.en en vs) j → S1.ad j ≠ D := fun j hj e => by
      obtain ⟨es, hj'⟩ := isLf j hj
      have := (R1.li j es hj').2.1
      exact nD (e ▸ this)
    obtain ⟨fp', hfp⟩ : ∃ fp' : Nat → List Addr, fp' = fun j => if j ∈ vs then S1.fp j else Sc.fp j := ⟨_, rfl⟩
    have fpI : ∀ j, j ∈ vs → fp' j = S1.fp j := fun j hj => by rw [hfp]; exact if_pos hj
    have fpN : ∀ j, j ∉ vs → fp' j = Sc.fp j := fun j hj => by rw [hfp]; exact if_neg hj
    have Rf : Rel t { H := Sc.H, en := backE S1.en en vs, O := Sc.O, ad := S1.ad, fp := fp' } σ := by
      refine ⟨?_, Rc.keep, Rc.sup, Rc.subM, Rc.new, Rc.trk, fun j d e => ?_, fun j es e => ?_, fun j es e => ?_, fun j es e => ?_, fun j l hj hl z => R1.inj j l (isLf j hj) (isLf l hl) z, Rc.tb, R1.tM, ⟨fun j C es e => ?_, fun j ho b hb => ?_, fun j C es e b hb => ?_, fun j C es e => ?_, fun j l ho hl e => ?_, fun j l b ho ho' hb hb' => ?_⟩⟩
      · show (backE S1.en en vs).length = σ.length
        rw [backE_len, hlen]
        exact R1.len
      · have e : (backE S1.en en vs)[j]? = _ := e
        by_cases hj : j ∈ vs
        · rw [getI j hj] at e
          obtain ⟨v, a, b⟩ := R1.fr j d e
          exact ⟨v, a, b.mono lc.le⟩
        · rw [getN j hj] at e
          obtain ⟨v, a, b⟩ := Rc.fr j d e
          exact ⟨v, up j v a, b⟩
      · have e : (backE S1.en en vs)[j]? = _ ∨ (backE S1.en en vs)[j]? = _ := e
        by_cases hj : j ∈ vs
        · rw [getI j hj] at e
          obtain ⟨a, b, ys, c1, d1⟩ := R1.li j es e
          obtain ⟨q1, q2⟩ := liI j es hj e
          exact ⟨a, q1, ys, q2.trans c1, d1.mono lc.le⟩
        · rw [getN j hj] at e
          obtain ⟨a, b, ys, c1, d1⟩ := Rc.li j es e
          have ea := adf j ⟨es, e⟩
          rw [ea] at a b c1
          exact ⟨up j _ a, b, ys, c1, d1⟩
      · have e : (backE S1.en en vs)[j]? = _ := e
        by_cases hj : j ∈ vs
        · rw [getI j hj] at e
          exact R1.ow j es e
        · rw [getN j hj] at e
          have := Rc.ow j es e
          rw [adf j ⟨es, .inl e⟩] at this
          exact this
      · have e : (backE S1.en en vs)[j]? = _ := e
        by_cases hj : j ∈ vs
        · rw [getI j hj] at e
          exact R1.mb j es e
        · rw [getN j hj] at e
          have := Rc.mb j es e
          rw [adf j ⟨es, .inr e⟩] at this
          exact this
      · have e : obAt (backE S1.en en vs) j C es := e
        by_cases hj : j ∈ vs
        · have e' : obAt S1.en j C es := by unfold obAt at e ⊢; rw [getI j hj] at e; exact e
          obtain ⟨q1, q2⟩ := R1.os.rep j C es e'
          refine ⟨q1, q2.keep lc.le (fun b hb o ho => ((obI j hj ⟨C, es, e'⟩ b hb).2).trans ho) fun b hb => ?_⟩
          show b ∈ fp' j
          rw [fpI j hj]
          exact hb
        · have e' : obAt Sc.en j C es := by unfold obAt at e ⊢; rw [getN j hj] at e; exact e
          obtain ⟨q1, q2⟩ := Rc.os.rep j C es e'
          have ea := (lc.so j ⟨C, es, e'⟩).2.1
          rw [ea] at q1 q2
          refine ⟨up j _ q1, q2.keep (Same.refl _) (fun b hb o ho => ho) fun b hb => ?_⟩
          show b ∈ fp' j
          rw [fpN j hj]
          exact hb
      · have hb : b ∈ fp' j := hb
        by_cases hj : j ∈ vs
        · rw [fpI j hj] at hb
          obtain ⟨q1, q2⟩ := obI j hj (isOf j ho) b hb
          refine ⟨q1, ?_⟩
          show okO (Sc.H b)
          rw [q2]
          exact (R1.os.rg j (isOf j ho) b hb).2
        · rw [fpN j hj] at hb
          exact Rc.os.rg j (isOc j hj ho) b hb
      · have e : (backE S1.en en vs)[j]? = _ := e
        have hb : b ∈ fp' j := hb
        by_cases hj : j ∈ vs
        · rw [getI j hj] at e
          rw [fpI j hj] at hb
          exact R1.os.own j C es e b hb
        · rw [getN j hj] at e
          rw [fpN j hj] at hb
          exact Rc.os.own j C es e b hb
      · have e : (backE S1.en en vs)[j]? = _ := e
        show _ ∧ (∀ b ∈ t.M, b ∈ fp' j) ∧ ∀ b ∈ fp' j, _
        by_cases hj : j ∈ vs
        · rw [getI j hj] at e
          rw [fpI j hj]
          exact R1.os.len j C es e
        · rw [getN j hj] at e
          rw [fpN j hj]
          have ea := (lc.so j ⟨C, es, .inr e⟩).2.1
          have := Rc.os.len j C es e
          rw [ea] at this
          exact this
      · have e : S1.ad l ∈ fp' j := e
        by_cases hj : j ∈ vs
        · rw [fpI j hj] at e
          exact R1.os.dL j l (isOf j ho) (isLf l hl) e
        · rw [fpN j hj] at e
          rcases obN j hj ho _ e with q | q
          · exact R1.os.dL j l (isOf j ho) (isLf l hl) q
          · obtain ⟨es, hl'⟩ := isLf l hl
            exact R1.trk _ (R1.li l es hl').2.1 q
      · have hb : b ∈ fp' j := hb
        have hb' : b ∈ fp' l := hb'
        by_cases hj : j ∈ vs
        · rw [fpI j hj] at hb
          by_cases hl : l ∈ vs
          · rw [fpI l hl] at hb'
            exact R1.os.dO j l b (isOf j ho) (isOf l ho') hb hb'
          · rw [fpN l hl] at hb'
            rcases obN l hl ho' _ hb' with q | q
            · exact R1.os.dO j l b (isOf j ho) (isOf l ho') hb q
            · exact absurd q (R1.trk _ (R1.os.rg j (isOf j ho) b hb).1)
        · rw [fpN j hj] at hb
          by_cases hl : l ∈ vs
          · rw [fpI l hl] at hb'
            rcases obN j hj ho _ hb with q | q
            · exact R1.os.dO j l b (isOf j ho) (isOf l ho') q hb'
            · exact absurd q (R1.trk _ (R1.os.rg l (isOf l ho') b hb').1)
          · rw [fpN l hl] at hb'
            exact Rc.os.dO j l b (isOc j hj ho) (isOc l hl ho') hb hb'
    have nobj : ∀ j, isO (backE S1.en en vs) j → D ∉ fp' j := fun j ho e => by
      by_cases hj : j ∈ vs
      · rw [fpI j hj] at e
        exact nD (R1.os.rg j (isOf j ho) D e).1
      · rw [fpN j hj] at e
        exact lcd.nobj SdD nDo j (isOc j hj ho) e
    refine k2 (.ref D) { H := Sc.H, en := backE S1.en en vs, O := Sc.O, ad := S1.ad, fp := fp' } rfl ⟨Rf, ⟨l1.le.trans lc.le, fun a h => lc.per a (l1.per a h), fun j hj => l1.sl j (isLf j hj), fun j ho => ?_, fun a h hn n m => ?_⟩, ⟨D, av, rfl, hDc, hD0, nD0, hDv, ra, nslot, nobj⟩, fun q es e1 e2 => .inl ?_, fun C es e => nomatch e⟩
    · obtain ⟨q1, q2, q3⟩ := l1.so j (isOf j ho)
      refine ⟨q1, q2, fun b hb => ?_⟩
      have hb : b ∈ fp' j := hb
      by_cases hj : j ∈ vs
      · rw [fpI j hj] at hb
        exact q3 b hb
      · rw [fpN j hj] at hb
        rcases obN j hj ho b hb with q | q
        · exact q3 b q
        · exact .inr (l1.noneH q)
    · obtain ⟨h1, h2⟩ := l1.tmp a h hn n m
      have nd : a ≠ D := fun q => nD (q ▸ h1)
      have := lcd.tmp a (by rw [SdO]; exact List.mem_cons_of_mem _ h1) (SdN _ (l1.per a hn)) nd (by
        rw [SdA]
        intro l hl e'
        have hl1 := (le0.sl l hl).1
        exact n l (l1.sl l hl1).1 ((l1.sl l hl1).2.symm.trans e')) (by
        rw [SdP]
        intro l hl e'
        exact l1.nobj hn m l (le0.so l hl).1 e')
      refine ⟨this.1, h2.trans (Kp.trans (.inl ?_) this.2)⟩
      show Sd.H a = S1.H a
      rw [SdH, upd_ne nd]
    · injection e2 with e3
      rw [← e3]
      cases q : S1.H D with
      | none => rfl
      | some o => exact absurd hD (l1.per D (by rw [q]; simp))
  · -- a turn
    have hlt : i < items.length := by omega
    refine .inr ⟨wk.go i Sc.H Sc.O sF zS hlt, fun H => I (i + 1) H, fun H' h' => ⟨items.length - (i + 1), by omega, h', rfl⟩, fun x H' hy => ?_⟩
    have hd : items[i]? = some items[i] := List.getElem?_eq_getElem hlt
    obtain ⟨sH, rx⟩ := wk.yld i Sc.H Sc.O x H' items[i] sF zS Rc.trk hd hy
    rw [List.drop_eq_getElem_cons hlt] at hgo'
    unfold seqGo at hgo'
    obtain ⟨⟨acc', e'⟩, h1, h2⟩ := bind_ok hgo'
    exact turn D Sd hG i Sc acc av en x H' items[i] acc' e' _ hlt hb hI sH rx h1 fun Sc' av' hb' hI' => ⟨Sc', acc', av', e', rfl, hI', hb', by omega, h2⟩
/-- a turn: the element is put behind -/
noncomputable def lcSt (f : En → Ou (D × En)) (c : En → Ou (Bool × En)) (t : Tg) (vs : List Nat) (d : D) (en : En) (acc : List D) : Ou (List D × En) := do
  let e1 ← bindT t d (wipeE en vs)
  let (b, e2) ← c e1
  if b = true then do
    let (x, e3) ← f e2
    .ok (acc ++ [x], e3)
  else .ok (acc, e2)
omit [kf : KF] in
theorem bind_bind {α β γ : Type} (x : Ou α) (f : α → Ou β) (g : β → Ou γ) : (x >>= f >>= g) = (x >>= fun a => f a >>= g) := by cases x <;> rfl
omit [kf : KF] in
theorem lcGo_seq {f : En → Ou (D × En)} {c : En → Ou (Bool × En)} {t : Tg} {vs : List Nat} : ∀ {items : List D} {en : En} {acc : List D}, lcGo f c t vs items en acc = seqGo (lcSt f c t vs) items en acc
  | [], _, _ => rfl
  | d :: r, en, acc => by
    unfold lcGo seqGo lcSt
    simp only [bind_bind]
    congr 1
    funext e1
    congr 1
    funext p
    obtain ⟨b, e2⟩ := p
    cases b with
    | false => exact lcGo_seq
    | true =>
      simp only [if_true, bind_bind]
      congr 1
      funext q
      exact lcGo_seq
/-- the turn of a comprehension -/
theorem lc_turn {mg : Str → Option Value} {cond : Exo} {elt : Ex} {tg : Tg} {vs : List Nat} {g : TG} {σ : L2.St} {t : Ent} {D : Addr} {Sd Sc : Sn} {n : Nat} {acc acc' : List PyData} {av : List V} {en en' : En} {x : V} {H' : Hp} {d : PyData} {Nx : Hp → Prop} (gok : GOk tg g) (hix : ∀ i ∈ tg.ix, i ∈ vs) (hG : LcD t σ D Sd n) (hz : acc.length < SZ)
    (hI : LcI t σ vs D Sd n Sc acc av en) (sH : Same Sc.H H') (rx : Rp (hid H' Sc.O) x d) (hs : lcSt (fun e => do let (r, e') ← evalE elt e; .ok (toD r, e')) (evalC cond) tg vs d en acc = .ok (acc', en'))
    (nx : ∀ Sc' av', acc'.length ≤ acc.length + 1 → LcI t σ vs D Sd n Sc' acc' av' en' → Nx Sc'.H) :
    g x (L2.wipe σ vs) H' fun σ2 H2 => L2.wipe σ2 vs = L2.wipe σ vs ∧ tCond mg cond σ2 H2 fun b H3 => if b = true then tEF mg W0 elt σ2 H3 fun y H4 => ∃ acc, H4 D = some (.lst acc) ∧ acc.length < sizeLine ∧ Nx (upd H4 D (.lst (acc ++ [y]))) else Nx H3 := by
  obtain ⟨Rc, lcd, hDc, hDv, ra, hns, een, hlen⟩ := hI
  obtain ⟨hD0, SdD, nDo, hσ⟩ := hG
  obtain ⟨Rg, lg⟩ := Rc.grow sH
  unfold lcSt at hs
  obtain ⟨e3, hb, hgo'⟩ := bind_ok hs
  obtain ⟨⟨b, e4⟩, hc, hgo'⟩ := bind_ok hgo'
  refine gok t { Sc with H := H' } (L2.wipe σ vs) x d e3 _ Rg rx (by show bindT tg d Sc.en = _; rw [een]; exact hb) fun σ' Rb lb hw => ?_
  have hw' : L2.wipe σ' vs = L2.wipe σ vs := (hw vs hix).trans (wipe_idem fun j h => h)
  refine ⟨hw', t, { Sc with H := H', en := e3 }, rfl, Rb, post_ok hc fun S3 e30 R3 l3 => ?_⟩
  have lg3 : Le Sc S3 := (lg.trans lb).trans l3
  have e3' : S3.en = e4 := e30
  clear e30
  have keepD : ∀ {S' : Sn}, Le Sc S' → D ∈ S'.O ∧ S'.H D = some (.lst av) ∧ ∀ j, isL S'.en j → S'.ad j ≠ D := fun {S'} l => by
    obtain ⟨a, b⟩ := l.tmp D hDc (by rw [hDv]; simp) hns (lcd.nobj SdD nDo)
    exact ⟨a, b.lst hDv, l.ntmp hns⟩
  have lenσ : σ'.length = σ.length := by
    have q := congrArg List.length hw'
    rw [wipe_length, wipe_length] at q
    exact q
  have lenOf : ∀ {S' : Sn}, Rel t S' σ' → S'.en.length = n := fun {S'} R' => R'.len.trans (lenσ.trans hσ)
  simp only at hgo'
  cases b with
  | false =>
    rw [if_neg (by simp)] at hgo'
    have hgo' := Ou.ok.inj hgo'
    injection hgo' with ha he
    subst ha he
    obtain ⟨Rv, lv⟩ := R3.wipe vs
    rw [hw'] at Rv
    obtain ⟨d1, d2, d3⟩ := keepD lg3
    obtain ⟨d1', d2', d3'⟩ := keepD (lg3.trans lv)
    exact nx { S3 with en := wipeE S3.en vs } av (by omega) ⟨Rv, lcd.trans ((lg3.trans lv).d D), d1', d2', ra.mono (lg3.trans lv).le, d3', by rw [e3'], by rw [← e3']; exact lenOf R3⟩
  | true =>
    rw [if_pos rfl] at hgo'
    refine iteT (A := tEF mg W0 elt σ' S3.H _) ?_
    obtain ⟨⟨x', e5⟩, hx, hgo'⟩ := bind_ok hgo'
    have hgo' := Ou.ok.inj hgo'
    injection hgo' with ha he
    subst ha he
    refine ⟨t, S3, rfl, R3, ?_⟩
    refine post_ok (a := (x', e5)) (by rw [e3']; exact hx) fun y S4 e4' P4 => ?_
    have e4' : S4.en = e5 := e4'
    have lg4 := lg3.trans P4.le
    obtain ⟨d1, d2, d3⟩ := keepD lg4
    have hav : av.length = acc.length := ra.length
    refine ⟨av, d2, by rw [hav, ← SZ_eq]; omega, ?_⟩
    obtain ⟨Rv, lv⟩ := P4.rel.wipe vs
    rw [hw'] at Rv
    have d3w : ∀ j, isL (wipeE S4.en vs) j → S4.ad j ≠ D := fun j hj => d3 j (lv.sl j hj).1
    have d4w : ∀ j, isO (wipeE S4.en vs) j → D ∉ S4.fp j := fun j hj => (lcd.trans ((lg4.trans lv).d D)).nobj SdD nDo j hj
    obtain ⟨Rp, lp⟩ := Rv.poke (xs := av ++ [y]) d1 d2 hD0 d3w d4w
    have Fe : hid (upd S4.H D (.lst (av ++ [y]))) S4.O = S4.F := hid_upd d1
    refine nx { S4 with en := wipeE S4.en vs, H := upd S4.H D (.lst (av ++ [y])) } (av ++ [y]) (by simp) ⟨Rp, (lcd.trans ((lg4.trans lv).d D)).trans lp, d1, upd_same, ?_, d3w, by show wipeE S4.en vs = _; rw [e4'], by rw [← e4']; exact lenOf P4.rel⟩
    show RpA (hid (upd S4.H D (.lst (av ++ [y]))) S4.O) _ _
    rw [Fe]
    exact (ra.mono lg4.le).append (.cons P4.val .nil)

theorem lc_coreZ {mg : Str → Option Value} {cond : Exo} {elt : Ex} {tg : Tg} {vs : List Nat} {g : TG} {σ : L2.St} {Q : VK} {t : Ent} {S1 : Sn} {J : It} {items xs : List D} {e2 : En} {Z : Hp → Prop} (gok : GOk tg g) (hix : ∀ i ∈ tg.ix, i ∈ vs) (R1 : Rel t S1 σ) (wk : WalksZ S1.F Z J items)
    (hZ : ∀ D Sc, S1.H D = none → LeD D { S1 with H := upd S1.H D (.lst []), O := D :: S1.O, en := wipeE S1.en vs } Sc → Z Sc.H) (hsz : items.length ≤ SZ)
    (hgo : lcGo (fun e => do let (r, e') ← evalE elt e; .ok (toD r, e')) (evalC cond) tg vs items S1.en [] = .ok (xs, e2)) (k2 : ∀ v S', S'.en = backE S1.en e2 vs → EPost t S1 S' σ v (.own xs) → Q v S'.H) :
    tLc (fun _ H R => R J H) g (tCond mg cond) (tEF mg W0 elt) vs σ S1.H Q := by
  rw [lcGo_seq] at hgo
  exact lc_coreG (B := fun i acc => acc.length ≤ i) (TURN := fun D x σ' H' Nx => g x σ' H' fun σ2 H2 => L2.wipe σ2 vs = σ' ∧ tCond mg cond σ2 H2 fun b H3 => if b = true then tEF mg W0 elt σ2 H3 fun y H4 => ∃ acc, H4 D = some (.lst acc) ∧ acc.length < sizeLine ∧ Nx (upd H4 D (.lst (acc ++ [y]))) else Nx H3)
    R1 wk hZ (Nat.le_refl _) (fun D Sd hG i Sc acc av en x H' d acc' en' Nx hi hb hI sH rx hs nx => lc_turn gok hix hG (by omega) hI sH rx hs fun Sc' av' hl hI' => nx Sc' av' (by omega) hI') hgo k2
theorem lc_post {mg : Str → Option Value} {W : WX} {src : Sr} {cond : Exo} {elt : Ex} {tg : Tg} {vs : List Nat} {g : TG} {σ : L2.St} {H : Hp} {Q : VK} (gok : GOk tg g) (hix : ∀ i ∈ tg.ix, i ∈ vs)
    (h : tEE mg W (.lc elt tg src cond vs) σ H Q) : tLc (tSrc mg W src) g (tCond mg cond) (tEF mg W0 elt) vs σ H Q := by
  obtain ⟨t, S, eH, R, h⟩ := h
  subst eH
  simp only [evalE, post_bind] at h
  refine ⟨t, S, rfl, R, post_imp h fun p hp k J S1 e1 R1 l1 wk => ?_⟩
  obtain ⟨items, en1⟩ := p
  have e1 : S1.en = en1 := e1
  subst e1
  have wk : Walks S1.F J items := wk
  simp only at k
  split at k
  case isFalse => exact k.elim
  rename_i hsz
  rw [post_bind] at k
  obtain ⟨⟨xs, e2⟩, hgo, k2⟩ := strict_ok k
  have k2 : ∀ v S', S'.en = backE S1.en e2 vs → EPost t S S' σ v (.own xs) → Q v S'.H := k2
  exact lc_coreZ gok hix R1 wk.z (fun _ _ _ _ => True.intro) hsz hgo fun v S' e P => k2 v S' e (P.trans l1)
section
variable {X : Cx} {W : WX} {elt tg iter : Expr} {ifs : List Expr} {scope : Scope} {own : List (Str × Nat)} {pos spos : Pos} {sr : Sr} {t : Tg} {g : TG} {io : Exo} {ie : Ex}
/-- [elt for tg in iter if ..] -/
theorem de_lc (hc : X.calm = true) (hN : X.N.Nodup) (hi : DS X W tg iter sr) (ok : BlkOk X.N X.env.scope scope own)
    (hg : ∀ (s : Shared) (H : Hp) (C : Addr) (cl : List (Str × Addr)) (fp : List Addr), PG (X.blk s H scope (compEnvC scope cl C X.env) fp) tg g) (gok : GOk t g) (hix : ∀ i ∈ t.ix, i ∈ own.map (·.2))
    (ht : ∀ (s : Shared) (H : Hp) (C : Addr) (cl : List (Str × Addr)) (fp : List Addr), DC (X.blk s H scope (compEnvC scope cl C X.env) fp) ifs io)
    (he : ∀ (s : Shared) (H : Hp) (C : Addr) (cl : List (Str × Addr)) (fp : List Addr), DF (X.blk s H scope (compEnvC scope cl C X.env) fp) W0 elt ie) (hs : ∀ x, foldedSetIterable iter X.env x = pure x := by intro _; rfl) :
    DE X W (.ListComp elt [⟨tg, iter, ifs, 0⟩] scope pos) (.lc ie t sr io (own.map (·.2))) := (pe_lc hc hN hi ok hg ht he hs).imp fun σ H Q h => lc_post gok hix h
end
end VS

/-! Statements. -/
namespace VS
open PySem PySem.Spec PyProof.Rows L2
variable [kf : KF]
noncomputable abbrev wE (E : XK) : WX := fun cls d _ H => E cls d H
/-- a name gets a list of one's own -/
noncomputable def Sn.putO (S : Sn) (i : Nat) (ds : List D) (p : Addr) : Sn := { S with en := S.en.set i (some (.own ds)), ad := fun j => if j = i then p else S.ad j }
theorem Rel.setOwn {t : Ent} {S : Sn} {σ : L2.St} (R : Rel t S σ) {v : V} {ds : List D} (h : VR t S v (.own ds)) {i : Nat} (hi : i < S.en.length) : ∃ p, v = .ref p ∧ Rel t (S.putO i ds p) (σ.set i (some v)) := by
  obtain ⟨p, xs, rfl, hp, h0, hO, hx, hr, hn, hm⟩ := h
  refine ⟨p, rfl, ?_⟩
  have get : ∀ j x, (S.en.set i (some (Sl.own ds)))[j]? = some (some x) → (i = j ∧ x = .own ds) ∨ (i ≠ j ∧ S.en[j]? = some (some x)) := by
    intro j x e
    rw [en_set hi] at e
    split at e
    · rename_i q
      exact .inl ⟨q, by simpa using e.symm⟩
    · rename_i q
      exact .inr ⟨q, e⟩
  have getV : ∀ j, i ≠ j → (σ.set i (some (V.ref p)))[j]? = σ[j]? := fun j q => by rw [List.getElem?_set]; simp [q]
  have adE : ∀ j, i ≠ j → (S.putO i ds p).ad j = S.ad j := fun j q => if_neg fun e => q e.symm
  have adI : (S.putO i ds p).ad i = p := if_pos rfl
  have oldL : ∀ j, isL (S.putO i ds p).en j → i ≠ j → isL S.en j := by
    rintro j ⟨es, e | e⟩ q
    · rcases get _ _ e with ⟨q', _⟩ | ⟨_, e⟩
      · exact absurd q' q
      · exact ⟨es, .inl e⟩
    · rcases get _ _ e with ⟨q', _⟩ | ⟨_, e⟩
      · exact absurd q' q
      · exact ⟨es, .inr e⟩
  have oldX : ∀ j x, (S.putO i ds p).en[j]? = some (some x) → (∀ ds, x ≠ .own ds) → i ≠ j ∧ S.en[j]? = some (some x) := fun j x e a => by
    rcases get _ _ e with ⟨_, q⟩ | q
    · exact absurd q (a ds)
    · exact q
  have oldO : ∀ j, isO (S.putO i ds p).en j → i ≠ j ∧ isO S.en j := by
    rintro j ⟨C, es, e | e⟩
    · obtain ⟨q, e⟩ := oldX _ _ e (fun _ z => nomatch z)
      exact ⟨q, C, es, .inl e⟩
    · obtain ⟨q, e⟩ := oldX _ _ e (fun _ z => nomatch z)
      exact ⟨q, C, es, .inr e⟩
  refine ⟨?_, R.keep, R.sup, R.subM, R.new, R.trk, fun j d e => ?_, fun j es e => ?_, fun j es e => ?_, fun j es e => ?_, fun j l hj hl z => ?_, R.tb, R.tM, R.os.keep (fun j x e _ b _ => (oldX j x e b).2) (fun j hj => getV j (oldO j hj).1) (fun j hj => ⟨adE j (oldO j hj).1, rfl⟩) (fun j hj b hb => ⟨(R.os.rg j (oldO j hj).2 b hb).1, rfl⟩) (Same.refl _) (fun j l hj hl => ?_)⟩
  · show (S.en.set i _).length = (σ.set i _).length
    rw [List.length_set, List.length_set]; exact R.len
  · rcases get _ _ e with ⟨_, q⟩ | ⟨q, e⟩
    · cases q
    · obtain ⟨u, a, b⟩ := R.fr j d e
      exact ⟨u, by rw [getV j q]; exact a, b⟩
  · have q : (i = j ∧ es = ds) ∨ (i ≠ j ∧ (S.en[j]? = some (some (Sl.own es)) ∨ S.en[j]? = some (some (Sl.mb es)))) := by
      rcases e with e | e
      · rcases get _ _ e with ⟨q, q'⟩ | ⟨q, e⟩
        · injection q' with q'
          exact .inl ⟨q, q'⟩
        · exact .inr ⟨q, .inl e⟩
      · rcases get _ _ e with ⟨_, q⟩ | ⟨q, e⟩
        · cases q
        · exact .inr ⟨q, .inr e⟩
    rcases q with ⟨q, q'⟩ | ⟨q, e⟩
    · subst q q'
      rw [adI]
      rw [R.len] at hi
      exact ⟨by rw [List.getElem?_set]; simp [hi], hp, xs, hx, hr⟩
    · obtain ⟨a, b, ys, c1, d1⟩ := R.li j es e
      rw [adE j q]
      exact ⟨by rw [getV j q]; exact a, b, ys, c1, d1⟩
  · rcases get _ _ e with ⟨q, q'⟩ | ⟨q, e⟩
    · subst q
      rw [adI]
      exact ⟨h0, hO⟩
    · rw [adE j q]
      exact R.ow j es e
  · rcases get _ _ e with ⟨_, q⟩ | ⟨q, e⟩
    · cases q
    · rw [adE j q]
      exact R.mb j es e
  · by_cases q : i = j
    · by_cases q' : i = l
      · exact q.symm.trans q'
      · subst q
        rw [adI, adE l q'] at z
        exact absurd z.symm (hn l (oldL l hl q'))
    · by_cases q' : i = l
      · subst q'
        rw [adI, adE j q] at z
        exact absurd z (hn j (oldL j hj q))
      · rw [adE j q, adE l q'] at z
        exact R.inj j l (oldL j hj q) (oldL l hl q') z
  · by_cases q : i = l
    · subst q
      rw [adI]
      exact hm j (oldO j hj).2
    · rw [adE l q]
      exact R.os.dL j l (oldO j hj).2 (oldL l hl q)
/-- a name gets an object of one's own -/
noncomputable def Sn.putB (S : Sn) (i : Nat) (C : Str) (ds : List D) (p : Addr) (rg : List Addr) : Sn := { S with en := S.en.set i (some (.ob C ds)), ad := fun j => if j = i then p else S.ad j, fp := fun j => if j = i then rg else S.fp j }
theorem Rel.setOb {t : Ent} {S : Sn} {σ : L2.St} (R : Rel t S σ) {p : Addr} {rg : List Addr} {C : Str} {ds : List D} (h : ObV t S p rg C ds) {i : Nat} (hi : i < S.en.length) : Rel t (S.putB i C ds p rg) (σ.set i (some (.ref p))) := by
  have get : ∀ j x, (S.en.set i (some (Sl.ob C ds)))[j]? = some (some x) → (i = j ∧ x = .ob C ds) ∨ (i ≠ j ∧ S.en[j]? = some (some x)) := by
    intro j x e
    rw [en_set hi] at e
    split at e
    · rename_i q
      exact .inl ⟨q, by simpa using e.symm⟩
    · rename_i q
      exact .inr ⟨q, e⟩
  have getV : ∀ j, i ≠ j → (σ.set i (some (V.ref p)))[j]? = σ[j]? := fun j q => by rw [List.getElem?_set]; simp [q]
  have getI : (σ.set i (some (V.ref p)))[i]? = some (some (V.ref p)) := by
    rw [R.len] at hi
    rw [List.getElem?_set]; simp [hi]
  have adE : ∀ j, i ≠ j → (S.putB i C ds p rg).ad j = S.ad j := fun j q => if_neg fun e => q e.symm
  have adI : (S.putB i C ds p rg).ad i = p := if_pos rfl
  have fpE : ∀ j, i ≠ j → (S.putB i C ds p rg).fp j = S.fp j := fun j q => if_neg fun e => q e.symm
  have fpI : (S.putB i C ds p rg).fp i = rg := if_pos rfl
  have old : ∀ j x, (S.putB i C ds p rg).en[j]? = some (some x) → (∀ C' ds', x ≠ .ob C' ds') → i ≠ j ∧ S.en[j]? = some (some x) := fun j x e n => by
    rcases get _ _ e with ⟨_, q⟩ | q
    · exact absurd q (n _ _)
    · exact q
  have oldL : ∀ j, isL (S.putB i C ds p rg).en j → i ≠ j ∧ isL S.en j := by
    rintro j ⟨es, e | e⟩
    · exact ⟨(old _ _ e (by simp)).1, es, .inl (old _ _ e (by simp)).2⟩
    · exact ⟨(old _ _ e (by simp)).1, es, .inr (old _ _ e (by simp)).2⟩
  have oldO : ∀ j, isO (S.putB i C ds p rg).en j → i ≠ j → isO S.en j := by
    rintro j ⟨C', es, e | e⟩ q
    · rcases get _ _ e with ⟨q', _⟩ | ⟨_, e⟩
      · exact absurd q' q
      · exact ⟨C', es, .inl e⟩
    · exact ⟨C', es, .inr (old _ _ e (by simp)).2⟩
  refine ⟨?_, R.keep, R.sup, R.subM, R.new, R.trk, fun j d e => ?_, fun j es e => ?_, fun j es e => ?_, fun j es e => ?_, fun j l hj hl z => ?_, R.tb, R.tM, ⟨fun j C' es e => ?_, fun j ho b hb => ?_, fun j C' es e b hb => ?_, fun j C' es e => ?_, fun j l ho hl e => ?_, fun j l b ho ho' hb hb' => ?_⟩⟩
  · show (S.en.set i _).length = (σ.set i _).length
    rw [List.length_set, List.length_set]; exact R.len
  · obtain ⟨q, e⟩ := old _ _ e (by simp)
    obtain ⟨u, a, b⟩ := R.fr j d e
    exact ⟨u, by rw [getV j q]; exact a, b⟩
  · have q : i ≠ j ∧ (S.en[j]? = some (some (Sl.own es)) ∨ S.en[j]? = some (some (Sl.mb es))) := by
      rcases e with e | e
      · exact ⟨(old _ _ e (by simp)).1, .inl (old _ _ e (by simp)).2⟩
      · exact ⟨(old _ _ e (by simp)).1, .inr (old _ _ e (by simp)).2⟩
    obtain ⟨a, b, ys, c1, d1⟩ := R.li j es q.2
    rw [adE j q.1]
    exact ⟨by rw [getV j q.1]; exact a, b, ys, c1, d1⟩
  · obtain ⟨q, e⟩ := old _ _ e (by simp)
    rw [adE j q]
    exact R.ow j es e
  · obtain ⟨q, e⟩ := old _ _ e (by simp)
    rw [adE j q]
    exact R.mb j es e
  · obtain ⟨q, a⟩ := oldL j hj
    obtain ⟨q', b⟩ := oldL l hl
    rw [adE j q, adE l q'] at z
    exact R.inj j l a b z
  · by_cases q : i = j
    · subst q
      have e2 : some (some (Sl.ob C ds)) = some (some (Sl.ob C' es)) := by
        rcases e with e | e
        · rcases get _ _ e with ⟨_, q⟩ | ⟨q, _⟩
          · rw [q]
          · exact absurd rfl q
        · rcases get _ _ e with ⟨_, q⟩ | ⟨q, _⟩
          · cases q
          · exact absurd rfl q
      cases e2
      rw [adI, fpI]
      exact ⟨getI, h.re⟩
    · rw [adE j q, fpE j q, getV j q]
      rcases e with e | e
      · rcases get _ _ e with ⟨q', _⟩ | ⟨_, e⟩
        · exact absurd q' q
        · exact R.os.rep j C' es (.inl e)
      · exact R.os.rep j C' es (.inr (old _ _ e (by simp)).2)
  · by_cases q : i = j
    · subst q
      rw [fpI] at hb
      exact ⟨(h.mem b hb).1, (h.mem b hb).2.2.1⟩
    · rw [fpE j q] at hb
      exact R.os.rg j (oldO j ho q) b hb
  · rcases get _ _ e with ⟨q, q'⟩ | ⟨q, e⟩
    · subst q
      rw [fpI] at hb
      exact (h.mem b hb).2.2.2
    · rw [fpE j q] at hb
      exact R.os.own j C' es e b hb
  · obtain ⟨q, e⟩ := old _ _ e (by simp)
    rw [adE j q, fpE j q]
    exact R.os.len j C' es e
  · obtain ⟨q', b⟩ := oldL l hl
    rw [adE l q'] at e
    by_cases q : i = j
    · subst q
      rw [fpI] at e
      exact h.nL _ e l b rfl
    · rw [fpE j q] at e
      exact R.os.dL j l (oldO j ho q) b e
  · by_cases q : i = j
    · by_cases q' : i = l
      · exact q.symm.trans q'
      · subst q
        rw [fpI] at hb
        rw [fpE l q'] at hb'
        exact absurd hb' (h.nO b hb l (oldO l ho' q'))
    · by_cases q' : i = l
      · subst q'
        rw [fpI] at hb'
        rw [fpE j q] at hb
        exact absurd hb (h.nO b hb' j (oldO j ho q))
      · rw [fpE j q] at hb
        rw [fpE l q'] at hb'
        exact R.os.dO j l b (oldO j ho q) (oldO l ho' q') hb hb'
omit [kf : KF] in
theorem putE_ok {en en' : En} {i : Nat} {r : Sl} (h : putE en i r = .ok en') : en' = en.set i (some r) ∧ i < en.length ∧ (∀ ds, r ≠ .mb ds) ∧ ∀ C ds, r ≠ .mo C ds := by
  unfold putE at h
  cases q : en[i]? with
  | none => rw [q] at h; cases h
  | some x =>
    rw [q] at h
    have lt := lt_of_some q
    cases x with
    | none => cases r <;> first | exact ⟨(Ou.ok.inj h).symm, lt, (fun ds e => by cases e), fun C ds e => by cases e⟩ | cases h
    | some s => cases s <;> cases r <;> first | exact ⟨(Ou.ok.inj h).symm, lt, (fun ds e => by cases e), fun C ds e => by cases e⟩ | cases h
theorem Rel.put {t : Ent} {S : Sn} {σ : L2.St} (R : Rel t S σ) {v : V} {r : Sl} (h : VR t S v r) {i : Nat} {en' : En} (e : putE S.en i r = .ok en') : ∃ S', S'.H = S.H ∧ S'.en = en' ∧ Rel t S' (σ.set i (some v)) ∧ S'.F = S.F := by
  obtain ⟨e1, hi, nm, nm2⟩ := putE_ok e
  subst e1
  cases r with
  | mo C ds => exact absurd rfl (nm2 C ds)
  | ob C ds =>
    obtain ⟨p, rg, rfl, h⟩ := h
    exact ⟨S.putB i C ds p rg, rfl, rfl, R.setOb h hi, rfl⟩
  | fr d => exact ⟨{ S with en := S.en.set i (some (.fr d)) }, rfl, rfl, (R.setFr h i).1, rfl⟩
  | own ds =>
    obtain ⟨p, e1, R'⟩ := R.setOwn h hi
    exact ⟨S.putO i ds p, rfl, rfl, R', rfl⟩
  | mb ds => exact absurd rfl (nm ds)
/-- a list slot is changed -/
theorem Rel.updL {t : Ent} {S : Sn} {σ : L2.St} (R : Rel t S σ) {i : Nat} {en' : En} {f : List D → Ou (List D)} (h : updE S.en i f = .ok en') :
    ∃ ds ds' xs, f ds = .ok ds' ∧ σ[i]? = some (some (V.ref (S.ad i))) ∧ S.H (S.ad i) = some (.lst xs) ∧ RpA S.F xs ds ∧
      ∀ xs', RpA S.F xs' ds' → ∃ S', S'.H = upd S.H (S.ad i) (.lst xs') ∧ S'.en = en' ∧ Rel t S' σ ∧ Le S S' := by
  have core : ∀ {c : List D → Sl} {ds ds' : List D}, c = Sl.own ∨ c = Sl.mb → S.en[i]? = some (some (c ds)) → f ds = .ok ds' → en' = S.en.set i (some (c ds')) → ∃ ds ds' xs, f ds = .ok ds' ∧ σ[i]? = some (some (V.ref (S.ad i))) ∧ S.H (S.ad i) = some (.lst xs) ∧ RpA S.F xs ds ∧
      ∀ xs', RpA S.F xs' ds' → ∃ S', S'.H = upd S.H (S.ad i) (.lst xs') ∧ S'.en = en' ∧ Rel t S' σ ∧ Le S S' := by
    intro c ds ds' hc hi hf he
    have hi' : S.en[i]? = some (some (Sl.own ds)) ∨ S.en[i]? = some (some (Sl.mb ds)) := by rcases hc with hc | hc <;> subst hc <;> simp [hi]
    obtain ⟨h1, h2, xs, h3, h4⟩ := R.li i ds hi'
    refine ⟨ds, ds', xs, hf, h1, h3, h4, fun xs' hr => ?_⟩
    obtain ⟨R', l⟩ := R.lend (ms' := ds') (xs' := xs') hc hi (H' := upd S.H (S.ad i) (.lst xs')) (fun b o e n => by rw [upd_ne n]; exact e) upd_same (by rw [hid_upd h2]; exact hr)
    exact ⟨_, rfl, he.symm, R', l⟩
  unfold updE at h
  split at h
  · rename_i ds hi
    obtain ⟨ds', h1, h2⟩ := bind_ok h
    exact core (.inl rfl) hi h1 (Ou.ok.inj h2).symm
  · rename_i ds hi
    obtain ⟨ds', h1, h2⟩ := bind_ok h
    exact core (.inr rfl) hi h1 (Ou.ok.inj h2).symm
  · cases h
/-! ### statements' readings -/
noncomputable def SF (t : Ent) (S : Sn) (Dn : Ends) : Fl → Prop
  | .nx en' => ∀ σ' S', S'.en = en' → Rel t S' σ' → Same S.F S'.F → Dn.nx σ' S'.H
  | .bk en' => ∀ σ' S', S'.en = en' → Rel t S' σ' → Same S.F S'.F → Dn.bk σ' S'.H
  | .ct en' => ∀ σ' S', S'.en = en' → Rel t S' σ' → Same S.F S'.F → Dn.ct σ' S'.H
  | .rt r en' => ∀ v σ' S', S'.en = en' → Rel t S' σ' → VR t S' v r → Dn.rt v S'.H
theorem SF.mono {t : Ent} {S S1 : Sn} {Dn : Ends} (s : Same S.F S1.F) : ∀ {f : Fl}, SF t S Dn f → SF t S1 Dn f
  | .nx _, h => fun σ' S' e R s' => h σ' S' e R (s.trans s')
  | .bk _, h => fun σ' S' e R s' => h σ' S' e R (s.trans s')
  | .ct _, h => fun σ' S' e R s' => h σ' S' e R (s.trans s')
  | .rt _ _, h => h
noncomputable def RX (mg : Str → Option Value) (E : XK) (t : Ent) (e : Exn) : Prop := ∀ cls d H', (∀ b o, t.H0 b = some o → b ∉ t.M → H' b = some o) → ExR mg e cls d H' → obsR t e.ms H' → E cls d H'
noncomputable def tST (mg : Str → Option Value) (E : XK) (ev : En → Ou Fl) : TS := fun Dn σ H => ∃ t S, S.H = H ∧ Rel t S σ ∧ (ev S.en).post (SF t S Dn) (RX mg E t)
noncomputable abbrev DSt (X : Cx) (E : XK) (n : Nat) (st : Stmt) (sx : Sx) : Prop := PS X st (tST X.mg E (exec n sx))
noncomputable abbrev DSs (X : Cx) (E : XK) (n : Nat) (st : List Stmt) (sx : Sxs) : Prop := PSs X st (tST X.mg E (execs n sx))
omit [kf : KF] in
theorem _root_.L2.PS.imp {X : Cx} {e : Stmt} {t t' : TS} (h : PS X e t) (i : ∀ D σ H, t' D σ H → t D σ H) : PS X e t' := ⟨fun pins s σ H D I q => h.run pins s σ H D I (i D σ H q)⟩
omit [kf : KF] in
theorem _root_.L2.PSs.imp {X : Cx} {e : List Stmt} {t t' : TS} (h : PSs X e t) (i : ∀ D σ H, t' D σ H → t D σ H) : PSs X e t' := ⟨fun pins s σ H D I q => h.run pins s σ H D I (i D σ H q)⟩
section
variable {X : Cx} {E : XK} {n : Nat} {st : Stmt} {rest : List Stmt} {sx : Sx} {sr : Sxs} {e ea eb ec tg iter : Expr} {es : List Expr} {ir ia ib ic : Ex} {is : Exs} {pos pos' : Pos} {x : Str} {i : Nat}
theorem dss_nil : DSs X E n [] .nil := pss_nil.imp fun D σ H ⟨t, S, eH, R, h⟩ => by
  subst eH
  exact h σ S rfl R (Same.refl _)
theorem dss_cons (h1 : DSt X E n st sx) (h2 : DSs X E n rest sr) : DSs X E n (st :: rest) (.cons sx sr) := (pss_cons h1 h2).imp fun D σ H ⟨t, S, eH, R, h⟩ => by
  subst eH
  simp only [execs, post_bind] at h
  refine ⟨t, S, rfl, R, post_imp h fun f hf k => ?_⟩
  cases f with
  | nx en => exact fun σ' S' e R' s' => ⟨t, S', rfl, R', by rw [e]; exact post_imp k fun f _ q => q.mono s'⟩
  | bk en => exact k
  | ct en => exact k
  | rt r en => exact k
theorem dst_asg {te : TE} (hset : PS X st (tAsg te (gName i))) (hte : ∀ σ H Q, tEE X.mg (wE E) ir σ H Q → te σ H Q) : DSt X E n st (.asg i ir) := hset.imp fun D σ H ⟨t, S, eH, R, h⟩ => by
  subst eH
  simp only [exec, post_bind] at h
  refine hte σ _ _ ⟨t, S, rfl, R, post_imp h fun p hp k v S1 e1 P1 => ?_⟩
  have e1 : S1.en = p.2 := e1
  cases q : putE p.2 i p.1 with
  | no => rw [q] at k; exact k.elim
  | ex e => unfold putE at q; split at q <;> cases q
  | ok en' =>
    rw [q] at k
    obtain ⟨S2, a, b, R2, eF⟩ := P1.rel.put P1.val (i := i) (en' := en') (by rw [e1]; exact q)
    show D.nx (σ.set i (some v)) S1.H
    rw [← a]
    exact k _ S2 b R2 (by rw [eF]; exact P1.le.le)
/-- x = e -/
theorem dst_set (hN : X.N.Nodup) (he : DE X (wE E) e ir) (hi : X.N[i]? = some x := by rfl) (hx : Loc X.env.scope x := by first | exact Or.inl rfl | exact Or.inr rfl) (hs : swapsWith e (some (.Name x pos')) pos.line X.env = pure false := by rfl)
    (hf : X.fn x = true ∨ X.env.scope.names.lookup x = some .local := by first | exact .inl rfl | exact .inr rfl) : DSt X E n (.Assign [.Name x pos'] e pos) (.asg i ir) :=
  dst_asg (ps_set hN hi hx he hs hf) fun _ _ _ h => h
theorem dst_expr (he : DE X (wE E) e ir) (hs : swapsWith e none pos.line X.env = pure false := by rfl) : DSt X E n (.Expr e pos) (.expr ir) := (ps_expr he hs).imp fun D σ H ⟨t, S, eH, R, h⟩ => by
  subst eH
  simp only [exec, post_bind] at h
  exact ⟨t, S, rfl, R, post_imp h fun p hp k v S1 e1 P1 => k σ S1 e1 P1.rel P1.le.le⟩
theorem dst_ret (he : DE X (wE E) e ir) : DSt X E n (.Return (some e) pos) (.ret ir) := (ps_ret he).imp fun D σ H ⟨t, S, eH, R, h⟩ => by
  subst eH
  simp only [exec, post_bind] at h
  exact ⟨t, S, rfl, R, post_imp h fun p hp k v S1 e1 P1 => k v σ S1 e1 P1.rel P1.val⟩
theorem dst_if {a b : List Stmt} {sa sb : Sxs} (hc : DT X (wE E) ec ic) (ha : DSs X E n a sa) (hb : DSs X E n b sb) : DSt X E n (.If ec a b pos) (.iff ic sa sb) := (ps_if hc ha hb).imp fun D σ H ⟨t, S, eH, R, h⟩ => by
  subst eH
  simp only [exec, post_bind] at h
  refine ⟨t, S, rfl, R, post_imp h fun p hp k => ?_⟩
  obtain ⟨d, en⟩ := p
  cases d <;> (try exact k.elim)
  rename_i b'
  refine ⟨b', rfl, fun S1 e1 R1 l1 => ?_⟩
  have e1 : S1.en = en := e1
  cases b' with
  | true => exact iteT (A := tST X.mg E (execs n sa) D σ S1.H) ⟨t, S1, rfl, R1, by rw [e1]; exact post_imp k fun f _ q => q.mono l1.le⟩
  | false => exact iteF (B := tST X.mg E (execs n sb) D σ S1.H) ⟨t, S1, rfl, R1, by rw [e1]; exact post_imp k fun f _ q => q.mono l1.le⟩
end
end VS

/-! Comprehensions over a list of one's own that is changed afterwards. -/
namespace VS
open PySem PySem.Spec PyProof.Rows L2
variable [kf : KF]
section
variable {X : Cx} {W : WX} {elt tg : Expr} {ifs : List Expr} {scope : Scope} {own : List (Str × Nat)} {pos spos np : Pos} {t : Tg} {g : TG} {io : Exo} {ie : Ex} {i : Nat} {x : Str}
end
end VS

/-! Statements that change lists; loops. -/
namespace VS
open PySem PySem.Spec PyProof.Rows L2
variable [kf : KF]
omit [kf : KF] in
theorem rdE_ex {en : En} {i : Nat} {e : Exn} : rdE en i ≠ .ex e := by
  intro h; unfold rdE at h; split at h <;> cases h
omit [kf : KF] in
theorem post_rd {α : Type} {en : En} {i : Nat} {f : D → Ou α} {P : α → Prop} {E : Exn → Prop} (h : (rdE en i).post (fun d => (f d).post P E) E) : ∃ d, rdE en i = .ok d ∧ (f d).post P E := by
  cases q : rdE en i with
  | ok d => rw [q] at h; exact ⟨d, rfl, h⟩
  | ex e => exact absurd q rdE_ex
  | no => rw [q] at h; exact h.elim
omit [kf : KF] in
theorem post_int {α : Type} {d : D} {f : Int → Ou α} {P : α → Prop} {E : Exn → Prop} (h : (intOf d).post (fun d => (f d).post P E) E) : ∃ k, d = .int k ∧ (f k).post P E := by
  cases d <;> first | exact h.elim | exact ⟨_, rfl, h⟩
omit [kf : KF] in
theorem updE_ex {en : En} {i : Nat} {f : List D → Ou (List D)} (hf : ∀ ds e, f ds ≠ .ex e) {e : Exn} : updE en i f ≠ .ex e := by
  intro h
  unfold updE at h
  split at h
  · rename_i ds _
    cases q : f ds with
    | ok a => rw [q] at h; cases h
    | ex e => exact hf _ _ q
    | no => rw [q] at h; cases h
  · rename_i ds _
    cases q : f ds with
    | ok a => rw [q] at h; cases h
    | ex e => exact hf _ _ q
    | no => rw [q] at h; cases h
  · cases h
omit [kf : KF] in
theorem post_upd {α : Type} {en : En} {i : Nat} {g : List D → Ou (List D)} (hg : ∀ ds e, g ds ≠ .ex e) {f : En → Ou α} {P : α → Prop} {E : Exn → Prop} (h : (updE en i g).post (fun d => (f d).post P E) E) : ∃ d, updE en i g = .ok d ∧ (f d).post P E := by
  cases q : updE en i g with
  | ok d => rw [q] at h; exact ⟨d, rfl, h⟩
  | ex e => exact absurd q (updE_ex hg)
  | no => rw [q] at h; exact h.elim
omit [kf : KF] in
theorem setL_ex {k : Int} {d : D} : ∀ ds e, setL k d ds ≠ .ex e := by
  intro ds e h; unfold setL at h; split at h <;> cases h
section
variable {X : Cx} {E : XK} {n : Nat} {st : Stmt} {rest : List Stmt} {sx : Sx} {sr : Sxs} {e ea eb ec eo tg iter : Expr} {es : List Expr} {ir ia ib ic ix : Ex} {is : Exs} {pos pos' p1 p2 : Pos} {x : Str} {i : Nat}
/-- o[k] = v at a list slot, by values -/
theorem setL_ok {t : Ent} {S : Sn} {σ : L2.St} (R : Rel t S σ) {i : Nat} {k : Int} {v : V} {d : D} {en' : En} {Q : Hp → Prop} (hv : Rp S.F v d) (h : updE S.en i (setL k d) = .ok en') (q : ∀ S', S'.en = en' → Rel t S' σ → Le S S' → Q S'.H) :
    σ[i]? = some (some (V.ref (S.ad i))) ∧ rSetL (.ref (S.ad i)) (.int k) v S.H Q := by
  obtain ⟨ds, ds', xs, hf, h1, h2, h3, h4⟩ := R.updL h
  refine ⟨h1, ?_⟩
  unfold setL at hf
  split at hf
  · rename_i j hj
    have e := Ou.ok.inj hf
    subst e
    obtain ⟨S', a, b, R', l⟩ := h4 (xs.set j v) (h3.set hv j)
    refine ⟨S.ad i, xs, k, j, rfl, rfl, h2, by rw [h3.length]; exact hj, ?_⟩
    rw [← a]
    exact q S' b R' l
  · cases hf
/-- xs[ix] = e -/
theorem dst_setI (he : DF X (wE E) e ir) (hv : PE X eo (tVar i)) (hx : DB X (wE E) eb ix)
    (ha : ∀ v, assign (.Subscript eo eb p1) X.env v = (do
      let ov ← holding [v] (eval eo X.env)
      let iv ← holding [v, ov] (eval eb X.env)
      standAt p1
      holding [v, ov, iv] (setItem ov iv v)
      release [v, ov, iv] []) := by intro _; rfl) (hs : swapsWithSole [.Subscript eo eb p1] e pos.line X.env = pure false := by rfl) (hw : swappedStores [.Subscript eo eb p1] e X.env = pure none := by rfl)
    (h1 : (assignEach [.Subscript eo eb p1] X.env).map (·.2) = [assign (.Subscript eo eb p1) X.env] := by rfl) : DSt X E n (.Assign [.Subscript eo eb p1] e pos) (.setI i ix ir) :=
  (ps_asg he (pg_sub hv hx set_list ha) hs hw h1).imp fun D σ H ⟨t, S, eH, R, h⟩ => by
    subst eH
    simp only [exec, post_bind] at h
    refine ⟨t, S, rfl, R, ?_⟩
    unfold evF
    rw [post_bind]
    refine post_imp h fun p hp k v S1 e1 P1 => ?_
    have e1 : S1.en = p.2 := e1
    obtain ⟨d0, q0, k⟩ := post_rd k
    obtain ⟨v0, hv0, _⟩ := P1.rel.borrow (i := i) (d := d0) (by rw [e1]; exact q0)
    refine ⟨v0, hv0, t, S1, rfl, P1.rel, ?_⟩
    rw [e1]
    refine post_imp k fun q hq k u S2 e2 P2 => ?_
    have e2 : S2.en = q.2 := e2
    obtain ⟨z, hz, k⟩ := post_int k
    obtain ⟨en', hu, k⟩ := post_upd setL_ex k
    have hv' := P2.val
    rw [hz] at hv'
    have := setL_ok P2.rel (i := i) (k := z) (v := v) (d := toD p.1) (en' := en') (Q := fun H => D.nx σ H) (P1.val.mono P2.le.le) (by rw [e2]; exact hu) fun S' a R' l => k σ S' a R' ((P1.le.trans P2.le).trans l).le
    rw [hv0] at this
    have ev : v0 = V.ref (S2.ad i) := by simpa using this.1
    rw [hv'.int, ev]
    exact this.2
/-! ### targets of a tuple -/
noncomputable def GsOk (mg : Str → Option Value) (W : WX) (ts : List TgE) (gs : TGs) : Prop := ∀ t S σ vs ds en' Q, Rel t S σ → RpA S.F vs ds → stores ts ds S.en = .ok en' → (∀ σ' S', S'.en = en' → Rel t S' σ' → Same S.F S'.F → Q σ' S'.H) → gs vs σ S.H Q
theorem gs_nil {mg : Str → Option Value} {W : WX} : GsOk mg W [] gNil := by
  intro t S σ vs ds en' Q R r h k
  cases r with
  | nil => exact ⟨rfl, k σ S (Ou.ok.inj h) R (Same.refl _)⟩
  | cons a b => cases h
theorem gs_nm {mg : Str → Option Value} {W : WX} {ts : List TgE} {gs : TGs} {i : Nat} (h2 : GsOk mg W ts gs) : GsOk mg W (.nm i :: ts) (gCons (gName i) gs) := by
  intro t S σ vs ds en' Q R r h k
  cases r with
  | nil => cases h
  | cons a b =>
    simp only [stores] at h
    obtain ⟨e1, hp, h⟩ := bind_ok h
    refine ⟨_, _, rfl, ?_⟩
    obtain ⟨q1, _, _⟩ := putE_ok hp
    subst q1
    obtain ⟨R1, l1⟩ := R.setFr a i
    have q := h2 t _ _ _ _ en' Q R1 (b.mono l1.le) h (fun σ' S' e R' s => k σ' S' e R' (l1.le.trans s))
    exact q
/-- a, b[i], .. = e -/
theorem dst_unp {elts : List Expr} {kk m : Nat} {ts : List TgE} {gs : TGs} (hc : X.calm = true) (he : DB X (wE E) e ir) (hgs : PGs X elts gs) (ok : GsOk X.mg (wE E) ts gs) (hl : ts.length = m := by rfl)
    (hn : (assignEach elts X.env).length = m := by rfl) (hst : (assignEach elts X.env).findIdx? (·.1) = none := by rfl)
    (hs : swapsWithSole [.Tuple elts kk p1] e pos.line X.env = pure false := by rfl) (hw : swappedStores [.Tuple elts kk p1] e X.env = pure none := by rfl) (h1 : (assignEach [.Tuple elts kk p1] X.env).map (·.2) = [assign (.Tuple elts kk p1) X.env] := by rfl) (hk : X.K = kf.K := by rfl) :
    DSt X E n (.Assign [.Tuple elts kk p1] e pos) (.unp ts ir) := (ps_asg he (pg_tup hc hgs hn hst) hs hw h1).imp fun D σ H ⟨t, S, eH, R, h⟩ => by
  subst eH
  simp only [exec, post_bind] at h
  refine ⟨t, S, rfl, R, post_imp h fun p hp k v S1 e1 P1 => ?_⟩
  obtain ⟨d, en⟩ := p
  have hv := P1.val
  cases d <;> (try exact k.elim)
  rename_i ds
  obtain ⟨a, xs, rfl, h1, h2, _⟩ := hv.tup
  first | (change (strict (stores ts ds en)).post _ _ at k) | (change (strict (stores ts ds en) >>= _).post _ _ at k; rw [post_bind] at k)
  obtain ⟨en', hst', k⟩ := strict_ok k
  have hlen : ∀ (ts : List TgE) (ds : List PyData) (en en' : En), stores ts ds en = .ok en' → ds.length = ts.length := by
    intro ts
    induction ts with
    | nil => intro ds en en' h; cases ds with | nil => rfl | cons a b => cases h
    | cons t ts ih =>
      intro ds en en' h
      cases ds with
      | nil => cases t <;> cases h
      | cons d ds =>
        cases t with
        | nm i =>
          simp only [stores] at h
          obtain ⟨e1, _, h⟩ := bind_ok h
          simp [ih ds e1 en' h]
        | sub i ix =>
          simp only [stores] at h
          obtain ⟨_, _, h⟩ := bind_ok h
          obtain ⟨_, _, h⟩ := bind_ok h
          obtain ⟨_, _, h⟩ := bind_ok h
          obtain ⟨e2, _, h⟩ := bind_ok h
          simp [ih ds e2 en' h]
        | fld C i j =>
          simp only [stores] at h
          obtain ⟨e2, _, h⟩ := bind_ok h
          simp [ih ds e2 en' h]
  refine ⟨a, xs, rfl, h1.sq hk, by rw [h2.length, hlen _ _ _ _ hst']; exact hl, ok t S1 σ xs ds en' _ P1.rel h2 (by rw [show S1.en = en from e1]; exact hst') fun σ' S' e R' s => k σ' S' e R' (P1.le.le.trans s)⟩
/-! ### x op= e -/
end
end VS

/-! Methods that change lists, loops, defs. -/
namespace VS
open PySem PySem.Spec PyProof.Rows L2
variable [kf : KF]
section
variable {X : Cx} {E : XK} {n : Nat} {st : Stmt} {rest : List Stmt} {sx : Sx} {sr : Sxs} {e ea eb ec eo tg iter : Expr} {es : List Expr} {ir ia ib ic ix : Ex} {is : Exs} {pos pos' p1 p2 apos cpos : Pos} {x : Str} {i : Nat}
/-! ### loops -/
theorem dst_for {body : List Stmt} {sb : Sxs} {src : Sr} {t : Tg} {g : TG} (hp : PassesOwn (model X.prog X.w) X.A X.env X.xe) (hc : X.calm = true) (hi : DS X (wE E) tg iter src) (hg : PG X tg g) (gok : GOk t g) (hb : DSs X E n body sb)
    (hs : ∀ x, foldedSetIterable iter X.env x = pure x := by intro _; rfl) : DSt X E n (.For tg iter body [] pos) (.forr t src sb) := (ps_for hp hc hi hg hb hs).imp fun D σ H ⟨te, S, eH, R, h⟩ => by
  subst eH
  simp only [exec, post_bind] at h
  refine ⟨te, S, rfl, R, post_imp h fun p hp' k J S1 e1 R1 l1 wk => ?_⟩
  obtain ⟨items, en1⟩ := p
  have e1 : S1.en = en1 := e1
  subst e1
  have wk : Walks S1.F J items := wk
  let I : Nat → L2.St → Hp → Prop := fun i σ H => ∃ S, S.H = H ∧ Rel te S σ ∧ Same S1.F S.F ∧ i ≤ items.length ∧ (forGo (execs n sb) t (items.drop i) S.en).post (SF te S1 D) (RX X.mg E te)
  refine ⟨fun i m σ H => I i σ H ∧ m = items.length - i, ⟨items.length, ⟨S1, rfl, R1, Same.refl _, Nat.zero_le _, by rw [List.drop_zero]; exact post_imp k fun f _ q => q.mono l1.le⟩, by omega⟩, ?_⟩
  rintro i m σ H ⟨⟨Sc, rfl, Rc, sF, hi', k⟩, em⟩
  by_cases hlast : i = items.length
  · subst hlast
    rw [List.drop_length] at k
    exact .inl ⟨wk.stop _ Sc.H Sc.O sF rfl, k σ Sc rfl Rc sF⟩
  · have hlt : i < items.length := by omega
    refine .inr ⟨wk.go i Sc.H Sc.O sF hlt, fun σ H => I (i + 1) σ H, fun σ' H' h' => ⟨items.length - (i + 1), by omega, h', rfl⟩, fun x H' hy => ?_⟩
    have hd : items[i]? = some items[i] := List.getElem?_eq_getElem hlt
    obtain ⟨sH, rx⟩ := wk.yld i Sc.H Sc.O x H' items[i] sF Rc.trk hd hy
    obtain ⟨Rg, lg⟩ := Rc.grow sH
    rw [List.drop_eq_getElem_cons hlt] at k
    simp only [forGo, post_bind] at k
    cases hb' : bindT t items[i] Sc.en with
    | no => rw [hb'] at k; exact k.elim
    | ex ee =>
      exfalso
      unfold bindT at hb'
      split at hb'
      · cases hb'
      · split at hb'
        · split at hb' <;> cases hb'
        · cases hb'
    | ok e3 =>
      rw [hb'] at k
      refine gok te { Sc with H := H' } σ x items[i] e3 _ Rg rx hb' fun σ' Rb lb _ => ?_
      have k : ((execs n sb) e3).post _ _ := k
      refine ⟨te, { Sc with H := H', en := e3 }, rfl, Rb, ?_⟩
      show ((execs n sb) e3).post _ _
      refine post_imp k fun f hf k' => ?_
      have sG : Same S1.F (hid H' Sc.O) := sF.trans lg.le
      cases f with
      | nx en2 => exact fun σ2 S2 e2 R2 s2 => ⟨S2, rfl, R2, sG.trans s2, by omega, by rw [e2]; exact k'⟩
      | ct en2 => exact fun σ2 S2 e2 R2 s2 => ⟨S2, rfl, R2, sG.trans s2, by omega, by rw [e2]; exact k'⟩
      | bk en2 => exact fun σ2 S2 e2 R2 s2 => k' σ2 S2 e2 R2 (sG.trans s2)
      | rt r en2 => exact k'
end
end VS

/-! xs.count(k), of a list, of a tuple. -/
namespace VS
open PySem PySem.Spec PyProof.Rows L2
variable [kf : KF]
section
variable {X : Cx} {W : WX} {eo e : Expr} {apos cpos : Pos} {i j : Nat}
end
end VS

/-! list(range(n)), divmod, xs.index(k, lo), xs[::-1], chains. -/
namespace VS
open PySem PySem.Spec PyProof.Rows L2 HT
variable [kf : KF]
section
variable {X : Cx} {W : WX} {e ea eb ec : Expr} {es : List Expr} {ir ia ib ic : Ex} {is : Exs} {pos p : Pos} {k n : Nat} {x : Str}
/-! ### list(range(n)) -/
/-! ### divmod -/
/-! ### xs.index(k, lo) -/
/-! ### xs[::-1] -/
/-! ### range(a, b, -1) -/
end
end VS

/-! A def keeps its promise, by its body. -/
namespace VS
open PySem PySem.Spec PyProof.Rows L2
variable [kf : KF]
omit [kf : KF] in
theorem start_len {N : List Str} {vs : List V} (h : vs.length ≤ N.length) : (L2.start N vs).length = N.length := by
  unfold L2.start
  rw [List.length_append, List.length_map, List.length_replicate]
  omega
section
variable {P : Program} {w : World} {K : PySem.W.Frag} {mg : Str → Option Value} {base : Heap} {x qual : Str} {st : Stmt} {f : Addr} {fd : FuncData} {N ps : List Str} {k : Nat} {b : Sxs}
noncomputable abbrev Bd (P : Program) (w : World) (K : PySem.W.Frag) (mg : Str → Option Value) (base : Heap) (N : List Str) (qual : Str) (st : Stmt) (k : Nat) (b : Sxs) : Prop :=
  ∀ (n : Nat) (f : Addr) (cdv : Value) (A : Around) (outer : List Env) (s : Shared) (H : Hp) (E : XK), Room k (A.deeper (envOfC qual (defScope st) s.heap.objs.size f cdv)) →
    DSs (cxOf (L2.CX P w) P w K mg base N qual (defScope st) f cdv A outer s H E) E n (defBody st) b
omit [kf : KF] in
theorem ps_le {N ps : List Str} (h : N.take ps.length = ps) : ps.length ≤ N.length := by
  have := congrArg List.length h
  rw [List.length_take] at this
  omega
omit [kf : KF] in
theorem get_frs {ds : List D} {m i : Nat} {s : Sl} (h : (ds.map (fun d => some (Sl.fr d)) ++ List.replicate m none)[i]? = some (some s)) : ∃ d, s = .fr d ∧ ds[i]? = some d := by
  rw [List.getElem?_append] at h
  split at h
  · rw [List.getElem?_map] at h
    cases q : ds[i]? with
    | none => rw [q] at h; cases h
    | some d =>
      rw [q] at h
      exact ⟨d, by simpa using h.symm, rfl⟩
  · rw [List.getElem?_replicate] at h
    split at h <;> simp at h
theorem okD_of (hT : kf.T = []) {φ : List D → Ou Sl} (F : Fun K x qual st f fd) (S : FnScope N ps (defScope st))
    (body : Bd P w K mg base N qual st k b) (hφ : ∀ ds, ds.length = ps.length → φ ds ≠ .no → ∃ n, runD n b (N.length - ps.length) ds = φ ds) : FnOk P w K mg base (L2.CX P w) (k + 1) f fd ps (spD mg ps.length φ) := by
  refine F.okX S (fun vs H Q E h => ?_) (fun cdv A outer s H vs Q E hr h => ?_)
  · obtain ⟨O, ds, h1, h2, h3, h4⟩ := h
    exact h2.length.trans h3
  · obtain ⟨O, ds, h1, h2, h3, h4⟩ := h
    have hno : φ ds ≠ .no := fun z => by rw [z] at h4; exact h4
    obtain ⟨n, hn⟩ := hφ ds h3 hno
    refine ⟨_, body n f cdv A outer s H E hr, ⟨H, [], O, none⟩, ⟨H, ds.map (fun d => some (.fr d)) ++ List.replicate (N.length - ps.length) none, O, fun _ => 0, fun _ => []⟩, rfl, ?_, ?_⟩
    · have hvl : vs.length = ps.length := h2.length.trans h3
      have isl : ∀ i, ¬ isL (ds.map (fun d => some (Sl.fr d)) ++ List.replicate (N.length - ps.length) none) i := by
        rintro i ⟨es, e | e⟩
        · obtain ⟨d, q, _⟩ := get_frs e; cases q
        · obtain ⟨d, q, _⟩ := get_frs e; cases q
      refine ⟨?_, fun b o h _ => h, fun _ h => h, fun a h => (by cases h), fun a h => .inl h, h1, fun i d e => ?_, fun i es e => absurd ⟨es, e⟩ (isl i), fun i es e => absurd ⟨es, .inl e⟩ (isl i), fun i es e => absurd ⟨es, .inr e⟩ (isl i), fun i j h => absurd h (isl i), fun p hp => (by rw [hT] at hp; cases hp), fun p hp => (by rw [hT] at hp; cases hp), .nil fun i ⟨C, es, e⟩ => by
        rcases e with e | e <;> (obtain ⟨d, q, _⟩ := get_frs e; cases q)⟩
      · show (ds.map (fun d => some (Sl.fr d)) ++ List.replicate (N.length - ps.length) none).length = (L2.start N vs).length
        have := ps_le S.pre
        rw [start_len (by omega), List.length_append, List.length_map, List.length_replicate]
        omega
      · obtain ⟨d', q, hd⟩ := get_frs e
        cases q
        obtain ⟨v, hv, hr⟩ := h2.get hd
        refine ⟨v, ?_, hr⟩
        unfold L2.start
        rw [List.getElem?_append_left (by rw [List.length_map]; exact lt_of_some hv), List.getElem?_map, hv]
        rfl
    · show (execs n b (ds.map (fun d => some (Sl.fr d)) ++ List.replicate (N.length - ps.length) none)).post _ _
      unfold runD at hn
      have ret : ∀ {S' : Sn} {σ' : L2.St} {v : V} {r : Sl}, Rel ⟨H, [], O, none⟩ S' σ' → VR ⟨H, [], O, none⟩ S' v r → Ret H O v S'.H r := by
        intro S' σ' v r R' hv
        cases r with
        | fr d => exact RpK.mono (hid_sub R'.sup) hv
        | mb ds => exact hv.elim
        | mo C ds => exact hv.elim
        | ob C ds =>
          obtain ⟨p, rg, e, V⟩ := hv
          refine ⟨p, rg, e, fun b hb => ⟨(V.mem b hb).2.2.2.1, (V.mem b hb).2.1, (V.mem b hb).2.2.1⟩, V.re.keep (hid_sub fun a ha => ?_) (fun b hb o e => e) fun b hb => hb⟩
          rcases List.mem_append.mp ha with ha | ha
          · exact (V.mem a ha).1
          · exact R'.sup a ha
        | own ds =>
          obtain ⟨p, xs, e, hp, h0, hO, hx, hr, _⟩ := hv
          refine ⟨p, xs, e, h0, hx, hr.mono (hid_sub fun a ha => ?_)⟩
          rcases List.mem_cons.mp ha with ha | ha
          · rw [ha]; exact hp
          · exact R'.sup a ha
      have same : ∀ {S' : Sn} {σ' : L2.St}, Rel ⟨H, [], O, none⟩ S' σ' → Same H S'.H := fun {S' σ'} R' b o h => R'.keep b o h (by simp)
      cases q : execs n b (ds.map (fun d => some (Sl.fr d)) ++ List.replicate (N.length - ps.length) none) with
      | no => rw [q] at hn; exact absurd hn.symm hno
      | ex e =>
        rw [q] at hn
        have hn : Ou.ex e = φ ds := hn
        rw [← hn] at h4
        exact fun cls d H' keep r _ => h4 cls d H' (fun b o h => keep b o h (by simp)) r
      | ok fl =>
        rw [q] at hn
        cases fl with
        | nx en =>
          have hn : Ou.ok (.fr .none) = φ ds := hn
          rw [← hn] at h4
          exact fun σ' S' e R' s' => h4 .non S'.H (same R') (RpK.non)
        | rt r en =>
          have hn : Ou.ok r = φ ds := hn
          rw [← hn] at h4
          exact fun v σ' S' e R' hv => h4 v S'.H (same R') (ret R' hv)
        | bk en => exact absurd hn.symm hno
        | ct en => exact absurd hn.symm hno
theorem fnD_of (hT : kf.T = []) {φ : List D → Ou Sl} (F : Fun K x qual st f fd) (hm : mg x = some (.ref f)) (S : FnScope N ps (defScope st)) (bd : Binds K fd ps [])
    (body : Bd P w K mg base N qual st k b) (hφ : ∀ ds, ds.length = ps.length → φ ds ≠ .no → ∃ n, runD n b (N.length - ps.length) ds = φ ds) : FnD P w K mg base (k + 1) x ps.length φ :=
  ⟨f, fd, ps, hm, F.kp, okD_of hT F S body hφ, bd⟩
theorem fnM_of (hT : kf.T = []) {φ : List D → List D → Ou (D × List D)} {y : Str} {qs : List Str} (F : Fun K x qual st f fd) (hm : mg x = some (.ref f)) (S : FnScope N (y :: qs) (defScope st)) (bd : Binds K fd (y :: qs) [])
    (body : Bd P w K mg base N qual st k b) (hφ : ∀ ms ds r, ds.length = qs.length → φ ms ds = .ok r → ∃ n, runM n b (N.length - (qs.length + 1)) ms ds = .ok r) : FnM P w K mg base (k + 1) x qs.length φ := by
  refine ⟨f, fd, y :: qs, hm, F.kp, F.okX S (fun vs H Q E h => ?_) (fun cdv A outer s H vs Q E hr h => ?_), bd⟩
  · obtain ⟨O, p, xs, ws, ms, ds, r, ms', rfl, _, _, _, _, h2, h3, _⟩ := h
    rw [List.length_cons, List.length_cons, h2.length, h3]
  · obtain ⟨O, p, xs, ws, ms, ds, r, ms', rfl, hp, h1, hx, hms, h2, h3, h4, h5⟩ := h
    obtain ⟨n, hn⟩ := hφ ms ds (r, ms') h3 h4
    have hwl : ws.length = qs.length := h2.length.trans h3
    have get : ∀ i s, (some (Sl.mb ms) :: (ds.map (fun d => some (Sl.fr d)) ++ List.replicate (N.length - (qs.length + 1)) none))[i]? = some (some s) → (i = 0 ∧ s = .mb ms) ∨ ∃ j d, i = j + 1 ∧ s = .fr d ∧ ds[j]? = some d := by
      intro i s e
      cases i with
      | zero => exact .inl ⟨rfl, by simpa using e.symm⟩
      | succ j =>
        rw [List.getElem?_cons_succ] at e
        obtain ⟨d, q, hd⟩ := get_frs e
        exact .inr ⟨j, d, rfl, q, hd⟩
    refine ⟨_, body n f cdv A outer s H E hr, ⟨H, [p], O, none⟩, ⟨H, some (.mb ms) :: (ds.map (fun d => some (.fr d)) ++ List.replicate (N.length - (qs.length + 1)) none), O, fun _ => p, fun _ => []⟩, rfl, ?_, ?_⟩
    · refine ⟨?_, fun b o h _ => h, fun _ h => h, fun a h => (by rw [List.mem_singleton.mp h]; exact hp), fun a h => .inl h, h1, fun i d e => ?_, fun i es e => ?_, fun i es e => ?_, fun i es e => ?_, fun i j hi hj _ => ?_, fun p hp => (by rw [hT] at hp; cases hp), fun p hp => (by rw [hT] at hp; cases hp), .nil fun i ⟨C, es, e⟩ => by
        rcases e with e | e <;> (rcases get _ _ e with ⟨_, q⟩ | ⟨j, d', e1, q, hd⟩ <;> cases q)⟩
      · show (some (Sl.mb ms) :: (ds.map (fun d => some (Sl.fr d)) ++ List.replicate (N.length - (qs.length + 1)) none)).length = (L2.start N (.ref p :: ws)).length
        have := ps_le S.pre
        rw [List.length_cons] at this
        rw [start_len (by rw [List.length_cons]; omega), List.length_cons, List.length_append, List.length_map, List.length_replicate]
        omega
      · rcases get _ _ e with ⟨_, q⟩ | ⟨j, d', e1, q, hd⟩
        · cases q
        · cases q
          subst e1
          obtain ⟨v, hv, hr⟩ := h2.get hd
          refine ⟨v, ?_, hr⟩
          unfold L2.start
          rw [List.map_cons, List.cons_append, List.getElem?_cons_succ, List.getElem?_append_left (by rw [List.length_map]; exact lt_of_some hv), List.getElem?_map, hv]
          rfl
      · rcases e with e | e
        · rcases get _ _ e with ⟨_, q⟩ | ⟨j, d', e1, q, hd⟩ <;> cases q
        · rcases get _ _ e with ⟨i0, q⟩ | ⟨j, d', e1, q, hd⟩
          · cases q
            subst i0
            exact ⟨rfl, hp, xs, hx, hms⟩
          · cases q
      · rcases get _ _ e with ⟨_, q⟩ | ⟨j, d', e1, q, hd⟩ <;> cases q
      · exact List.mem_singleton.mpr rfl
      · have z : ∀ i, isL (some (Sl.mb ms) :: (ds.map (fun d => some (Sl.fr d)) ++ List.replicate (N.length - (qs.length + 1)) none)) i → i = 0 := by
          rintro i ⟨es, e | e⟩
          · rcases get _ _ e with ⟨i0, _⟩ | ⟨j, d', e1, q, hd⟩
            · exact i0
            · cases q
          · rcases get _ _ e with ⟨i0, _⟩ | ⟨j, d', e1, q, hd⟩
            · exact i0
            · cases q
        rw [z i hi, z j hj]
    · show (execs n b (some (Sl.mb ms) :: (ds.map (fun d => some (Sl.fr d)) ++ List.replicate (N.length - (qs.length + 1)) none))).post _ _
      unfold runM at hn
      have fin : ∀ {S' : Sn} {σ' : L2.St} {v : V} {d : D} {en : En}, S'.en = en → mb0 en = .ok ms' → Rel ⟨H, [p], O, none⟩ S' σ' → Rp (hid S'.H O) v d → d = r → Q v S'.H := by
        intro S' σ' v d en e he R' hv ed
        subst ed
        have h0 : S'.en[0]? = some (some (Sl.mb ms')) := by
          rw [e]
          unfold mb0 at he
          split at he
          · have := Ou.ok.inj he
            subst this
            rfl
          · cases he
        obtain ⟨a, b, xs', c, d'⟩ := R'.li 0 ms' (.inr h0)
        have ep : S'.ad 0 = p := List.mem_singleton.mp (R'.mb 0 ms' h0)
        rw [ep] at c
        exact h5 v S'.H xs' (fun b o h nb => R'.keep b o h (by simpa using nb)) c (d'.mono (hid_sub R'.sup)) hv
      cases q : execs n b (some (Sl.mb ms) :: (ds.map (fun d => some (Sl.fr d)) ++ List.replicate (N.length - (qs.length + 1)) none)) with
      | no => rw [q] at hn; cases hn
      | ex e => rw [q] at hn; cases hn
      | ok fl =>
        rw [q] at hn
        cases fl with
        | nx en =>
          obtain ⟨ms2, h6, h7⟩ := bind_ok (show (mb0 en >>= fun ms' => Ou.ok (PyData.none, ms')) = .ok (r, ms') from hn)
          cases h7
          exact fun σ' S' e R' s' => fin e h6 R' .non rfl
        | rt r' en =>
          obtain ⟨ms2, h6, h7⟩ := bind_ok (show (mb0 en >>= fun ms' => Ou.ok (toD r', ms')) = .ok (r, ms') from hn)
          cases h7
          refine fun v σ' S' e R' hv => fin e h6 R' ?_ rfl
          cases r' with
          | fr d => exact RpK.mono (hid_sub R'.sup) hv
          | mb ds => exact hv.elim
          | mo C ds => exact hv.elim
          | ob C ds =>
            obtain ⟨p', rg, e', _⟩ := hv
            subst e'
            exact .any _
          | own ds =>
            obtain ⟨p', us, e', hp', h0, hO, hx', hr', _⟩ := hv
            subst e'
            exact .lst (by rw [hid_out hO]; exact hx') (hr'.mono (hid_sub R'.sup))
        | bk en => cases hn
        | ct en => cases hn
end
end VS

/-! Errors of own classes, raised. -/
namespace VS
open PySem PySem.Spec PyProof.Rows L2
variable [kf : KF]
section
variable {X : Cx} {E : XK} {n : Nat} {e ea eb : Expr} {es : List Expr} {ir ia ib : Ex} {is : Exs} {pos pos' p p1 p2 : Pos} {x : Str} {i : Nat} {C CM : Addr} {ta : L2.TA}
omit [kf : KF] in
/-- MarkError.__init__(self, ..) -/
theorem pe_baseinit {pl : Sem Bool} {xb : Str} (hg : Gl X xb) (hm : X.mg xb = some (.ref CM)) (g1 : PySem.W.specialIn X.K (.ref CM) "__getattribute__" = some (some (.builtin "type.__getattribute__"))) (g2 : PySem.W.typeIn X.K (.ref CM) = some (.type "type")) (g3 : PySem.W.readsIn X.K CM (.type "type") = true)
    (vV : PySem.W.findCls X.K (.ref CM) (.type "type") "__init__" = some (.val (.builtin "ValueError.__init__"))) (ha : PA X (e :: es) ta) (hdb : (xb == ("__debug__" : Str)) = false := by decide)
    (hc : eval (.Call (.Attribute (.Name xb p1) "__init__" p2) (e :: es) [] pos) X.env = (do
      let ov ← eval (.Name xb p1) X.env
      standAt p2.atName
      let (f, first) ← holding [ov] (getMethod ov "__init__" pl)
      callWith pos f first (backTo pos (starEach (e :: es) X.env)) (backToKw pos (keywordEach [] X.env))) := by rfl)
    (he : starEach (e :: es) X.env = (false, eval e X.env) :: starEach es X.env := by rfl) (hpl : (backTo pos (starEach es X.env)).any (·.1) = false := by rfl) :
    PE X (.Call (.Attribute (.Name xb p1) "__init__" p2) (e :: es) [] pos) (tVeI X.K ta) := by
  refine ⟨fun pins s σ H Q I h => ?_⟩
  refine PySem.W.methodCall_KW (ld_glob I hg hm ?_ hdb) hc
  obtain ⟨m, fr⟩ := I.fr
  refine PySem.W.method_of_cls fr I.ok.mod.kin g1 (PySem.W.cls_val fr I.ok.mod.kin g2 g3 vV (by decide +kernel) ?_)
  show wpAny _ _ (callWith pos (Value.builtin "ValueError.__init__") [] (backTo pos (starEach (e :: es) X.env)) []) _ _ _
  refine PyProof.Rows.callWith_method1 (thn (ha.run pos pins _ σ H _ (I.tok _) h) fun us s1 ⟨vs, H1, I1, r1, a, C, ws, ev, hl, T, ea, q⟩ => ?_) he hpl
  subst ev
  cases r1 with
  | @cons _ u0 _ ur ra rw' =>
    obtain rfl : u0 = Value.ref a := ra
    have hlen : ur.length ≤ sizeLine := by
      rw [← Paired.length rw', sizeLine_eq]
      omega
    exact oinit_ok T I1 ea hlen fun s' J => ⟨.non, H1, J, rfl, q⟩
end
/-- __init__ of a class with one field f: self, v -/
noncomputable def spI1 (K : PySem.W.Frag) (C : Addr) (f : Str) : Sp := fun vs H Q _ => ∃ (a : Addr) (v : V), vs = [.ref a, v] ∧ OexC K C ∧ PySem.W.findIn K (.ref C) f = some none ∧ H a = some (exo a C none) ∧ ∀ d, H d = none → d ≠ a → Q .non (upd (upd H d (exd d [(f, v)])) a (exo a C (some d)))
/-- what the written part says of the base class -/
structure BaseC (K : PySem.W.Frag) (mg : Str → Option Value) (xb : Str) (CM : Addr) : Prop where
  m : mg xb = some (.ref CM)
  g1 : PySem.W.specialIn K (.ref CM) "__getattribute__" = some (some (.builtin "type.__getattribute__"))
  g2 : PySem.W.typeIn K (.ref CM) = some (.type "type")
  g3 : PySem.W.readsIn K CM (.type "type") = true
  vV : PySem.W.findCls K (.ref CM) (.type "type") "__init__" = some (.val (.builtin "ValueError.__init__"))
/-- an error class with one or two fields, without fields -/
structure Er1 (P : Program) (w : World) (K : PySem.W.Frag) (mg : Str → Option Value) (base : Heap) (x f : Str) : Prop where
  ex : ∃ (C fI : Addr) (fd : FuncData) (ps : List Str), mg x = some (.ref C) ∧ OexC K C ∧ PySem.W.isClsIn K C = true ∧ PySem.W.findIn K (.ref C) "__init__" = some (some (.ref fI)) ∧ PySem.W.typeIn K (.ref fI) = some (.type "function") ∧ PySem.W.findIn K (.ref C) f = some none ∧ FnOk P w K mg base CX0 1 fI fd ps (spI1 K C f) ∧ Binds K fd ps []
section
variable {P : Program} {w : World} {K : PySem.W.Frag} {mg : Str → Option Value} {base : Heap} {xb qual : Str} {st : Stmt} {fI C CM : Addr} {fd : FuncData} {a1 a2 a3 f g : Str}
noncomputable def tI1 (K : PySem.W.Frag) (f : Str) : TS := tSeq (tDrop (tVeI K (tCons (tVar 0) (tCons (tVar 1) tNil)))) (tOst K f (tVar 0) (tVar 1))
omit [kf : KF] in
theorem init1 (F : Fun K "__init__" qual st fI fd) (S : FnScope [a1, a2] [a1, a2] (defScope st)) (hb : ∀ (cdv : Value) (A : Around) (outer : List Env) (s : Shared) (H : Hp) (E : XK), PSs (cxOf CX0 P w K mg base [a1, a2] qual (defScope st) fI cdv A outer s H E).nox (defBody st) (tI1 K f)) :
    FnOk P w K mg base CX0 1 fI fd [a1, a2] (spI1 K C f) := by
  refine F.ok S (fun vs H Q E h => ?_) (fun cdv A outer s H vs Q E hr h => ?_)
  · obtain ⟨a, v, rfl, _⟩ := h
    rfl
  · obtain ⟨a, v, rfl, T, no, ha, k⟩ := h
    refine ⟨_, hb cdv A outer s H E, ?_⟩
    refine ⟨_, rfl, _, rfl, a, C, _, rfl, by show 1 ≤ 1000; decide, T, ha, ?_⟩
    refine ⟨_, rfl, _, rfl, a, C, rfl, T, no, .inl ⟨ha, fun d hd hne => k d hd hne⟩⟩
end
/-! ### raise -/
noncomputable def mk1 (f : Str) : List D → List (Str × D)
  | [d] => [(f, d)]
  | _ => []
noncomputable def mk2 (f g : Str) : List D → List (Str × D)
  | [d, e] => [(f, d), (g, e)]
  | _ => []
section
variable {X : Cx} {E : XK} {n k : Nat} {e ea eb : Expr} {es : List Expr} {ir ia ib : Ex} {is : Exs} {pos pos' p p1 p2 : Pos} {x m f g : Str} {i j : Nat} {C CM : Addr} {ta : L2.TA}
omit [kf : KF] in
theorem same_two {H : Hp} {a d : Addr} {u : HO} {H2 : Hp} (ha : H a = none) (hd : H d = none) (h : ∀ b o, H b = some o → b ≠ a → b ≠ d → H2 b = some o) : Same H (upd (del H2 a) d u) := fun b o e => by
  have na := ne_of_none e ha
  have nd := ne_of_none e hd
  rw [upd_ne nd, del_ne na]
  exact h b o e na nd
theorem dst_raise1 (hc : X.calm = true) (hr : Room 2 X.A) (tk : Takes X (wE E)) (c : Er1 X.prog X.w X.K X.mg X.base x f) (ha : DA X (wE E) [e] is) (hl : lenS is = 1 := by rfl) (hg : Gl X x := by rfl) (hdb : (x == ("__debug__" : Str)) = false := by decide)
    (he : starEach [e] X.env = (false, eval e X.env) :: starEach [] X.env := by rfl) : DSt X E n (.Raise (some (.Call (.Name x p) [e] [] pos)) none pos') (.raise x (mk1 f) is) := by
  obtain ⟨C, fI, fd, ps, hm, T, iC0, iC, tI, no, F, bd⟩ := c.ex
  refine (ps_raise hc tk (pmk_oex T iC tI F hr bd .nil (fun _ _ _ _ _ _ _ z => z.elim) hg hm ha hdb he rfl)).imp fun D σ H ⟨t, S, eH, R, h⟩ => ?_
  subst eH
  simp only [exec, post_bind] at h
  refine ⟨t, S, rfl, R, post_imp h fun p hp k vs S1 e1 R1 l1 r1 => ?_⟩
  have hlen : p.1.length = 1 := (evalA_len is p.1 S.en p.2 hp).trans hl
  obtain ⟨ds, en⟩ := p
  cases r1 with
  | nil => cases hlen
  | cons h1 r2 =>
    cases r2 with
    | cons _ _ => simp at hlen
    | nil =>
      rename_i v d
      refine ⟨by show 1 ≤ 1000; decide, fun a ha => ?_⟩
      refine ⟨a, v, rfl, T, no, upd_same, fun dd hd hne => ⟨rfl, dd, [(f, v)], ?_⟩⟩
      have hd1 : S1.H dd = none := by rw [upd_ne hne] at hd; exact hd
      refine ⟨upd_same, by rw [upd_ne hne, upd_same], hd1, ?_⟩
      have sm : Same S1.H (upd (del (upd (upd (upd S1.H a (exo a C none)) dd (exd dd [(f, v)])) a (exo a C (some dd))) a) dd (.xd [(f, v)])) := same_two ha hd1 fun b o e na nd => by rw [upd_ne na, upd_ne nd, upd_ne na]; exact e
      refine k _ _ _ (fun b o q m => sm _ _ (R1.keep b o q m)) ⟨C, hm, rfl, fun z => absurd z (by simp [mk1, mk2]), fun _ => ⟨dd, [(f, v)], rfl, upd_same, fun nn y hy => ?_⟩⟩ (R1.obs e1 sm)
      have e3 : (nn, y) = (f, d) := by simpa [mk1] using hy
      cases e3
      exact ⟨v, by simp [List.lookup], (h1.mono hid_le).mono sm⟩
/-! ### isinstance(x, T) -/
noncomputable def Ty.nm : Ty → String
  | .int => "int"
  | .bool => "bool"
  | .str => "str"
  | .tuple => "tuple"
  | .list => "list"
noncomputable def tyN : D → String
  | .none => "NoneType"
  | .bool _ => "bool"
  | .int _ => "int"
  | .str _ => "str"
  | .list _ => "list"
  | .tuple _ => "tuple"
  | .dict _ => "dict"
omit [kf : KF] in
theorem kit_isi {T : Ty} {d : D} {b : Bool} (h : isiD T d = .ok b) : kitB (tyN d) T.nm = some b := by
  cases T <;> cases d <;> first | (cases h; done) | (cases h; dsimp only [tyN, Ty.nm]; decide +kernel)
theorem tyX_of {K : PySem.W.Frag} (hk : K = kf.K) {S : Sn} {x : V} {d : D} (h : SB S x d) (nd : ∀ k, d ≠ .dict k) : TyX K S.H x (.type (tyN d)) := by
  have r := h.rp
  cases r with
  | non => exact .base .non
  | bl b => exact .base (.bl b)
  | int i => exact .base (.int i)
  | str s => exact .base (.str s)
  | lst h1 r => exact .base (.lst h1)
  | tup h1 r =>
    subst hk
    rcases h1 with ⟨o, e, _⟩ | ⟨o, its, n, e, c, _⟩
    · exact .fTuple e
    · exact .kTuple e c
  | any _ => exact absurd rfl (nd _)
  | opq _ => exact absurd rfl (nd _)
  | exc _ _ _ => exact absurd rfl (nd _)
theorem de_isi {W : WX} {T : Ty} (hm : X.mg "isinstance" = none) (ha : DB X W ea ia) (hT : PE X eb (tC (.ty T.nm))) (hg : Gl X "isinstance" := by rfl)
    (he : starEach [ea, eb] X.env = (false, eval ea X.env) :: starEach [eb] X.env := by rfl) (he2 : starEach [eb] X.env = (false, eval eb X.env) :: starEach [] X.env := by rfl) (hpl : (backTo pos (starEach [eb] X.env)).any (·.1) = false := by rfl) (hk : X.K = kf.K := by rfl) :
    DE X W (.Call (.Name "isinstance" p) [ea, eb] [] pos) (.isi T ia) :=
  (pe_callB call_isi hg hm (by decide +kernel) (pa_cons ha (pa_cons hT pa_nil he2) he) (by decide) (by decide) he hpl).imp fun σ H Q h => by
    refine one_post (X := X) (W := W) (ia := ia) (g := fun d => isiD T d >>= fun r => .ok (.fr (.bool r))) (r := fun x H Q => rIsi X.K [x, .ty T.nm] H Q) (ev := evalE (.isi T ia)) ?_ ?_ ?_ h
    · funext en
      simp only [evalE]
      congr 1
      funext p
      obtain ⟨d, e1⟩ := p
      show (isiD T d >>= _) = ((isiD T d >>= _) >>= _)
      cases isiD T d <;> rfl
    · intro t S σ x dx rr Q R hx z k
      cases q : isiD T dx with
      | no => rw [q] at z; cases z
      | ex e => rw [q] at z; cases z
      | ok b =>
        rw [q] at z
        have e := Ou.ok.inj z
        subst e
        exact ⟨x, .ty T.nm, .type (tyN dx), .type T.nm, b, rfl, .ty _, tyX_of hk hx (fun kk e => by rw [e] at q; cases T <;> cases q), kit_ty (kit_isi q), ans_bl R k⟩
    · intro dx e z
      cases q : isiD T dx with
      | no => rw [q] at z; cases z
      | ex e => unfold isiD at q; split at q <;> cases q
      | ok b => rw [q] at z; cases z
end
end VS

/-! Several names at once. -/
namespace VS
open PySem PySem.Spec PyProof.Rows L2
variable [kf : KF]
/-- where an own value's objects come from -/
noncomputable def frS (S : Sn) (b : Addr) : Prop := S.H b = none ∨ (∃ i, isL S.en i ∧ S.ad i = b) ∨ ∃ i, isO S.en i ∧ b ∈ S.fp i
/-- a value as an expression hands it out, with what is its own -/
noncomputable def VRg (t : Ent) (S : Sn) (v : V) (r : Sl) (rg : List Addr) : Prop := match r with
  | .fr d => Rp S.F v d ∧ rg = []
  | .own ds => ∃ p xs, rg = [p] ∧ v = .ref p ∧ p ∈ S.O ∧ t.H0 p = none ∧ p ∉ t.O0 ∧ S.H p = some (.lst xs) ∧ RpA S.F xs ds ∧ (∀ i, isL S.en i → S.ad i ≠ p) ∧ ∀ i, isO S.en i → p ∉ S.fp i
  | .ob C ds => ∃ p, v = .ref p ∧ ObV t S p rg C ds
  | .mb _ => False
  | .mo _ _ => False
theorem EPost.rg {t : Ent} {S S' : Sn} {σ : L2.St} {v : V} {r : Sl} (P : EPost t S S' σ v r) : ∃ rg, VRg t S' v r rg ∧ ∀ b ∈ rg, frS S b := by
  have hv := P.val
  cases r with
  | fr d => exact ⟨[], ⟨hv, rfl⟩, fun b hb => by cases hb⟩
  | own ds =>
    obtain ⟨p, xs, e, r⟩ := hv
    refine ⟨[p], ⟨p, xs, rfl, e, r⟩, fun b hb => ?_⟩
    rw [List.mem_singleton.mp hb]
    rcases P.tmp p ds rfl e with q | q
    · exact .inl q
    · exact .inr (.inl q)
  | ob C ds =>
    obtain ⟨p, rg, e, V, h⟩ := P.tmpO C ds rfl
    refine ⟨rg, ⟨p, e, V⟩, fun b hb => ?_⟩
    rcases h b hb with q | q
    · exact .inl q
    · exact .inr (.inr q)
  | mb ds => exact hv.elim
  | mo C ds => exact hv.elim
theorem ObV.to {t : Ent} {A B : Sn} {p : Addr} {rg : List Addr} {C : Str} {ds : List D} (h : ObV t A p rg C ds) (x : Le A B) : ObV t B p rg C ds := by
  have q : ∀ b ∈ rg, b ∈ B.O ∧ B.H b = A.H b := fun b hb => by
    obtain ⟨a1, a2, a3, _⟩ := h.mem b hb
    obtain ⟨b1, b2⟩ := x.tmp b a1 a2 (fun i hi => h.nL b hb i hi) (fun i hi => h.nO b hb i hi)
    refine ⟨b1, ?_⟩
    rcases b2 with k | ⟨ps, k⟩
    · exact k
    · exact absurd k (a3.tbl ps)
  refine ⟨h.re.keep x.le (fun b hb o e => (q b hb).2.trans e) fun b hb => hb, fun b hb => ?_, fun b hb i hi => x.ntmp (fun i hi => h.nL b hb i hi) i hi, fun b hb i hi => x.nobj (h.mem b hb).2.1 (fun i hi => h.nO b hb i hi) i hi⟩
  obtain ⟨a1, a2, a3, a4⟩ := h.mem b hb
  exact ⟨(q b hb).1, by rw [(q b hb).2]; exact a2, by rw [(q b hb).2]; exact a3, a4⟩
theorem VRg.to {t : Ent} {A B : Sn} {v : V} {r : Sl} {rg : List Addr} (h : VRg t A v r rg) (x : Le A B) : VRg t B v r rg := by
  cases r with
  | fr d => exact ⟨h.1.mono x.le, h.2⟩
  | mb ds => exact h
  | mo C ds => exact h
  | ob C ds => obtain ⟨p, e, V⟩ := h; exact ⟨p, e, V.to x⟩
  | own ds =>
    obtain ⟨p, xs, e0, e, hp, h0, hO, hx, hr, hn, hm⟩ := h
    have hne : A.H p ≠ none := by rw [hx]; simp
    obtain ⟨h1, e1⟩ := x.tmp p hp hne hn hm
    exact ⟨p, xs, e0, e, h1, h0, hO, e1.lst hx, hr.mono x.le, x.ntmp hn, x.nobj hne hm⟩
/-- what is its own stands in no slot -/
theorem VRg.out {t : Ent} {S : Sn} {v : V} {r : Sl} {rg : List Addr} (h : VRg t S v r rg) {b : Addr} (hb : b ∈ rg) : ¬ frS S b := by
  cases r with
  | fr d => rw [h.2] at hb; cases hb
  | mb ds => exact h.elim
  | mo C ds => exact h.elim
  | ob C ds =>
    obtain ⟨p, e, V⟩ := h
    rintro (q | ⟨i, q1, q2⟩ | ⟨i, q1, q2⟩)
    · exact (V.mem b hb).2.1 q
    · exact V.nL b hb i q1 q2
    · exact V.nO b hb i q1 q2
  | own ds =>
    obtain ⟨p, xs, e0, e, hp, h0, hO, hx, hr, hn, hm⟩ := h
    rw [e0] at hb
    rw [List.mem_singleton.mp hb]
    rintro (q | ⟨i, q1, q2⟩ | ⟨i, q1, q2⟩)
    · rw [hx] at q; cases q
    · exact hn i q1 q2
    · exact hm i q1 q2
inductive VRs (t : Ent) (S : Sn) : List V → List Sl → List (List Addr) → Prop where
  | nil : VRs t S [] [] []
  | cons {v : V} {vs : List V} {r : Sl} {rs : List Sl} {rg : List Addr} {rgs : List (List Addr)} : VRg t S v r rg → VRs t S vs rs rgs → (∀ b ∈ rg, ∀ rg' ∈ rgs, b ∉ rg') → VRs t S (v :: vs) (r :: rs) (rg :: rgs)
theorem VRs.length {t : Ent} {S : Sn} {vs : List V} {rs : List Sl} {rgs : List (List Addr)} (h : VRs t S vs rs rgs) : vs.length = rs.length := by
  induction h with
  | nil => rfl
  | cons _ _ _ ih => simp [ih]
theorem VRs.to {t : Ent} {A B : Sn} {vs : List V} {rs : List Sl} {rgs : List (List Addr)} (h : VRs t A vs rs rgs) (x : Le A B) : VRs t B vs rs rgs := by
  induction h with
  | nil => exact .nil
  | cons a b c ih => exact .cons (a.to x) ih c
theorem Rel.put' {t : Ent} {S : Sn} {σ : L2.St} (R : Rel t S σ) {v : V} {r : Sl} {rg : List Addr} (h : VRg t S v r rg) {i : Nat} {en' : En} (e : putE S.en i r = .ok en') : ∃ S', S'.H = S.H ∧ S'.en = en' ∧ Rel t S' (σ.set i (some v)) ∧ S'.F = S.F ∧ S'.O = S.O ∧
    (∀ k, isL S'.en k → (isL S.en k ∧ S'.ad k = S.ad k) ∨ S'.ad k ∈ rg) ∧ ∀ k, isO S'.en k → (isO S.en k ∧ S'.fp k = S.fp k) ∨ S'.fp k = rg := by
  obtain ⟨e1, hi, nm, nm2⟩ := putE_ok e
  subst e1
  have gt : ∀ k x, (S.en.set i (some r))[k]? = some (some x) → (i = k ∧ x = r) ∨ (i ≠ k ∧ S.en[k]? = some (some x)) := fun k x e => by
    rw [en_set hi] at e
    split at e
    · rename_i q
      exact .inl ⟨q, by simpa using e.symm⟩
    · rename_i q
      exact .inr ⟨q, e⟩
  cases r with
  | mb ds => exact absurd rfl (nm ds)
  | mo C ds => exact absurd rfl (nm2 C ds)
  | fr d =>
    refine ⟨{ S with en := S.en.set i (some (.fr d)) }, rfl, rfl, (R.setFr h.1 i).1, rfl, rfl, fun k hk => .inl ⟨?_, rfl⟩, fun k hk => .inl ⟨?_, rfl⟩⟩
    · obtain ⟨es, hk⟩ := hk
      rcases hk with hk | hk
      · rcases gt k _ hk with ⟨_, q⟩ | ⟨_, q⟩
        · cases q
        · exact ⟨es, .inl q⟩
      · rcases gt k _ hk with ⟨_, q⟩ | ⟨_, q⟩
        · cases q
        · exact ⟨es, .inr q⟩
    · obtain ⟨C, es, hk⟩ := hk
      rcases hk with hk | hk
      · rcases gt k _ hk with ⟨_, q⟩ | ⟨_, q⟩
        · cases q
        · exact ⟨C, es, .inl q⟩
      · rcases gt k _ hk with ⟨_, q⟩ | ⟨_, q⟩
        · cases q
        · exact ⟨C, es, .inr q⟩
  | own ds =>
    obtain ⟨p, xs, e0, e, q⟩ := h
    obtain ⟨p', e1, R'⟩ := R.setOwn (v := v) (ds := ds) ⟨p, xs, e, q⟩ hi
    have ep : p' = p := by rw [e] at e1; cases e1; rfl
    subst ep
    refine ⟨S.putO i ds p', rfl, rfl, R', rfl, rfl, fun k hk => ?_, fun k hk => .inl ⟨?_, rfl⟩⟩
    · by_cases w : k = i
      · refine .inr ?_
        rw [show (S.putO i ds p').ad k = p' from if_pos w, e0]
        exact List.mem_singleton.mpr rfl
      · refine .inl ⟨?_, if_neg w⟩
        obtain ⟨es, hk⟩ := hk
        rcases hk with hk | hk
        · rcases gt k _ hk with ⟨q, _⟩ | ⟨_, q⟩
          · exact absurd q.symm w
          · exact ⟨es, .inl q⟩
        · rcases gt k _ hk with ⟨q, _⟩ | ⟨_, q⟩
          · exact absurd q.symm w
          · exact ⟨es, .inr q⟩
    · obtain ⟨C, es, hk⟩ := hk
      rcases hk with hk | hk
      · rcases gt k _ hk with ⟨_, q⟩ | ⟨_, q⟩
        · cases q
        · exact ⟨C, es, .inl q⟩
      · rcases gt k _ hk with ⟨_, q⟩ | ⟨_, q⟩
        · cases q
        · exact ⟨C, es, .inr q⟩
  | ob C ds =>
    obtain ⟨p, rfl, V⟩ := h
    refine ⟨S.putB i C ds p rg, rfl, rfl, R.setOb V hi, rfl, rfl, fun k hk => ?_, fun k hk => ?_⟩
    · obtain ⟨es, hk⟩ := hk
      have w : k ≠ i ∧ isL S.en k := by
        rcases hk with hk | hk
        · rcases gt k _ hk with ⟨_, q⟩ | ⟨w, q⟩
          · cases q
          · exact ⟨fun z => w z.symm, es, .inl q⟩
        · rcases gt k _ hk with ⟨_, q⟩ | ⟨w, q⟩
          · cases q
          · exact ⟨fun z => w z.symm, es, .inr q⟩
      exact .inl ⟨w.2, if_neg w.1⟩
    · by_cases w : k = i
      · exact .inr (if_pos w)
      · refine .inl ⟨?_, if_neg w⟩
        obtain ⟨C', es, hk⟩ := hk
        rcases hk with hk | hk
        · rcases gt k _ hk with ⟨q, _⟩ | ⟨_, q⟩
          · exact absurd q.symm w
          · exact ⟨C', es, .inl q⟩
        · rcases gt k _ hk with ⟨q, _⟩ | ⟨_, q⟩
          · exact absurd q.symm w
          · exact ⟨C', es, .inr q⟩
theorem VRs.stored {t : Ent} {S S1 : Sn} {rg : List Addr} {vs : List V} {rs : List Sl} {rgs : List (List Addr)} (b : VRs t S vs rs rgs) (c : ∀ b ∈ rg, ∀ rg' ∈ rgs, b ∉ rg') (q1 : S1.H = S.H) (q3 : S1.F = S.F) (q4 : S1.O = S.O)
    (q5 : ∀ k, isL S1.en k → (isL S.en k ∧ S1.ad k = S.ad k) ∨ S1.ad k ∈ rg) (q6 : ∀ k, isO S1.en k → (isO S.en k ∧ S1.fp k = S.fp k) ∨ S1.fp k = rg) : VRs t S1 vs rs rgs := by
  induction b with
  | nil => exact .nil
  | cons x y z ih =>
    rename_i v' vs' r' rs' rg' rgs'
    have c0 : ∀ b ∈ rg, b ∉ rg' := fun b hb => c b hb rg' (List.mem_cons_self ..)
    refine .cons ?_ (ih fun b hb rg'' h => c b hb rg'' (List.mem_cons_of_mem _ h)) z
    cases r' with
    | fr d => exact ⟨(show Rp S1.F v' d from q3 ▸ x.1), x.2⟩
    | mb ds => exact x
    | mo C ds => exact x
    | ob C ds =>
      obtain ⟨p, e, V⟩ := x
      refine ⟨p, e, ?_, fun b hb => ?_, fun b hb k hk w => ?_, fun b hb k hk w => ?_⟩
      · rw [q1, q3]; exact V.re
      · rw [q1, q4]; exact V.mem b hb
      · rcases q5 k hk with ⟨h1, h2⟩ | h2
        · exact V.nL b hb k h1 (h2.symm.trans w)
        · exact c0 b (w ▸ h2) hb
      · rcases q6 k hk with ⟨h1, h2⟩ | h2
        · rw [h2] at w; exact V.nO b hb k h1 w
        · rw [h2] at w; exact c0 b w hb
    | own ds =>
      obtain ⟨p, xs, e0, e, hp, h0, hO, hx, hr, hn, hm⟩ := x
      refine ⟨p, xs, e0, e, q4 ▸ hp, h0, hO, q1 ▸ hx, q3 ▸ hr, fun k hk w => ?_, fun k hk w => ?_⟩
      · rcases q5 k hk with ⟨h1, h2⟩ | h2
        · exact hn k h1 (h2.symm.trans w)
        · exact c0 p (w ▸ h2) (by rw [e0]; exact List.mem_singleton.mpr rfl)
      · rcases q6 k hk with ⟨h1, h2⟩ | h2
        · rw [h2] at w; exact hm k h1 w
        · rw [h2] at w; exact c0 p w (by rw [e0]; exact List.mem_singleton.mpr rfl)
noncomputable def setsV : L2.St → List Nat → List V → L2.St
  | σ, i :: is, v :: vs => setsV (σ.set i (some v)) is vs
  | σ, _, _ => σ
theorem Rel.puts {t : Ent} : ∀ {is : List Nat} {vs : List V} {rs : List Sl} {rgs : List (List Addr)} {S : Sn} {σ : L2.St} {en' : En}, Rel t S σ → VRs t S vs rs rgs → putsE is rs S.en = .ok en' → ∃ S', S'.H = S.H ∧ S'.en = en' ∧ Rel t S' (setsV σ is vs) ∧ S'.F = S.F
  | [], _, _, _, S, σ, en', R, .nil, h => ⟨S, rfl, Ou.ok.inj h, R, rfl⟩
  | [], _, _, _, S, σ, en', R, .cons _ _ _, h => by cases h
  | _ :: _, _, _, _, S, σ, en', R, .nil, h => by cases h
  | i :: is, v :: vs, r :: rs, _, S, σ, en', R, .cons a b c, h => by
    obtain ⟨e1, hp, h⟩ := bind_ok h
    obtain ⟨S1, q1, q2, R1, q3, q4, q5, q6⟩ := R.put' a hp
    have b' : VRs t S1 vs rs _ := b.stored c q1 q3 q4 q5 q6
    obtain ⟨S', a1, a2, a3, a4⟩ := R1.puts b' (by rw [q2]; exact h)
    exact ⟨S', a1.trans q1, a2, a3, a4.trans q3⟩
structure LPost (t : Ent) (S S' : Sn) (σ : L2.St) (vs : List V) (rs : List Sl) : Prop where
  rel : Rel t S' σ
  le : Le S S'
  val : ∃ rgs, VRs t S' vs rs rgs ∧ ∀ rg ∈ rgs, ∀ b ∈ rg, frS S b
noncomputable def tAL (mg : Str → Option Value) (W : WX) (is : Exs) : L2.TA := fun σ H Q =>
  ∃ t S, S.H = H ∧ Rel t S σ ∧ (evalL is S.en).post (fun p => ∀ vs S', S'.en = p.2 → LPost t S S' σ vs p.1 → Q vs S'.H) (RW mg W t σ)
noncomputable abbrev DAL (X : Cx) (W : WX) (es : List Expr) (is : Exs) : Prop := PA X es (tAL X.mg W is)
section
variable {X : Cx} {W : WX} {E : XK} {n : Nat} {e ea eb ec : Expr} {es : List Expr} {ir ia ib ic : Ex} {is : Exs} {pos pos' p1 p2 p3 pt pt2 : Pos} {x y z : Str} {i j l : Nat}
theorem dal_nil : DAL X W [] .nil := pa_nil.imp fun σ H Q ⟨t, S, eH, R, h⟩ => by
  subst eH
  exact h [] S rfl ⟨R, Le.refl _, [], .nil, fun rg h => by cases h⟩
theorem dal_cons (ha : DE X W e ir) (hr : DAL X W es is) (hs : starEach (e :: es) X.env = (false, eval e X.env) :: starEach es X.env := by rfl) : DAL X W (e :: es) (.cons ir is) := (pa_cons ha hr hs).imp fun σ H Q ⟨t, S, eH, R, h⟩ => by
  subst eH
  simp only [evalL, post_bind] at h
  refine ⟨t, S, rfl, R, post_imp h fun p hp k1 v S1 e1 P1 => ⟨t, S1, rfl, P1.rel, ?_⟩⟩
  rw [show S1.en = p.2 from e1]
  refine post_imp k1 fun q hq k2 vs S2 e2 P2 => ?_
  obtain ⟨rg, g1, g2⟩ := P1.rg
  obtain ⟨rgs, l1, l2⟩ := P2.val
  refine k2 (v :: vs) S2 e2 ⟨P2.rel, P1.le.trans P2.le, rg :: rgs, .cons (g1.to P2.le) l1 fun b hb rg' h' hb' => g1.out hb (l2 rg' h' b hb'), fun rg' h' b hb => ?_⟩
  rcases List.mem_cons.mp h' with h' | h'
  · rw [h'] at hb
    exact g2 b hb
  · rcases l2 rg' h' b hb with q | ⟨i, q, e⟩ | ⟨i, q, e⟩
    · exact .inl (P1.le.noneH q)
    · exact .inr (.inl ⟨i, (P1.le.sl i q).1, (P1.le.sl i q).2.symm.trans e⟩)
    · obtain ⟨a1, _, a3⟩ := P1.le.so i q
      rcases a3 b e with z | z
      · exact .inr (.inr ⟨i, a1, z⟩)
      · exact .inl z
omit [kf : KF] in
theorem evalL_puts_post {α : Type} {is : List Nat} {rs : List Sl} {en : En} {f : En → Ou α} {P : α → Prop} {E : Exn → Prop} (h : (putsE is rs en).post (fun d => (f d).post P E) E) : ∃ d, putsE is rs en = .ok d ∧ (f d).post P E := by
  cases q : putsE is rs en with
  | ok d => rw [q] at h; exact ⟨d, rfl, h⟩
  | no => rw [q] at h; exact h.elim
  | ex e =>
    exfalso
    clear h
    induction is generalizing rs en with
    | nil => cases rs <;> cases q
    | cons i is ih =>
      cases rs with
      | nil => cases q
      | cons r rs =>
        have q : (putE en i r >>= fun e1 => putsE is rs e1) = .ex e := q
        cases w : putE en i r with
        | ok e1 => rw [w] at q; exact ih q
        | ex e => unfold putE at w; split at w <;> cases w
        | no => rw [w] at q; cases q
theorem par_end {t : Ent} {S : Sn} {σ : L2.St} {D : Ends} {ls : List Nat} {p : List Sl × En} (k : ((putsE ls p.1 p.2).post (fun e2 => (Ou.ok (Fl.nx e2)).post (SF t S D) (RX X.mg E t)) (RX X.mg E t))) {vs : List V} {S1 : Sn} (e1 : S1.en = p.2) (P1 : LPost t S S1 σ vs p.1) : D.nx (setsV σ ls vs) S1.H := by
  obtain ⟨en', hq, k⟩ := evalL_puts_post (f := fun e2 => Ou.ok (Fl.nx e2)) k
  obtain ⟨rgs, hv, _⟩ := P1.val
  obtain ⟨S2, a, b, R2, eF⟩ := P1.rel.puts hv (is := ls) (en' := en') (by rw [e1]; exact hq)
  rw [← a]
  exact k _ S2 b R2 (by rw [eF]; exact P1.le.le)
omit [kf : KF] in
theorem putsE_len : ∀ {is : List Nat} {rs : List Sl} {en en' : En}, putsE is rs en = .ok en' → rs.length = is.length
  | [], [], _, _, _ => rfl
  | i :: is, r :: rs, en, en', h => by
    obtain ⟨e1, _, h⟩ := bind_ok h
    simp [putsE_len h]
  | [], _ :: _, _, _, h => by cases h
  | _ :: _, [], _, _, h => by cases h
theorem putsE_len' {t : Ent} {S : Sn} {D : Ends} {ls : List Nat} {p : List Sl × En} (k : ((putsE ls p.1 p.2).post (fun e2 => (Ou.ok (Fl.nx e2)).post (SF t S D) (RX X.mg E t)) (RX X.mg E t))) : p.1.length = ls.length := by
  obtain ⟨en', hq, k⟩ := evalL_puts_post (f := fun e2 => Ou.ok (Fl.nx e2)) k
  exact putsE_len hq
theorem dst_par2 {a b : Expr} {kt k2} (hc : X.calm = true) (hN : X.N.Nodup) (ha : DAL X (wE E) [a, b] is)
    (hi : X.N[i]? = some x := by rfl) (hj : X.N[j]? = some y := by rfl) (hij : i ≠ j := by decide) (hx : X.env.scope.names.lookup x = some .local := by rfl) (hy : X.env.scope.names.lookup y = some .local := by rfl)
    (hw : swappedStores [.Tuple [.Name x p1, .Name y p2] kt pt] (.Tuple [a, b] k2 pt2) X.env = pure (some [x, y]) := by rfl)
    (hs : swapsWithSole [.Tuple [.Name x p1, .Name y p2] kt pt] (.Tuple [a, b] k2 pt2) pos.line X.env = pure false := by rfl) :
    DSt X E n (.Assign [.Tuple [.Name x p1, .Name y p2] kt pt] (.Tuple [a, b] k2 pt2) pos) (.par [i, j] is) := (ps_par hc hN hi hj hij hx hy ha hw hs).imp fun D σ H ⟨t, S, eH, R, h⟩ => by
  subst eH
  simp only [exec, post_bind] at h
  refine ⟨t, S, rfl, R, post_imp h fun p hp k vs S1 e1 P1 => ?_⟩
  have hl : vs.length = 2 := (P1.val.elim fun _ h => h.1.length).trans (putsE_len' (X := X) (E := E) k)
  match vs, hl with
  | [v, w], _ => exact ⟨v, w, rfl, par_end k e1 P1⟩
noncomputable def GN (ls : List Nat) (gs : TGs) : Prop := ∀ vs σ H (Q : L2.St → Hp → Prop), vs.length = ls.length → Q (setsV σ ls vs) H → gs vs σ H Q
omit [kf : KF] in
theorem gn_nil : GN [] gNil := fun vs σ H Q hl q => by
  match vs, hl with
  | [], _ => exact ⟨rfl, q⟩
omit [kf : KF] in
theorem gn_cons {ls : List Nat} {gs : TGs} {i : Nat} (h : GN ls gs) : GN (i :: ls) (gCons (gName i) gs) := fun vs σ H Q hl q => by
  match vs, hl with
  | v :: vs, hl => exact ⟨v, vs, rfl, h vs _ H Q (by simpa using hl) q⟩
theorem dst_parT {elts : List Expr} {kt k2 m : Nat} {ls : List Nat} {gs : TGs} (hc : X.calm = true) (ha : DAL X (wE E) es is) (hgs : PGs X elts gs) (ok : GN ls gs) (hl : ls.length = m := by rfl) (hm : ls.length ≤ 100 := by decide)
    (hn : (assignEach elts X.env).length = m := by rfl) (hst : (assignEach elts X.env).findIdx? (·.1) = none := by rfl)
    (hs : swapsWithSole [.Tuple elts kt pt] (.Tuple es k2 pt2) pos.line X.env = pure false := by rfl) (hw : swappedStores [.Tuple elts kt pt] (.Tuple es k2 pt2) X.env = pure none := by rfl) (h1 : (assignEach [.Tuple elts kt pt] X.env).map (·.2) = [assign (.Tuple elts kt pt) X.env] := by rfl) :
    DSt X E n (.Assign [.Tuple elts kt pt] (.Tuple es k2 pt2) pos) (.par ls is) := (ps_asg (pe_tup ha) (pg_tup hc hgs hn hst) hs hw h1).imp fun D σ H ⟨t, S, eH, R, h⟩ => by
  subst eH
  simp only [exec, post_bind] at h
  refine ⟨t, S, rfl, R, post_imp h fun p hp k vs S1 e1 P1 => ?_⟩
  have hl' : vs.length = ls.length := (P1.val.elim fun _ h => h.1.length).trans (putsE_len' (X := X) (E := E) k)
  refine ⟨by rw [hl', sizeLine_eq]; omega, fun a ha => ?_⟩
  obtain ⟨R2, l2⟩ := P1.rel.grow (same_upd (o := .tup vs) ha)
  have P2 : LPost t S { S1 with H := upd S1.H a (.tup vs) } σ vs p.1 := ⟨R2, P1.le.trans l2, ?_⟩
  · refine ⟨a, vs, rfl, .of upd_same, hl'.trans hl, ok vs σ _ _ hl' ?_⟩
    exact par_end (S1 := { S1 with H := upd S1.H a (.tup vs) }) k e1 P2
  · obtain ⟨rgs, h1, h2⟩ := P1.val
    exact ⟨rgs, h1.to l2, h2⟩
end
end VS

/-! xs.pop(k). -/
namespace VS
open PySem PySem.Spec PyProof.Rows L2
variable [kf : KF]
section
variable {X : Cx} {W : WX} {eo : Expr} {apos cpos ipos : Pos} {i k j : Nat}
theorem de_popI (hv : PE X eo (tVar i)) (hk : (k : Int) < 2 ^ 63 := by decide) (hbase : attributeBase eo "pop" X.env (eval eo X.env) = eval eo X.env := by rfl)
    (hfew : ((backTo cpos (starEach [.Constant (.int (k : Int)) j ipos] X.env)).all (fun x => !x.1) && (backToKw cpos (keywordEach [] X.env)).all (fun x => x.1.isSome)
      && decide ([Expr.Constant (.int (k : Int)) j ipos].length + ([] : List Keyword).length + (if ([] : List Keyword).isEmpty then 0 else 1) < 30)) = true := by rfl)
    (hline : (apos.endLine == cpos.line) = true := by rfl) (hs : starEach [.Constant (.int (k : Int)) j ipos] X.env = (false, eval (.Constant (.int (k : Int)) j ipos) X.env) :: starEach [] X.env := by rfl) :
    DE X W (.Call (.Attribute eo "pop" apos) [.Constant (.int (k : Int)) j ipos] [] cpos) (.popI i k) :=
  (pe_bm PySem.F.plainAttrs_list PySem.F.slot_list_pop PySem.F.type_list_pop mt_popAt hv (pa_cons (pe_int (i := (k : Int))) pa_nil hs) hbase hfew hline hs rfl).imp fun σ H Q ⟨t, S, eH, R, h⟩ => by
    subst eH
    simp only [evalE] at h
    have core : ∀ {c : List D → Sl} {ms : List D} {d : D}, c = Sl.own ∨ c = Sl.mb → S.en[i]? = some (some (c ms)) → ms[k]? = some d → (∀ v S', S'.en = S.en.set i (some (c (ms.eraseIdx k))) → EPost t S S' σ v (.fr d) → Q v S'.H) →
        ∃ xs, S.H (S.ad i) = some (.lst xs) ∧ σ[i]? = some (some (V.ref (S.ad i))) ∧ rPopAt (.ref (S.ad i)) [.int k] S.H Q := by
      intro c ms d hc hi hd q
      have hi' : S.en[i]? = some (some (Sl.own ms)) ∨ S.en[i]? = some (some (Sl.mb ms)) := by rcases hc with hc | hc <;> subst hc <;> simp [hi]
      obtain ⟨h1, h2, xs, h3, h4⟩ := R.li i ms hi'
      obtain ⟨v, hv, rv⟩ := h4.get hd
      obtain ⟨R', l⟩ := R.lend (ms' := ms.eraseIdx k) (xs' := xs.eraseIdx k) hc hi (H' := upd S.H (S.ad i) (.lst (xs.eraseIdx k))) (fun b o e n => by rw [upd_ne n]; exact e) upd_same (by rw [hid_upd h2]; exact h4.erase k)
      refine ⟨xs, h3, h1, S.ad i, xs, k, k, v, rfl, rfl, h3, by omega, hk, ?_, hv, ?_⟩
      · have lt := lt_of_some hv
        unfold seqIndex?
        have h0 : ¬ ((k : Int) < 0) := by omega
        simp only [h0, if_false]
        rw [if_pos (by simp; omega)]
        simp
      · exact q v { S with H := upd S.H (S.ad i) (.lst (xs.eraseIdx k)), en := S.en.set i (some (c (ms.eraseIdx k))) } rfl (.fr R' l (rv.mono l.le))
    have fin : (∃ xs, S.H (S.ad i) = some (.lst xs) ∧ σ[i]? = some (some (V.ref (S.ad i))) ∧ rPopAt (.ref (S.ad i)) [.int k] S.H Q) → tBM X.K "list" rPopAt (tVar i) (tCons (tC (.int k)) tNil) σ S.H Q := by
      rintro ⟨xs, a, b, c⟩
      exact ⟨_, b, .inl ⟨rfl, _, SqL.of a⟩, c⟩
    split at h
    · rename_i ms hi
      split at h
      · rename_i d hd
        exact fin (core (.inl rfl) hi hd h)
      · exact h.elim
    · rename_i ms hi
      split at h
      · rename_i d hd
        exact fin (core (.inr rfl) hi hd h)
      · exact h.elim
    · exact h.elim
end
end VS

/-! The law's own numbers, from the script. -/
namespace VS
open PySem PySem.Spec PyProof.Rows L2
variable [kf : KF]
/-- the seed behind some cells -/
noncomputable def seedOf (z : Int) : List Int → Int
  | [] => z
  | c :: r => seedOf ((z * 31 + (if c < 0 then -c else c)).fmod 2147483647) r
noncomputable def bigs (ns : List Int) : List Int := ns.filter fun c => decide ((10 : Int) ^ (18 : Int).toNat ≤ c)
noncomputable def rnd (ns : List Int) (z : Int) : List Int := seedOf z ns :: 0 :: bigs ns
omit [kf : KF] in
theorem seedOf_append (z : Int) : ∀ (a b : List Int), seedOf z (a ++ b) = seedOf (seedOf z a) b
  | [], b => rfl
  | c :: r, b => by show seedOf _ (r ++ b) = _; rw [seedOf_append _ r b]; rfl
noncomputable def okSeed (z : Int) : Prop := 0 ≤ z ∧ z < 2147483647
omit [kf : KF] in
theorem okSeed_step (z c : Int) : okSeed ((z * 31 + (if c < 0 then -c else c)).fmod 2147483647) := ⟨Int.fmod_nonneg_of_pos _ (by decide), Int.fmod_lt_of_pos _ (by decide)⟩
omit [kf : KF] in
theorem okSeed_of {z : Int} (h : okSeed z) : ∀ ns, okSeed (seedOf z ns)
  | [] => h
  | c :: r => okSeed_of (okSeed_step z c) r
omit [kf : KF] in
theorem okSeed_mul {z : Int} (h : okSeed z) : wInt z := ⟨by have := h.1; omega, by have := h.2; omega⟩
omit [kf : KF] in
theorem take_succ {α : Type} {xs : List α} {i : Nat} {x : α} (h : xs[i]? = some x) : xs.take (i + 1) = xs.take i ++ [x] := by
  rw [List.take_succ, h]
  rfl
/-- the promise -/
noncomputable def spRand (K : PySem.W.Frag) : Sp := fun vs H Q _ => ∃ a ns z, vs = [.ref a, .int z] ∧ SqL K H a (ns.map V.int) ∧ ns.length ≤ 63 ∧ okSeed z ∧ ∀ p H', Same H H' → H p = none → H' p = some (.lst ((rnd ns z).map V.int)) → Q (.ref p) H'
omit [kf : KF] in
theorem SqL.same {K : PySem.W.Frag} {H H' : Hp} {a : Addr} {xs : List V} (h : SqL K H a xs) (s : Same H H') : SqL K H' a xs := by
  rcases h with (h | ⟨o, h⟩) | h
  · exact .inl (.inl (s _ _ h))
  · exact .inl (.inr ⟨o, s _ _ h⟩)
  · exact .inr h
omit [kf : KF] in
theorem bigs_app (a b : List Int) : bigs (a ++ b) = bigs a ++ bigs b := List.filter_append ..
omit [kf : KF] in
theorem bigs_one (c : Int) : bigs [c] = if decide ((10 : Int) ^ (18 : Int).toNat ≤ c) = true then [c] else [] := by
  unfold bigs
  cases q : decide ((10 : Int) ^ (18 : Int).toNat ≤ c) with
  | true => rw [if_pos rfl]; simp only [List.filter, q]
  | false => rw [if_neg (by simp)]; simp only [List.filter, q]
omit [kf : KF] in
theorem bigs_len (ns : List Int) : (bigs ns).length ≤ ns.length := List.length_filter_le _ _
omit [kf : KF] in
theorem iteT' {c : Prop} [Decidable c] {A B : Prop} (h : c) (a : A) : if c then A else B := by rw [if_pos h]; exact a
omit [kf : KF] in
theorem iteF' {c : Prop} [Decidable c] {A B : Prop} (h : ¬ c) (b : B) : if c then A else B := by rw [if_neg h]; exact b
end VS

/-! The law's def: the first row makes the numbers, the rest is in the language. -/
namespace VS
open PySem PySem.Spec PyProof.Rows L2
variable [kf : KF]
/-- the outcome of a fuelled run, where there is one -/
noncomputable def lim {α : Type} (g : Nat → Ou α) : Ou α := by
  classical
  exact if h : ∃ n, g n ≠ .no then g h.choose else .no
omit [kf : KF] in
theorem lim_ex {α : Type} {g : Nat → Ou α} (h : lim g ≠ .no) : ∃ n, g n = lim g := by
  unfold lim at h ⊢
  split at h
  · rename_i e
    rw [dif_pos e]
    exact ⟨_, rfl⟩
  · exact absurd rfl h
omit [kf : KF] in
theorem lim_eq {α : Type} {g : Nat → Ou α} {n : Nat} {x : Ou α} (hx : x ≠ .no) (h : ∀ m, g m ≠ .no → g m = x) (hn : g n = x) : lim g = x := by
  unfold lim
  split
  · rename_i e
    exact h _ e.choose_spec
  · rename_i e
    exact absurd ⟨n, by rw [hn]; exact hx⟩ e
/-- the law's promise; T: the tables of code objects that it writes -/
noncomputable def spLawT (K : PySem.W.Frag) (T : List (Addr × Str)) : Sp := fun vs H Q _ => ∃ (a : Addr) (ns : List Int), vs = [.ref a] ∧ SqL K H a (ns.map V.int) ∧ ns.length ≤ 63 ∧ LamX.Tabs T H ∧ ∀ H', Q (.bl true) H'
/-- the slots behind the first row -/
noncomputable def lawEn (m : Nat) (ns : List Int) (z : Int) : En := none :: some (.own ((rnd ns z).map PyData.int)) :: List.replicate m none
theorem RpAK.of_ints {H : Hp} : ∀ ns : List Int, RpA H (ns.map V.int) (ns.map PyData.int)
  | [] => .nil
  | n :: r => .cons (.int n) (RpAK.of_ints r)
theorem law_start {mg : Str → Option Value} {E : XK} {b : Sxs} {n m : Nat} {ns : List Int} {z : Int} {H : Hp} {p : Addr} {v0 : Option V} {D : Ends} {en' : En} (hT : LamX.Tabs kf.T H) (hp : H p = some (.lst ((rnd ns z).map V.int))) (h : execs n b (lawEn m ns z) = .ok (.rt (.fr (.bool true)) en')) (hq : ∀ H', D.rt (.bl true) H') :
    tST mg E (execs n b) D (v0 :: some (.ref p) :: List.replicate m none) H := by
  have get : ∀ i s, (lawEn m ns z)[i]? = some (some s) → i = 1 ∧ s = .own ((rnd ns z).map PyData.int) := by
    intro i s e
    match i with
    | 0 => cases e
    | 1 => exact ⟨rfl, by simpa [lawEn] using e.symm⟩
    | i + 2 =>
      have e : (List.replicate m (none : Option Sl))[i]? = some (some s) := e
      rw [List.getElem?_replicate] at e
      split at e <;> simp at e
  have isl : ∀ i, isL (lawEn m ns z) i → i = 1 := by
    rintro i ⟨es, e | e⟩
    · exact (get _ _ e).1
    · exact (get _ _ e).1
  have isT : ∀ a ∈ kf.T.map (·.1), ∃ ps, H a = some (.tbl ps) := fun a ha => by
    obtain ⟨q, hq, rfl⟩ := List.mem_map.mp ha
    obtain ⟨ps, h1, _⟩ := hT q hq
    exact ⟨ps, h1⟩
  have pT : p ∉ kf.T.map (·.1) := fun z => by
    obtain ⟨ps, h1⟩ := isT p z
    rw [hp] at h1
    cases h1
  refine ⟨⟨fun _ => none, kf.T.map (·.1), kf.T.map (·.1), none⟩, ⟨H, lawEn m ns z, p :: kf.T.map (·.1), fun _ => p, fun _ => []⟩, rfl, ⟨?_, fun b o e => (by cases e), fun a h => List.mem_cons_of_mem _ h, fun a h => h, fun a h => .inr rfl, fun a h => ?_, fun i d e => ?_, fun i ds e => ?_, fun i ds e => ⟨rfl, pT⟩, fun i ds e => ?_, fun i j hi hj _ => ?_, hT, fun q hq => List.mem_map.mpr ⟨q, hq, rfl⟩, .nil fun i ⟨C, es, e⟩ => by
    rcases e with e | e <;> (obtain ⟨_, q⟩ := get _ _ e; cases q)⟩, ?_⟩
  · show (lawEn m ns z).length = _
    simp [lawEn]
  · show H a ≠ none
    rcases List.mem_cons.mp h with e | h
    · rw [e, hp]
      simp
    · obtain ⟨ps, h1⟩ := isT a h
      rw [h1]
      simp
  · obtain ⟨_, q⟩ := get _ _ e
    cases q
  · have q : i = 1 ∧ ds = (rnd ns z).map PyData.int := by
      rcases e with e | e
      · obtain ⟨a, b⟩ := get _ _ e
        injection b with b
        exact ⟨a, b⟩
      · obtain ⟨a, b⟩ := get _ _ e
        cases b
    obtain ⟨q1, q2⟩ := q
    subst q1 q2
    exact ⟨rfl, List.mem_cons_self .., _, hp, RpAK.of_ints _⟩
  · obtain ⟨_, q⟩ := get _ _ e
    cases q
  · rw [isl i hi, isl j hj]
  · refine post_ok h ?_
    intro v σ' S' e R hv
    cases (show Rp S'.F v (.bool true) from hv)
    exact hq _
end VS

/-! More fuel, the same outcome. -/
namespace VS
open PySem PySem.Spec PyProof.Rows L2
theorem dst_nev [kf : KF] {X : Cx} {E : XK} {n : Nat} {st : Stmt} : DSt X E n st .nev := ⟨fun pins s σ H D I ⟨t, S, _, _, h⟩ => h.elim⟩
noncomputable def OL {α : Type} (x y : Ou α) : Prop := x = .no ∨ x = y
theorem OL.rfl {α : Type} {x : Ou α} : OL x x := .inr (Eq.refl _)
theorem OL.trans {α : Type} {x y z : Ou α} (h : OL x y) (k : OL y z) : OL x z := by
  rcases h with h | h
  · exact .inl h
  · subst h; exact k
theorem OL.bind {α β : Type} {x y : Ou α} {f g : α → Ou β} (h : OL x y) (k : ∀ a, OL (f a) (g a)) : OL (x >>= f) (y >>= g) := by
  rcases h with h | h
  · subst h; exact .inl (Eq.refl _)
  · subst h
    cases x with
    | ok a => exact k a
    | ex e => exact .inr (Eq.refl _)
    | no => exact .inl (Eq.refl _)
theorem whl_le {c : En → Ou (D × En)} {f g : En → Ou Fl} (h : ∀ en, OL (f en) (g en)) : ∀ (n : Nat) (en : En), OL (whlGo c f n en) (whlGo c g (n + 1) en)
  | 0, en => .inl rfl
  | n + 1, en => by
    unfold whlGo
    refine OL.bind .rfl fun p => ?_
    obtain ⟨b, e1⟩ := p
    cases b with
    | bool b =>
      cases b with
      | false => exact .rfl
      | true =>
        refine OL.bind (h e1) fun r => ?_
        cases r with
        | nx e2 => exact whl_le h n e2
        | ct e2 => exact whl_le h n e2
        | bk e2 => exact .rfl
        | rt v e2 => exact .rfl
    | _ => exact .rfl
theorem for_le {f g : En → Ou Fl} (h : ∀ en, OL (f en) (g en)) (t : Tg) : ∀ (ds : List D) (en : En), OL (forGo f t ds en) (forGo g t ds en)
  | [], en => .rfl
  | d :: r, en => by
    unfold forGo
    refine OL.bind .rfl fun e1 => OL.bind (h e1) fun z => ?_
    cases z with
    | nx e2 => exact for_le h t r e2
    | ct e2 => exact for_le h t r e2
    | bk e2 => exact .rfl
    | rt v e2 => exact .rfl
mutual
theorem exec_le (n : Nat) : ∀ (s : Sx) (en : En), OL (exec n s en) (exec (n + 1) s en)
  | .asg i e, en => by unfold exec; exact .rfl
  | .par is es, en => by unfold exec; exact .rfl
  | .unp ts e, en => by unfold exec; exact .rfl
  | .setI i ix e, en => by unfold exec; exact .rfl
  | .aug i op e, en => by unfold exec; exact .rfl
  | .augI i ix op e, en => by unfold exec; exact .rfl
  | .app i e, en => by unfold exec; exact .rfl
  | .rem i e, en => by unfold exec; exact .rfl
  | .ext i e, en => by unfold exec; exact .rfl
  | .expr e, en => by unfold exec; exact .rfl
  | .ret e, en => by unfold exec; exact .rfl
  | .retN, en => by unfold exec; exact .rfl
  | .iff c a b, en => by
    unfold exec
    refine OL.bind .rfl fun p => ?_
    obtain ⟨d, e1⟩ := p
    cases d with
    | bool x => cases x with
      | true => exact execs_le n a e1
      | false => exact execs_le n b e1
    | _ => exact .rfl
  | .whl c b, en => by unfold exec; exact whl_le (fun en => execs_le n b en) n en
  | .forr tg src b, en => by
    unfold exec
    refine OL.bind .rfl fun p => ?_
    exact for_le (fun en => execs_le n b en) tg p.1 p.2
  | .brk, en => by unfold exec; exact .rfl
  | .cnt, en => by unfold exec; exact .rfl
  | .pass, en => by unfold exec; exact .rfl
  | .setF C i j e, en => by unfold exec; exact .rfl
  | .setL C i j e, en => by unfold exec; exact .rfl
  | .appF C i j e, en => by unfold exec; exact .rfl
  | .dadd i a b, en => by unfold exec; exact .rfl
  | .raise C mk es, en => by unfold exec; exact .rfl
  | .nev, en => by unfold exec; exact .rfl
  | .fnS f, en => by unfold exec; exact .rfl
  | .tryC ws b h rr, en => by
    unfold exec
    rcases execs_le n b en with q | q
    · rw [q]; exact .inl (Eq.refl _)
    · rw [← q]
      cases execs n b en with
      | ok f => exact .rfl
      | no => exact .rfl
      | ex e => exact OL.bind (execs_le n h _) fun _ => .rfl
theorem execs_le (n : Nat) : ∀ (s : Sxs) (en : En), OL (execs n s en) (execs (n + 1) s en)
  | .nil, en => by unfold execs; exact .rfl
  | .cons s r, en => by
    unfold execs
    refine OL.bind (exec_le n s en) fun f => ?_
    cases f with
    | nx e1 => exact execs_le n r e1
    | _ => exact .rfl
end
theorem execs_mono {n m : Nat} (h : n ≤ m) (s : Sxs) (en : En) : OL (execs n s en) (execs m s en) := by
  obtain ⟨k, rfl⟩ := Nat.le.dest h
  induction k with
  | zero => exact .rfl
  | succ k ih => exact (ih (Nat.le_add_right _ _)).trans (execs_le (n + k) s en)
theorem runD_mono {n m : Nat} (h : n ≤ m) (s : Sxs) (k : Nat) (ds : List D) : OL (runD n s k ds) (runD m s k ds) := by
  unfold runD
  exact OL.bind (execs_mono h s _) fun f => .rfl
theorem runM_mono {n m : Nat} (h : n ≤ m) (s : Sxs) (k : Nat) (ms ds : List D) : OL (runM n s k ms ds) (runM m s k ms ds) := by
  unfold runM
  exact OL.bind (execs_mono h s _) fun f => .rfl
theorem OL.eq {α : Type} {x y : Ou α} (h : OL x y) (n : x ≠ .no) : y = x := by
  rcases h with h | h
  · exact absurd h n
  · exact h.symm
theorem lim_of {α : Type} {g : Nat → Ou α} (hm : ∀ n m, n ≤ m → OL (g n) (g m)) {n : Nat} {x : Ou α} (h : g n = x) (hx : x ≠ .no) : lim g = x := by
  refine lim_eq hx (fun m hmn => ?_) h
  rcases Nat.le_total n m with l | l
  · have := (hm n m l).eq (by rw [h]; exact hx)
    rw [this, h]
  · have := (hm m n l).eq hmn
    rw [← this, h]
/-- a def's function: its body, run with fuel enough -/
noncomputable def fnOf (b : Sxs) (m : Nat) (ds : List D) : Ou Sl := lim fun n => runD n b m ds
noncomputable def fmOf (b : Sxs) (m : Nat) (ms ds : List D) : Ou (D × List D) := lim fun n => runM n b m ms ds
theorem fnOf_eq {b : Sxs} {m : Nat} {ds : List D} {n : Nat} {x : Ou Sl} (h : runD n b m ds = x) (hx : x ≠ .no) : fnOf b m ds = x := lim_of (fun _ _ l => runD_mono l b m ds) h hx
theorem fmOf_eq {b : Sxs} {m : Nat} {ms ds : List D} {n : Nat} {x : Ou (D × List D)} (h : runM n b m ms ds = x) (hx : x ≠ .no) : fmOf b m ms ds = x := lim_of (fun _ _ l => runM_mono l b m ms ds) h hx
variable [kf : KF]
section
variable {P : Program} {w : World} {K : PySem.W.Frag} {mg : Str → Option Value} {base : Heap} {x qual y : Str} {st : Stmt} {f : Addr} {fd : FuncData} {N ps qs : List Str} {k m : Nat} {b : Sxs}
theorem fnD_fn (hT : kf.T = []) (F : Fun K x qual st f fd) (hm : mg x = some (.ref f)) (S : FnScope N ps (defScope st)) (bd : Binds K fd ps []) (hN : N.length - ps.length = m)
    (body : Bd P w K mg base N qual st k b) : FnD P w K mg base (k + 1) x ps.length (fnOf b m) := by
  subst hN
  exact fnD_of hT F hm S bd body fun ds _ h => lim_ex h
theorem fnM_fm (hT : kf.T = []) (F : Fun K x qual st f fd) (hm : mg x = some (.ref f)) (S : FnScope N (y :: qs) (defScope st)) (bd : Binds K fd (y :: qs) []) (hN : N.length - (qs.length + 1) = m)
    (body : Bd P w K mg base N qual st k b) : FnM P w K mg base (k + 1) x qs.length (fmOf b m) := by
  subst hN
  refine fnM_of hT F hm S bd body fun ms ds r _ h => ?_
  obtain ⟨n, e⟩ := lim_ex (g := fun n => runM n b (N.length - (qs.length + 1)) ms ds) (by
    have : fmOf b (N.length - (qs.length + 1)) ms ds ≠ .no := by rw [h]; simp
    exact this)
  exact ⟨n, e.trans h⟩
end
end VS

/-! Comparisons as tests. -/
namespace VS
open PySem PySem.Spec PyProof.Rows L2
variable [kf : KF]
omit [kf : KF] in
theorem rel_int {i : Int} {t : Tok} : RelV (.int i) (.int i t) := ⟨t, rfl⟩
section
variable {X : Cx} {W : WX} {ea eb ec : Expr} {ia ib ic ir : Ex} {pos : Pos}
theorem tTT_E {mg : Str → Option Value} (hv : asVar ir = none) {σ : L2.St} {H : Hp} {Q : Bool → Hp → Prop} (h : tTT mg W ir σ H Q) : tEE mg W ir σ H fun x H' => ∃ k, x = .bl k ∧ Q k H' := by
  obtain ⟨t, S, eH, R, h⟩ := h
  subst eH
  rw [brw_none hv, post_bind] at h
  refine ⟨t, S, rfl, R, post_imp h fun p hp ⟨b, eb, k⟩ v S' e1 P => ?_⟩
  have eb : toD p.1 = .bool b := eb
  have ev : v = .bl b := by
    have := P.val
    obtain ⟨r, en⟩ := p
    cases r with
    | fr d => 
      have ed : d = .bool b := eb
      subst ed
      cases (show Rp S'.F v (.bool b) from this)
      rfl
    | own ds => cases eb
    | mb ds => cases eb
    | ob C ds => cases eb
    | mo C ds => cases eb
  exact ⟨b, ev, k S' e1 P.rel P.le⟩
theorem dt_cmp {op : CmpOp} {r : R2} (ho : OpR X (compareOp op) r) (hop : HopC op r) (ha : DL X W ea ia) (hb : DB X W eb ib) (hm : behindInMarks op eb = false) : DT X W (.Compare ea [op] [eb] pos) (.cmp op ia ib) :=
  (pt_cmpR ho ha hb hm).imp fun σ H Q h => two_post (g := cmpD op) (fin := fun r => .fr (.bool r)) (by funext en; simp only [evalE] <;> rfl) hop cmpD_ex (tTT_E rfl h)
theorem dt_eq (hu : X.A.units + 64 < cLine) (ha : DL X W ea ia) (hb : DB X W eb ib) (hk : X.K = kf.K := by rfl) : DT X W (.Compare ea [.Eq] [eb] pos) (.cmp .Eq ia ib) := dt_cmp (r := rEqV X.K) (op_eq.or (op_eqD hu)) (hop_eq hk) ha hb (nomark _)
theorem dt_ne (hu : X.A.units + 64 < cLine) (ha : DL X W ea ia) (hb : DB X W eb ib) (hk : X.K = kf.K := by rfl) : DT X W (.Compare ea [.NotEq] [eb] pos) (.cmp .NotEq ia ib) := dt_cmp (r := rNeV X.K) (op_ne.or (op_neD hu)) (hop_ne hk) ha hb (nomark _)
theorem dt_lt (hu : X.A.units < cLine) (ha : DL X W ea ia) (hb : DB X W eb ib) (hk : X.K = kf.K := by rfl) : DT X W (.Compare ea [.Lt] [eb] pos) (.cmp .Lt ia ib) := dt_cmp (r := rLtV X.K) (op_lt.or (op_ltT hu)) (hop_lt hk) ha hb (nomark _)
theorem dt_gt (ha : DL X W ea ia) (hb : DB X W eb ib) : DT X W (.Compare ea [.Gt] [eb] pos) (.cmp .Gt ia ib) := dt_cmp op_gt hop_gt ha hb (nomark _)
theorem dt_in (hu : X.A.units + 65 < cLine) (ha : DL X W ea ia) (hb : DB X W eb ib) (hm : behindInMarks .In eb = false) (hk : X.K = kf.K := by rfl) : DT X W (.Compare ea [.In] [eb] pos) (.cmp .In ia ib) := dt_cmp (r := rInV X.K) (op_inV hu) (hop_in hk) ha hb hm
end
end VS

/-! A def whose last parameter is keyword-only, by default the empty tuple. -/
namespace VS
open PySem PySem.Spec PyProof.Rows L2
variable [kf : KF]
/-- a def of n positional parameters and one that is keyword-only, () where it lacks -/
structure FnK (P : Program) (w : World) (K : PySem.W.Frag) (mg : Str → Option Value) (base : Heap) (k : Nat) (x : Str) (n : Nat) (kw : Str) (φ : List D → Ou Sl) : Prop where
  ex : ∃ f fd ps T, mg x = some (.ref f) ∧ PySem.W.keepIn K (.ref f) = true ∧ FnOk P w K mg base (L2.CX P w) k f fd ps (spD mg (n + 1) φ) ∧ Binds K fd ps [.ref T] ∧ (∀ H, Rp H (.ref T) (.tuple [])) ∧ KBn K fd ps n [kw] (fun us ws => us ++ ws) (fun vs zs => vs ++ zs)
section
variable {X : Cx} {W : WX} {e ea eb ec : Expr} {es : List Expr} {ir ia ib ic : Ex} {is : Exs} {pos p kp : Pos} {k n : Nat} {x kw : Str} {kws : List Keyword}
noncomputable def tCallND (n m : Nat) (sp : Sp) (gV : List V → List V → List V) (E : L2.St → XK) (t tk : L2.TA) : TE := fun σ H Q => t σ H fun vs H1 => tk σ H1 fun zs H2 => vs.length = n ∧ zs.length = m ∧ sp (gV vs zs) H2 Q (E σ)
omit [kf : KF] in
theorem pe_callND {CX : CXT} {f : Addr} {fd : FuncData} {ps ks : List Str} {sp : Sp} {E : L2.St → XK} {t tk : L2.TA} {g : List Value → List Value → List Value} {gV : List V → List V → List V}
    (F : FnOk X.prog X.w X.K X.mg X.base CX k f fd ps sp) (hr : Room k X.A) (hg : Gl X x) (hm : X.mg x = some (.ref f)) (hk : PySem.W.keepIn X.K (.ref f) = true) (hb : KBn X.K fd ps n ks g gV) (hx : ∀ σ, PassesAt CX X σ (E σ))
    (ha : PA X (e :: es) t) (hkw : PK X kws tk) (hall : (backToKw pos (keywordEach kws X.env)).all (·.1.isSome) = true := by rfl) (hks : (backToKw pos (keywordEach kws X.env)).filterMap (·.1) = ks := by rfl)
    (hdb : (x == ("__debug__" : Str)) = false := by decide) (he : starEach (e :: es) X.env = (false, eval e X.env) :: starEach es X.env := by rfl)
    (hpl : ((backTo pos (starEach (e :: es) X.env)).any (·.1) || (backToKw pos (keywordEach kws X.env)).any (·.1.isNone)) = false := by rfl) :
    PE X (.Call (.Name x p) (e :: es) kws pos) (tCallND n ks.length sp gV E t tk) := by
  refine ⟨fun pins s σ H Q I h => ?_⟩
  refine wpAny_Call_Name_kw (ld_glob I hg hm ?_ hdb)
  refine PySem.W.callWith_KW (h₀ := X.base) I.ok.mod.kin hk hall (thn (ha.run pos pins s σ H _ I h) fun us s1 ⟨vs, H1, I1, r, q⟩ => ?_) hpl he
  refine thn (hkw.run pos pins s1 σ H1 _ I1 q) fun ws s2 ⟨zs, H2, I2, rz, l1, l2, q2⟩ => ⟨I2.kIn, ?_⟩
  rw [hks]
  have r2 := hb.rel r rz
  refine wpAny_call (codeAny_mono (F.run X.A X.stack s2 H2 ⟨us, ks.zip ws⟩ (g us ws) (gV vs zs) Q (E σ) hr I2.env0 (hb.to s2 us ws I2.kIn (r.length.symm.trans l1) (rz.length.symm.trans l2)) r2 q2) fun r s' hq => ?_)
  cases r with
  | error e => exact hx σ pins H2 s2 e s' I2 hq
  | ok fl =>
    cases fl with
    | ret u => exact I2.after hq
    | next => exact False.elim hq
    | brk => exact False.elim hq
    | cont => exact False.elim hq
noncomputable def appS : Exs → Ex → Exs
  | .nil, e => .cons e .nil
  | .cons a r, e => .cons a (appS r e)
omit [kf : KF] in
theorem evalA_app : ∀ (is : Exs) (ik : Ex) (en : En), evalA (appS is ik) en = (do let (ds, e1) ← evalA is en; let (r, e2) ← evalE ik e1; .ok (ds ++ [toD r], e2))
  | .nil, ik, en => by
    simp only [appS, evalA, ok_bind]
    cases evalE ik en <;> rfl
  | .cons a r, ik, en => by
    simp only [appS, evalA]
    cases evalE a en with
    | no => rfl
    | ex e => rfl
    | ok q =>
      simp only [ok_bind, evalA_app r ik q.2]
      cases evalA r q.2 with
      | no => rfl
      | ex e => rfl
      | ok z =>
        simp only [ok_bind]
        cases evalE ik z.2 <;> rfl
theorem call_end {φ : List D → Ou Sl} {t : Ent} {S S1 : Sn} {σ : L2.St} {q : List D × En} {vs : List V} {Q : VK} (R1 : Rel t S1 σ) (l1 : Le S S1) (r1 : RpA S1.F vs q.1) (e1 : S1.en = q.2) (hn : q.1.length = n)
    (k1 : (tag q.2 (φ q.1) >>= fun r => Ou.ok (r, q.2)).post (fun p => ∀ v S', S'.en = p.2 → EPost t S S' σ v p.1 → Q v S'.H) (RW X.mg W t σ)) : spD X.mg n φ vs S1.H Q (WE W σ) := by
  rw [post_bind] at k1
  refine ⟨S1.O, q.1, R1.trk, r1, hn, ?_⟩
  cases z : φ q.1 with
  | no => rw [z] at k1; exact k1.elim
  | ex ee =>
    rw [z] at k1
    exact fun cls d H' s E => k1 cls d H' (ret_keep R1 s) E (R1.obs e1 s)
  | ok r =>
    rw [z] at k1
    intro v H' s hr'
    obtain ⟨S', a1, a2, P⟩ := R1.ret s hr'
    rw [← a1]
    exact k1 v S' (a2.trans e1) (P.trans l1)
/-- f(e, .., kw = e') -/
theorem de_callK {φ : List D → Ou Sl} {ik : Ex} {ek : Expr} (F : FnK X.prog X.w X.K X.mg X.base k x n kw φ) (hr : Room k X.A) (tk : Takes X W) (ha : DA X W (e :: es) is) (hkw : DF X W ek ik) (hn : lenS is = n := by rfl) (hg : Gl X x := by rfl)
    (hall : (backToKw pos (keywordEach [⟨some kw, ek, kp⟩] X.env)).all (·.1.isSome) = true := by rfl) (hks : (backToKw pos (keywordEach [⟨some kw, ek, kp⟩] X.env)).filterMap (·.1) = [kw] := by rfl)
    (hdb : (x == ("__debug__" : Str)) = false := by decide) (he : starEach (e :: es) X.env = (false, eval e X.env) :: starEach es X.env := by rfl)
    (hpl : ((backTo pos (starEach (e :: es) X.env)).any (·.1) || (backToKw pos (keywordEach [⟨some kw, ek, kp⟩] X.env)).any (·.1.isNone)) = false := by rfl) :
    DE X W (.Call (.Name x p) (e :: es) [⟨some kw, ek, kp⟩] pos) (.call φ (appS is ik)) := by
  obtain ⟨f, fd, ps, T, hm, hk, ok, _, _, hb⟩ := F.ex
  refine (pe_callND ok hr hg hm hk hb (fun σ => passAt tk σ) ha (pk_cons hkw pk_nil) hall hks hdb he hpl).imp fun σ H Q ⟨t, S, eH, R, h⟩ => ?_
  subst eH
  simp only [evalE, evalA_app, post_bind] at h
  refine ⟨t, S, rfl, R, post_imp h fun q hq k1 vs S1 e1 R1 l1 r1 => ⟨t, S1, rfl, R1, ?_⟩⟩
  have e1 : S1.en = q.2 := e1
  rw [e1]
  unfold evF
  rw [post_bind]
  refine post_imp k1 fun z hz k2 v S2 e2 P2 => ?_
  have e2 : S2.en = z.2 := e2
  have hq1 : q.1.length = n := (evalA_len is q.1 S.en q.2 hq).trans hn
  have ra : RpA S2.F (vs ++ [v]) (q.1 ++ [toD z.1]) := (r1.mono P2.le.le).append (.cons P2.val .nil)
  refine ⟨r1.length.trans hq1, rfl, ?_⟩
  exact call_end (n := n + 1) (q := (q.1 ++ [toD z.1], z.2)) (S := S) P2.rel (l1.trans P2.le) ra e2 (by rw [List.length_append, hq1]; rfl) (by rw [post_bind]; exact k2)
end
section
variable {P : Program} {w : World} {K : PySem.W.Frag} {mg : Str → Option Value} {base : Heap} {x qual y kw : Str} {st : Stmt} {f : Addr} {fd : FuncData} {N ps qs : List Str} {k m n : Nat} {b : Sxs}
theorem rp_empty {T : Addr} {o : Obj} {z : Nat} (hk : K = kf.K) (e : K.lookup T = some o) (c : o.cls = .type "tuple") (hd : o.dict = none) (hs : o.data = .seq #[] z) (H : Hp) : Rp H (.ref T) (.tuple []) := by
  subst hk
  exact .tup (.inr ⟨o, #[], z, e, c, hd, hs, Nat.zero_le _, .nil⟩) .nil
theorem fnK_fn (hTT : kf.T = []) {T : Addr} (F : Fun K x qual st f fd) (hm : mg x = some (.ref f)) (S : FnScope N ps (defScope st)) (hT : ∀ H, Rp H (.ref T) (.tuple [])) (bd : Binds K fd ps [.ref T]) (kb : KBn K fd ps n [kw] (fun us ws => us ++ ws) (fun vs zs => vs ++ zs)) (hl : ps.length = n + 1) (hN : N.length - ps.length = m)
    (body : Bd P w K mg base N qual st k b) : FnK P w K mg base (k + 1) x n kw (fnOf b m) := by
  subst hN
  obtain ⟨φ, eφ⟩ : ∃ φ, φ = fnOf b (N.length - ps.length) := ⟨_, rfl⟩
  rw [← eφ]
  have ok := okD_of (P := P) (w := w) (mg := mg) (base := base) (φ := φ) hTT F S body fun ds _ h => by
    subst eφ
    exact lim_ex h
  rw [hl] at ok
  exact ⟨f, fd, ps, T, hm, F.kp, ok, bd, hT, kb⟩
omit [kf : KF] in
theorem funD_kw {params : Arguments} {body : List Stmt} {scope : Scope} {oc : Value} {od an : Option Addr} {osl : Array (Option Value)} {doc pm cdv ct : Value} {D T : Addr}
    (l : K.lookup f = some ⟨oc, od, .func (PySem.W.fnOf x qual params body scope .none (.ref D) doc pm an cdv ct), osl⟩) (c : PySem.W.codeIn K cdv qual = true) (k : PySem.W.keepIn K (.ref f) = true) (d : PySem.W.nsIn K D kw = some (some (.ref T))) :
    FunD K x qual params body scope [] [(kw, V.ref T)] f (PySem.W.fnOf x qual params body scope .none (.ref D) doc pm an cdv ct) :=
  ⟨⟨oc, od, .none, .ref D, doc, pm, an, cdv, ct, osl, rfl, l, c, .inl ⟨rfl, rfl⟩, .inr ⟨D, rfl, fun q hq => by
    rw [List.mem_singleton.mp hq]
    exact ⟨.ref T, d, rfl⟩⟩⟩, k⟩
omit [kf : KF] in
theorem binds_kw {params : Arguments} {body : List Stmt} {scope : Scope} {T : Addr} (F : FunD K x qual params body scope [] [(kw, V.ref T)] f fd) (n : Nat) (hn : n + 1 = ps.length)
    (h : ∀ (D : Addr) (doc pm : Value) (an : Option Addr) (cdv ct : Value) (us : List Value) (k : Value), us.length = n →
      KwChain D [(kw, k)] (bindArgs (PySem.W.fnOf x qual params body scope .none (.ref D) doc pm an cdv ct) ⟨us, []⟩) (ps.zip (us ++ [k]))) : Binds K fd ps [.ref T] := by
  obtain ⟨ds, r, b⟩ := F.binds0 n (by simp) hn fun D doc pm an cdv ct us ks hl hk => match ks, hk with
    | [k], _ => h D doc pm an cdv ct us k hl
  cases r with
  | cons r rr =>
    cases rr
    cases r
    exact b
omit [kf : KF] in
theorem kb_kw {n : Nat} (h : ∀ (us : List Value) (c : Value), us.length = n → bindArgs fd ⟨us, [(kw, c)]⟩ = pure (ps.zip (us ++ [c]))) : KBn K fd ps n [kw] (fun us ws => us ++ ws) (fun vs zs => vs ++ zs) :=
  ⟨fun s us ws X hl hw => match ws, hw with
    | [c], _ => .of_eq (h us c hl), fun r1 r2 => r1.append r2⟩
end
end VS

/-! A caught exception: isinstance, fields; count and index of True. -/
namespace VS
open PySem PySem.Spec PyProof.Rows L2
variable [kf : KF]
section
variable {X : Cx} {W : WX} {eo e ea eb : Expr} {ir ia ib : Ex} {pos p apos cpos : Pos} {i a dd : Nat}
/-! ### kinds.count(True), kinds.index(True) -/
noncomputable def rCntF (K : PySem.W.Frag) : V → List V → Hp → VK → Prop := fun x xs H Q => ∃ (p : Addr) (ys : List V) (y : V), x = .ref p ∧ xs = [y] ∧ SqL K H p ys ∧ flatV y = true ∧ ys.all flatV = true ∧ Q (.int (ys.countP (fun z => eqV z y) : Nat)) H
omit kf in
theorem count_vals {y : V} : ∀ {ys : List V} {us : List Value}, Vals ys us → ys.all flatV = true → us.countP (eqU y) = ys.countP (fun z => eqV z y)
  | _, _, .nil, _ => rfl
  | z :: ys, u :: us, .cons r t, f => by
    rw [List.all_cons, Bool.and_eq_true] at f
    rw [List.countP_cons, List.countP_cons, count_vals t f.2, eqU_of r f.1]
omit kf in
theorem mt_fcount : MtR X "list.count" (rCntF X.K) := by
  intro pins s σ H x xs v us Q I rx rxs h
  obtain ⟨p, ys, y, rfl, rfl, hs, fy, fys, q⟩ := h
  cases rx
  cases rxs with
  | cons ry rt =>
    rename_i uy ut
    cases rt
    obtain ⟨its, rv, ⟨⟨cls, dd, data, sl⟩, n, ho, hc, hdn, hd⟩, hlen⟩ := I.list hs
    simp only at hc hd
    subst hc hd
    refine call_meets PySem.F.slot_list_count ⟨_, ho, rfl⟩ PySem.F.entry_list_count (PySem.F.args_list_count_2 _ _)
      (PySem.SeqAt.list_countAt p its.toArray n dd sl uy (eqU y)) ⟨ho, fun u hu => mem_eqAt ry fy rv fys u (by simpa using hu), ?_⟩
    rw [count_vals rv fys]
    exact ⟨.int (ys.countP (fun z => eqV z y) : Nat), H, I.tok _, ⟨s.toks, rfl⟩, q⟩
omit kf in
theorem flat_bls : ∀ bs : List Bool, (bs.map V.bl).all flatV = true
  | [] => rfl
  | b :: r => by
    show (flatV (.bl b) && (r.map V.bl).all flatV) = true
    rw [flat_bls r]
    rfl
omit kf in
theorem cnt_bls : ∀ bs : List Bool, (bs.map V.bl).countP (fun z => eqV z (.bl true)) = bs.count true
  | [] => rfl
  | b :: r => by
    rw [List.map_cons, List.countP_cons, cnt_bls r, List.count_cons]
    cases b <;> rfl
theorem blsL_ok {S : Sn} {v : V} {d : D} {bs : List Bool} (h : SB S v d) (e : blsL d = .ok bs) : ∃ a, v = .ref a ∧ S.H a = some (.lst (bs.map V.bl)) := by
  unfold blsL at e
  cases d <;> (try (cases e; done))
  rename_i xs
  simp only at e
  cases q : blsD xs with
  | none => rw [q] at e; cases e
  | some cs =>
    rw [q] at e
    have e := Ou.ok.inj e
    subst e
    obtain ⟨a, us, rfl, h1, h2⟩ := h
    have u := h2.bls q
    subst u
    exact ⟨a, rfl, h1⟩
theorem blsL_ex {d : D} {e : Exn} : blsL d ≠ .ex e := by
  intro h
  unfold blsL at h
  split at h
  · split at h <;> cases h
  · cases h
theorem de_cntB {k2 : Nat} {p2 : Pos} (hv : PE X eo (tVar i)) (hbase : attributeBase eo "count" X.env (eval eo X.env) = eval eo X.env := by rfl)
    (hfew : ((backTo cpos (starEach [.Constant (.bool true) k2 p2] X.env)).all (fun x => !x.1) && (backToKw cpos (keywordEach [] X.env)).all (fun x => x.1.isSome)
      && decide ([Expr.Constant (.bool true) k2 p2].length + ([] : List Keyword).length + (if ([] : List Keyword).isEmpty then 0 else 1) < 30)) = true := by rfl)
    (hline : (apos.endLine == cpos.line) = true := by rfl) (hs : starEach [.Constant (.bool true) k2 p2] X.env = (false, eval (.Constant (.bool true) k2 p2) X.env) :: starEach [] X.env := by rfl) :
    DE X W (.Call (.Attribute eo "count" apos) [.Constant (.bool true) k2 p2] [] cpos) (.cntB i) :=
  (pe_bm PySem.F.plainAttrs_list PySem.F.slot_list_count PySem.F.type_list_count mt_fcount hv (pa_cons pe_bl pa_nil hs) hbase hfew hline hs rfl).imp fun σ H Q ⟨t, S, eH, R, h⟩ => by
    subst eH
    simp only [evalE, post_bind] at h
    obtain ⟨d, q0, h⟩ := post_rd h
    cases q1 : blsL d with
    | no => rw [q1] at h; exact h.elim
    | ex e => exact absurd q1 blsL_ex
    | ok bs =>
      rw [q1] at h
      obtain ⟨v, hv1, hb1⟩ := R.borrow q0
      obtain ⟨a, rfl, ha⟩ := blsL_ok hb1 q1
      refine ⟨_, hv1, .inl ⟨rfl, _, .of ha⟩, ?_⟩
      refine ⟨a, bs.map V.bl, .bl true, rfl, rfl, .of ha, rfl, flat_bls bs, ?_⟩
      rw [cnt_bls]
      exact h _ S rfl (.fr R (Le.refl _) (.int _))
theorem de_idxB {k2 : Nat} {p2 : Pos} (hv : PE X eo (tVar i)) (hbase : attributeBase eo "index" X.env (eval eo X.env) = eval eo X.env := by rfl)
    (hfew : ((backTo cpos (starEach [.Constant (.bool true) k2 p2] X.env)).all (fun x => !x.1) && (backToKw cpos (keywordEach [] X.env)).all (fun x => x.1.isSome)
      && decide ([Expr.Constant (.bool true) k2 p2].length + ([] : List Keyword).length + (if ([] : List Keyword).isEmpty then 0 else 1) < 30)) = true := by rfl)
    (hline : (apos.endLine == cpos.line) = true := by rfl) (hs : starEach [.Constant (.bool true) k2 p2] X.env = (false, eval (.Constant (.bool true) k2 p2) X.env) :: starEach [] X.env := by rfl) :
    DE X W (.Call (.Attribute eo "index" apos) [.Constant (.bool true) k2 p2] [] cpos) (.idxB i) :=
  (pe_bm PySem.F.plainAttrs_list PySem.F.slot_list_index PySem.F.type_list_index mt_index hv (pa_cons pe_bl pa_nil hs) hbase hfew hline hs rfl).imp fun σ H Q ⟨t, S, eH, R, h⟩ => by
    subst eH
    simp only [evalE, post_bind] at h
    obtain ⟨d, q0, h⟩ := post_rd h
    cases q1 : blsL d with
    | no => rw [q1] at h; exact h.elim
    | ex e => exact absurd q1 blsL_ex
    | ok bs =>
      rw [q1] at h
      have h : (match bs.findIdx? id with | some j => Ou.ok (Sl.fr (.int (j : Nat)), S.en) | none => .no : Ou (Sl × En)).post _ _ := h
      cases q2 : bs.findIdx? id with
      | none => rw [q2] at h; exact h.elim
      | some j =>
        rw [q2] at h
        obtain ⟨v, hv1, hb1⟩ := R.borrow q0
        obtain ⟨a, rfl, ha⟩ := blsL_ok hb1 q1
        refine ⟨_, hv1, .inl ⟨rfl, _, .of ha⟩, ?_⟩
        obtain ⟨hj, h1, h2⟩ := List.findIdx?_eq_some_iff_getElem.mp q2
        refine ⟨a, bs.map V.bl, .bl true, j, .bl true, rfl, rfl, .of ha, rfl, flat_bls bs, ?_, rfl, fun m z hm hz => ?_, h _ S rfl (.fr R (Le.refl _) (.int _))⟩
        · rw [List.getElem?_map, List.getElem?_eq_getElem hj]
          have : bs[j] = true := h1
          rw [this]
          rfl
        · rw [List.getElem?_map] at hz
          have hml : m < bs.length := by omega
          rw [List.getElem?_eq_getElem hml] at hz
          have hz := Option.some.inj hz
          subst hz
          have : ¬ (id bs[m] = true) := by
            have := h2 m hm
            simpa using this
          cases q3 : bs[m] with
          | true => exact absurd q3 this
          | false => rfl
end
end VS

set_option maxHeartbeats 4000000
/-! isinstance of a caught error of an own class that has a dict of its own (the kit's ExcIs is for errors without one: walked over from it). -/
namespace VS
open PySem PySem.Spec PySem.Calls PyProof.Rows L2 PySem.W
section
variable {prog : Program} {w : World} {A : Around} {E : Value → Shared → Prop} {s : Shared} {K : Frag} {x D : Addr} {ox : Obj} {od : Option Obj}
theorem findObj_dataD {C : Addr} {name : Str} {a g : Value} (hc : (clsIn K C).isSome = true) (ha : findIn K (.ref C) name = some (some a)) (hg : specialIn K a "__get__" = some (some g)) (ht : takesIn K a = some true) : findObj K C od name = some (.bind g a) := by
  obtain ⟨cd, hc⟩ := Option.isSome_iff_exists.mp hc
  unfold findObj
  rw [hc, Option.bind_some, ha, Option.bind_some]
  simp [hg, ht]
theorem kin_classD (C : ExcC K D) (X : K.In s.heap) (I : InstAt s.heap x ox D od) {Q : Option Value → Shared → Prop} (h : Q (some (.ref D)) { s with toks := s.toks + 1 }) : wpAny (model prog w) A (getAttr? (.ref x) "__class__") Q E s := by
  have hf : findObj K D od "__class__" = some (.bind (.builtin "getset_descriptor.__get__") (.builtin "object.__class__")) := findObj_dataD (by obtain ⟨cd, hc, _⟩ := any_some C.hd; rw [hc]; rfl) C.ha C.hn C.ht
  obtain ⟨hp, g, d, t, os⟩ := s
  have L0 := I.type (M := model prog w)
  have L1 := looks_findIn (M := model prog w) X C.hg
  have L2 := looks_findIn (M := model prog w) X C.hk
  have L3 := looks_find (M := model prog w) X I hf
  have sub : Looks (model prog w) hp (isInstance (.ref x) (.type "BaseException")) true := L0.andThen (looks_subIn X C.hs)
  have hx0 : (false && onTheHeap (Value.builtin "BaseException.__getattribute__")) = false := rfl
  have hx2 : (Value.builtin "BaseException.__getattribute__" == Value.builtin "object.__getattribute__") = false := by decide +kernel
  have hx1 : (onTheHeap (Value.ref D) && Value.builtin "BaseException.__getattribute__" == Value.builtin "object.__getattribute__") = false := by rw [hx2]; rfl
  unfold getAttr? getAttrBy? getAttrBy
  refine wpAny_bind (wpAny_mkText (wpAny_bind (wpAny_attempt (wpAny_holding (wpAny_bind (L0.at (wpAny_bind (L1.at ?_))))))))
  show wpAny _ _ (if (onTheHeap (Value.ref D) && Value.builtin "BaseException.__getattribute__" == Value.builtin "object.__getattribute__") = true then _ else _) _ _ _
  rw [hx1, if_neg Bool.false_ne_true]
  unfold getAttrByItsOwn hookBefore
  refine wpAny_bind ?_
  rw [if_pos (show onTheHeap (Value.ref D) = true from rfl)]
  refine L2.at ?_
  refine wpAny_bind (wpAny_attempt (wpAny_holding ?_))
  unfold callGetattribute
  rw [hx0, if_neg Bool.false_ne_true]
  unfold boundAndCalled
  rw [PySem.F.excAttr_ValueError.ga.bind (.ref x)]
  refine wpAny_bind (wpAny_pure ?_)
  show wpAny _ _ (call (.builtin "BaseException.__getattribute__") [.ref x, .str "__class__" t]) _ _ _
  refine wpAny_call (codeAny_call_builtin PySem.F.excAttr_ValueError.ga.plain PySem.F.entry_bexc_ga ?_)
  refine @check_slot (model prog w) _ _ ⟨hp, g, d, t + 1, os⟩ "BaseException.__getattribute__" "BaseException" "__getattribute__" (.ref x) [.str "__class__" t] [] _ (by decide +kernel) (by decide +kernel) sub (PySem.F.args_bexc_ga (.ref x) (.str "__class__" t)) ?_
  unfold Builtin.«object.__getattribute__»
  refine wpAny_bind (wpAny_of_eq (a := ((Value.ref x : Value), [Value.str "__class__" t])) (by first | rfl | (simp only [slotArgs]; rfl)) ?_)
  refine wpAny_bind (wpAny_pure (wpAny_bind (L0.at (wpAny_bind (L3.at ?_)))))
  show wpAny _ _ (holding [Value.builtin "object.__class__"] (call (.builtin "getset_descriptor.__get__") [.builtin "object.__class__", .ref x, .ref D]) >>= ret) _ _ _
  refine wpAny_bind (wpAny_holding (wpAny_call (class_get (s := ⟨hp, g, d, t + 1, os⟩) (ox := ox) (od := od) X I C.hm ?_)))
  refine wpAny_pure ?_
  show wpAny _ _ (handedOut (.ref D)) _ _ _
  rw [handedOut_of (v := .ref D) rfl]
  first
    | exact wpAny_pure (wpAny_pure h)
    | exact wpAny_pure h
    | exact wpAny_pure (wpAny_bind (wpAny_pure (wpAny_pure h)))
theorem kitx_excD (C : ExcC K D) : KitX K (.ref x) (.ref D) (fun h => InstAt h x ox D od) where
  ty := fun _ _ _ I => I.type
  it := fun _ _ X _ => by
    obtain ⟨cdD, hcD, _⟩ := any_some C.hd
    unfold clsIn at hcD
    split at hcD
    · rename_i c' d' cd' sl' ho
      intro A' Q' E' s' k q
      unfold isType loadHead
      exact wpAny_bind (wpAny_loadPart (k _ _ (X _ _ ho)) (wpAny_pure q))
    · cases hcD
  ne := fun h tp dd its n sl X htp => by
    obtain ⟨cdD, hcD, _⟩ := any_some C.hd
    refine Bool.eq_false_iff.mpr fun q => ?_
    have e : D = tp := Value.ref.inj (beq_iff_eq.mp q)
    subst e
    unfold clsIn at hcD
    split at hcD
    · rename_i c' d' cd' sl' ho
      have z := (X _ _ ho).symm.trans htp
      cases z
    · cases hcD
  ca := fun X I k => kin_classD C X I k
end
/-- isinstance(e, c), e the exception that the suite holds, its dict d -/
noncomputable def rIsD (K : Frag) (D a : Addr) (d : Option Addr) : List V → Hp → VK → Prop := fun xs H Q => ∃ (c : V) (cv : Value) (b : Bool), xs = [.ref a, c] ∧ (∀ u, RelV c u → u = cv) ∧ kitOne K (.ref D) cv = some b ∧ (∀ dd, d = some dd → ∃ gs, H dd = some (.xd gs)) ∧ Q (.bl b) H
theorem call_isD {X : Cx} {a D : Addr} {d : Option Addr} {oe : Obj} {pn : List (Addr × Obj)} (C : ExcC X.K D) (hz : Zc (.ref D) d oe) (hf : ∃ vs, oe.data = .fields vs) : CallR (X.suite a ((a, oe) :: pn)) (.builtin "isinstance") (rIsD X.K D a d) := by
  intro pins s σ H xs us Q I r h
  obtain ⟨c, cv, b, rfl, hcv, e, hd, q⟩ := h
  cases r with
  | cons rx rr =>
    cases rr with
    | cons rt rr =>
      cases rr
      cases rx
      have ec := hcv _ rt
      subst ec
      obtain ⟨hget, _⟩ := I.pin (a, oe) (List.mem_append.mpr (.inl List.mem_cons_self))
      obtain ⟨vs, hv⟩ := hf
      have J : ∃ od, InstAt s.heap a oe D od := by
        cases d with
        | none =>
          obtain ⟨oc, od, oda, osl⟩ := oe
          obtain ⟨h1, h2⟩ := hz
          dsimp only at h1 h2 hv
          subst h1 h2 hv
          exact ⟨none, hget, rfl, rfl, trivial⟩
        | some dd =>
          obtain ⟨gs, ea⟩ := hd dd rfl
          obtain ⟨mA, hns, hr⟩ := (show ObjOk X.prog X.w H s.heap dd (.xd gs) from I.hok dd _ ea)
          obtain ⟨od, ho, hl⟩ := lookIn_ns hns
          exact ⟨some od, hget, hz.1, by unfold PySem.W.notCls; rw [hv] <;> rfl, by rw [hz.2]; exact ho⟩
      obtain ⟨od, J⟩ := J
      exact PySem.W.kia_one (kitx_excD C) I.kIn J e (fun z => nomatch z) fun tk => ⟨.bl b, H, I.kept (t' := tk) fun _ _ z => z, rfl, q⟩
end VS

/-! isinstance(e, C) and e.f, e a caught error. -/
namespace VS
open PySem PySem.Spec PyProof.Rows L2
variable [kf : KF]
theorem nat_inj {a b : Nat} (h : ((a : Nat) : Int) = ((b : Nat) : Int)) : a = b := Int.ofNat.inj h
theorem sb_dict {S : Sn} {v : V} {k : List (D × D)} (sb : SB S v (.dict k)) : Rp S.F v (.dict k) := sb
theorem exc_ok {S : Sn} {v : V} {dx : D} {a : Nat} {d : Option Nat} (sb : SB S v dx) (e : excAt a d dx = true) : v = .ref a ∧ ∀ dd, d = some dd → ∃ gs, S.F dd = some (.xd gs) := by
  cases dx with
  | dict k =>
    have r := sb_dict sb
    generalize ez : PyData.dict k = z at r
    cases r with
    | opq b =>
      injection ez with ez
      subst ez
      simp only [excAt, Bool.and_eq_true, decide_eq_true_eq] at e
      have e1 : b = a := nat_inj e.1
      subst e1
      refine ⟨rfl, fun dd z => ?_⟩
      subst z
      exact absurd e.2 (by simp)
    | @exc b dd gs ns vs ds h1 h2 h3 =>
      injection ez with ez
      subst ez
      simp only [excAt, Bool.and_eq_true, decide_eq_true_eq] at e
      have e1 : b = a := nat_inj e.1
      subst e1
      refine ⟨rfl, fun d' z => ?_⟩
      subst z
      have e2 : dd = d' := nat_inj (of_decide_eq_true e.2)
      subst e2
      exact ⟨gs, h1⟩
    | any b =>
      injection ez with ez
      subst ez
      simp [excAt] at e
    | _ => cases ez
  | _ => simp [excAt] at e
theorem fld_ok {F : Hp} {gs : List (Str × V)} {f : Str} {x : D} : ∀ {ns : List Str} {vs : List V} {ds : List D}, (∀ (i : Nat) n, ns[i]? = some n → ∃ v, vs[i]? = some v ∧ gs.lookup n = some v) → RpA F vs ds →
    fldO f ((ns.zip ds).map fun p => ((.str p.1 : D), p.2)) = some x → ∃ v, gs.lookup f = some v ∧ Rp F v x
  | [], _, _, _, _, e => by simp [fldO] at e
  | n :: ns, [], [], _, _, e => by simp [fldO] at e
  | n :: ns, [], _ :: _, _, hr, e => by cases hr
  | n :: ns, _ :: _, [], _, hr, e => by cases hr
  | n :: ns, v :: vs, d :: ds, h, hr, e => by
    cases hr with
    | cons r rs =>
      simp only [List.zip_cons_cons, List.map_cons, fldO] at e
      split at e
      · rename_i q
        subst q
        have e := Option.some.inj e
        subst e
        obtain ⟨u, h1, h2⟩ := h 0 n rfl
        have h1 : v = u := by simpa using h1
        subst h1
        exact ⟨_, h2, r⟩
      · exact fld_ok (fun i m q => by
          obtain ⟨u, h1, h2⟩ := h (i + 1) m (by simpa using q)
          exact ⟨u, by simpa using h1, h2⟩) rs e
section
variable {X : Cx} {W : WX} {eo eb : Expr} {pos p : Pos} {i : Nat} {a D : Addr} {d : Option Addr} {oe : Obj} {pn : List (Addr × Obj)} {b : Bool} {c : V} {cv : Value}
theorem de_isE (C : ExcC X.K D) (hz : Zc (.ref D) d oe) (hf : ∃ vs, oe.data = .fields vs) (hm : X.mg "isinstance" = none) (hv : PE (X.suite a ((a, oe) :: pn)) eo (tVar i)) (hT : PE (X.suite a ((a, oe) :: pn)) eb (tC c)) (hc : ∀ u, RelV c u → u = cv) (hb : PySem.W.kitOne X.K (.ref D) cv = some b)
    (hg : Gl (X.suite a ((a, oe) :: pn)) "isinstance" := by rfl) (he : starEach [eo, eb] X.env = (false, eval eo X.env) :: starEach [eb] X.env := by rfl) (he2 : starEach [eb] X.env = (false, eval eb X.env) :: starEach [] X.env := by rfl) (hpl : (backTo pos (starEach [eb] X.env)).any (·.1) = false := by rfl) :
    DE (X.suite a ((a, oe) :: pn)) W (.Call (.Name "isinstance" p) [eo, eb] [] pos) (.isE a d i b) :=
  (pe_callB (X := X.suite a ((a, oe) :: pn)) (call_isD C hz hf) hg hm (by decide +kernel) (pa_cons hv (pa_cons hT pa_nil he2) he) (by decide) (by decide) he hpl).imp fun σ H Q ⟨t, S, eH, R, h⟩ => by
    subst eH
    simp only [evalE, post_bind] at h
    obtain ⟨dx, q0, h⟩ := post_rd h
    by_cases q : excAt a d dx = true
    · rw [if_pos q] at h
      obtain ⟨v, hv1, sb⟩ := R.borrow q0
      obtain ⟨rfl, hd⟩ := exc_ok sb q
      exact ⟨_, hv1, c, cv, b, rfl, hc, hb, fun dd z => (hd dd z).imp fun gs z => hid_le _ _ z, h _ S rfl (.fr R (Le.refl _) (.bl _))⟩
    · rw [if_neg q] at h
      exact h.elim
theorem de_fldE {dd C : Addr} {f : Str} (T : XfC X.K C) (hno : PySem.W.findIn X.K (.ref C) f = some none) (hz : Zc (.ref C) (some dd) oe) (hf : ∃ vs, oe.data = .fields vs) (hv : PE (X.suite a ((a, oe) :: pn)) eo (tVar i)) (hb : attributeBase eo f X.env (eval eo X.env) = eval eo X.env := by rfl) :
    DE (X.suite a ((a, oe) :: pn)) W (.Attribute eo f pos) (.fldE a dd i f) :=
  (pe_xf T hno hz hf hv hb).imp fun σ H Q ⟨t, S, eH, R, h⟩ => by
    subst eH
    simp only [evalE, post_bind] at h
    obtain ⟨dx, q0, h⟩ := post_rd h
    obtain ⟨v, hv1, sb⟩ := R.borrow q0
    cases q : fldD a dd f dx with
    | no => rw [q] at h; exact h.elim
    | ex e =>
      unfold fldD at q
      split at q
      · split at q
        · split at q <;> cases q
        · cases q
      · cases q
    | ok x =>
      rw [q] at h
      have hk : (Ou.ok (Sl.fr x, S.en)).post (fun p => ∀ v S', S'.en = p.2 → EPost t S S' σ v p.1 → Q v S'.H) (RW X.mg W t σ) := h
      unfold fldD at q
      split at q
      · rename_i k l rr
        have r := sb_dict sb
        split at q
        · rename_i hkl
          split at q
          · rename_i y hy
            have q := Ou.ok.inj q
            subst q
            generalize ez : PyData.dict ((.int k, .int l) :: rr) = z at r
            cases r with
            | @exc b d2 gs ns vs ds h1 h2 h3 =>
              injection ez with ez
              injection ez with e1 e2
              injection e1 with e3 e4
              injection e3 with e3
              injection e4 with e4
              have e5 : b = a := nat_inj (e3.symm.trans hkl.1)
              have e6 : d2 = dd := nat_inj (e4.symm.trans hkl.2)
              subst e5 e6 e2
              obtain ⟨u, g1, g2⟩ := fld_ok h2 h3 hy
              exact ⟨_, hv1, rfl, rfl, _, gs, u, rfl, hid_le _ _ h1, g1, hk _ S rfl (.fr R (Le.refl _) g2)⟩
            | opq b =>
              injection ez with ez
              injection ez with e1 e2
              injection e1 with e3 e4
              cases e4
            | _ => cases ez
          · cases q
        · cases q
      · cases q
end
end VS

set_option maxHeartbeats 2000000
/-! x(lambda: body): the kit's rule told with more of the heap kept (all but the one table). Walked over from HandS.Lambda. -/
namespace VS
open PySem PySem.Spec PyProof.Rows L2 LamX
/-- all but what stands at P stays -/
noncomputable def ExtP (P : Addr) (H H' : Hp) : Prop := (∀ b o, H b = some o → b ≠ P → H' b = some o) ∧ H' P ≠ none
section
variable {X : Cx} {pins : List (Addr × Obj)} {σ : L2.St} {H : Hp} {s : Shared}
end
section
variable {X : Cx}
end
end VS

/-! An error's name and fields: try: x() except B as e: .. return None. -/
namespace VS
open PySem PySem.Spec PyProof.Rows L2 LamX
/-- the exception e, at a, its dict at d -/
noncomputable def excD (e : Exn) (a : Nat) (d : Option Nat) : D := match d with
  | none => .dict [(.int a, .none)]
  | some dd => .dict ((.int a, .int dd) :: e.fs.map fun p => (.str p.1, p.2))
mutual
noncomputable def noDct : D → Bool
  | .list xs => noDcts xs
  | .tuple xs => noDcts xs
  | .dict _ => false
  | _ => true
noncomputable def noDcts : List D → Bool
  | [] => true
  | x :: r => noDct x && noDcts r
end
variable [kf : KF]
section
variable {H : Hp} {O : List Addr} {dd : Addr} {gs : List (Str × V)}
theorem at_backE (h : H dd = some (.xd gs)) {b : Addr} {o : HO} (e : hid H (O.filter (· ≠ dd)) b = some o) (ne : ∀ q, o ≠ .xd q) : hid H O b = some o := by
  obtain ⟨n, e⟩ := hid_some e
  rw [hid_out fun q => ?_]
  · exact e
  · have eb : b = dd := Classical.byContradiction fun z => n (List.mem_filter.mpr ⟨q, by simpa using z⟩)
    rw [eb, h] at e
    exact ne gs (Option.some.inj e).symm
mutual
theorem hid_back (h : H dd = some (.xd gs)) : ∀ {v : V} {d : D}, Rp (hid H (O.filter (· ≠ dd))) v d → noDct d = true → Rp (hid H O) v d
  | _, _, .non, _ => .non
  | _, _, .bl b, _ => .bl b
  | _, _, .int i, _ => .int i
  | _, _, .str x, _ => .str x
  | _, _, .lst h1 r, n => .lst (at_backE h h1 (fun q z => by cases z)) (hid_backs h r (by unfold noDct at n; exact n))
  | _, _, .tup h1 r, n => .tup (h1.elim (fun ⟨o, a, b⟩ => .inl ⟨o, at_backE h a (fun q z => by cases z), b⟩) .inr) (hid_backs h r (by unfold noDct at n; exact n))
  | _, _, .opq _, n => by simp [noDct] at n
  | _, _, .exc _ _ _, n => by simp [noDct] at n
theorem hid_backs (h : H dd = some (.xd gs)) : ∀ {vs : List V} {ds : List D}, RpA (hid H (O.filter (· ≠ dd))) vs ds → noDcts ds = true → RpA (hid H O) vs ds
  | _, _, .nil, _ => .nil
  | _, _, .cons a r, n => by
    unfold noDcts at n
    rw [Bool.and_eq_true] at n
    exact .cons (hid_back h a n.1) (hid_backs h r n.2)
end
end
/-- the fields' values -/
theorem exc_vals {H F : Hp} {gs : List (Str × V)} : ∀ {fs : List (Str × D)}, (∀ n x, (n, x) ∈ fs → ∃ v, gs.lookup n = some v ∧ Rp H v x) → fs.all (fun p => flatD p.2) = true →
    ∃ vs, (∀ (i : Nat) n, (fs.map (·.1))[i]? = some n → ∃ v, vs[i]? = some v ∧ gs.lookup n = some v) ∧ RpA F vs (fs.map (·.2))
  | [], _, _ => ⟨[], fun i n e => by simp at e, .nil⟩
  | (n, x) :: r, h, f => by
    rw [List.all_cons, Bool.and_eq_true] at f
    obtain ⟨v, h1, h2⟩ := h n x List.mem_cons_self
    obtain ⟨vs, h3, h4⟩ := exc_vals (F := F) (fun m y hm => h m y (List.mem_cons_of_mem _ hm)) f.2
    refine ⟨v :: vs, fun i m e => ?_, .cons (rp_flat h2 f.1) h4⟩
    cases i with
    | zero =>
      have e : n = m := by simpa using e
      subst e
      exact ⟨v, rfl, h1⟩
    | succ i => exact h3 i m (by simpa using e)
theorem zip_map {fs : List (Str × D)} : ((fs.map (·.1)).zip (fs.map (·.2))).map (fun p => ((.str p.1 : D), p.2)) = fs.map fun p => (.str p.1, p.2) := by
  induction fs with
  | nil => rfl
  | cons p r ih => simp only [List.map_cons, List.zip_cons_cons, ih]
theorem rp_excD {mg : Str → Option Value} {e : Exn} {cls : Value} {d : Option Addr} {H : Hp} (x : ExR mg e cls d H) (f : e.fs.all (fun p => flatD p.2) = true) (a : Addr) {O : List Addr} (hO : ∀ dd, d = some dd → dd ∉ O) : Rp (hid H O) (.ref a) (excD e a d) := by
  obtain ⟨C, _, _, h0, h1⟩ := x
  cases d with
  | none => exact .opq a
  | some dd =>
    have ne : e.fs ≠ [] := fun z => by cases h0 z
    obtain ⟨dd', gs, e1, e2, e3⟩ := h1 ne
    cases e1
    obtain ⟨vs, h3, h4⟩ := exc_vals (F := hid H O) e3 f
    have := RpK.exc (K := kf.K) (H := hid H O) (a := a) (by rw [hid_out (hO dd rfl)]; exact e2) h3 h4
    rw [zip_map] at this
    exact this
/-- what the catcher makes of what x() does -/
noncomputable def TErr (mg : Str → Option Value) (η : Exn → Ou D) : (XK → Hp → VK → Prop) → Hp → VK → Prop := fun tl H Q =>
  tl (fun cls d H' => ∃ e x O, ExR mg e cls d H' ∧ η e = .ok x ∧ (∀ a ∈ O, H' a ≠ none) ∧ ∀ v H'', Same H' H'' → Rp (hid H'' O) v x → Q v H'') H (fun _ H' => Q .non H')
/-- the suite of the catcher, for each error that is told -/
noncomputable def HdlOk (mg : Str → Option Value) (K : PySem.W.Frag) (CS : Addr) (η : Exn → Ou D) (N : List Str) (Y : Cx → Prop) (suite : List Stmt) : Prop :=
  ∀ (e : Exn) (x : D), η e = .ok x → e.fs.all (fun p => flatD p.2) = true ∧ noDct x = true ∧ ∃ C, mg e.cls = some (.ref C) ∧ PySem.W.exmOne K (.ref C) (.ref CS) = some true ∧
    ∀ (X : Cx) (a : Addr) (oe : Obj) (d : Option Addr) (pn : List (Addr × Obj)), Y X → Zc (.ref C) d oe → (∃ vs, oe.data = .fields vs) → (e.fs = [] → d = none) → (e.fs ≠ [] → d ≠ none) →
      ∃ (b : Sxs) (E : XK) (en' : En), DSs (X.suite a ((a, oe) :: pn)) E 0 suite b ∧ execs 0 b (none :: some (.fr (excD e a d)) :: List.replicate (N.length - 2) none) = .ok (.rt (.fr x) en')
theorem gives_err {X : Cx} {η : Exn → Ou D} {Ng : List Str} {x a xb n q : Str} {sg : Scope} {g CS : Addr} {cdg : Value} {b₀ : Stmt} {suite : List Stmt} {j : Nat} {p1 p2 p3 p4 p5 p6 p7 p8 : Pos} {Y : Cx → Prop} (hK : X.K = kf.K) (hT : kf.T = []) (hN : Ng.Nodup) (h1 : Ng[1]? = some n) (hl1 : sg.names.lookup n = some .local) (h2 : 2 ≤ Ng.length)
    (hge : sg.names.lookup xb = some .globalImplicit) (hme : X.mg xb = some (.ref CS)) (hde : (xb == ("__debug__" : Str)) = false) (hh : HdlOk X.mg X.K CS η Ng Y (b₀ :: suite))
    (hY : ∀ s H, Y (cxOf C8.CX0 X.prog X.w X.K X.mg X.base Ng x sg g cdg X.A X.stack s H C8.E0).nox)
    (hs : ∀ (s : Shared) (H : Hp), swapsWith (.Call (.Name a p1) [] [] p2) none p3.line (cxOf C8.CX0 X.prog X.w X.K X.mg X.base Ng x sg g cdg X.A X.stack s H C8.E0).env = pure false) :
    GivesTo X Ng x sg g cdg [.Try [.Expr (.Call (.Name a p1) [] [] p2) p3] [.ExceptHandler (some (.Name xb p4)) (some n) (b₀ :: suite) p5] [] [] p6, .Return (some (.Constant .none j p7)) p8] a q (TErr X.mg η) := by
  intro f c' s H Q tl act hc h
  have hgl : Gl (cxOf C8.CX0 X.prog X.w X.K X.mg X.base Ng x sg g cdg X.A X.stack s H C8.E0).nox xb := hge
  have hst : (L2.start Ng [V.ref f])[0]? = some (some (V.ref f)) := rfl
  refine ⟨_, pss_cons (L2.ps_try_as (X := (cxOf C8.CX0 X.prog X.w X.K X.mg X.base Ng x sg g cdg X.A X.stack s H C8.E0).nox) (i := 1) (c := .ref CS)
      (tb := fun W D σ H => ∃ Ech : XK, (∀ cls d σ' H', Ech cls d H' → W cls d σ' H') ∧ σ[0]? = some (some (.ref f)) ∧ H c' = some (CodeO c' q) ∧ tl Ech H fun _ H' => D.nx σ H')
      (ts := fun a cls d D σ H => ∃ e x O, ExR X.mg e cls d H ∧ η e = .ok x ∧ (∀ a ∈ O, H a ≠ none) ∧ (σ.length = Ng.length → σ[1]? = some (some (.ref a))) ∧ ∀ v H'', Same H H'' → Rp (hid H'' O) v x → D.rt v H'')
      rfl rfl hN h1 hl1 ⟨hgl, hde, .inl hme⟩ L2.takes0 (fun W pn xe tk _ => ?_) (fun a oe cls d pn hz hf => ?_)) (pss_one (ps_ret pe_non)), ?_⟩
  · refine ⟨fun pins s' σ H' D I h' => ?_⟩
    obtain ⟨Ech, hW, h1, h2, h3⟩ := h'
    have hp := act W pn xe Ech p1 p2 tk hW
    have hq := pss_one (ps_expr (pos := p3) hp (hs s H))
    exact hq.run pins s' σ H' D I ⟨h1, h2, h3⟩
  · refine ⟨fun pins s' σ H' D I h' => ?_⟩
    obtain ⟨e, x, O, hx, hη, hO, hσ, k⟩ := h'
    have hlen : σ.length = Ng.length := I.len
    obtain ⟨hf1, hnd, C, hm, _, hh⟩ := hh e x hη
    have hx' := hx
    obtain ⟨C', hm', hc', h0, h1'⟩ := hx'
    rw [hm] at hm'
    cases hm'
    subst hc'
    obtain ⟨b, E, en', hd, hv⟩ := hh _ a oe d pn (hY s H) hz hf h0 (fun z y => by
      obtain ⟨dd, _, e1, _⟩ := h1' z
      rw [y] at e1
      cases e1)
    refine hd.run pins s' σ H' D I ?_
    have hO' : ∃ O' : List Addr, (∀ a ∈ O', a ∈ O) ∧ (∀ dd, d = some dd → dd ∉ O') ∧ ∀ v H'', Same H' H'' → Rp (hid H'' O') v x → D.rt v H'' := by
      cases d with
      | none => exact ⟨O, fun _ h => h, fun dd z => (by cases z), k⟩
      | some dd =>
        have ne : e.fs ≠ [] := fun z => by cases h0 z
        obtain ⟨dd', gs, e1, e2, _⟩ := h1' ne
        cases e1
        refine ⟨O.filter (· ≠ dd), fun a h => (List.mem_filter.mp h).1, fun d' z h => ?_, fun v H'' sm r => k v H'' sm (hid_back (sm _ _ e2) r hnd)⟩
        cases z
        simpa using (List.mem_filter.mp h).2
    obtain ⟨O', s1, s2, k'⟩ := hO'
    have en2 : (none :: some (Sl.fr (excD e a d)) :: List.replicate (Ng.length - 2) none : En).length = Ng.length := by
      simp only [List.length_cons, List.length_replicate]
      omega
    have get : ∀ i s, (none :: some (Sl.fr (excD e a d)) :: List.replicate (Ng.length - 2) none : En)[i]? = some (some s) → i = 1 ∧ s = .fr (excD e a d) := by
      intro i s e
      match i with
      | 0 => cases e
      | 1 => exact ⟨rfl, by simpa using e.symm⟩
      | i + 2 =>
        have e : (List.replicate (Ng.length - 2) (none : Option Sl))[i]? = some (some s) := e
        rw [List.getElem?_replicate] at e
        split at e <;> simp at e
    have isl : ∀ i, ¬ isL (none :: some (Sl.fr (excD e a d)) :: List.replicate (Ng.length - 2) none : En) i := by
      rintro i ⟨es, e | e⟩
      · cases (get _ _ e).2
      · cases (get _ _ e).2
    refine ⟨⟨H', [], O', none⟩, ⟨H', none :: some (.fr (excD e a d)) :: List.replicate (Ng.length - 2) none, O', fun _ => 0, fun _ => []⟩, rfl, ?_, ?_⟩
    · refine ⟨en2.trans hlen.symm, fun b o h _ => h, fun _ h => h, fun a h => (by cases h), fun a h => .inl h, fun a h => hO a (s1 a h), fun i d' e => ?_, fun i es e => absurd ⟨es, e⟩ (isl i), fun i es e => absurd ⟨es, .inl e⟩ (isl i), fun i es e => absurd ⟨es, .inr e⟩ (isl i), fun i j h => absurd h (isl i), fun p hp => (by rw [hT] at hp; cases hp), fun p hp => (by rw [hT] at hp; cases hp), .nil fun i ⟨C, es, e⟩ => by rcases e with e | e <;> cases (get _ _ e).2⟩
      obtain ⟨rfl, e2⟩ := get _ _ e
      cases e2
      exact ⟨_, hσ hlen, rp_excD hx hf1 a s2⟩
    · show (execs 0 b _).post _ _
      rw [hv]
      intro v σ' S' e' R hv
      exact k' v S'.H (fun b o h => R.keep b o h (by simp)) (RpK.mono (hid_sub R.sup) hv)
  · refine ⟨fun cls d H' => ∃ e x O, ExR X.mg e cls d H' ∧ η e = .ok x ∧ (∀ a ∈ O, H' a ≠ none) ∧ ∀ v H'', Same H' H'' → Rp (hid H'' O) v x → Q v H'', fun cls d σ' H' h' => ?_, hst, hc, h⟩
    obtain ⟨e, x, O, hx, hη, hO, k⟩ := h'
    obtain ⟨_, _, C, hm, hex, _⟩ := hh e x hη
    have hx' := hx
    obtain ⟨C', hm', hc', _⟩ := hx'
    rw [hm] at hm'
    cases hm'
    subst hc'
    refine ⟨true, hex, fun _ a na => ⟨e, x, O, hx, hη, hO, fun hl => ?_, k⟩, fun z => by cases z⟩
    have hl : σ'.length = Ng.length := by rw [← hl, List.length_set]
    rw [List.getElem?_set_self (by omega)]
end VS

/-! x(lambda: f(args)) where x is an error catcher; the law's promise with its table. -/
namespace VS
open PySem PySem.Spec PyProof.Rows L2 LamX
variable [kf : KF]
/-- a def that catches what its argument raises -/
structure FnE (P : Program) (w : World) (K : PySem.W.Frag) (mg : Str → Option Value) (base : Heap) (x : Str) (η : Exn → Ou D) : Prop where
  ex : ∃ (g : Addr) (oc : Value) (od : Option Addr) (pg : Arguments) (bg : List Stmt) (sg : Scope) (dV kV doc pm : Value) (an : Option Addr) (cdv ct : Value) (osl : Array (Option Value)) (Ng : List Str) (a : Str),
    mg x = some (.ref g) ∧ PySem.W.keepIn K (.ref g) = true ∧ K.lookup g = some ⟨oc, od, .func (PySem.W.fnOf x x pg bg sg dV kV doc pm an cdv ct), osl⟩ ∧ PySem.W.codeIn K cdv x = true ∧ L2.Binds K (PySem.W.fnOf x x pg bg sg dV kV doc pm an cdv ct) [a] [] ∧
    FnScope Ng [a] sg ∧ Ng[0]? = some a ∧ Vis sg a ∧ (a == ("__debug__" : Str)) = false ∧ (a == ("__classdict__" : Str)) = false ∧
    ∀ (X : Cx) (q : Str), X.prog = P → X.w = w → X.K = K → X.mg = mg → X.base = base → Room 1 X.A → GivesTo X Ng x sg g cdv bg a q (TErr mg η)
/-- a table has grown -/
theorem Rel.growT {t : Ent} {S : Sn} {σ : L2.St} (R : Rel t S σ) {H1 : Hp} {P : Addr} {q : Str} (hP : (P, q) ∈ kf.T) (s : ExtP P S.H H1) (hT : Tabs kf.T H1) : Rel t { S with H := H1 } σ ∧ Le S { S with H := H1 } := by
  have mP : P ∈ t.M := R.tM _ hP
  have oP : P ∈ S.O := R.sup _ (R.subM _ mP)
  obtain ⟨ps, tP, _⟩ := R.tb _ hP
  have tP : S.H P = some (.tbl ps) := tP
  have nl : ∀ {b : Addr} {xs : List V}, S.H b = some (.lst xs) → b ≠ P := fun {b xs} e z => by
    rw [z, tP] at e
    cases e
  have le : Same S.F (hid H1 S.O) := fun b o h => by
    obtain ⟨n, e⟩ := hid_some h
    rw [hid_out n]
    exact s.1 _ _ e fun z => n (z ▸ oP)
  have per : ∀ a, S.H a ≠ none → H1 a ≠ none := fun a h => by
    by_cases z : a = P
    · rw [z]
      exact s.2
    · cases e : S.H a with
      | none => exact absurd e h
      | some o =>
        rw [s.1 _ _ e z]
        simp
  have eqO : ∀ i, isO S.en i → ∀ b ∈ S.fp i, H1 b = S.H b := fun i hi b hb => by
    obtain ⟨q1, q2⟩ := R.os.rg i hi b hb
    cases e : S.H b with
    | none => exact absurd e (R.trk b q1)
    | some o => exact s.1 _ _ e fun z => q2.tbl ps (z ▸ tP)
  refine ⟨⟨R.len, fun b o h m => s.1 _ _ (R.keep b o h m) (fun z => m (z ▸ mP)), R.sup, R.subM, R.new, fun a h => per a (R.trk a h), fun i d e => ?_, fun i ds e => ?_, R.ow, R.mb, R.inj, hT, R.tM, R.os.keep (fun i x e _ _ _ => e) (fun _ _ => rfl) (fun _ _ => ⟨rfl, rfl⟩) (fun i hi b hb => ⟨(R.os.rg i hi b hb).1, eqO i hi b hb⟩) le (fun i j hi hj => R.os.dL i j hi hj)⟩, ⟨le, per, fun i h => ⟨h, rfl⟩, fun i h => ⟨h, rfl, fun b hb => .inl hb⟩, fun a h _ n _ => ⟨h, ?_⟩⟩⟩
  · obtain ⟨v, h1, h2⟩ := R.fr i d e
    exact ⟨v, h1, h2.mono le⟩
  · obtain ⟨h1, h2, xs, h3, h4⟩ := R.li i ds e
    exact ⟨h1, h2, xs, s.1 _ _ h3 (nl h3), h4.mono le⟩
  · by_cases z : a = P
    · exact .inr ⟨ps, by rw [z]; exact tP⟩
    · cases e : S.H a with
      | none => exact absurd e (R.trk a h)
      | some o => exact .inl ((s.1 _ _ e z).trans e.symm)
section
variable {X : Cx} {W : WX} {e : Expr} {es : List Expr} {is : Exs} {pos p p1 p2 lpos : Pos} {x y : Str} {n k : Nat} {c P : Addr} {params : Arguments} {scope : Scope} {η : Exn → Ou D} {φ : List D → Ou Sl}
end
end VS

/-! The law's end where its def makes lambdas: the table of its code object. -/
namespace VS
open PySem PySem.Spec PyProof.Rows L2 LamX
theorem lawAt {l : PySem.W.OpenLaw} {w : World} {K : PySem.W.Frag} {k : Nat} {mg : Str → Option Value} {fa c P : Addr} {h : Heap} {fd : FuncData} {oc e : Value} {od dd : Option Addr} {sl sl' : Array (Option Value)} {vs : Array Value} {q : Str}
    (own : OwnTab K fa h) (X : K.In h) (lk : K.lookup fa = some ⟨oc, od, .func fd, sl⟩) (ecd : fd.code = .ref c) (lc : K.lookup c = some ⟨e, dd, .fields vs, sl'⟩) (hv : vs[11]? = some (.ref P)) (nP : K.lookup P = none) (hc : PySem.W.codeHdIn K c P = true)
    (hb : ∀ (s : Shared) (u : Value), BindsTo s fd ⟨[u], []⟩ [("_law_script", u)])
    (hF : ∀ base : Heap, K.In base → base.Ns mainGlobals mg → TabB base mg c P → FnOk l.prog w K mg base (L2.CX l.prog w) k fa fd ["_law_script"] (spLawT K [(P, q)])) : LawAtS l w K (L2.CX l.prog w) k 63 "_law_script" mg fa h := by
  refine ⟨fd, [(c, P)], spLawT K [(P, q)], ?_, ?_, ?_, hb, fun H a ns hl _ hT hS => ⟨a, ns, rfl, hS, hl, ?_, fun _ => rfl⟩, fun base KX G TB => hF base KX G (TB _ List.mem_cons_self)⟩
  · intro p hp
    rw [List.mem_singleton.mp hp]
    exact own c P _ _ _ _ _ _ lk rfl ecd lc hv
  · intro p hp
    rw [List.mem_singleton.mp hp]
    exact nP
  · intro p hp
    rw [List.mem_singleton.mp hp]
    exact PySem.W.codeHd_of_K X hc
  · intro p hp
    rw [List.mem_singleton.mp hp]
    exact .nil (hT _ List.mem_cons_self)
theorem ok_lawC [kf : KF] {P : Program} {w : World} {K : PySem.W.Frag} {mg : Str → Option Value} {base : Heap} {st st0 : Stmt} {rest : List Stmt} {f c : Addr} {oc kV doc pm ct : Value} {od an : Option Addr} {osl : Array (Option Value)} {N : List Str} {k m : Nat} {b : Sxs} {z : Int} {E' : XK → L2.St → XK}
    (lk : K.lookup f = some ⟨oc, od, .func (PySem.W.fnOf "law" "law" (defArgs st) (defBody st) (defScope st) .none kV doc pm an (.ref c) ct), osl⟩) (hcd : PySem.W.codeIn K (.ref c) "law" = true) (S : FnScope N ["_law_script"] (defScope st)) (hN : N.length = m + 2) (hb : defBody st = st0 :: rest) (hz : okSeed z)
    (h0 : ∀ (A : Around) (outer : List Env) (s : Shared) (H : Hp) (E : XK), Room k (A.deeper (envOfC "law" (defScope st) s.heap.objs.size f (.ref c))) →
      PS (cxOf (L2.CX P w) P w K mg base N "law" (defScope st) f (.ref c) A outer s H E) st0 (tAsg (tCallSD (spRand K) [] (E' E) (tCons (tVar 0) (tCons (tC (.int z)) tNil))) (gName 1)))
    (h1 : ∀ (n : Nat) (A : Around) (outer : List Env) (s : Shared) (H : Hp) (E : XK), Room k (A.deeper (envOfC "law" (defScope st) s.heap.objs.size f (.ref c))) →
      DSs (cxOf (L2.CX P w) P w K mg base N "law" (defScope st) f (.ref c) A outer s H E) E n rest b)
    (h2 : ∀ ns : List Int, ns.length ≤ 63 → ∃ n en', execs n b (lawEn m ns z) = .ok (.rt (.fr (.bool true)) en')) : FnOk P w K mg base (L2.CX P w) (k + 1) f (PySem.W.fnOf "law" "law" (defArgs st) (defBody st) (defScope st) .none kV doc pm an (.ref c) ct) ["_law_script"] (spLawT K kf.T) := by
  refine fn_of lk hcd S (fun vs H Q E h => ?_) (fun A outer s H vs Q E hr h => ?_)
  · obtain ⟨a, ns, rfl, _⟩ := h
    rfl
  · obtain ⟨a, ns, rfl, hS, hl, hT, hq⟩ := h
    obtain ⟨n, en', h2⟩ := h2 ns hl
    refine ⟨_, hb ▸ pss_cons (h0 A outer s H E hr) (h1 n A outer s H E hr), ?_⟩
    have h3 : L2.start N [.ref a] = some (.ref a) :: none :: List.replicate m none := by
      unfold L2.start
      rw [hN]
      rfl
    rw [h3]
    show tCallSD (spRand K) [] (E' E) (tCons (tVar 0) (tCons (tC (.int z)) tNil)) _ _ _
    refine ⟨_, rfl, ?_⟩
    refine ⟨a, ns, z, rfl, hS, hl, hz, fun p H' s' hp hx => ?_⟩
    exact law_start (tabs_same hT s') hx h2 hq
theorem walkT {l : PySem.W.OpenLaw} {q : Program} {loose : List Str} {XP : (Str → Option Value) → Heap → Prop} {YP : World → Heap → Prop} {d : DefRec} {K : Params → PySem.W.Frag} (k : Nat) (hk : Room k callerA) (hn : l.most = some 63) (hdf : d.params.defaults = []) (hrec : ((recsOf q).any fun e => e.name == d.name) = true)
    (hY : ∀ (w : World) (h : Heap), YP w h → (K w.params).In h)
    (F : ∀ (w : World) (mg : Str → Option Value) (fa : Addr) (h : Heap), (K w.params).In h → h.Ns mainGlobals mg → mg d.name = some (.ref fa) → OwnTab (K w.params) fa h → LawAtS l w (K w.params) (L2.CX l.prog w) k 63 "_law_script" mg fa h) :
    PySem.W.WalkO q loose XP YP l.row.toRowW d [] (fun f vs => PySem.call f vs) :=
  LamX.walk_ofOwn (n := 63) (k := k) (CX := fun w => L2.CX l.prog w) hn (by decide) hdf hk hrec hY (fun w mg fa h _ X G hm o => F w mg fa h X G hm o) fun _ _ _ _ _ ⟨_, _, _, _, _, _, _, _, _, _, _, _, z⟩ => z
end VS

/-! Objects: fields read and written. -/
namespace VS
open PySem PySem.Spec PyProof.Rows L2
/-- a class's facts -/
structure ClsF (K : PySem.W.Frag) (c : ClsI) : Prop where
  cl : Cls K c.A
  na : ∀ (j : Nat) f kd, c.fs[j]? = some (f, kd) → NoAttr K c.A f
  nd : (c.fs.map Prod.fst).Nodup
  len : c.fs.length ≤ 100
theorem zip_none : ∀ {ns : List Str} {vs : List V} {f : Str}, f ∉ ns → (ns.zip vs).lookup f = none
  | [], _, _, _ => by simp
  | _ :: _, [], _, _ => by simp
  | n :: ns, u :: vs, f, h => by
    have ne : f ≠ n := fun e => h (e ▸ List.mem_cons_self ..)
    have hb : (f == n) = false := beq_eq_false_iff_ne.mpr ne
    rw [List.zip_cons_cons, List.lookup, hb]
    exact zip_none fun q => h (List.mem_cons_of_mem _ q)
theorem zip_put : ∀ {ns : List Str} {vs : List V} {j : Nat} {f : Str} {v : V}, ns.Nodup → ns[j]? = some f → j < vs.length → putF f v (ns.zip vs) = ns.zip (vs.set j v)
  | [], _, _, _, _, _, h, _ => by simp at h
  | _ :: _, [], _, _, _, _, _, h => by simp at h
  | n :: ns, u :: vs, 0, f, v, nd, h1, h2 => by
    have e1 : n = f := by simpa using h1
    subst e1
    simp [putF]
  | n :: ns, u :: vs, j + 1, f, v, nd, h1, h2 => by
    have h1 : ns[j]? = some f := by simpa using h1
    have ne : n ≠ f := fun e => (List.nodup_cons.mp nd).1 (e ▸ List.mem_of_getElem? h1)
    rw [List.zip_cons_cons, putF, if_neg ne, List.set_cons_succ, List.zip_cons_cons, zip_put (List.nodup_cons.mp nd).2 h1 (by simpa using h2)]
theorem zip_snoc : ∀ {ns : List Str} {vs : List V} {f : Str} {v : V}, ns.Nodup → ns[vs.length]? = some f → putF f v (ns.zip vs) = ns.zip (vs ++ [v])
  | [], _, _, _, _, h => by simp at h
  | n :: ns, [], f, v, nd, h1 => by
    have e1 : n = f := by simpa using h1
    subst e1
    simp [putF]
  | n :: ns, u :: vs, f, v, nd, h1 => by
    have h1 : ns[vs.length]? = some f := by simpa using h1
    have ne : n ≠ f := fun e => (List.nodup_cons.mp nd).1 (e ▸ List.mem_of_getElem? h1)
    rw [List.zip_cons_cons, putF, if_neg ne, List.cons_append, List.zip_cons_cons, zip_snoc (List.nodup_cons.mp nd).2 h1]
section
variable {K : PySem.W.Frag} {H F : Hp}
theorem FRK.len : ∀ {ks : List Kd} {vs : List V} {ds : List D} {ps : List Addr}, FRK K H F ks vs ds ps → vs.length = ds.length
  | _, _, _, _, .nil => rfl
  | _, _, _, _, .val _ r => congrArg (· + 1) r.len
  | _, _, _, _, .lst _ _ _ r => congrArg (· + 1) r.len
theorem FRK.set {v : V} {d : D} (h : RpK K F v d) : ∀ {ks : List Kd} {vs : List V} {ds : List D} {ps : List Addr} {j : Nat}, FRK K H F ks vs ds ps → ks[j]? = some .val → FRK K H F ks (vs.set j v) (ds.set j d) ps
  | _, _, _, _, _, .nil, _ => .nil
  | _, _, _, _, 0, .val _ r, _ => .val h r
  | _, _, _, _, j + 1, .val q r, e => .val q (r.set h (by simpa using e))
  | _, _, _, _, 0, .lst _ _ _ r, e => by simp at e
  | _, _, _, _, j + 1, .lst a b c r, e => .lst a b c (r.set h (by simpa using e))
theorem FRK.snoc {v : V} {d : D} (h : RpK K F v d) : ∀ {ks : List Kd} {vs : List V} {ds : List D} {ps : List Addr}, FRK K H F ks vs ds ps → ks[vs.length]? = some .val → FRK K H F ks (vs ++ [v]) (ds ++ [d]) ps
  | [], _, _, _, .nil, e => by simp at e
  | k :: ks, _, _, _, .nil, e => by
    have e : k = .val := by simpa using e
    subst e
    exact .val h .nil
  | _, _, _, _, .val q r, e => .val q (r.snoc h (by simpa using e))
  | _, _, _, _, .lst a b c r, e => .lst a b c (r.snoc h (by simpa using e))
theorem FRK.snocL {p : Addr} {xs : List V} {es : List D} (hp : H p = some (.lst xs)) (h : RpAK K F xs es) : ∀ {ks : List Kd} {vs : List V} {ds : List D} {ps : List Addr}, FRK K H F ks vs ds ps → p ∉ ps → ks[vs.length]? = some .lst → FRK K H F ks (vs ++ [.ref p]) (ds ++ [.list es]) (ps ++ [p])
  | [], _, _, _, .nil, _, e => by simp at e
  | k :: ks, _, _, _, .nil, _, e => by
    have e : k = .lst := by simpa using e
    subst e
    exact .lst hp h (by simp) .nil
  | _, _, _, _, .val q r, n, e => .val q (r.snocL hp h n (by simpa using e))
  | _, _, _, _, .lst a b c r, n, e => .lst a b (fun z => by
      rcases List.mem_append.mp z with z | z
      · exact c z
      · exact n (by rw [← List.mem_singleton.mp z]; exact List.mem_cons_self ..)) (r.snocL hp h (fun z => n (List.mem_cons_of_mem _ z)) (by simpa using e))
theorem FRK.setL {p : Addr} {xs : List V} {es : List D} (hp : H p = some (.lst xs)) (h : RpAK K F xs es) : ∀ {ks : List Kd} {vs : List V} {ds : List D} {ps : List Addr} {j : Nat}, FRK K H F ks vs ds ps → p ∉ ps → ks[j]? = some .lst → ∃ ps', FRK K H F ks (vs.set j (.ref p)) (ds.set j (.list es)) ps' ∧ ∀ q ∈ ps', q = p ∨ q ∈ ps
  | _, _, _, _, _, .nil, _, _ => ⟨[], .nil, fun q h => by cases h⟩
  | _, _, _, _, 0, .val _ r, _, e => by simp at e
  | _, _, _, _, j + 1, .val q r, n, e => by
    obtain ⟨ps', h1, h2⟩ := r.setL hp h n (j := j) (by simpa using e)
    exact ⟨ps', .val q h1, h2⟩
  | _, _, _, _, 0, .lst (ps := ps) _ _ c r, n, e => ⟨p :: ps, .lst hp h (fun z => n (List.mem_cons_of_mem _ z)) r, fun q hq => by
      rcases List.mem_cons.mp hq with hq | hq
      · exact .inl hq
      · exact .inr (List.mem_cons_of_mem _ hq)⟩
  | _, _, _, _, j + 1, .lst (p := p0) a b c r, n, e => by
    obtain ⟨ps', h1, h2⟩ := r.setL hp h (fun z => n (List.mem_cons_of_mem _ z)) (j := j) (by simpa using e)
    refine ⟨p0 :: ps', .lst a b (fun z => ?_) h1, fun q hq => ?_⟩
    · rcases h2 _ z with z | z
      · exact n (by rw [← z]; exact List.mem_cons_self ..)
      · exact c z
    · rcases List.mem_cons.mp hq with hq | hq
      · exact .inr (hq ▸ List.mem_cons_self ..)
      · rcases h2 q hq with q' | q'
        · exact .inl q'
        · exact .inr (List.mem_cons_of_mem _ q')
end
variable [kf : KF]
/-- the tables stand where nothing of an object is written -/
theorem tabs_ob {T : List (Addr × Str)} {H H' : Hp} {rg : List Addr} (t : LamX.Tabs T H) (ok : ∀ b ∈ rg, okO (H b)) (s : ∀ b o, H b = some o → b ∉ rg → H' b = some o) : LamX.Tabs T H' := fun p hp => by
  obtain ⟨ps, h1, h2, h3⟩ := t p hp
  refine ⟨ps, s _ _ h1 fun e => (ok _ e).tbl ps h1, h2, fun pos cv hc => ?_⟩
  obtain ⟨c, e1, e2⟩ := h3 pos cv hc
  refine ⟨c, e1, s _ _ e2 fun e => ?_⟩
  have := ok _ e
  rw [e2] at this
  exact this
/-- an object's slot is changed: outside its region nothing; new objects are its own -/
theorem Rel.updB {t : Ent} {S : Sn} {σ : L2.St} (R : Rel t S σ) {i : Nat} {C : Str} {ds ds' : List D} {c : List D → Sl} (hc : c = Sl.ob C ∨ c = Sl.mo C) (hi : S.en[i]? = some (some (c ds))) {H' : Hp} {nw rg : List Addr}
    (s : ∀ b o, S.H b = some o → b ∉ S.fp i → H' b = some o) (hk : ∀ b ∈ S.fp i, okO (H' b)) (hn : ∀ b ∈ nw, S.H b = none ∧ okO (H' b)) (hsub : ∀ b ∈ S.fp i, b ∈ rg)
    (hg : ∀ b ∈ rg, b ∈ S.fp i ∨ b ∈ nw ∨ (b ∈ S.O ∧ okO (S.H b) ∧ t.H0 b = none ∧ b ∉ t.O0 ∧ (∀ j, isL S.en j → S.ad j ≠ b) ∧ ∀ j, isO S.en j → b ∉ S.fp j))
    (hr : ObR H' (hid H' (nw ++ S.O)) C (S.ad i) rg ds') :
    Rel t { S with H := H', en := S.en.set i (some (c ds')), O := nw ++ S.O, fp := fun j => if j = i then rg else S.fp j } σ ∧ Same S.F (hid H' (nw ++ S.O)) ∧
      ((∀ b ∈ rg, b ∈ S.fp i ∨ b ∈ nw) → Le S { S with H := H', en := S.en.set i (some (c ds')), O := nw ++ S.O, fp := fun j => if j = i then rg else S.fp j }) := by
  have lt := lt_of_some hi
  have hi' : obAt S.en i C ds := by rcases hc with hc | hc <;> subst hc <;> first | exact .inl hi | exact .inr hi
  have io : isO S.en i := isO_of hi'
  have rgO := R.os.rg i io
  have le : Same S.F (hid H' (nw ++ S.O)) := fun b o h => by
    obtain ⟨n, e⟩ := hid_some h
    rw [hid_out fun q => by
      rcases List.mem_append.mp q with q | q
      · rw [(hn b q).1] at e; cases e
      · exact n q]
    exact s _ _ e fun q => n (rgO b q).1
  have per : ∀ a, S.H a ≠ none → H' a ≠ none := fun a h => by
    by_cases q : a ∈ S.fp i
    · exact (hk a q).ne
    · cases e : S.H a with
      | none => exact absurd e h
      | some o => rw [s _ _ e q]; simp
  have get : ∀ j x, (S.en.set i (some (c ds')))[j]? = some (some x) → (i = j ∧ x = c ds') ∨ (i ≠ j ∧ S.en[j]? = some (some x)) := fun j x e => by
    rw [en_set lt] at e
    split at e
    · rename_i q
      exact .inl ⟨q, by simpa using e.symm⟩
    · rename_i q
      exact .inr ⟨q, e⟩
  have nob : ∀ x, (∀ C ds, x ≠ .ob C ds) → (∀ C ds, x ≠ .mo C ds) → c ds' ≠ x := fun x h1 h2 e => by
    rcases hc with hc | hc
    · subst hc; exact h1 _ _ e.symm
    · subst hc; exact h2 _ _ e.symm
  have old : ∀ j x, (S.en.set i (some (c ds')))[j]? = some (some x) → (∀ C ds, x ≠ .ob C ds) → (∀ C ds, x ≠ .mo C ds) → i ≠ j ∧ S.en[j]? = some (some x) := fun j x e h1 h2 => by
    rcases get j x e with ⟨_, q⟩ | q
    · exact absurd q.symm (nob x h1 h2)
    · exact q
  have oldL : ∀ j, isL (S.en.set i (some (c ds'))) j → i ≠ j ∧ isL S.en j := by
    rintro j ⟨es, e | e⟩
    · obtain ⟨a, b⟩ := old _ _ e (by simp) (by simp); exact ⟨a, es, .inl b⟩
    · obtain ⟨a, b⟩ := old _ _ e (by simp) (by simp); exact ⟨a, es, .inr b⟩
  have oldO : ∀ j, isO (S.en.set i (some (c ds'))) j → isO S.en j := by
    rintro j ⟨C', es, e | e⟩
    · rcases get _ _ e with ⟨q, _⟩ | ⟨_, e⟩
      · exact q ▸ io
      · exact ⟨C', es, .inl e⟩
    · rcases get _ _ e with ⟨q, _⟩ | ⟨_, e⟩
      · exact q ▸ io
      · exact ⟨C', es, .inr e⟩
  have out : ∀ b, b ∈ rg → b ∉ S.fp i → (b ∈ nw ∧ S.H b = none) ∨ (b ∈ S.O ∧ okO (S.H b) ∧ t.H0 b = none ∧ b ∉ t.O0 ∧ (∀ j, isL S.en j → S.ad j ≠ b) ∧ ∀ j, isO S.en j → b ∉ S.fp j) := fun b hb q => by
    rcases hg b hb with z | z | z
    · exact absurd z q
    · exact .inl ⟨z, (hn b z).1⟩
    · exact .inr z
  have fresh : ∀ b, S.H b = none → b ∉ S.O ∧ b ∉ t.O0 ∧ t.H0 b = none := fun b h => R.fresh h
  have lstay : ∀ (j : Nat) es, (S.en[j]? = some (some (Sl.own es)) ∨ S.en[j]? = some (some (Sl.mb es))) → H' (S.ad j) = S.H (S.ad j) := fun j es e => by
    obtain ⟨_, _, xs, h3, _⟩ := R.li j es e
    rw [h3]
    exact s _ _ h3 fun q => R.os.dL i j io ⟨es, e⟩ q
  have ostay : ∀ j, j ≠ i → isO S.en j → ∀ b ∈ S.fp j, H' b = S.H b := fun j hj ho b hb => by
    have q := (R.os.rg j ho b hb).2
    cases e : S.H b with
    | none => exact absurd e q.ne
    | some o => exact s _ _ e fun z => hj (R.os.dO j i b ho io hb z)
  have ownM : ∀ b o, t.H0 b = some o → b ∉ t.M → b ∉ S.fp i := fun b o h m q => by
    rcases hc with hc | hc
    · subst hc
      have := (R.os.own i C ds hi b q).1
      rw [h] at this
      cases this
    · subst hc
      rcases (R.os.len i C ds hi).2.2 b q with z | ⟨z, _⟩
      · exact m z
      · rw [h] at z
        cases z
  refine ⟨⟨?_, fun b o h m => s _ _ (R.keep b o h m) (ownM b o h m), fun a h => List.mem_append_right _ (R.sup a h), R.subM, fun a h => ?_, fun a h => ?_, fun j d e => ?_, fun j es e => ?_, fun j es e => R.ow j es (old _ _ e (by simp) (by simp)).2, fun j es e => R.mb j es (old _ _ e (by simp) (by simp)).2, fun j l hj hl z => R.inj j l (oldL j hj).2 (oldL l hl).2 z, tabs_ob R.tb (fun b hb => (rgO b hb).2) s, R.tM, ⟨fun j C' es e => ?_, fun j ho b hb => ?_, fun j C' es e b hb => ?_, fun j C' es e => ?_, fun j l ho hl e => ?_, fun j l b ho ho' hb hb' => ?_⟩⟩, le, fun hsm => ⟨le, per, fun j hj => ⟨(oldL j hj).2, rfl⟩, fun j ho => ⟨oldO j ho, rfl, fun b hb => ?_⟩, fun a h hne n m => ⟨List.mem_append_right _ h, ?_⟩⟩⟩
  · show (S.en.set i _).length = _
    rw [List.length_set]; exact R.len
  · rcases List.mem_append.mp h with h | h
    · exact .inr (fresh a (hn a h).1).2.2
    · exact R.new a h
  · rcases List.mem_append.mp h with h | h
    · exact (hn a h).2.ne
    · exact per a (R.trk a h)
  · obtain ⟨v, a, b⟩ := R.fr j d (old _ _ e (by simp) (by simp)).2
    exact ⟨v, a, b.mono le⟩
  · have q : S.en[j]? = some (some (Sl.own es)) ∨ S.en[j]? = some (some (Sl.mb es)) := by
      rcases e with e | e
      · exact .inl (old _ _ e (by simp) (by simp)).2
      · exact .inr (old _ _ e (by simp) (by simp)).2
    obtain ⟨a, b, ys, c1, d1⟩ := R.li j es q
    exact ⟨a, List.mem_append_right _ b, ys, (lstay j es q).trans c1, d1.mono le⟩
  · by_cases q : j = i
    · subst q
      have e2 : C' = C ∧ es = ds' := by
        rcases e with e | e
        · rcases get _ _ e with ⟨_, q⟩ | ⟨q, _⟩
          · rcases hc with hc | hc
            · subst hc; injection q with q1 q2; exact ⟨q1, q2⟩
            · subst hc; cases q
          · exact absurd rfl q
        · rcases get _ _ e with ⟨_, q⟩ | ⟨q, _⟩
          · rcases hc with hc | hc
            · subst hc; cases q
            · subst hc; injection q with q1 q2; exact ⟨q1, q2⟩
          · exact absurd rfl q
      obtain ⟨rfl, rfl⟩ := e2
      refine ⟨(R.os.rep j C' ds hi').1, ?_⟩
      show ObR H' (hid H' (nw ++ S.O)) C' (S.ad j) (if j = j then rg else S.fp j) es
      rw [if_pos rfl]
      exact hr
    · have e' : obAt S.en j C' es := by
        rcases e with e | e
        · rcases get _ _ e with ⟨z, _⟩ | ⟨_, e⟩
          · exact absurd z.symm q
          · exact .inl e
        · rcases get _ _ e with ⟨z, _⟩ | ⟨_, e⟩
          · exact absurd z.symm q
          · exact .inr e
      obtain ⟨a, b⟩ := R.os.rep j C' es e'
      refine ⟨a, ?_⟩
      show ObR H' (hid H' (nw ++ S.O)) C' (S.ad j) (if j = i then rg else S.fp j) es
      rw [if_neg q]
      exact b.keep le (fun b hb o e => (ostay j q (isO_of e') b hb).trans e) fun b hb => hb
  · have hb : b ∈ (if j = i then rg else S.fp j) := hb
    by_cases q : j = i
    · rw [if_pos q] at hb
      by_cases z : b ∈ S.fp i
      · exact ⟨List.mem_append_right _ (rgO b z).1, hk b z⟩
      · rcases out b hb z with ⟨w, _⟩ | w
        · exact ⟨List.mem_append_left _ w, (hn b w).2⟩
        · refine ⟨List.mem_append_right _ w.1, ?_⟩
          have ok := w.2.1
          cases e : S.H b with
          | none => exact absurd e ok.ne
          | some o =>
            show okO (H' b)
            rw [s _ _ e z, ← e]
            exact ok
    · rw [if_neg q] at hb
      refine ⟨List.mem_append_right _ (R.os.rg j (oldO j ho) b hb).1, ?_⟩
      show okO (H' b)
      rw [ostay j q (oldO j ho) b hb]
      exact (R.os.rg j (oldO j ho) b hb).2
  · replace hb : b ∈ (if j = i then rg else S.fp j) := hb
    by_cases q : j = i
    · rw [if_pos q] at hb
      subst q
      have hco : c = Sl.ob C := by
        rcases hc with hc | hc
        · exact hc
        · subst hc
          rcases get _ _ e with ⟨_, z⟩ | ⟨z, _⟩
          · cases z
          · exact absurd rfl z
      subst hco
      by_cases z : b ∈ S.fp j
      · exact R.os.own j C ds hi b z
      · rcases out b hb z with ⟨_, w⟩ | w
        · exact ⟨(fresh b w).2.2, (fresh b w).2.1⟩
        · exact ⟨w.2.2.1, w.2.2.2.1⟩
    · rw [if_neg q] at hb
      rcases get _ _ e with ⟨z, _⟩ | ⟨_, e⟩
      · exact absurd z.symm q
      · exact R.os.own j C' es e b hb
  · show _ ∧ (∀ b ∈ t.M, b ∈ (if j = i then rg else S.fp j)) ∧ ∀ b ∈ (if j = i then rg else S.fp j), _
    by_cases q : j = i
    · rw [if_pos q]
      subst q
      rcases get _ _ e with ⟨_, z⟩ | ⟨z, _⟩
      · have hco : c = Sl.mo C := by
          rcases hc with hc | hc
          · subst hc; cases z
          · exact hc
        subst hco
        injection z with z1 z2
        subst z1
        obtain ⟨a, b, d⟩ := R.os.len j C' ds hi
        refine ⟨a, fun x hx => hsub x (b x hx), fun x hx => ?_⟩
        by_cases z : x ∈ S.fp j
        · exact d x z
        · rcases out x hx z with ⟨_, w⟩ | w
          · exact .inr ⟨(fresh x w).2.2, (fresh x w).2.1⟩
          · exact .inr ⟨w.2.2.1, w.2.2.2.1⟩
      · exact absurd rfl z
    · rw [if_neg q]
      rcases get _ _ e with ⟨z, _⟩ | ⟨_, e⟩
      · exact absurd z.symm q
      · exact R.os.len j C' es e
  · obtain ⟨es, hl'⟩ := (oldL l hl).2
    have tl := R.trk _ (R.li l es hl').2.1
    have e : S.ad l ∈ (if j = i then rg else S.fp j) := e
    by_cases q : j = i
    · rw [if_pos q] at e
      by_cases z : S.ad l ∈ S.fp i
      · exact R.os.dL i l io ⟨es, hl'⟩ z
      · rcases out _ e z with ⟨_, w⟩ | w
        · exact tl w
        · exact w.2.2.2.2.1 l ⟨es, hl'⟩ rfl
    · rw [if_neg q] at e
      exact R.os.dL j l (oldO j ho) ⟨es, hl'⟩ e
  · have hb : b ∈ (if j = i then rg else S.fp j) := hb
    have hb' : b ∈ (if l = i then rg else S.fp l) := hb'
    have key : ∀ l, l ≠ i → isO S.en l → b ∈ rg → b ∈ S.fp l → False := fun l hl ho h1 h2 => by
      by_cases z : b ∈ S.fp i
      · exact hl (R.os.dO l i b ho io h2 z)
      · rcases out b h1 z with ⟨_, w⟩ | w
        · exact (R.os.rg l ho b h2).2.ne w
        · exact w.2.2.2.2.2 l ho h2
    by_cases q : j = i
    · by_cases q' : l = i
      · exact q.trans q'.symm
      · rw [if_pos q] at hb
        rw [if_neg q'] at hb'
        exact (key l q' (oldO l ho') hb hb').elim
    · rw [if_neg q] at hb
      by_cases q' : l = i
      · rw [if_pos q'] at hb'
        exact (key j q (oldO j ho) hb' hb).elim
      · rw [if_neg q'] at hb'
        exact R.os.dO j l b (oldO j ho) (oldO l ho') hb hb'
  · replace hb : b ∈ (if j = i then rg else S.fp j) := hb
    by_cases q : j = i
    · rw [if_pos q] at hb
      subst q
      rcases hsm b hb with z | z
      · exact .inl z
      · exact .inr (hn b z).1
    · rw [if_neg q] at hb
      exact .inl hb
  · refine .inl ?_
    show H' a = S.H a
    cases e : S.H a with
    | none => exact absurd e hne
    | some o => exact s _ _ e (m i io)
end VS

/-! Objects: fields in programs; methods. -/
namespace VS
open PySem PySem.Spec PyProof.Rows L2
/-! ### method calls that may let an error out, at the slots -/
section
variable {X : Cx} {CX : CXT} {k : Nat} {f C : Addr} {fd : FuncData} {ps : List Str} {sp : Sp} {E : L2.St → XK} {x m : Str} {p pos apos : Pos} {e o : Expr} {es : List Expr} {ta : TE} {t : L2.TA}
noncomputable def tMethE (C : Addr) (m : Str) (sp : Sp) (E : L2.St → XK) (ta : TE) (t : L2.TA) : TE := fun σ H Q => ta σ H fun x H1 => ∃ a dx fs, x = .ref a ∧ H1 a = some (.ins C dx fs) ∧ fs.lookup m = none ∧
  t σ H1 fun vs H2 => sp (x :: vs) H2 Q (E σ)
theorem pe_methE {pl : Sem Bool} (he : PE X o ta) (c : Cls X.K C) (hm : Meth X.K C m f) (F : FnOk X.prog X.w X.K X.mg X.base CX k f fd ps sp) (hr : Room k X.A) (hb : L2.Binds X.K fd ps []) (hx : ∀ σ, PassesAt CX X σ (E σ)) (ha : PA X (e :: es) t)
    (hst : starEach (e :: es) X.env = (false, eval e X.env) :: starEach es X.env := by rfl) (hpl : (backTo pos (starEach es X.env)).any (·.1) = false := by rfl)
    (ht : eval (.Call (.Attribute o m apos) (e :: es) [] pos) X.env = (do
      let ov ← eval o X.env
      standAt apos.atName
      let (f, first) ← holding [ov] (getMethod ov m pl)
      callWith pos f first (backTo pos (starEach (e :: es) X.env)) (backToKw pos (keywordEach [] X.env))) := by rfl) :
    PE X (.Call (.Attribute o m apos) (e :: es) [] pos) (tMethE C m sp E ta t) := by
  refine ⟨fun pins s σ H Q I h => ?_⟩
  refine PySem.W.methodCall_KW (pl := pl) (thn (he.run pins s σ H _ I h) fun u s1 ⟨x, H1, I1, rx, a, dx, fs, ex, ea, l, q⟩ => ?_) ht
  subst ex
  obtain rfl : u = Value.ref a := rx
  refine getmeth_ok I1 ea c hm l ?_
  refine PySem.W.callWith_K (first := [.ref a]) (h₀ := X.base) I.ok.mod.kin hm.kp (thn (ha.run pos pins s1 σ H1 _ I1 q) fun us s2 ⟨vs, H2, I2, r, q2⟩ => ⟨I2.kIn, ?_⟩) hst hpl
  exact run_fnS (us := .ref a :: us) (vs := .ref a :: vs) F hr hb (hx σ) I2 (.cons rfl r) q2
noncomputable def tMakeE (C : Addr) (sp : Sp) (E : L2.St → XK) (t : L2.TA) : TE := fun σ H Q => t σ H fun vs H1 => ∀ x dx, H1 x = none → H1 dx = none → dx ≠ x →
  sp (.ref x :: vs) (upd (upd H1 dx (.own x)) x (.ins C dx [])) (fun v H2 => v = .non ∧ Q (.ref x) H2) (E σ)
theorem run_makeE {pins : List (Addr × Obj)} {σ : L2.St} {H : Hp} {s : Shared} {Q : VK} {us : List Value} {vs : List V} (M : Mk X.K C f) (F : FnOk X.prog X.w X.K X.mg X.base CX k f fd ps sp) (hr : Room (k + 1) X.A) (hb : L2.Binds X.K fd ps [])
    (hx : PassesAt CX X σ (E σ)) (I : Inv X pins σ H s) (r : Vals vs us)
    (h : ∀ x dx, H x = none → H dx = none → dx ≠ x → sp (.ref x :: vs) (upd (upd H dx (.own x)) x (.ins C dx [])) (fun v H2 => v = .non ∧ Q (.ref x) H2) (E σ)) :
    wpAny (model X.prog X.w) X.A (call (.ref C) us) (EP X pins σ Q) X.xe s := by
  have hq := h (s.heap.objs.size + 1) s.heap.objs.size (I.hok.fresh (Nat.le_succ _)) (I.hok.fresh (Nat.le_refl _)) (Nat.ne_of_lt (Nat.lt_succ_self _))
  have I2 := Inv.made (C := C) I
  have r2 : Vals (V.ref (s.heap.objs.size + 1) :: vs) (Value.ref (s.heap.objs.size + 1) :: us) := .cons rfl r
  have hl : (Value.ref (s.heap.objs.size + 1) :: us ++ []).length = ps.length := by
    have e := r2.length
    rw [F.len _ _ _ _ hq] at e
    rw [List.append_nil]
    exact e.symm
  have hb' := hb _ (Value.ref (s.heap.objs.size + 1) :: us) I2.kIn hl
  rw [List.append_nil] at hb'
  refine wpAny_call (make_map (f := f) I.kIn M.makes M.init (beq_iff_eq.mp M.fn) (codeAny_mono (F.run _ X.stack _ _ ⟨Value.ref (s.heap.objs.size + 1) :: us, []⟩ (Value.ref (s.heap.objs.size + 1) :: us) _ _ (E σ) (hr.make C us [])
    (I2.env0.make C us []) hb' r2 hq) fun r s' hq' => ?_))
  cases r with
  | error e => exact hx pins _ _ e s' I2 hq'
  | ok fl =>
    cases fl with
    | ret u =>
      obtain ⟨v, H', I3, rv, ev, q3⟩ := I2.after hq'
      subst ev
      exact ⟨rv, ⟨V.ref (s.heap.objs.size + 1), H', I3, rfl, q3⟩⟩
    | next => exact False.elim hq'
    | brk => exact False.elim hq'
    | cont => exact False.elim hq'
theorem pe_makeE (M : Mk X.K C f) (F : FnOk X.prog X.w X.K X.mg X.base CX k f fd ps sp) (hr : Room (k + 1) X.A) (hg : Gl X x) (hm : X.mg x = some (.ref C)) (hb : L2.Binds X.K fd ps []) (hx : ∀ σ, PassesAt CX X σ (E σ))
    (ha : PA X (e :: es) t) (hdb : (x == ("__debug__" : Str)) = false := by decide) (he : starEach (e :: es) X.env = (false, eval e X.env) :: starEach es X.env := by rfl) (hpl : (backTo pos (starEach es X.env)).any (·.1) = false := by rfl) :
    PE X (.Call (.Name x p) (e :: es) [] pos) (tMakeE C sp E t) := by
  refine ⟨fun pins s σ H Q I h => ?_⟩
  refine wpAny_Call_Name_kw (ld_glob I hg hm ?_ hdb)
  refine PySem.W.callWith_K (h₀ := X.base) I.ok.mod.kin M.kp (thn (ha.run pos pins s σ H _ I h) fun us s1 ⟨vs, H1, I1, r, q⟩ => ⟨I1.kIn, ?_⟩) he hpl
  exact run_makeE M F hr hb (hx σ) I1 r q
end
variable [kf : KF]
/-! ### the promise of a method, of a def that is lent an object -/
noncomputable def ownA (v : V) (r : Sl) : List Addr := match r, v with
  | .own _, .ref p => [p]
  | _, _ => []
noncomputable def RetO (H : Hp) (nw O : List Addr) (v : V) (H' : Hp) : Sl → Prop
  | .fr d => Rp (hid H' (nw ++ O)) v d
  | .own ds => ∃ p xs, v = .ref p ∧ H p = none ∧ p ∉ nw ∧ H' p = some (.lst xs) ∧ RpA (hid H' (p :: (nw ++ O))) xs ds
  | _ => False
noncomputable def spO (mg : Str → Option Value) (C : Str) (n : Nat) (φ : List D → List D → Ou (Sl × List D)) : Sp := fun vs H Q E =>
  ∃ O a rg ws fs ds, vs = .ref a :: ws ∧ (∀ b ∈ O, H b ≠ none) ∧ (∀ b ∈ rg, b ∈ O ∧ okO (H b)) ∧ ObR H (hid H O) C a rg fs ∧ RpA (hid H O) ws ds ∧ ds.length = n ∧
    (φ fs ds).post
      (fun p => ∀ v H' nw rg', (∀ b o, H b = some o → b ∉ rg → H' b = some o) → (∀ b ∈ rg, okO (H' b) ∧ b ∈ rg') → (∀ b ∈ nw, H b = none ∧ okO (H' b)) → (∀ b ∈ rg', b ∈ rg ∨ b ∈ nw) → ObR H' (hid H' (ownA v p.1 ++ (nw ++ O))) C a rg' p.2 → RetO H nw O v H' p.1 → Q v H')
      (fun e => ∀ cls d H', (∀ b o, H b = some o → b ∉ rg → H' b = some o) → ExR mg e cls d H' →
        (∀ fs', e.ms = some fs' → ∃ nw rg', (∀ b ∈ rg, okO (H' b) ∧ b ∈ rg') ∧ (∀ b ∈ nw, H b = none ∧ okO (H' b)) ∧ (∀ b ∈ rg', b ∈ rg ∨ b ∈ nw) ∧ ObR H' (hid H' (nw ++ O)) C a rg' fs') → E cls d H')
/-- a method -/
structure FnO (P : Program) (w : World) (K : PySem.W.Frag) (mg : Str → Option Value) (base : Heap) (k : Nat) (C m : Str) (n : Nat) (φ : List D → List D → Ou (Sl × List D)) : Prop where
  ex : ∃ c f fd ps, kf.C C = some c ∧ ClsF K c ∧ Meth K c.A m f ∧ m ∉ c.fs.map Prod.fst ∧ FnOk P w K mg base (L2.CX P w) k f fd ps (spO mg C n φ) ∧ L2.Binds K fd ps []
/-- a class: its instances are made -/
structure FnI (P : Program) (w : World) (K : PySem.W.Frag) (mg : Str → Option Value) (base : Heap) (k : Nat) (x C : Str) (n : Nat) (φ : List D → List D → Ou (Sl × List D)) : Prop where
  ex : ∃ c f fd ps, kf.C C = some c ∧ mg x = some (.ref c.A) ∧ Mk K c.A f ∧ FnOk P w K mg base (L2.CX P w) k f fd ps (spO mg C n φ) ∧ L2.Binds K fd ps []
section
variable {P : Program} {w : World} {K : PySem.W.Frag} {mg : Str → Option Value} {base : Heap} {x qual : Str} {st : Stmt} {f : Addr} {fd : FuncData} {N : List Str} {k : Nat} {b : Sxs}
theorem okO_of (hT : kf.T = []) {C y : Str} {qs : List Str} {φ : List D → List D → Ou (Sl × List D)} (F : Fun K x qual st f fd) (S : FnScope N (y :: qs) (defScope st))
    (body : Bd P w K mg base N qual st k b) (hφ : ∀ fs ds, ds.length = qs.length → φ fs ds ≠ .no → ∃ n, runO n b (N.length - (qs.length + 1)) C fs ds = φ fs ds) : FnOk P w K mg base (L2.CX P w) (k + 1) f fd (y :: qs) (spO mg C qs.length φ) := by
  refine F.okX S (fun vs H Q E h => ?_) (fun cdv A outer s H vs Q E hr h => ?_)
  · obtain ⟨O, a, rg, ws, fs, ds, rfl, _, _, _, h2, h3, _⟩ := h
    rw [List.length_cons, List.length_cons, h2.length, h3]
  · obtain ⟨O, a, rg, ws, fs, ds, rfl, h1, hrg, hob, h2, h3, h4⟩ := h
    have hno : φ fs ds ≠ .no := fun z => by rw [z] at h4; exact h4
    obtain ⟨n, hn⟩ := hφ fs ds h3 hno
    have hwl : ws.length = qs.length := h2.length.trans h3
    have get : ∀ i s, (some (Sl.mo C fs) :: (ds.map (fun d => some (.fr d)) ++ List.replicate (N.length - (qs.length + 1)) none))[i]? = some (some s) → (i = 0 ∧ s = .mo C fs) ∨ ∃ j d, i = j + 1 ∧ s = .fr d ∧ ds[j]? = some d := by
      intro i s e
      cases i with
      | zero => exact .inl ⟨rfl, by simpa using e.symm⟩
      | succ j =>
        rw [List.getElem?_cons_succ] at e
        obtain ⟨d, q, hd⟩ := get_frs e
        exact .inr ⟨j, d, rfl, q, hd⟩
    have noL : ∀ i, ¬ isL (some (Sl.mo C fs) :: (ds.map (fun d => some (.fr d)) ++ List.replicate (N.length - (qs.length + 1)) none)) i := by
      rintro i ⟨es, e | e⟩
      · rcases get _ _ e with ⟨_, q⟩ | ⟨j, d', e1, q, hd⟩ <;> cases q
      · rcases get _ _ e with ⟨_, q⟩ | ⟨j, d', e1, q, hd⟩ <;> cases q
    have onO : ∀ i C' es, obAt (some (Sl.mo C fs) :: (ds.map (fun d => some (.fr d)) ++ List.replicate (N.length - (qs.length + 1)) none)) i C' es → i = 0 ∧ C' = C ∧ es = fs := by
      rintro i C' es (e | e)
      · rcases get _ _ e with ⟨_, q⟩ | ⟨j, d', e1, q, hd⟩ <;> cases q
      · rcases get _ _ e with ⟨i0, q⟩ | ⟨j, d', e1, q, hd⟩
        · cases q; exact ⟨i0, rfl, rfl⟩
        · cases q
    have st0 : (L2.start N (.ref a :: ws))[0]? = some (some (V.ref a)) := rfl
    refine ⟨_, body n f cdv A outer s H E hr, ⟨H, rg, O, some (C, a)⟩, ⟨H, some (.mo C fs) :: (ds.map (fun d => some (.fr d)) ++ List.replicate (N.length - (qs.length + 1)) none), O, fun _ => a, fun _ => rg⟩, rfl, ?_, ?_⟩
    · refine ⟨?_, fun b o h _ => h, fun _ h => h, fun a h => (hrg a h).1, fun a h => .inl h, h1, fun i d e => ?_, fun i es e => absurd ⟨es, e⟩ (noL i), fun i es e => absurd ⟨es, .inl e⟩ (noL i), fun i es e => absurd ⟨es, .inr e⟩ (noL i), fun i j hi => absurd hi (noL i), fun p hp => (by rw [hT] at hp; cases hp), fun p hp => (by rw [hT] at hp; cases hp), ⟨fun i C' es e => ?_, fun i ho b hb => hrg b hb, fun i C' es e => ?_, fun i C' es e => ?_, fun i j _ hj => absurd hj (noL j), fun i j b ⟨C1, e1, hi⟩ ⟨C2, e2, hj⟩ _ _ => (onO _ _ _ hi).1.trans (onO _ _ _ hj).1.symm⟩⟩
      · show (some (Sl.mo C fs) :: (ds.map (fun d => some (.fr d)) ++ List.replicate (N.length - (qs.length + 1)) none)).length = (L2.start N (.ref a :: ws)).length
        have := ps_le S.pre
        rw [List.length_cons] at this
        rw [start_len (by rw [List.length_cons]; omega), List.length_cons, List.length_append, List.length_map, List.length_replicate]
        omega
      · rcases get _ _ e with ⟨_, q⟩ | ⟨j, d', e1, q, hd⟩
        · cases q
        · cases q
          subst e1
          obtain ⟨v, hv, hr⟩ := h2.get hd
          refine ⟨v, ?_, hr⟩
          unfold L2.start
          rw [List.map_cons, List.cons_append, List.getElem?_cons_succ, List.getElem?_append_left (by rw [List.length_map]; exact lt_of_some hv), List.getElem?_map, hv]
          rfl
      · obtain ⟨rfl, rfl, rfl⟩ := onO _ _ _ e
        exact ⟨st0, hob⟩
      · rcases get _ _ e with ⟨_, q⟩ | ⟨j, d', e1, q, hd⟩ <;> cases q
      · obtain ⟨rfl, rfl, rfl⟩ := onO _ _ _ (.inr e)
        exact ⟨rfl, fun b hb => hb, fun b hb => .inl hb⟩
    · show (execs n b (some (.mo C fs) :: (ds.map (fun d => some (.fr d)) ++ List.replicate (N.length - (qs.length + 1)) none))).post _ _
      unfold runO at hn
      have fin : ∀ {S' : Sn} {σ' : L2.St} {v : V} {r : Sl} {fs' : List D} {en : En}, S'.en = en → mo0 en = .ok fs' → Rel ⟨H, rg, O, some (C, a)⟩ S' σ' → VR ⟨H, rg, O, some (C, a)⟩ S' v r → noOb r = .ok r → φ fs ds = .ok (r, fs') → Q v S'.H := by
        intro S' σ' v r fs' en e he R' hv hnr hφ'
        have h0 : ∃ C', S'.en[0]? = some (some (Sl.mo C' fs')) := by
          rw [e]
          unfold mo0 at he
          split at he
          · have := Ou.ok.inj he
            subst this
            exact ⟨_, rfl⟩
          · cases he
        obtain ⟨C', h0⟩ := h0
        obtain ⟨q1, q2, q3⟩ := R'.os.len 0 C' fs' h0
        have q1 : some (C, a) = some (C', S'.ad 0) := q1
        injection q1 with q1
        injection q1 with qa qb
        subst qa
        have io : isO S'.en 0 := isO_of (.inr h0)
        obtain ⟨_, ro⟩ := R'.os.rep 0 C fs' (.inr h0)
        rw [← qb] at ro
        rw [hφ'] at h4
        have subO : ∀ b ∈ (S'.fp 0).filter (fun b => (H b).isNone) ++ O, b ∈ S'.O := fun b hb => by
          rcases List.mem_append.mp hb with hb | hb
          · exact (R'.os.rg 0 io b (List.mem_filter.mp hb).1).1
          · exact R'.sup b hb
        have key : ∀ b ∈ S'.fp 0, b ∈ rg ∨ b ∈ (S'.fp 0).filter (fun b => (H b).isNone) := fun b hb => by
          rcases q3 b hb with q | ⟨q, _⟩
          · exact .inl q
          · exact .inr (List.mem_filter.mpr ⟨hb, by rw [show H b = none from q]; rfl⟩)
        refine h4 v S'.H ((S'.fp 0).filter fun b => (H b).isNone) (S'.fp 0) (fun b o h nb => R'.keep b o h nb) (fun b hb => ⟨(R'.os.rg 0 io b (q2 b hb)).2, q2 b hb⟩) (fun b hb => ?_) key (ro.keep (hid_sub fun b hb => ?_) (fun b hb o e => e) fun b hb => hb) ?_
        · obtain ⟨z1, z2⟩ := List.mem_filter.mp hb
          exact ⟨Option.isNone_iff_eq_none.mp z2, (R'.os.rg 0 io b z1).2⟩
        · rcases List.mem_append.mp hb with hb | hb
          · cases r with
            | own es =>
              obtain ⟨p, xs, e', hp, _⟩ := hv
              subst e'
              rw [List.mem_singleton.mp hb]
              exact hp
            | fr d => cases v <;> cases hb
            | mb es => exact hv.elim
            | mo C es => exact hv.elim
            | ob C es => cases hnr
          · exact subO b hb
        · cases r with
          | fr d => exact RpK.mono (hid_sub subO) hv
          | mb es => exact hv.elim
          | mo C es => exact hv.elim
          | ob C es => cases hnr
          | own es =>
            obtain ⟨p, xs, e', hp, hp0, hO, hx, hr, hn1, hn2⟩ := hv
            refine ⟨p, xs, e', hp0, fun z => hn2 0 io (List.mem_filter.mp z).1, hx, hr.mono (hid_sub fun b hb => ?_)⟩
            rcases List.mem_cons.mp hb with hb | hb
            · rw [hb]; exact hp
            · exact subO b hb
      cases q : execs n b (some (.mo C fs) :: (ds.map (fun d => some (.fr d)) ++ List.replicate (N.length - (qs.length + 1)) none)) with
      | no => rw [q] at hn; exact absurd hn.symm hno
      | ex e =>
        rw [q] at hn
        have hn : Ou.ex e = φ fs ds := hn
        rw [← hn] at h4
        refine fun cls d H' keep r ho => h4 cls d H' keep r fun fs' hm => ?_
        obtain ⟨rg', g1, g2, g3⟩ := ho C a fs' rfl hm
        refine ⟨rg'.filter fun b => (H b).isNone, rg', fun b hb => ⟨(g3 b (g2 b hb)).1, g2 b hb⟩, fun b hb => ?_, fun b hb => ?_, g1.keep (hid_sub fun b hb => ?_) (fun b hb o e => e) fun b hb => hb⟩
        · obtain ⟨z1, z2⟩ := List.mem_filter.mp hb
          exact ⟨Option.isNone_iff_eq_none.mp z2, (g3 b z1).1⟩
        · rcases (g3 b hb).2 with z | ⟨z, _⟩
          · exact .inl z
          · exact .inr (List.mem_filter.mpr ⟨hb, by rw [show H b = none from z]; rfl⟩)
        · rcases List.mem_append.mp hb with hb | hb
          · exact List.mem_append_left _ (List.mem_filter.mp hb).1
          · exact List.mem_append_right _ hb
      | ok fl =>
        rw [q] at hn
        cases fl with
        | nx en =>
          have hn : (mo0 en >>= fun fs' => Ou.ok (Sl.fr PyData.none, fs')) = φ fs ds := hn
          intro σ' S' e R' s'
          cases z : mo0 en with
          | no => rw [z] at hn; exact absurd hn.symm hno
          | ex e => unfold mo0 at z; split at z <;> cases z
          | ok fs' =>
            rw [z] at hn
            exact fin e z R' (r := .fr .none) RpK.non rfl hn.symm
        | rt r en =>
          have hn : (mo0 en >>= fun fs' => noOb r >>= fun r => Ou.ok (r, fs')) = φ fs ds := hn
          intro v σ' S' e R' hv
          cases z : mo0 en with
          | no => rw [z] at hn; exact absurd hn.symm hno
          | ex e => unfold mo0 at z; split at z <;> cases z
          | ok fs' =>
            rw [z] at hn
            cases r with
            | fr d => exact fin e z R' hv rfl hn.symm
            | own ds => exact fin e z R' hv rfl hn.symm
            | mb ds => exact hv.elim
            | mo C ds => exact hv.elim
            | ob C ds => exact absurd hn.symm hno
        | bk en => exact absurd hn.symm hno
        | ct en => exact absurd hn.symm hno
end
end VS

/-! Objects: each construct. -/
namespace VS
open PySem PySem.Spec PyProof.Rows L2
variable [kf : KF]
omit [kf : KF] in
theorem updO_at {C : Str} {en en' : En} {i : Nat} {f : List D → Ou (List D)} (h : updO C en i f = .ok en') : ∃ (c : List D → Sl) (ds ds' : List D), (c = Sl.ob C ∨ c = Sl.mo C) ∧ en[i]? = some (some (c ds)) ∧ f ds = .ok ds' ∧ en' = en.set i (some (c ds')) := by
  unfold updO at h
  split at h
  · rename_i C' ds q
    split at h
    · rename_i e
      subst e
      obtain ⟨ds', h1, h2⟩ := bind_ok h
      exact ⟨_, ds, ds', .inl rfl, q, h1, (Ou.ok.inj h2).symm⟩
    · cases h
  · rename_i C' ds q
    split at h
    · rename_i e
      subst e
      obtain ⟨ds', h1, h2⟩ := bind_ok h
      exact ⟨_, ds, ds', .inr rfl, q, h1, (Ou.ok.inj h2).symm⟩
    · cases h
  · cases h
omit [kf : KF] in
theorem updO_ex {C : Str} {en : En} {i : Nat} {f : List D → Ou (List D)} (hf : ∀ ds e, f ds ≠ .ex e) {e : Exn} : updO C en i f ≠ .ex e := by
  intro h
  unfold updO at h
  split at h
  · rename_i C' ds _
    split at h
    · cases q : f ds with
      | ok a => rw [q] at h; cases h
      | ex e => exact hf _ _ q
      | no => rw [q] at h; cases h
    · cases h
  · rename_i C' ds _
    split at h
    · cases q : f ds with
      | ok a => rw [q] at h; cases h
      | ex e => exact hf _ _ q
      | no => rw [q] at h; cases h
    · cases h
  · cases h
omit [kf : KF] in
theorem post_updO {α : Type} {C : Str} {en : En} {i : Nat} {g : List D → Ou (List D)} (hg : ∀ ds e, g ds ≠ .ex e) {f : En → Ou α} {P : α → Prop} {E : Exn → Prop} (h : (updO C en i g).post (fun d => (f d).post P E) E) : ∃ d, updO C en i g = .ok d ∧ (f d).post P E := by
  cases q : updO C en i g with
  | ok d => rw [q] at h; exact ⟨d, rfl, h⟩
  | ex e => exact absurd q (updO_ex hg)
  | no => rw [q] at h; exact h.elim
omit [kf : KF] in
theorem fldPut_ex {j : Nat} {d : D} : ∀ ds e, fldPut j d ds ≠ .ex e := by
  intro ds e h; unfold fldPut at h; split at h <;> first | cases h | (split at h <;> cases h)
section
variable {X : Cx} {W : WX} {E : XK} {n : Nat} {e ea eb ec eo ei : Expr} {es : List Expr} {ir ia ib ic ix : Ex} {is : Exs} {pos pos' p p1 p2 apos cpos fpos : Pos} {C x f m : Str} {c : ClsI} {i j k l : Nat}
/-! ### stores -/
theorem ins_cases {t : Ent} {S : Sn} {σ : L2.St} (R : Rel t S σ) {ds : List D} (h : obAt S.en i C ds) (hC : kf.C C = some c) : ∃ dx vs ps, S.H (S.ad i) = some (.ins c.A dx ((c.fs.map Prod.fst).zip vs)) ∧ S.H dx = some (.own (S.ad i)) ∧ S.ad i ∈ S.fp i ∧ dx ∈ S.fp i ∧ (∀ p ∈ ps, p ∈ S.fp i) ∧ FRK kf.K S.H S.F (c.fs.map Prod.snd) vs ds ps := by
  obtain ⟨c', dx, vs, ps, h2, h3, h4, h5, h6, h7, h8⟩ := (R.os.rep i C ds h).2.cls hC
  rw [hC] at h2
  have e := Option.some.inj h2
  subst e
  exact ⟨dx, vs, ps, h3, h4, h5, h6, h7, h8⟩
theorem at_ob {c' : List D → Sl} (hc : c' = Sl.ob C ∨ c' = Sl.mo C) {en : En} {ds : List D} (hi : en[i]? = some (some (c' ds))) : obAt en i C ds := by
  rcases hc with hc | hc <;> subst hc <;> first | exact .inl hi | exact .inr hi
theorem lookup_len {ns : List Str} {vs : List V} (h : ns.length ≤ 100) : (ns.zip vs).length < 1000 := by
  rw [List.length_zip]
  omega
theorem Rel.putFld {t : Ent} {S : Sn} {σ : L2.St} (R : Rel t S σ) (hC : kf.C C = some c) (F : ClsF X.K c) {d : D} {v : V} (hv : Rp S.F v d) {en' : En} (h : updO C S.en i (fldPut j d) = .ok en') (hj : c.fs[j]? = some (f, .val)) :
    σ[i]? = some (some (V.ref (S.ad i))) ∧ ∃ dx fs, S.H (S.ad i) = some (.ins c.A dx fs) ∧ fs.length < 1000 ∧ ∃ S', S'.H = upd S.H (S.ad i) (.ins c.A dx (putF f v fs)) ∧ S'.en = en' ∧ Rel t S' σ ∧ Same S.F S'.F := by
  obtain ⟨c', ds, ds', hc, hi, hf, rfl⟩ := updO_at h
  have ho := at_ob hc hi
  obtain ⟨dx, vs, ps, h3, h4, h5, h6, h7, h8⟩ := ins_cases R ho hC
  have io : isO S.en i := isO_of ho
  have e1 : (c.fs.map Prod.fst)[j]? = some f := by rw [List.getElem?_map, hj]; rfl
  have e2 : (c.fs.map Prod.snd)[j]? = some .val := by rw [List.getElem?_map, hj]; rfl
  have hl := h8.len
  obtain ⟨vs', ep, fr'⟩ : ∃ vs', putF f v ((c.fs.map Prod.fst).zip vs) = (c.fs.map Prod.fst).zip vs' ∧ FRK kf.K S.H S.F (c.fs.map Prod.snd) vs' ds' ps := by
    unfold fldPut at hf
    split at hf
    · rename_i lt
      have hf := Ou.ok.inj hf
      subst hf
      exact ⟨_, zip_put F.nd e1 (by rw [hl]; exact lt), h8.set hv e2⟩
    · split at hf
      · rename_i eq
        have hf := Ou.ok.inj hf
        subst hf
        exact ⟨_, zip_snoc F.nd (by rw [hl, ← eq]; exact e1), h8.snoc hv (by rw [hl, ← eq]; exact e2)⟩
      · cases hf
  have aO := (R.os.rg i io _ h5).1
  have Fe : hid (upd S.H (S.ad i) (.ins c.A dx (putF f v ((c.fs.map Prod.fst).zip vs)))) S.O = S.F := hid_upd aO
  have nd : dx ≠ S.ad i := fun e => by rw [e, h3] at h4; cases h4
  refine ⟨(R.os.rep i C ds ho).1, dx, _, h3, lookup_len (by rw [List.length_map]; exact F.len), ?_⟩
  have hst : ∀ b ∈ ps, ∀ o, S.H b = some o → upd S.H (S.ad i) (.ins c.A dx (putF f v ((c.fs.map Prod.fst).zip vs))) b = some o := fun b hb o ho' => by
    rw [upd_ne fun e => ?_]
    · exact ho'
    · obtain ⟨xs, hx⟩ := frk_lst fr' hb
      rw [e, h3] at hx
      cases hx
  obtain ⟨R', s', _⟩ := R.updB (ds' := ds') (H' := upd S.H (S.ad i) (.ins c.A dx (putF f v ((c.fs.map Prod.fst).zip vs)))) (nw := []) (rg := S.fp i) hc hi
    (fun b o e nb => (upd_ne (show b ≠ S.ad i from fun z => nb (by rw [z]; exact h5))).trans e) (fun b hb => by
      by_cases e : b = S.ad i
      · rw [e, upd_same]; trivial
      · rw [upd_ne e]; exact (R.os.rg i io b hb).2) (fun b hb => by cases hb) (fun b hb => hb) (fun b hb => .inl hb)
    (.inl ⟨c, dx, vs', ps, hC, by rw [upd_same, ep], (upd_ne nd).trans h4, h5, h6, h7, by
      show FRK kf.K _ (hid _ S.O) _ _ _ _
      rw [Fe]
      exact fr'.keep (kf := kf) (Same.refl _) hst⟩)
  exact ⟨_, rfl, rfl, R', s'⟩
where
  frk_lst : ∀ {H F : Hp} {ks : List Kd} {vs : List V} {ds : List D} {ps : List Addr} {b : Addr}, FRK kf.K H F ks vs ds ps → b ∈ ps → ∃ xs, H b = some (.lst xs)
    | _, _, _, _, _, _, _, .nil, h => by cases h
    | _, _, _, _, _, _, _, .val _ r, h => frk_lst r h
    | _, _, _, _, _, _, _, .lst a _ _ r, h => by
      rcases List.mem_cons.mp h with h | h
      · exact ⟨_, h ▸ a⟩
      · exact frk_lst r h
/-- a list of one's own becomes the object's -/
theorem Rel.putFldL {t : Ent} {S : Sn} {σ : L2.St} (R : Rel t S σ) (hC : kf.C C = some c) (F : ClsF X.K c) {es : List D} {v : V} (hv : VR t S v (.own es)) {en' : En} (h : updO C S.en i (fldPut j (.list es)) = .ok en') (hj : c.fs[j]? = some (f, .lst)) :
    σ[i]? = some (some (V.ref (S.ad i))) ∧ ∃ dx fs, S.H (S.ad i) = some (.ins c.A dx fs) ∧ fs.length < 1000 ∧ ∃ S', S'.H = upd S.H (S.ad i) (.ins c.A dx (putF f v fs)) ∧ S'.en = en' ∧ Rel t S' σ ∧ Same S.F S'.F := by
  obtain ⟨c', ds, ds', hc, hi, hf, rfl⟩ := updO_at h
  obtain ⟨p, xs, rfl, hp, hp0, hpO, hpx, hpr, hpn, hpm⟩ := hv
  have ho := at_ob hc hi
  obtain ⟨dx, vs, ps, h3, h4, h5, h6, h7, h8⟩ := ins_cases R ho hC
  have io : isO S.en i := isO_of ho
  have e1 : (c.fs.map Prod.fst)[j]? = some f := by rw [List.getElem?_map, hj]; rfl
  have e2 : (c.fs.map Prod.snd)[j]? = some .lst := by rw [List.getElem?_map, hj]; rfl
  have hl := h8.len
  have npps : p ∉ ps := fun z => hpm i io (h7 p z)
  obtain ⟨vs', ps', ep, fr', sub⟩ : ∃ vs' ps', putF f (.ref p) ((c.fs.map Prod.fst).zip vs) = (c.fs.map Prod.fst).zip vs' ∧ FRK kf.K S.H S.F (c.fs.map Prod.snd) vs' ds' ps' ∧ ∀ q ∈ ps', q = p ∨ q ∈ ps := by
    unfold fldPut at hf
    split at hf
    · rename_i lt
      have hf := Ou.ok.inj hf
      subst hf
      obtain ⟨ps', a, b⟩ := h8.setL hpx hpr npps e2
      exact ⟨_, ps', zip_put F.nd e1 (by rw [hl]; exact lt), a, b⟩
    · split at hf
      · rename_i eq
        have hf := Ou.ok.inj hf
        subst hf
        exact ⟨_, _, zip_snoc F.nd (by rw [hl, ← eq]; exact e1), h8.snocL hpx hpr npps (by rw [hl, ← eq]; exact e2), fun q hq => by
          rcases List.mem_append.mp hq with hq | hq
          · exact .inr hq
          · exact .inl (List.mem_singleton.mp hq)⟩
      · cases hf
  have aO := (R.os.rg i io _ h5).1
  have Fe : hid (upd S.H (S.ad i) (.ins c.A dx (putF f (.ref p) ((c.fs.map Prod.fst).zip vs)))) S.O = S.F := hid_upd aO
  have nd : dx ≠ S.ad i := fun e => by rw [e, h3] at h4; cases h4
  refine ⟨(R.os.rep i C ds ho).1, dx, _, h3, lookup_len (by rw [List.length_map]; exact F.len), ?_⟩
  have hst : ∀ b ∈ ps', ∀ o, S.H b = some o → upd S.H (S.ad i) (.ins c.A dx (putF f (.ref p) ((c.fs.map Prod.fst).zip vs))) b = some o := fun b hb o ho' => by
    rw [upd_ne fun e => ?_]
    · exact ho'
    · obtain ⟨xs, hx⟩ := Rel.putFld.frk_lst fr' hb
      rw [e, h3] at hx
      cases hx
  obtain ⟨R', s', _⟩ := R.updB (ds' := ds') (H' := upd S.H (S.ad i) (.ins c.A dx (putF f (.ref p) ((c.fs.map Prod.fst).zip vs)))) (nw := []) (rg := p :: S.fp i) hc hi
    (fun b o e nb => (upd_ne (show b ≠ S.ad i from fun z => nb (by rw [z]; exact h5))).trans e) (fun b hb => by
      by_cases e : b = S.ad i
      · rw [e, upd_same]; trivial
      · rw [upd_ne e]; exact (R.os.rg i io b hb).2) (fun b hb => by cases hb) (fun b hb => List.mem_cons_of_mem _ hb) (fun b hb => by
      rcases List.mem_cons.mp hb with hb | hb
      · subst hb
        exact .inr (.inr ⟨hp, by rw [hpx]; trivial, hp0, hpO, hpn, hpm⟩)
      · exact .inl hb)
    (.inl ⟨c, dx, vs', ps', hC, by rw [upd_same, ep], (upd_ne nd).trans h4, List.mem_cons_of_mem _ h5, List.mem_cons_of_mem _ h6, fun q hq => by
      rcases sub q hq with z | z
      · rw [z]; exact List.mem_cons_self ..
      · exact List.mem_cons_of_mem _ (h7 q z), by
      show FRK kf.K _ (hid _ S.O) _ _ _ _
      rw [Fe]
      exact fr'.keep (kf := kf) (Same.refl _) hst⟩)
  exact ⟨_, rfl, rfl, R', s'⟩
/-- o.f = e, data -/
theorem dst_setF (hC : kf.C C = some c) (F : ClsF X.K c) (he : DF X (wE E) e ir) (ho : PE X eo (tVar i)) (hj : c.fs[j]? = some (f, .val)) (hs : swapsWith e (some (.Attribute eo f pos')) pos.line X.env = pure false := by rfl) : DSt X E n (.Assign [.Attribute eo f pos'] e pos) (.setF C i j ir) :=
  (ps_fld ho he hs).imp fun D σ H ⟨t, S, eH, R, h⟩ => by
    subst eH
    simp only [exec, post_bind] at h
    refine ⟨t, S, rfl, R, ?_⟩
    unfold evF
    rw [post_bind]
    refine post_imp h fun p hp k v S1 e1 P1 => ?_
    have e1 : S1.en = p.2 := e1
    obtain ⟨en', hu, k⟩ := post_updO fldPut_ex k
    obtain ⟨h1, dx, fs, h2, h3, S', a, b, R', s'⟩ := P1.rel.putFld hC F P1.val (by rw [e1]; exact hu) hj
    refine ⟨_, h1, _, _, _, _, rfl, h2, F.cl, F.na j f _ hj, h3, ?_⟩
    rw [← a]
    exact k _ S' b R' (P1.le.le.trans s')
/-- o.f = e, a list of one's own -/
theorem dst_setL (hC : kf.C C = some c) (F : ClsF X.K c) (he : DE X (wE E) e ir) (ho : PE X eo (tVar i)) (hj : c.fs[j]? = some (f, .lst)) (hs : swapsWith e (some (.Attribute eo f pos')) pos.line X.env = pure false := by rfl) : DSt X E n (.Assign [.Attribute eo f pos'] e pos) (.setL C i j ir) :=
  (ps_fld ho he hs).imp fun D σ H ⟨t, S, eH, R, h⟩ => by
    subst eH
    simp only [exec, post_bind] at h
    refine ⟨t, S, rfl, R, post_imp h fun p hp k v S1 e1 P1 => ?_⟩
    have e1 : S1.en = p.2 := e1
    have hv := P1.val
    obtain ⟨r, en1⟩ := p
    cases r with
    | own es =>
      have k : ((updO C en1 i (fldPut j (.list es))) >>= fun e2 => Ou.ok (Fl.nx e2)).post _ _ := k
      rw [post_bind] at k
      obtain ⟨en', hu, k⟩ := post_updO fldPut_ex k
      obtain ⟨h1, dx, fs, h2, h3, S', a, b, R', s'⟩ := P1.rel.putFldL hC F hv (by rw [e1]; exact hu) hj
      refine ⟨_, h1, _, _, _, _, rfl, h2, F.cl, F.na j f _ hj, h3, ?_⟩
      rw [← a]
      exact k _ S' b R' (P1.le.le.trans s')
    | _ => exact k.elim
/-! ### expressions that keep all that stands -/
structure KPost (t : Ent) (S S' : Sn) (σ : L2.St) (v : V) (d : D) : Prop where
  rel : Rel t S' σ
  le : Le S S'
  val : Rp S'.F v d
  sm : Same S.H S'.H
  ad : S'.ad = S.ad
  fp : S'.fp = S.fp
  ob : ∀ (i : Nat) C ds, obAt S'.en i C ds → obAt S.en i C ds
noncomputable abbrev DK (X : Cx) (W : WX) (e : Expr) (ir : Ex) : Prop := PE X e (tG KPost X.mg W (evF ir))
theorem dk_var (h : PE X e (tVar i)) : DK X W e (.var i) := h.imp fun σ H Q ⟨t, S, eH, R, h⟩ => by
  subst eH
  unfold evF at h
  simp only [evalE] at h
  cases q : S.en[i]? with
  | none => rw [q] at h; exact h.elim
  | some x =>
    rw [q] at h
    cases x with
    | none => exact h.elim
    | some r =>
      cases r with
      | fr d =>
        obtain ⟨v, h1, h2⟩ := R.fr i d q
        have h : ∀ v S', S'.en = S.en → KPost t S S' σ v d → Q v S'.H := h
        exact ⟨v, h1, h v S rfl ⟨R, Le.refl _, h2, Same.refl _, rfl, rfl, fun _ _ _ h => h⟩⟩
      | own ds =>
        obtain ⟨R', l, h1, h2⟩ := R.frz q
        have h : ∀ v S', S'.en = S.en.set i (some (.fr (.list ds))) → KPost t S S' σ v (.list ds) → Q v S'.H := h
        refine ⟨_, h1, h _ (S.frz i ds) rfl ⟨R', l, h2, Same.refl _, rfl, rfl, fun k C es hk => ?_⟩⟩
        have lt := lt_of_some q
        have gt : ∀ x, (S.en.set i (some (Sl.fr (.list ds))))[k]? = some (some x) → (∀ d, x ≠ .fr d) → S.en[k]? = some (some x) := fun x e nx => by
          rw [en_set lt] at e
          split at e
          · exact absurd (Option.some.inj (Option.some.inj e)).symm (nx _)
          · exact e
        rcases hk with hk | hk
        · exact .inl (gt _ hk (by simp))
        · exact .inr (gt _ hk (by simp))
      | mb ds => exact h.elim
      | ob C ds => exact h.elim
      | mo C ds => exact h.elim
theorem dk_cst {v : V} {d : D} (h : PE X e (tC v)) (r : ∀ H, Rp H v d) : DK X W e (.cst d) := h.imp fun σ H Q ⟨t, S, eH, R, h⟩ => by
  subst eH
  exact h v S rfl ⟨R, Le.refl _, r _, Same.refl _, rfl, rfl, fun _ _ _ h => h⟩
structure KAPost (t : Ent) (S S' : Sn) (σ : L2.St) (vs : List V) (ds : List D) : Prop where
  rel : Rel t S' σ
  le : Le S S'
  val : RpA S'.F vs ds
  sm : Same S.H S'.H
  ad : S'.ad = S.ad
  fp : S'.fp = S.fp
  ob : ∀ (i : Nat) C ds, obAt S'.en i C ds → obAt S.en i C ds
noncomputable def tAK (mg : Str → Option Value) (W : WX) (is : Exs) : L2.TA := fun σ H Q =>
  ∃ t S, S.H = H ∧ Rel t S σ ∧ (evalA is S.en).post (fun p => ∀ vs S', S'.en = p.2 → KAPost t S S' σ vs p.1 → Q vs S'.H) (RW mg W t σ)
noncomputable abbrev DAK (X : Cx) (W : WX) (es : List Expr) (is : Exs) : Prop := PA X es (tAK X.mg W is)
theorem dak_nil : DAK X W [] .nil := pa_nil.imp fun σ H Q ⟨t, S, eH, R, h⟩ => by
  subst eH
  exact h [] S rfl ⟨R, Le.refl _, .nil, Same.refl _, rfl, rfl, fun _ _ _ h => h⟩
theorem dak_cons (ha : DK X W e ir) (hr : DAK X W es is) (hs : starEach (e :: es) X.env = (false, eval e X.env) :: starEach es X.env := by rfl) : DAK X W (e :: es) (.cons ir is) := (pa_cons ha hr hs).imp fun σ H Q ⟨t, S, eH, R, h⟩ => by
  subst eH
  simp only [evalA, post_bind] at h
  refine ⟨t, S, rfl, R, ?_⟩
  unfold evF
  rw [post_bind]
  refine post_imp h fun p hp k1 x S1 e1 P1 => ⟨t, S1, rfl, P1.rel, ?_⟩
  rw [show S1.en = p.2 from e1]
  refine post_imp k1 fun q hq k2 vs S2 e2 P2 => ?_
  exact k2 (x :: vs) S2 e2 ⟨P2.rel, P1.le.trans P2.le, .cons (P1.val.mono P2.le.le) P2.val, P1.sm.trans P2.sm, P2.ad.trans P1.ad, P2.fp.trans P1.fp, fun i C ds h => P1.ob i C ds (P2.ob i C ds h)⟩
theorem dk_tup {x1 : Nat} (h : DAK X W es is) : DK X W (.Tuple es x1 pos) (.tupE is) := (pe_tupF h).imp fun σ H Q ⟨t, S, eH, R, h⟩ => by
  subst eH
  unfold evF at h
  simp only [evalE, post_bind] at h
  refine ⟨t, S, rfl, R, post_imp h fun p hp k1 vs S1 e1 P1 => ?_⟩
  split at k1
  · rename_i hz
    refine ⟨by rw [P1.val.length, ← SZ_eq]; exact hz, fun a o ha hod => ?_⟩
    have N := P1.rel.newF ha hod P1.val
    refine k1 (.ref a) { S1 with H := upd S1.H a (.frz o (.tup vs)) } e1 ⟨N.rel, P1.le.trans N.le, N.val, P1.sm.trans (same_upd ha), P1.ad, P1.fp, P1.ob⟩
  · exact k1.elim
end
end VS

/-! Objects: calls of methods, making. -/
namespace VS
open PySem PySem.Spec PyProof.Rows L2
variable [kf : KF]
/-- the lent object, where an error leaves that has changed other objects only -/
theorem Rel.obsX {t : Ent} {S : Sn} {σ : L2.St} (R : Rel t S σ) {en : En} (e : S.en = en) {H' : Hp} {X : List Addr} (hX : ∀ b ∈ X, b ∈ S.O) (hd : ∀ C ds, S.en[0]? = some (some (Sl.mo C ds)) → ∀ b ∈ S.fp 0, b ∉ X) (s : ∀ b o, S.H b = some o → b ∉ X → H' b = some o) : obsR t (VS.obs en) H' := by
  subst e
  intro C a ds h1 h2
  have h0 : ∃ C', S.en[0]? = some (some (Sl.mo C' ds)) := by
    unfold VS.obs at h2
    split at h2
    · rename_i C' ds' r q
      have e := Option.some.inj h2
      subst e
      exact ⟨C', by rw [q]; rfl⟩
    · cases h2
  obtain ⟨C', h0⟩ := h0
  obtain ⟨q1, q3, q2⟩ := R.os.len 0 C' ds h0
  rw [h1] at q1
  have q0 := Option.some.inj q1
  cases q0
  obtain ⟨_, q4⟩ := R.os.rep 0 C ds (.inr h0)
  have io : isO S.en 0 := isO_of (.inr h0)
  have nx := hd C ds h0
  refine ⟨S.fp 0, q4.keep (fun b o h => ?_) (fun b hb o e => s _ _ e (nx b hb)) (fun b hb => hb), q3, fun b hb => ⟨?_, q2 b hb⟩⟩
  · obtain ⟨n, e⟩ := hid_some h
    rw [hid_out fun q => n (by
      rcases List.mem_append.mp q with q | q
      · exact (R.os.rg 0 io b q).1
      · exact R.sup b q)]
    exact s _ _ e fun q => n (hX b q)
  · have q5 := (R.os.rg 0 io b hb).2
    cases e : S.H b with
    | none => exact absurd e q5.ne
    | some o =>
      rw [s _ _ e (nx b hb), ← e]
      exact q5
section
variable {mg : Str → Option Value} {W : WX} {t : Ent} {S S1 : Sn} {σ : L2.St} {Q : VK} {C : Str} {n i : Nat} {vs : List V} {ds fs : List D} {en : En} {φ : List D → List D → Ou (Sl × List D)}
end
section
variable {X : Cx} {W : WX} {E : XK} {n : Nat} {e ea eb ec eo ei : Expr} {es : List Expr} {ir ia ib ic ix io : Ex} {is : Exs} {pos pos' p p1 p2 apos cpos fpos : Pos} {C C0 x m : Str} {c : ClsI} {i j k l : Nat} {φ : List D → List D → Ou (Sl × List D)}
end
end VS

/-! Objects: made, frozen; methods of temporaries. -/
namespace VS
open PySem PySem.Spec PyProof.Rows L2
/-- __init__'s function -/
noncomputable def iniO (φ : List D → List D → Ou (Sl × List D)) (ds : List D) : Ou (List D) := match φ [] ds with
  | .ok (.fr .none, fs) => .ok fs
  | .ok _ => .no
  | .ex e => .ex e
  | .no => .no
variable [kf : KF]
section
variable {mg : Str → Option Value} {W : WX} {t : Ent} {S S1 : Sn} {σ : L2.St} {Q : VK} {C : Str} {c : ClsI} {n i : Nat} {vs : List V} {ds fs : List D} {en : En} {φ : List D → List D → Ou (Sl × List D)} {a dx : Addr}
theorem mk_core (hC : kf.C C = some c) (R1 : Rel t S1 σ) (r1 : RpA S1.F vs ds) (hn : ds.length = n) (ha : S1.H a = none) (hd : S1.H dx = none) (hne : dx ≠ a)
    (k : (iniO φ ds).post (fun fs => ∀ H' nw rg', Same S1.H H' → (∀ b ∈ rg', b = a ∨ b = dx ∨ b ∈ nw) → (∀ b ∈ nw, S1.H b = none ∧ okO (H' b)) → okO (H' a) → okO (H' dx) → a ∈ rg' → dx ∈ rg' → ObR H' (hid H' (nw ++ (a :: dx :: S1.O))) C a rg' fs → Q (.ref a) H')
      (fun e => ∀ cls d H', Same S1.H H' → ExR mg e cls d H' → WE W σ cls d H')) :
    spO mg C n φ (.ref a :: vs) (upd (upd S1.H dx (.own a)) a (.ins c.A dx [])) (fun v H2 => v = .non ∧ Q (.ref a) H2) (WE W σ) := by
  have sm0 : Same S1.H (upd (upd S1.H dx (.own a)) a (.ins c.A dx [])) := fun b o e => by
    rw [upd_ne (ne_of_none e ha), upd_ne (ne_of_none e hd)]
    exact e
  have la : upd (upd S1.H dx (.own a)) a (.ins c.A dx []) a = some (.ins c.A dx []) := upd_same
  have ld : upd (upd S1.H dx (.own a)) a (.ins c.A dx []) dx = some (.own a) := by rw [upd_ne hne, upd_same]
  have lo : ∀ {b}, b ≠ a → b ≠ dx → upd (upd S1.H dx (.own a)) a (.ins c.A dx []) b = S1.H b := fun {b} h1 h2 => by rw [upd_ne h1, upd_ne h2]
  have subH : ∀ {H' : Hp}, (∀ b o, upd (upd S1.H dx (.own a)) a (.ins c.A dx []) b = some o → b ∉ [a, dx] → H' b = some o) → Same S1.H H' := fun {H'} s b o e => s b o (sm0 _ _ e) fun q => by
    rcases List.mem_cons.mp q with q | q
    · exact ne_of_none e ha q
    · exact ne_of_none e hd (List.mem_singleton.mp q)
  refine ⟨a :: dx :: S1.O, a, [a, dx], vs, [], ds, rfl, fun b hb => ?_, fun b hb => ?_, (.inl ⟨c, dx, [], [], hC, by rw [List.zip_nil_right]; exact la, ld, by simp, by simp, fun p hp => (by cases hp), .nil⟩), ?_, hn, ?_⟩
  · rcases List.mem_cons.mp hb with hb | hb
    · rw [hb, la]; simp
    · rcases List.mem_cons.mp hb with hb | hb
      · rw [hb, ld]; simp
      · have := R1.trk b hb
        cases e : S1.H b with
        | none => exact absurd e this
        | some o => rw [sm0 _ _ e]; simp
  · rcases List.mem_cons.mp hb with hb | hb
    · rw [hb, la]; exact ⟨List.mem_cons_self .., trivial⟩
    · rw [List.mem_singleton.mp hb, ld]; exact ⟨List.mem_cons_of_mem _ (List.mem_cons_self ..), trivial⟩
  · refine r1.mono fun b o h => ?_
    obtain ⟨nb, e⟩ := hid_some h
    rw [hid_out fun q => ?_]
    · exact sm0 _ _ e
    · rcases List.mem_cons.mp q with q | q
      · exact ne_of_none e ha q
      · rcases List.mem_cons.mp q with q | q
        · exact ne_of_none e hd q
        · exact nb q
  · unfold iniO at k
    cases z : φ [] ds with
    | no => rw [z] at k; exact k.elim
    | ex e =>
      rw [z] at k
      exact fun cls d H' s hx _ => k cls d H' (subH s) hx
    | ok p =>
      rw [z] at k
      obtain ⟨r, fs'⟩ := p
      intro v H' nw rg' s hk hnw hsub hob hret
      have hr : r = .fr .none := by
        cases r with
        | fr d => cases d <;> first | rfl | exact k.elim
        | _ => exact k.elim
      subst hr
      have hv : v = .non := by cases (show RpK kf.K _ v .none from hret); rfl
      subst hv
      refine ⟨rfl, k H' nw rg' (subH s) (fun b hb => ?_) (fun b hb => ⟨?_, (hnw b hb).2⟩) (hk a (by simp)).1 (hk dx (by simp)).1 (hk a (by simp)).2 (hk dx (by simp)).2 hob⟩
      · rcases hsub b hb with q | q
        · rcases List.mem_cons.mp q with q | q
          · exact .inl q
          · exact .inr (.inl (List.mem_singleton.mp q))
        · exact .inr (.inr q)
      · have q := (hnw b hb).1
        cases e : S1.H b with
        | none => rfl
        | some o => rw [sm0 _ _ e] at q; cases q
end
section
variable {X : Cx} {W : WX} {E : XK} {n : Nat} {e ea eb ec eo ei : Expr} {es : List Expr} {ir ia ib ic ix io : Ex} {is : Exs} {pos pos' p p1 p2 apos cpos fpos : Pos} {C C2 x m : Str} {c c2 : ClsI} {i j k l : Nat} {φ : List D → List D → Ou (Sl × List D)}
/-- C(e, ..) -/
theorem de_mkO (G : FnI X.prog X.w X.K X.mg X.base k x C n φ) (hr : Room (k + 1) X.A) (tk : Takes X W) (ha : DA X W (e :: es) is) (hn : lenS is = n := by rfl) (hg : Gl X x := by rfl)
    (hdb : (x == ("__debug__" : Str)) = false := by decide) (he : starEach (e :: es) X.env = (false, eval e X.env) :: starEach es X.env := by rfl) (hpl : (backTo pos (starEach es X.env)).any (·.1) = false := by rfl) :
    DE X W (.Call (.Name x p) (e :: es) [] pos) (.mkO C (iniO φ) is) := by
  obtain ⟨c, f, fd, ps, hC, hm, M, ok, hb⟩ := G.ex
  refine (pe_makeE M ok hr hg hm hb (fun σ => passAt tk σ) ha hdb he hpl).imp fun σ H Q ⟨t, S, eH, R, h⟩ => ?_
  subst eH
  simp only [evalE, post_bind] at h
  refine ⟨t, S, rfl, R, post_imp h fun q hq k1 vs S1 e1 R1 l1 r1 a dx ha hd hne => ?_⟩
  have e1 : S1.en = q.2 := e1
  refine mk_core hC R1 r1 ((evalA_len is q.1 S.en q.2 hq).trans hn) ha hd hne ?_
  cases z : iniO φ q.1 with
  | no => rw [z] at k1; exact k1.elim
  | ex ee =>
    rw [z] at k1
    exact fun cls d H' s hx => k1 cls d H' (ret_keep R1 s) hx (R1.obs e1 s)
  | ok fs =>
    rw [z] at k1
    have k1 : ∀ v S', S'.en = q.2 → EPost t S S' σ v (.ob C fs) → Q v S'.H := k1
    intro H' nw rg' s hsub hnw oka okd hma hmd hob
    have hnw' : ∀ b ∈ nw ++ [a, dx], S1.H b = none ∧ okO (H' b) := fun b hb => by
      rcases List.mem_append.mp hb with hb | hb
      · exact hnw b hb
      · rcases List.mem_cons.mp hb with hb | hb
        · rw [hb]; exact ⟨ha, oka⟩
        · rw [List.mem_singleton.mp hb]; exact ⟨hd, okd⟩
    have hin : ∀ b ∈ rg', b ∈ nw ++ [a, dx] := fun b hb => by
      rcases hsub b hb with q | q | q
      · exact List.mem_append_right _ (by rw [q]; simp)
      · exact List.mem_append_right _ (by rw [q]; simp)
      · exact List.mem_append_left _ q
    obtain ⟨R', l'⟩ := R1.growO s (rg := nw ++ [a, dx]) fun b hb => ⟨(hnw' b hb).1, (hnw' b hb).2.ne⟩
    have V : ObV t { S1 with H := H', O := (nw ++ [a, dx]) ++ S1.O } a rg' C fs := by
      refine ⟨?_, fun b hb => ⟨List.mem_append_left _ (hin b hb), (hnw' b (hin b hb)).2.ne, (hnw' b (hin b hb)).2, (R1.fresh (hnw' b (hin b hb)).1).2.2, (R1.fresh (hnw' b (hin b hb)).1).2.1⟩, fun b hb i ⟨es, hi⟩ e => ?_, fun b hb i hi e => ?_⟩
      · show ObR H' (hid H' ((nw ++ [a, dx]) ++ S1.O)) C a rg' fs
        rw [List.append_assoc]
        exact hob
      · exact (R1.fresh (hnw' b (hin b hb)).1).1 (e ▸ (R1.li i es hi).2.1)
      · exact (R1.fresh (hnw' b (hin b hb)).1).1 (R1.os.rg i hi b e).1
    exact k1 (.ref a) { S1 with H := H', O := (nw ++ [a, dx]) ++ S1.O } e1 ⟨R', l1.trans l', ⟨a, rg', rfl, V⟩, fun q es e => (by cases e), fun C' ds' e => by
      cases e
      exact ⟨a, rg', rfl, V, fun b hb => .inl (l1.noneH (hnw' b (hin b hb)).1)⟩⟩
/-- a temporary object is changed -/
theorem Rel.updT {t : Ent} {S : Sn} {σ : L2.St} (R : Rel t S σ) {a : Addr} {rg : List Addr} {fs : List D} (V : ObV t S a rg C fs) {H' : Hp} {nw : List Addr} (s : ∀ b o, S.H b = some o → b ∉ rg → H' b = some o) (hk : ∀ b ∈ rg, okO (H' b)) (hn : ∀ b ∈ nw, S.H b = none ∧ okO (H' b)) :
    Rel t { S with H := H', O := nw ++ S.O } σ ∧ Same S.F (hid H' (nw ++ S.O)) ∧ (∀ a, S.H a ≠ none → H' a ≠ none) ∧ ∀ a, S.H a ≠ none → a ∉ rg → H' a = S.H a := by
  have eq : ∀ a, S.H a ≠ none → a ∉ rg → H' a = S.H a := fun a h n => by
    cases e : S.H a with
    | none => exact absurd e h
    | some o => exact s _ _ e n
  have per : ∀ a, S.H a ≠ none → H' a ≠ none := fun a h => by
    by_cases q : a ∈ rg
    · exact (hk a q).ne
    · rw [eq a h q]; exact h
  have le : Same S.F (hid H' (nw ++ S.O)) := fun b o h => by
    obtain ⟨n, e⟩ := hid_some h
    rw [hid_out fun q => by
      rcases List.mem_append.mp q with q | q
      · rw [(hn b q).1] at e; cases e
      · exact n q]
    exact s _ _ e fun q => n (V.mem b q).1
  refine ⟨⟨R.len, fun b o h m => s _ _ (R.keep b o h m) fun q => ?_, fun a h => List.mem_append_right _ (R.sup a h), R.subM, fun a h => ?_, fun a h => ?_, fun i d e => ?_, fun i ds e => ?_, R.ow, R.mb, R.inj, tabs_ob R.tb (fun b hb => (V.mem b hb).2.2.1) s, R.tM, R.os.keep (fun i x e _ _ _ => e) (fun _ _ => rfl) (fun _ _ => ⟨rfl, rfl⟩) (fun i hi b hb => ⟨List.mem_append_right _ (R.os.rg i hi b hb).1, eq b (R.os.rg i hi b hb).2.ne fun q => V.nO b q i hi hb⟩) le (fun i j hi hj => R.os.dL i j hi hj)⟩, le, per, eq⟩
  · have := (V.mem b q).2.2.2.1
    rw [h] at this
    cases this
  · rcases List.mem_append.mp h with h | h
    · exact .inr (R.fresh (hn a h).1).2.2
    · exact R.new a h
  · rcases List.mem_append.mp h with h | h
    · exact (hn a h).2.ne
    · exact per a (R.trk a h)
  · obtain ⟨v, h1, h2⟩ := R.fr i d e
    exact ⟨v, h1, h2.mono le⟩
  · obtain ⟨h1, h2, xs, h3, h4⟩ := R.li i ds e
    exact ⟨h1, List.mem_append_right _ h2, xs, s _ _ h3 (fun q => V.nL _ q i ⟨ds, e⟩ rfl), h4.mono le⟩
/-- C(..).m(e, ..) -/
theorem de_callT (G : FnO X.prog X.w X.K X.mg X.base k C m n φ) (hr : Room k X.A) (tk : Takes X W) (ho : DE X W eo io) (ha : DA X W (e :: es) is) {pl : Sem Bool} (hn : lenS is = n := by rfl)
    (hst : starEach (e :: es) X.env = (false, eval e X.env) :: starEach es X.env := by rfl) (hpl : (backTo cpos (starEach es X.env)).any (·.1) = false := by rfl)
    (ht : eval (.Call (.Attribute eo m apos) (e :: es) [] cpos) X.env = (do
      let ov ← eval eo X.env
      standAt apos.atName
      let (f, first) ← holding [ov] (getMethod ov m pl)
      callWith cpos f first (backTo cpos (starEach (e :: es) X.env)) (backToKw cpos (keywordEach [] X.env))) := by rfl) :
    DE X W (.Call (.Attribute eo m apos) (e :: es) [] cpos) (.callT C φ io is) := by
  obtain ⟨c, f, fd, ps, hC, F, hm, hno, ok, hb⟩ := G.ex
  refine (pe_methE ho F.cl hm ok hr hb (fun σ => passAt tk σ) ha hst hpl ht).imp fun σ H Q ⟨t, S, eH, R, h⟩ => ?_
  subst eH
  simp only [evalE, post_bind] at h
  refine ⟨t, S, rfl, R, post_imp h fun p hp k0 v S1 e1 P1 => ?_⟩
  have e1 : S1.en = p.2 := e1
  obtain ⟨o, en1⟩ := p
  cases o with
  | fr d => exact k0.elim
  | own d => exact k0.elim
  | mb d => exact k0.elim
  | mo C d => exact k0.elim
  | ob C' fs =>
    replace k0 : ((if C' = C then Ou.ok fs else .no : Ou (List D))).post _ _ := k0
    split at k0
    case isFalse => exact k0.elim
    rename_i ec
    subst ec
    obtain ⟨a, rg, ev, V, prov⟩ := P1.tmpO C' fs rfl
    have ev : v = .ref a := ev
    subst ev
    obtain ⟨c', dx, vs0, ps0, g1, g2, g3, g4, g5, g6, g7⟩ := V.re.cls hC
    rw [hC] at g1
    have ec := Option.some.inj g1
    subst ec
    refine ⟨a, dx, _, rfl, g2, zip_none hno, t, S1, rfl, P1.rel, ?_⟩
    have k0 : (evalA is en1).post _ _ := k0
    rw [e1]
    refine post_imp k0 fun q hq k1 vs S2 e2 R2 l2 r2 => ?_
    have e2 : S2.en = q.2 := e2
    have V2 := V.to l2
    have hlen : q.1.length = n := (evalA_len is q.1 en1 q.2 hq).trans hn
    refine ⟨S2.O, a, rg, vs, fs, q.1, rfl, R2.trk, fun b hb => ⟨(V2.mem b hb).1, (V2.mem b hb).2.2.1⟩, V2.re, r2, hlen, ?_⟩
    have notin : ∀ b, S.H b ≠ none → (∀ i, isO S.en i → b ∉ S.fp i) → b ∉ rg := fun b h n q => by
      rcases prov b q with z | ⟨i, z1, z2⟩
      · exact h z
      · exact n i z1 z2
    cases z : φ fs q.1 with
    | no => rw [z] at k1; exact k1.elim
    | ex ee =>
      rw [z] at k1
      intro cls d H' s hx _
      refine k1 cls d H' (fun b o h m => s _ _ (R2.keep b o h m) fun w => ?_) hx (R2.obsX e2 (fun b hb => (V2.mem b hb).1) (fun C2 ds2 h0 b hb w => V2.nO b w 0 (isO_of (.inr h0)) hb) s)
      have := (V2.mem b w).2.2.2.1
      rw [h] at this
      cases this
    | ok p =>
      rw [z] at k1
      obtain ⟨r, fs'⟩ := p
      have k1 : ∀ v S', S'.en = q.2 → EPost t S S' σ v r → Q v S'.H := k1
      intro v H' nw rg' s hk hnw hsub hob hret
      have hnw' : ∀ b ∈ ownA v r ++ nw, S2.H b = none ∧ okO (H' b) := fun b hb => by
        rcases List.mem_append.mp hb with hb | hb
        · cases r with
          | own es =>
            obtain ⟨p, xs, rfl, h1, _, h3, _⟩ := hret
            rw [List.mem_singleton.mp hb]
            exact ⟨h1, by rw [h3]; trivial⟩
          | fr d => cases v <;> cases hb
          | mb es => cases v <;> cases hb
          | mo C es => cases v <;> cases hb
          | ob C es => cases v <;> cases hb
        · exact hnw b hb
      obtain ⟨R3, s3, per3, eq3⟩ := R2.updT V2 (H' := H') (nw := ownA v r ++ nw) s (fun b hb => (hk b hb).1) hnw'
      have l02 := P1.le.trans l2
      have l3 : Le S { S2 with H := H', O := (ownA v r ++ nw) ++ S2.O } := by
        refine ⟨l02.le.trans s3, fun a h => per3 a (l02.per a h), l02.sl, l02.so, fun b hb hne n m => ?_⟩
        obtain ⟨q1, q2⟩ := l02.tmp b hb hne n m
        refine ⟨List.mem_append_right _ q1, ?_⟩
        have e3 : H' b = S2.H b := eq3 b (l02.per b hne) (notin b hne m)
        rcases q2 with q2 | q2
        · exact .inl (e3.trans q2)
        · exact .inr q2
      refine k1 v { S2 with H := H', O := (ownA v r ++ nw) ++ S2.O } e2 ?_
      cases r with
      | fr d =>
        refine .fr R3 l3 ?_
        have ee : ownA v (.fr d) = [] := by cases v <;> rfl
        show Rp (hid H' (ownA v (.fr d) ++ nw ++ S2.O)) v d
        rw [ee, List.nil_append]
        exact hret
      | own es =>
        obtain ⟨p, xs, rfl, h1, h2, h3, h4⟩ := hret
        refine ⟨R3, l3, ⟨p, xs, rfl, List.mem_append_left _ (List.mem_append_left _ (List.mem_singleton.mpr rfl)), (R2.fresh h1).2.2, (R2.fresh h1).2.1, h3, ?_, fun j ⟨es', hj⟩ e => ?_, fun j hj e => ?_⟩, fun q es' e1' e2 => .inl ?_, fun C' es' e => by cases e⟩
        · show RpA (hid H' ([p] ++ nw ++ S2.O)) xs es
          rw [List.append_assoc]
          exact h4
        · exact R2.trk _ (R2.li j es' hj).2.1 (by rw [show S2.ad j = p from e]; exact h1)
        · exact (R2.os.rg j hj p e).2.ne h1
        · injection e2 with e3
          rw [← e3]
          exact l02.noneH h1
      | mb es => exact hret.elim
      | mo C es => exact hret.elim
      | ob C es => exact hret.elim
end
end VS

/-! Methods keep their promises; a class's facts. -/
namespace VS
open PySem PySem.Spec PyProof.Rows L2
theorem runO_mono {n m : Nat} (h : n ≤ m) (s : Sxs) (k : Nat) (C : Str) (fs ds : List D) : OL (runO n s k C fs ds) (runO m s k C fs ds) := by
  unfold runO
  exact OL.bind (execs_mono h s _) fun f => .rfl
noncomputable def foOf (b : Sxs) (m : Nat) (C : Str) (fs ds : List D) : Ou (Sl × List D) := lim fun n => runO n b m C fs ds
theorem foOf_eq {b : Sxs} {m : Nat} {C : Str} {fs ds : List D} {n : Nat} {x : Ou (Sl × List D)} (h : runO n b m C fs ds = x) (hx : x ≠ .no) : foOf b m C fs ds = x := lim_of (fun _ _ l => runO_mono l b m C fs ds) h hx
variable [kf : KF]
/-- a class whose instances keep their lists -/
structure ClsQ (K : PySem.W.Frag) (x : Str) (c : ClsI) : Prop where
  ex : kf.C x = some c ∧ ClsF K c
section
variable {K : PySem.W.Frag} {x0 x : Str} {c0 c : ClsI}
theorem ClsQ.h (T : ClsQ K x c) : kf.C x = some c := T.ex.1
theorem ClsQ.F (T : ClsQ K x c) : ClsF K c := T.ex.2
end
section
variable {P : Program} {w : World} {K : PySem.W.Frag} {mg : Str → Option Value} {base : Heap} {x qual y C m : Str} {st : Stmt} {f : Addr} {fd : FuncData} {N qs : List Str} {k mm : Nat} {b : Sxs} {c : ClsI}
theorem fnO_fo (hT : kf.T = []) (hC : kf.C C = some c) (F0 : ClsF K c) (F : Fun K m qual st f fd) (M : Meth K c.A m f) (hno : m ∉ c.fs.map Prod.fst) (S : FnScope N (y :: qs) (defScope st)) (bd : Binds K fd (y :: qs) []) (hN : N.length - (qs.length + 1) = mm)
    (body : Bd P w K mg base N qual st k b) : FnO P w K mg base (k + 1) C m qs.length (foOf b mm C) := by
  subst hN
  exact ⟨c, f, fd, y :: qs, hC, F0, M, hno, okO_of hT F S body fun fs ds _ h => lim_ex h, bd⟩
theorem fnI_fo (hT : kf.T = []) (hC : kf.C C = some c) (F : Fun K m qual st f fd) (hm : mg x = some (.ref c.A)) (M : Mk K c.A f) (S : FnScope N (y :: qs) (defScope st)) (bd : Binds K fd (y :: qs) []) (hN : N.length - (qs.length + 1) = mm)
    (body : Bd P w K mg base N qual st k b) : FnI P w K mg base (k + 1) x C qs.length (foOf b mm C) := by
  subst hN
  exact ⟨c, f, fd, y :: qs, hC, hm, M, okO_of hT F S body fun fs ds _ h => lim_ex h, bd⟩
end
omit [kf : KF] in
theorem clsF_of {K : PySem.W.Frag} {A : Addr} {fs : List (Str × Kd)} (cl : Cls K A) (h : ∀ p ∈ fs, NoAttr K A p.1) (nd : (fs.map Prod.fst).Nodup) (len : fs.length ≤ 100) : ClsF K ⟨A, fs⟩ := ⟨cl, fun j f kd e => h (f, kd) (List.mem_of_getElem? e), nd, len⟩
end VS

/-! Dicts of dicts of ints. -/
namespace VS
open PySem PySem.Spec PyProof.Rows L2
theorem un1 {a b : Nat} (h : a + 64 < b) : a + 1 < b := by omega
/-! ### the plain side -/
/-! ### ints that are read without a trace -/
variable [kf : KF]
section
variable {X : Cx} {e ea eb : Expr} {ia ib ir : Ex} {pos : Pos} {i : Nat}
end
section
variable {X : Cx} {W : WX} {e ea eb eo ev : Expr} {ia ib ir : Ex} {pos pos' p p1 apos cpos npos : Pos} {i : Nat} {k m : Int}
end
section
variable {X : Cx} {E : XK} {n : Nat} {ea eb eo ev : Expr} {ia ib : Ex} {pos pos' pos2 p1 apos cpos : Pos} {i : Nat}
end
section
variable {X : Cx} {W : WX} {elt tg eo ea iter : Expr} {ifs : List Expr} {scope : Scope} {own : List (Str × Nat)} {pos spos np : Pos} {t : Tg} {g : TG} {io : Exo} {ie ia : Ex} {i : Nat} {x : Str}
end
end VS

/-! Comprehensions of two clauses. -/
namespace VS
open PySem PySem.Spec PyProof.Rows L2
variable [kf : KF]
section
variable {mg : Str → Option Value} {cond : Exo} {elt : Ex} {tg tg1 : Tg} {s1 : Sr} {vs vs1 : List Nat} {g g1 : TG} {σ : L2.St} {t : Ent}
end
section
variable {X : Cx} {W : WX} {elt tg tg1 iter iter1 : Expr} {ifs ifs1 : List Expr} {scope : Scope} {own : List (Str × Nat)} {pos spos : Pos} {sr sr1 : Sr} {t t1 : Tg} {g g1 : TG} {io : Exo} {ie : Ex} {vs1 : List Nat}
end
end VS

/-! sorted of tuples of ints. -/
namespace VS
open PySem PySem.Spec PyProof.Rows L2 SrtO
/-- f(e), borrowed -/
noncomputable def biF (g : D → Ou Sl) (e : Ex) (en : En) : Ou (Sl × En) := do
  let (d, e1) ← brw (asVar e) (evalE e) en
  let r ← g d
  .ok (r, e1)
/-! ### on the heap -/
section
variable {prog : Program} {w : World} {A : Around} {E : Value → Shared → Prop} {s : Shared}
end
section
variable {X : Cx}
end
variable [kf : KF]
section
variable {X : Cx} {W : WX} {ea : Expr} {ia : Ex} {pos p : Pos}
end
end VS

/-! Defs that are lent an object; errors of methods; a temporary list grows. -/
namespace VS
open PySem PySem.Spec PyProof.Rows L2 LamX
variable [kf : KF]
section
variable {X : Cx} {E : XK} {n : Nat} {e eo : Expr} {ir io : Ex} {pos cpos apos : Pos}
end
section
variable {X : Cx} {W : WX} {e eo : Expr} {es : List Expr} {is : Exs} {pos p p1 p2 lpos apos : Pos} {C x y m : Str} {i k n : Nat} {φ : List D → List D → Ou (Sl × List D)}
end
section
variable {X : Cx} {W : WX} {e eo : Expr} {es : List Expr} {is : Exs} {pos p p1 p2 lpos apos : Pos} {C x y m : Str} {i k n : Nat} {c0 P : Addr} {params : Arguments} {scope : Scope} {η : Exn → Ou D} {φ : List D → List D → Ou (Sl × List D)}
end
end VS

/-! Workbenches: an empty dict; a list of an object's own against []; its entries' heads. -/
namespace VS
open PySem PySem.Spec PyProof.Rows L2 LamX
variable [kf : KF]
section
variable {X : Cx} {W : WX} {E : XK} {n : Nat} {e ea eb ec eo ei elt tg : Expr} {pos pos' p p0 p1 p2 tp yp cp sp : Pos} {C x f m y : Str} {c : ClsI} {i j k l : Nat} {scope : Scope} {own : List (Str × Nat)} {cj : Nat}
/-- {} -/
theorem de_dict0 : DE X W (.Dict [] [] pos) (.cst (.dict [])) := pe_dnewK.imp fun σ H Q ⟨t, S, eH, R, h⟩ => by
  subst eH
  simp only [evalE] at h
  intro p hp
  obtain ⟨R', l⟩ := R.grow (same_upd (o := .dK []) hp)
  exact h (.ref p) { S with H := upd S.H p (.dK []) } rfl (.fr R' l (.any p))
end
end VS
namespace VS
open PySem PySem.Spec PyProof.Rows L2
end VS

namespace VS
open PySem PySem.Spec PyProof.Rows L2
variable [kf : KF]
end VS

/-! xs[i] op= e -/
namespace VS
open PySem PySem.Spec PyProof.Rows L2
variable [kf : KF]
end VS

/-! Defs that change their last argument, a temporary list of the caller, and hand it back. -/
namespace VS
open PySem PySem.Spec PyProof.Rows L2
variable [kf : KF]
section
variable {X : Cx} {W : WX} {E : XK} {n j : Nat} {st : Stmt} {rest : List Stmt} {sx : Sx} {sr : Sxs} {e ea eb : Expr} {ia ib : Ex} {pos p : Pos} {x : Str} {k : Nat}
end
section
variable {P : Program} {w : World} {K : PySem.W.Frag} {mg : Str → Option Value} {base : Heap} {x qual : Str} {st : Stmt} {f : Addr} {fd : FuncData} {N ps : List Str} {k m n : Nat} {b : Sxs}
end
section
variable {X : Cx} {W : WX} {ea eb : Expr} {ia ib : Ex} {pos p : Pos} {x : Str} {k : Nat}
end
end VS

/-! xs.index(k) of a list of ints. -/
namespace VS
open PySem PySem.Spec PyProof.Rows L2
variable [kf : KF]
variable {X : Cx} {W : WX} {ea : Expr} {ia : Ex}
/-! ### a == b == c -/
end VS

/-! Running the language: loops and comprehensions by invariants. -/
namespace VS
open PySem L2
/-- a raise that is reached or not -/
@[reducible] noncomputable def rz (q : Bool) (s : Sx) : Sx := match q with
  | true => s
  | false => .nev
theorem for_run {f : En → Ou Fl} {t : Tg} {ds : List D} (I : Nat → En → Prop) (h : ∀ i d en, ds[i]? = some d → I i en → ∃ e1 e2, bindT t d en = .ok e1 ∧ (f e1 = .ok (.nx e2) ∨ f e1 = .ok (.ct e2)) ∧ I (i + 1) e2) {en : En} (h0 : I 0 en) : ∃ en', forGo f t ds en = .ok (.nx en') ∧ I ds.length en' := by
  have main : ∀ k i en, k + i = ds.length → I i en → ∃ en', forGo f t (ds.drop i) en = .ok (.nx en') ∧ I ds.length en' := by
    intro k
    induction k with
    | zero =>
      intro i en hi hI
      have e : i = ds.length := by omega
      subst e
      rw [List.drop_length]
      exact ⟨en, rfl, hI⟩
    | succ k ih =>
      intro i en hi hI
      have hlt : i < ds.length := by omega
      obtain ⟨e1, e2, h1, h2, h3⟩ := h i ds[i] en (List.getElem?_eq_getElem hlt) hI
      obtain ⟨en', h4, h5⟩ := ih (i + 1) e2 (by omega) h3
      refine ⟨en', ?_, h5⟩
      rw [List.drop_eq_getElem_cons hlt]
      simp only [forGo, h1, ok_bind]
      rcases h2 with h2 | h2
      · simp only [h2, ok_bind, h4]
      · simp only [h2, ok_bind, h4]
  have := main ds.length 0 en (by omega) h0
  rw [List.drop_zero] at this
  exact this
theorem backE_wipe {en e' e'' : En} {vs : List Nat} (h : wipeE e' vs = wipeE e'' vs) : backE en e' vs = backE en e'' vs := by
  have hl : e'.length = e''.length := by
    have := congrArg List.length h
    rw [wipeE_len, wipeE_len] at this
    exact this
  apply List.ext_getElem?
  intro j
  by_cases q : j ∈ vs
  · induction vs with
    | nil => cases q
    | cons a vs ih =>
      show ((backE en e' vs).set a _)[j]? = ((backE en e'' vs).set a _)[j]?
      rw [List.getElem?_set, List.getElem?_set, backE_len, backE_len, hl]
      split
      · rfl
      · rename_i ne
        have q' : j ∈ vs := by
          rcases List.mem_cons.mp q with q | q
          · exact absurd q.symm ne
          · exact q
        clear ih h
        clear q ne
        induction vs with
        | nil => cases q'
        | cons b vs ih =>
          show ((backE en e' vs).set b _)[j]? = ((backE en e'' vs).set b _)[j]?
          rw [List.getElem?_set, List.getElem?_set, backE_len, backE_len, hl]
          split
          · rfl
          · rename_i ne
            rcases List.mem_cons.mp q' with q | q
            · exact absurd q.symm ne
            · exact ih q
  · rw [backE_get q, backE_get q, ← wipeE_get (en := e') q, ← wipeE_get (en := e'') q, h]
theorem backE_self {en : En} {vs : List Nat} : backE en en vs = en := by
  apply List.ext_getElem?
  intro j
  by_cases q : j ∈ vs
  · exact backE_in rfl q
  · exact backE_get q
/-- [elt for tg in src if cond], state threaded: E of a state -/
theorem lc_run {α : Type} {elt : Ex} {tg : Tg} {src : Sr} {cond : Exo} {vs : List Nat} {en : En} {items : List D} (E : α → En) (I : Nat → List D → α → Prop) {s0 : α} (hs : evalS src en = .ok (items, E s0)) (hz : items.length ≤ SZ)
    (h : ∀ i d acc s, items[i]? = some d → I i acc s → ∃ e1 b e2, bindT tg d (wipeE (E s) vs) = .ok e1 ∧ evalC cond e1 = .ok (b, e2) ∧
      (b = true → ∃ r e3 s', evalE elt e2 = .ok (r, e3) ∧ I (i + 1) (acc ++ [toD r]) s' ∧ wipeE e3 vs = wipeE (E s') vs) ∧ (b = false → ∃ s', I (i + 1) acc s' ∧ wipeE e2 vs = wipeE (E s') vs))
    (h0 : I 0 [] s0) : ∃ xs s', evalE (.lc elt tg src cond vs) en = .ok (.own xs, backE (E s0) (E s') vs) ∧ I items.length xs s' := by
  have main : ∀ k i acc e s, k + i = items.length → I i acc s → wipeE e vs = wipeE (E s) vs → ∃ xs e' s', lcGo (fun e => do let (r, e') ← evalE elt e; .ok (toD r, e')) (evalC cond) tg vs (items.drop i) e acc = .ok (xs, e') ∧ I items.length xs s' ∧ wipeE e' vs = wipeE (E s') vs := by
    intro k
    induction k with
    | zero =>
      intro i acc e s hi hI hw
      have q : i = items.length := by omega
      subst q
      rw [List.drop_length]
      exact ⟨acc, e, s, rfl, hI, hw⟩
    | succ k ih =>
      intro i acc e s hi hI hw
      have hlt : i < items.length := by omega
      obtain ⟨e1, b, e2, h1, h2, h3, h4⟩ := h i items[i] acc s (List.getElem?_eq_getElem hlt) hI
      rw [List.drop_eq_getElem_cons hlt]
      simp only [lcGo]
      rw [hw, h1]
      simp only [ok_bind, h2]
      cases b with
      | true =>
        obtain ⟨r, e3, s', h5, h6, h7⟩ := h3 rfl
        obtain ⟨xs, e', s2, h8, h9, h10⟩ := ih (i + 1) (acc ++ [toD r]) e3 s' (by omega) h6 h7
        refine ⟨xs, e', s2, ?_, h9, h10⟩
        simp only [if_true, h5, ok_bind]
        exact h8
      | false =>
        obtain ⟨s', h6, h7⟩ := h4 rfl
        obtain ⟨xs, e', s2, h8, h9, h10⟩ := ih (i + 1) acc e2 s' (by omega) h6 h7
        refine ⟨xs, e', s2, ?_, h9, h10⟩
        simp only [Bool.false_eq_true, if_false]
        exact h8
  obtain ⟨xs, e', s', h1, h2, h3⟩ := main items.length 0 [] (E s0) s0 (by omega) h0 rfl
  rw [List.drop_zero] at h1
  refine ⟨xs, s', ?_, h2⟩
  simp only [evalE, hs, ok_bind, if_pos hz, h1, strict]
  rw [backE_wipe h3]
/-- .. by places -/
theorem lc_idx {elt : Ex} {tg : Tg} {src : Sr} {vs : List Nat} {en en1 : En} {items : List D} (G : Nat → D) (hs : evalS src en = .ok (items, en1)) (hz : items.length ≤ SZ)
    (h : ∀ i d, items[i]? = some d → ∃ e1 r e2, bindT tg d (wipeE en1 vs) = .ok e1 ∧ evalE elt e1 = .ok (r, e2) ∧ toD r = G i ∧ wipeE e2 vs = wipeE en1 vs) :
    evalE (.lc elt tg src .none vs) en = .ok (.own ((List.range items.length).map G), en1) := by
  obtain ⟨xs, s', h1, h2⟩ := lc_run (α := Unit) (cond := .none) (fun _ => en1) (fun i acc _ => acc = (List.range i).map G) (s0 := ()) hs hz (fun i d acc s hd ha => by
    obtain ⟨e1, r, e2, q1, q2, q3, q4⟩ := h i d hd
    refine ⟨e1, true, e1, q1, rfl, fun _ => ⟨r, e2, (), q2, ?_, q4⟩, fun z => by cases z⟩
    rw [List.range_succ, List.map_append, ha, q3]; rfl) rfl
  rw [h1, h2, backE_self]
theorem enumD_len : ∀ {xs : List D} {k : Nat}, (enumD k xs).length = xs.length
  | [], _ => rfl
  | x :: r, k => by simp [enumD, enumD_len]
theorem rngD_len : ∀ {n : Nat} {lo : Int}, (rngD lo n).length = n
  | 0, _ => rfl
  | n + 1, lo => by simp [rngD, rngD_len]
theorem ex_nx {n : Nat} {s : Sx} {r : Sxs} {en e1 : En} (h : exec n s en = .ok (.nx e1)) : execs n (.cons s r) en = execs n r e1 := by
  rw [execs, h]
  rfl
theorem ex_rt {n : Nat} {s : Sx} {r : Sxs} {en e1 : En} {v : Sl} (h : exec n s en = .ok (.rt v e1)) : execs n (.cons s r) en = .ok (.rt v e1) := by
  rw [execs, h]
  rfl
theorem iff_T {n : Nat} {c : Ex} {a b : Sxs} {en e1 : En} (h : evalB c en = .ok (.bool true, e1)) : exec n (.iff c a b) en = execs n a e1 := by
  rw [exec]
  show (evalB c en >>= _) = _
  rw [h]
  rfl
theorem iff_F {n : Nat} {c : Ex} {a b : Sxs} {en e1 : En} (h : evalB c en = .ok (.bool false, e1)) : exec n (.iff c a b) en = execs n b e1 := by
  rw [exec]
  show (evalB c en >>= _) = _
  rw [h]
  rfl
theorem iff_skip {n : Nat} {c : Ex} {a r : Sxs} {en e1 : En} (h : evalB c en = .ok (.bool false, e1)) : execs n (.cons (.iff c a .nil) r) en = execs n r e1 := ex_nx ((iff_F h).trans (by rw [execs]))
theorem iff_ret {n : Nat} {c : Ex} {a r : Sxs} {en e1 e2 : En} {v : Sl} (h : evalB c en = .ok (.bool true, e1)) (h2 : execs n a e1 = .ok (.rt v e2)) : execs n (.cons (.iff c a .nil) r) en = .ok (.rt v e2) := ex_rt ((iff_T h).trans h2)
theorem runM_rt {n m : Nat} {b : Sxs} {ms ms' ds : List D} {v : Sl} {e1 : En} (h : execs n b (some (.mb ms) :: (ds.map (fun d => some (.fr d)) ++ List.replicate m none)) = .ok (.rt v (some (.mb ms') :: e1))) : runM n b m ms ds = .ok (toD v, ms') := by
  unfold runM
  rw [h]
  rfl
theorem evalS_rngI {a : Ex} {en e1 : En} {n : Int} (h : evalB a en = .ok (.int n, e1)) (h0 : n ≤ 1000000) (h1 : -1000000 ≤ n) : evalS (.rng1 a) en = .ok (rngD 0 n.toNat, e1) := by
  have hr : -(2 ^ 62) ≤ n ∧ n < 2 ^ 62 := by omega
  rw [evalS]
  show (evalB a en >>= _) = _
  rw [h, ok_bind]
  dsimp only
  rw [if_pos hr]
theorem asVar_var (i : Nat) : asVar (.var i) = some i := rfl
theorem asVar_fn (f : En → Ou (Sl × En)) : asVar (.fn f) = none := rfl
theorem asVar_cst (d : D) : asVar (.cst d) = none := rfl
theorem asVar_mv (i : Nat) : asVar (.mv i) = none := rfl
theorem asVar_bin (op : PySem.Operator) (a b : Ex) : asVar (.bin op a b) = none := rfl
theorem asVar_neg (a : Ex) : asVar (.neg a) = none := rfl
theorem asVar_nt (a : Ex) : asVar (.nt a) = none := rfl
theorem asVar_cmp (op : PySem.CmpOp) (a b : Ex) : asVar (.cmp op a b) = none := rfl
theorem asVar_chain (o1 o2 : PySem.CmpOp) (a b c : Ex) : asVar (.chain o1 o2 a b c) = none := rfl
theorem asVar_andE (a b : Ex) : asVar (.andE a b) = none := rfl
theorem asVar_orE (a b : Ex) : asVar (.orE a b) = none := rfl
theorem asVar_ife (a b c : Ex) : asVar (.ife a b c) = none := rfl
theorem asVar_tupE (a : Exs) : asVar (.tupE a) = none := rfl
theorem asVar_lstE (a : Exs) : asVar (.lstE a) = none := rfl
theorem asVar_idx (a b : Ex) : asVar (.idx a b) = none := rfl
theorem asVar_slc (a : Ex) (l h : Exo) : asVar (.slc a l h) = none := rfl
theorem asVar_call (φ : List D → Ou Sl) (a : Exs) : asVar (.call φ a) = none := rfl
theorem asVar_callM (φ : List D → List D → Ou (D × List D)) (i : Nat) (a : Exs) : asVar (.callM φ i a) = none := rfl
theorem asVar_popI (i k : Nat) : asVar (.popI i k) = none := rfl
theorem asVar_bi (b : Bi) (a : Ex) : asVar (.bi b a) = none := rfl
theorem asVar_bi2 (b : Bi) (a c : Ex) : asVar (.bi2 b a c) = none := rfl
theorem asVar_isi (T : Ty) (a : Ex) : asVar (.isi T a) = none := rfl
theorem eqD_int {i j : Int} : eqD (.int i) (.int j) = .ok (i == j) := rfl
theorem eqD_str {i j : Str} : eqD (.str i) (.str j) = .ok (i == j) := rfl
theorem eqD_bool {i j : Bool} : eqD (.bool i) (.bool j) = .ok (i == j) := rfl
/-- no lent list -/
noncomputable def nmb : Option Sl → Bool
  | some (.mb _) => false
  | some (.mo _ _) => false
  | _ => true
noncomputable def nmbAt (en : En) (i : Nat) : Bool := match en[i]? with
  | some a => nmb a
  | none => false
theorem nmb_none : nmb none = true := rfl
theorem nmb_fr {d : D} : nmb (some (.fr d)) = true := rfl
theorem nmb_own {d : List D} : nmb (some (.own d)) = true := rfl
theorem nmb_ob {C : PySem.Str} {d : List D} : nmb (some (.ob C d)) = true := rfl
theorem putE_ob {en : En} {i : Nat} {C : PySem.Str} {d : List D} : putE en i (.ob C d) = if nmbAt en i = true then .ok (en.set i (some (.ob C d))) else .no := by
  unfold putE nmbAt
  cases q : en[i]? with
  | none => rfl
  | some a =>
    cases a with
    | none => rfl
    | some s => cases s <;> rfl
theorem asVar_fo {C : PySem.Str} {i j : Nat} : asVar (.fo C i j) = none := rfl
theorem asVar_callO {C : PySem.Str} {φ : List D → List D → Ou (Sl × List D)} {i : Nat} {es : Exs} : asVar (.callO C φ i es) = none := rfl
theorem asVar_callT {C : PySem.Str} {φ : List D → List D → Ou (Sl × List D)} {e : Ex} {es : Exs} : asVar (.callT C φ e es) = none := rfl
theorem asVar_mkO {C : PySem.Str} {φ : List D → Ou (List D)} {es : Exs} : asVar (.mkO C φ es) = none := rfl
theorem asVar_popF {C : PySem.Str} {i j : Nat} : asVar (.popF C i j) = none := rfl
theorem asVar_errO {C : PySem.Str} {η : Exn → Ou D} {φ : List D → List D → Ou (Sl × List D)} {i : Nat} {es : Exs} : asVar (.errO C η φ i es) = none := rfl
theorem putE_fr {en : En} {i : Nat} {d : D} : putE en i (.fr d) = if nmbAt en i = true then .ok (en.set i (some (.fr d))) else .no := by
  unfold putE nmbAt
  cases q : en[i]? with
  | none => rfl
  | some a =>
    cases a with
    | none => rfl
    | some s => cases s <;> rfl
theorem putE_own {en : En} {i : Nat} {d : List D} : putE en i (.own d) = if nmbAt en i = true then .ok (en.set i (some (.own d))) else .no := by
  unfold putE nmbAt
  cases q : en[i]? with
  | none => rfl
  | some a =>
    cases a with
    | none => rfl
    | some s => cases s <;> rfl
theorem asVar_callB (φ : List D → Ou Sl) (a : Exs) : asVar (.callB φ a) = none := rfl
theorem asVar_cntB {i : Nat} : asVar (.cntB i) = none := rfl
theorem asVar_idxB {i : Nat} : asVar (.idxB i) = none := rfl
theorem asVar_isE {a : Nat} {d : Option Nat} {i : Nat} {b : Bool} : asVar (.isE a d i b) = none := rfl
theorem asVar_fldE {a d i : Nat} {f : PySem.Str} : asVar (.fldE a d i f) = none := rfl
theorem asVar_nevE : asVar .nevE = none := rfl
theorem asVar_idxD {i : Nat} {e : Ex} : asVar (.idxD i e) = none := rfl
theorem asVar_errC {η : Exn → Ou D} {φ : List D → Ou Sl} {es : Exs} : asVar (.errC η φ es) = none := rfl
theorem asVar_lrng (a : Ex) : asVar (.lrng a) = none := rfl
theorem asVar_rev (a : Ex) : asVar (.rev a) = none := rfl
theorem asVar_idx3 (i : Nat) (a b : Ex) : asVar (.idx3 i a b) = none := rfl
theorem asVar_popE (i : Nat) (a : Ex) : asVar (.popE i a) = none := rfl
theorem ixN_zero {n : Nat} : ixN (n + 1) 0 = some 0 := by
  unfold ixN
  rw [if_pos (by decide), if_pos (by omega)]
  rfl
theorem ixN_one {n : Nat} : ixN (n + 2) 1 = some 1 := by
  unfold ixN
  rw [if_pos (by decide), if_pos (by omega)]
  rfl
theorem atI_zero {α : Type} {a : α} {r : List α} : atI (a :: r) 0 = some a := by
  unfold atI
  rw [List.length_cons, ixN_zero]
  rfl
theorem atI_one {α : Type} {a b : α} {r : List α} : atI (a :: b :: r) 1 = some b := by
  unfold atI
  rw [List.length_cons, List.length_cons, ixN_one]
  rfl
theorem setL_at0 {d a : D} {r : List D} : setL 0 d (a :: r) = .ok (d :: r) := by
  unfold setL
  rw [List.length_cons, ixN_zero]
  rfl
theorem setL_at1 {d a b : D} {r : List D} : setL 1 d (a :: b :: r) = .ok (a :: d :: r) := by
  unfold setL
  rw [List.length_cons, List.length_cons, ixN_one]
  rfl
end VS

/-! More of the language: a, *b = t; D.get(x, n) of a written dict. -/
namespace VS
open PySem
end VS

/-! Each def in the language. -/
namespace VS
open PySem (PyData)
noncomputable def ir_is_int_in : Sxs := .cons (.ret (.andE (.isi .int (.var 0)) (.andE (.nt (.isi .bool (.var 0))) (.chain .LtE .LtE (.var 1) (.var 0) (.var 2)))))
    (.nil)
noncomputable def phi_is_int_in : List D → Ou Sl := fnOf (ir_is_int_in) 0
noncomputable def b0_check_marks (q : Bool) : Sxs := .cons (.iff (.orE (.cmp .Eq (.var 1) (.cst (.int 8))) (.nt (.call phi_is_int_in (.cons (.var 2) (.cons (.bin .Sub (.cst (.int 0)) (.cst (.int 1000000))) (.cons (.cst (.int 1000000)) (.nil))))))) (.cons (rz q (.raise "InvalidMarks" (mk1 "position") (.cons (.var 1) (.nil))))
    (.nil)) (.nil))
    (.nil)
noncomputable def ir_check_marks (q : Bool) : Sxs := .cons (.iff (.nt (.isi .tuple (.var 0))) (.cons (rz q (.raise "InvalidMarks" (mk1 "position") (.cons (.cst (.int 0)) (.nil))))
    (.nil)) (.nil))
    (.cons (.forr (.tup [1, 2]) (.enum (.var 0)) (b0_check_marks q))
    (.cons (.iff (.cmp .Lt (.bi .len (.var 0)) (.cst (.int 3))) (.cons (rz q (.raise "InvalidMarks" (mk1 "position") (.cons (.bi .len (.var 0)) (.nil))))
    (.nil)) (.nil))
    (.nil)))
noncomputable def phi_check_marks (q : Bool) : List D → Ou Sl := fnOf (ir_check_marks q) 2
noncomputable def c0_steps_of : Ex := .lc (.bin .Sub (.idx (.var 0) (.bin .Mod (.bin .Add (.var 1) (.cst (.int 1))) (.bi .len (.var 0)))) (.var 2)) (.tup [1, 2]) (.enum (.var 0)) (.none) [1, 2]
theorem c0_steps_of_v : asVar (c0_steps_of) = none := rfl
noncomputable def ir_steps_of : Sxs := .cons (.ret (.bi .tuple (c0_steps_of)))
    (.nil)
noncomputable def phi_steps_of : List D → Ou Sl := fnOf (ir_steps_of) 2
noncomputable def ir_Workbench___init__ (q : Bool) : Sxs := .cons (.expr (.call (phi_check_marks q) (.cons (.var 1) (.nil))))
    (.cons (.setF "Workbench" 0 0 (.tupE (.cons (.var 1) (.cons (.tupE (.nil)) (.nil)))))
    (.cons (.setL "Workbench" 0 1 (.lstE (.nil)))
    (.cons (.setL "Workbench" 0 2 (.lstE (.nil)))
    (.cons (.setF "Workbench" 0 3 (.cst (.dict [])))
    (.nil)))))
noncomputable def phi_Workbench___init__ (q : Bool) : List D → List D → Ou (Sl × List D) := foOf (ir_Workbench___init__ q) 0 "Workbench"
noncomputable def ir__law_below : Sxs := .cons (.iff (.andE (.cmp .Eq (.idx (.var 0) (.cst (.int 1))) (.cst (.int 0))) (.cmp .Gt (.bi .len (.var 0)) (.cst (.int 2)))) (.cons (.setI 0 (.cst (.int 1)) (.popI 0 2))
    (.nil)) (.nil))
    (.cons (.iff (.cmp .Gt (.idx (.var 0) (.cst (.int 1))) (.cst (.int 0))) (.cons (.asg 2 (.bin .Mod (.idx (.var 0) (.cst (.int 1))) (.var 1)))
    (.cons (.setI 0 (.cst (.int 1)) (.bin .FloorDiv (.idx (.var 0) (.cst (.int 1))) (.var 1)))
    (.cons (.ret (.mv 2))
    (.nil)))) (.nil))
    (.cons (.setI 0 (.cst (.int 0)) (.bin .Mod (.bin .Add (.bin .Mult (.idx (.var 0) (.cst (.int 0))) (.cst (.int 48271))) (.cst (.int 11))) (.cst (.int 2147483647))))
    (.cons (.ret (.bin .Mod (.bin .FloorDiv (.idx (.var 0) (.cst (.int 0))) (.cst (.int 64))) (.var 1)))
    (.nil))))
noncomputable def phi__law_below : List D → List D → Ou (D × List D) := fmOf (ir__law_below) 1
noncomputable def c0__law_marks : Ex := .lc (.bin .Sub (.callM phi__law_below 0 (.cons (.idx (.lstE (.cons (.cst (.int 3)) (.cons (.cst (.int 20)) (.nil)))) (.callM phi__law_below 0 (.cons (.cst (.int 2)) (.nil)))) (.nil))) (.cst (.int 2))) (.one 5) (.rng1 (.var 1)) (.none) [5]
theorem c0__law_marks_v : asVar (c0__law_marks) = none := rfl
noncomputable def c1__law_marks : Ex := .lc (.bin .Add (.var 3) (.bin .Mult (.var 4) (.callM phi__law_below 0 (.cons (.cst (.int 4)) (.nil))))) (.one 5) (.rng1 (.var 1)) (.none) [5]
theorem c1__law_marks_v : asVar (c1__law_marks) = none := rfl
noncomputable def c2__law_marks : Ex := .lc (.bin .Sub (.callM phi__law_below 0 (.cons (.cst (.int 2000001)) (.nil))) (.cst (.int 1000000))) (.one 5) (.rng1 (.var 1)) (.none) [5]
theorem c2__law_marks_v : asVar (c2__law_marks) = none := rfl
noncomputable def ir__law_marks : Sxs := .cons (.par [1, 2] (.cons (.bin .Add (.cst (.int 3)) (.callM phi__law_below 0 (.cons (.cst (.int 6)) (.nil)))) (.cons (.callM phi__law_below 0 (.cons (.cst (.int 5)) (.nil))) (.nil))))
    (.cons (.iff (.cmp .Eq (.var 2) (.cst (.int 0))) (.cons (.ret (.bi .tuple (c2__law_marks)))
    (.nil)) (.nil))
    (.cons (.iff (.cmp .Eq (.var 2) (.cst (.int 1))) (.cons (.par [3, 4] (.cons (.bin .Sub (.callM phi__law_below 0 (.cons (.cst (.int 9)) (.nil))) (.cst (.int 4))) (.cons (.bin .Add (.cst (.int 1)) (.callM phi__law_below 0 (.cons (.cst (.int 5)) (.nil)))) (.nil))))
    (.cons (.ret (.bi .tuple (c1__law_marks)))
    (.nil))) (.nil))
    (.cons (.iff (.cmp .Eq (.var 2) (.cst (.int 2))) (.cons (.ret (.bin .Mult (.tupE (.cons (.callM phi__law_below 0 (.cons (.cst (.int 9)) (.nil))) (.nil))) (.var 1)))
    (.nil)) (.nil))
    (.cons (.ret (.bi .tuple (c0__law_marks)))
    (.nil)))))
noncomputable def phi__law_marks : List D → List D → Ou (D × List D) := fmOf (ir__law_marks) 5
noncomputable def ir__law_bad_marks : Sxs := .cons (.par [1, 2] (.cons (.callM phi__law_marks 0 (.nil)) (.cons (.callM phi__law_below 0 (.cons (.cst (.int 6)) (.nil))) (.nil))))
    (.cons (.iff (.cmp .Eq (.var 2) (.cst (.int 0))) (.cons (.ret (.tupE (.cons (.idx (.lstE (.cons (.cst .none) (.cons (.cst (.int 5)) (.cons (.bi .list (.var 1)) (.cons (.cst (.str "1")) (.cons (.cst (.bool true)) (.nil))))))) (.callM phi__law_below 0 (.cons (.cst (.int 5)) (.nil)))) (.cons (.cst (.int 0)) (.nil)))))
    (.nil)) (.nil))
    (.cons (.iff (.cmp .Eq (.var 2) (.cst (.int 1))) (.cons (.asg 3 (.callM phi__law_below 0 (.cons (.cst (.int 3)) (.nil))))
    (.cons (.ret (.tupE (.cons (.slc (.var 1) (.none) (.some (.var 3))) (.cons (.var 3) (.nil)))))
    (.nil))) (.nil))
    (.cons (.iff (.cmp .Eq (.var 2) (.cst (.int 2))) (.cons (.ret (.tupE (.cons (.slc (.bin .Add (.bin .Add (.var 1) (.var 1)) (.var 1)) (.none) (.some (.bin .Add (.cst (.int 9)) (.callM phi__law_below 0 (.cons (.cst (.int 2)) (.nil)))))) (.cons (.cst (.int 8)) (.nil)))))
    (.nil)) (.nil))
    (.cons (.asg 4 (.callM phi__law_below 0 (.cons (.bi .len (.var 1)) (.nil))))
    (.cons (.asg 5 (.idx (.lstE (.cons (.cst .none) (.cons (.cst (.bool true)) (.cons (.cst (.str "1")) (.cons (.bin .Add (.cst (.int 1000001)) (.callM phi__law_below 0 (.cons (.cst (.int 99)) (.nil)))) (.cons (.bin .Sub (.bin .Sub (.cst (.int 0)) (.cst (.int 1000001))) (.callM phi__law_below 0 (.cons (.cst (.int 99)) (.nil)))) (.cons (.tupE (.cons (.cst (.int 1)) (.nil))) (.nil)))))))) (.callM phi__law_below 0 (.cons (.cst (.int 6)) (.nil)))))
    (.cons (.ret (.tupE (.cons (.bin .Add (.bin .Add (.bin .Add (.slc (.var 1) (.none) (.some (.var 4))) (.tupE (.cons (.var 5) (.nil)))) (.slc (.var 1) (.some (.bin .Add (.var 4) (.cst (.int 1)))) (.none))) (.bin .Mult (.tupE (.cons (.cst .none) (.nil))) (.callM phi__law_below 0 (.cons (.cst (.int 2)) (.nil))))) (.cons (.var 4) (.nil)))))
    (.nil)))))))
noncomputable def phi__law_bad_marks : List D → List D → Ou (D × List D) := fmOf (ir__law_bad_marks) 5
noncomputable def ir_find_steps (q : Bool) : Sxs := .cons (.expr (.call (phi_check_marks q) (.cons (.var 0) (.nil))))
    (.cons (.ret (.call phi_steps_of (.cons (.var 0) (.nil))))
    (.nil))
noncomputable def phi_find_steps (q : Bool) : List D → Ou Sl := fnOf (ir_find_steps q) 0
end VS

local macro_rules
  | `(tactic| simp_all only [$ls,*]) => `(tactic| simp -implicitDefEqProofs only [VS.runD, VS.runM, VS.evalB, VS.execs, VS.exec, VS.evalE, VS.evalA, VS.evalO, VS.evalC, VS.evalS, VS.evalL, VS.brw, VS.two, VS.three, VS.asVar_var, VS.asVar_cst, VS.asVar_mv, VS.asVar_bin, VS.asVar_neg, VS.asVar_nt, VS.asVar_cmp, VS.asVar_chain, VS.asVar_andE, VS.asVar_orE, VS.asVar_ife, VS.asVar_tupE, VS.asVar_lstE, VS.asVar_idx, VS.asVar_slc, VS.asVar_call, VS.asVar_callM, VS.asVar_popI, VS.asVar_bi, VS.asVar_bi2, VS.asVar_isi, VS.rdE, VS.rdL, VS.putE_fr, VS.putE_own, VS.nmbAt, VS.nmb_none, VS.nmb_fr, VS.nmb_own, VS.updE, VS.putsE, VS.mb0, VS.setL_at0, VS.setL_at1, VS.intOf, VS.bindT, VS.augD, VS.toD, VS.binD, VS.cmpD, VS.eqD_int, VS.eqD_str, VS.eqD_bool, VS.idxD, VS.biD, VS.isiD, VS.isNone, VS.itemsD, VS.slcD, VS.atI_zero, VS.atI_one, VS.strict, VS.ok_bind, VS.ex_bind, VS.no_bind, List.map_cons, List.map_nil, List.replicate_succ, List.replicate_zero, List.cons_append, List.nil_append, List.append_nil, List.getElem?_cons_zero, List.getElem?_cons_succ, List.getElem?_nil, List.set_cons_zero, List.set_cons_succ, List.length_cons, List.length_nil, List.length_map, Bool.not_false, Bool.not_true, if_true, if_false, Bool.false_eq_true, List.eraseIdx_cons_succ, List.eraseIdx_cons_zero, and_self, true_and, and_true, ite_true, ite_false, decide_true, decide_false, ne_eq, not_false_eq_true, not_true_eq_false, true_or, or_true, reduceCtorEq, VS.tag_ok, VS.tag_no, VS.tag_ex, VS.obs_none, VS.obs_fr, VS.obs_own, VS.obs_mb, VS.obs_ob, VS.obs_mo, VS.obD, VS.fldAt, VS.updO, VS.fldPut, VS.fldApp, VS.fldLast, VS.fldPop, VS.fldLst, VS.asOb, eq_self, VS.asVar_fo, VS.asVar_callO, VS.asVar_callT, VS.asVar_mkO, VS.asVar_popF, VS.asVar_errO, VS.putE_ob, VS.nmb_ob, VS.runO, VS.mo0, VS.noOb, VS.asVar_lrng, VS.asVar_rev, VS.asVar_idx3, VS.asVar_popE, VS.asVar_callB, VS.asVar_cntB, VS.asVar_idxB, VS.asVar_isE, VS.asVar_fldE, VS.asVar_nevE, VS.asVar_errC, VS.asVar_idxD, VS.caught, VS.evalAr, VS.argsD, VS.appS, VS.flatD, VS.revD, VS.lstD, VS.asVar_fn, VS.biF, $ls,*])
  | `(tactic| simp_all! only [$ls,*]) => `(tactic| simp -implicitDefEqProofs only [VS.runD, VS.runM, VS.evalB, VS.execs, VS.exec, VS.evalE, VS.evalA, VS.evalO, VS.evalC, VS.evalS, VS.evalL, VS.brw, VS.two, VS.three, VS.asVar_var, VS.asVar_cst, VS.asVar_mv, VS.asVar_bin, VS.asVar_neg, VS.asVar_nt, VS.asVar_cmp, VS.asVar_chain, VS.asVar_andE, VS.asVar_orE, VS.asVar_ife, VS.asVar_tupE, VS.asVar_lstE, VS.asVar_idx, VS.asVar_slc, VS.asVar_call, VS.asVar_callM, VS.asVar_popI, VS.asVar_bi, VS.asVar_bi2, VS.asVar_isi, VS.rdE, VS.rdL, VS.putE_fr, VS.putE_own, VS.nmbAt, VS.nmb_none, VS.nmb_fr, VS.nmb_own, VS.updE, VS.putsE, VS.mb0, VS.setL_at0, VS.setL_at1, VS.intOf, VS.bindT, VS.toD, VS.binD, VS.cmpD, VS.eqD_int, VS.eqD_str, VS.eqD_bool, VS.idxD, VS.biD, VS.isiD, VS.isNone, VS.itemsD, VS.slcD, VS.atI_zero, VS.atI_one, VS.strict, VS.ok_bind, VS.ex_bind, VS.no_bind, List.map_cons, List.map_nil, List.replicate_succ, List.replicate_zero, List.cons_append, List.nil_append, List.append_nil, List.getElem?_cons_zero, List.getElem?_cons_succ, List.getElem?_nil, List.set_cons_zero, List.set_cons_succ, List.length_cons, List.length_nil, List.length_map, Bool.not_false, Bool.not_true, if_true, if_false, Bool.false_eq_true, List.eraseIdx_cons_succ, List.eraseIdx_cons_zero, and_self, true_and, and_true, ite_true, ite_false, decide_true, decide_false, ne_eq, not_false_eq_true, not_true_eq_false, true_or, or_true, reduceCtorEq, VS.tag_ok, VS.tag_no, VS.tag_ex, VS.obs_none, VS.obs_fr, VS.obs_own, VS.obs_mb, VS.obs_ob, VS.obs_mo, VS.obD, VS.fldAt, VS.updO, VS.fldPut, VS.fldApp, VS.fldLast, VS.fldPop, VS.fldLst, VS.asOb, eq_self, VS.asVar_fo, VS.asVar_callO, VS.asVar_callT, VS.asVar_mkO, VS.asVar_popF, VS.asVar_errO, VS.putE_ob, VS.nmb_ob, VS.runO, VS.mo0, VS.noOb, VS.asVar_lrng, VS.asVar_rev, VS.asVar_idx3, VS.asVar_popE, VS.asVar_callB, VS.asVar_cntB, VS.asVar_idxB, VS.asVar_isE, VS.asVar_fldE, VS.asVar_nevE, VS.asVar_errC, VS.asVar_idxD, VS.caught, VS.evalAr, VS.argsD, VS.appS, VS.flatD, VS.revD, VS.lstD, VS.asVar_fn, VS.biF, $ls,*])
  | `(tactic| simp_arith only [$ls,*]) => `(tactic| simp -implicitDefEqProofs only [VS.runD, VS.runM, VS.evalB, VS.execs, VS.exec, VS.evalE, VS.evalA, VS.evalO, VS.evalC, VS.evalS, VS.evalL, VS.brw, VS.two, VS.three, VS.asVar_var, VS.asVar_cst, VS.asVar_mv, VS.asVar_bin, VS.asVar_neg, VS.asVar_nt, VS.asVar_cmp, VS.asVar_chain, VS.asVar_andE, VS.asVar_orE, VS.asVar_ife, VS.asVar_tupE, VS.asVar_lstE, VS.asVar_idx, VS.asVar_slc, VS.asVar_call, VS.asVar_callM, VS.asVar_popI, VS.asVar_bi, VS.asVar_bi2, VS.asVar_isi, VS.rdE, VS.rdL, VS.putE_fr, VS.putE_own, VS.nmbAt, VS.nmb_none, VS.nmb_fr, VS.nmb_own, VS.updE, VS.putsE, VS.mb0, VS.setL_at0, VS.setL_at1, VS.intOf, VS.bindT, VS.augD, VS.toD, VS.binD, VS.cmpD, VS.eqD_int, VS.eqD_str, VS.eqD_bool, VS.idxD, VS.isiD, VS.isNone, VS.itemsD, VS.slcD, VS.atI_zero, VS.atI_one, VS.strict, VS.ok_bind, VS.ex_bind, VS.no_bind, List.map_cons, List.map_nil, List.replicate_succ, List.replicate_zero, List.cons_append, List.nil_append, List.append_nil, List.getElem?_cons_zero, List.getElem?_cons_succ, List.getElem?_nil, List.set_cons_zero, List.set_cons_succ, List.length_cons, List.length_nil, List.length_map, Bool.not_false, Bool.not_true, if_true, if_false, Bool.false_eq_true, List.eraseIdx_cons_succ, List.eraseIdx_cons_zero, and_self, true_and, and_true, ite_true, ite_false, decide_true, decide_false, ne_eq, not_false_eq_true, not_true_eq_false, true_or, or_true, reduceCtorEq, VS.tag_ok, VS.tag_no, VS.tag_ex, VS.obs_none, VS.obs_fr, VS.obs_own, VS.obs_mb, VS.obs_ob, VS.obs_mo, VS.obD, VS.fldAt, VS.updO, VS.fldPut, VS.fldApp, VS.fldLast, VS.fldPop, VS.fldLst, VS.asOb, eq_self, VS.asVar_fo, VS.asVar_callO, VS.asVar_callT, VS.asVar_mkO, VS.asVar_popF, VS.asVar_errO, VS.putE_ob, VS.nmb_ob, VS.runO, VS.mo0, VS.noOb, VS.asVar_lrng, VS.asVar_rev, VS.asVar_idx3, VS.asVar_popE, VS.asVar_callB, VS.asVar_cntB, VS.asVar_idxB, VS.asVar_isE, VS.asVar_fldE, VS.asVar_nevE, VS.asVar_errC, VS.asVar_idxD, VS.caught, VS.evalAr, VS.argsD, VS.appS, VS.flatD, VS.revD, VS.lstD, VS.asVar_fn, VS.biF, $ls,*])
  | `(tactic| simp_arith! only [$ls,*]) => `(tactic| simp -implicitDefEqProofs only [VS.runD, VS.runM, VS.evalB, VS.execs, VS.exec, VS.evalE, VS.evalA, VS.evalO, VS.evalC, VS.evalS, VS.evalL, VS.brw, VS.two, VS.three, VS.asVar_var, VS.asVar_cst, VS.asVar_mv, VS.asVar_bin, VS.asVar_neg, VS.asVar_nt, VS.asVar_cmp, VS.asVar_chain, VS.asVar_andE, VS.asVar_orE, VS.asVar_ife, VS.asVar_tupE, VS.asVar_lstE, VS.asVar_idx, VS.asVar_slc, VS.asVar_call, VS.asVar_callM, VS.asVar_popI, VS.asVar_bi, VS.asVar_bi2, VS.asVar_isi, VS.rdE, VS.rdL, VS.putE_fr, VS.putE_own, VS.nmbAt, VS.nmb_none, VS.nmb_fr, VS.nmb_own, VS.updE, VS.putsE, VS.mb0, VS.setL_at0, VS.setL_at1, VS.intOf, VS.bindT, VS.augD, VS.toD, VS.binD, VS.cmpD, VS.eqD_int, VS.eqD_str, VS.eqD_bool, VS.idxD, VS.biD, VS.isiD, VS.itemsD, VS.slcD, VS.atI_zero, VS.atI_one, VS.strict, VS.ok_bind, VS.ex_bind, VS.no_bind, List.map_cons, List.map_nil, List.replicate_succ, List.replicate_zero, List.cons_append, List.nil_append, List.append_nil, List.getElem?_cons_zero, List.getElem?_cons_succ, List.getElem?_nil, List.set_cons_zero, List.set_cons_succ, List.length_cons, List.length_nil, List.length_map, Bool.not_false, Bool.not_true, if_true, if_false, Bool.false_eq_true, List.eraseIdx_cons_succ, List.eraseIdx_cons_zero, and_self, true_and, and_true, ite_true, ite_false, decide_true, decide_false, ne_eq, not_false_eq_true, not_true_eq_false, true_or, or_true, reduceCtorEq, VS.tag_ok, VS.tag_no, VS.tag_ex, VS.obs_none, VS.obs_fr, VS.obs_own, VS.obs_mb, VS.obs_ob, VS.obs_mo, VS.obD, VS.fldAt, VS.updO, VS.fldPut, VS.fldApp, VS.fldLast, VS.fldPop, VS.fldLst, VS.asOb, eq_self, VS.asVar_fo, VS.asVar_callO, VS.asVar_callT, VS.asVar_mkO, VS.asVar_popF, VS.asVar_errO, VS.putE_ob, VS.nmb_ob, VS.runO, VS.mo0, VS.noOb, VS.asVar_lrng, VS.asVar_rev, VS.asVar_idx3, VS.asVar_popE, VS.asVar_callB, VS.asVar_cntB, VS.asVar_idxB, VS.asVar_isE, VS.asVar_fldE, VS.asVar_nevE, VS.asVar_errC, VS.asVar_idxD, VS.caught, VS.evalAr, VS.argsD, VS.appS, VS.flatD, VS.revD, VS.lstD, VS.asVar_fn, VS.biF, $ls,*])
  | `(tactic| simp_all_arith only [$ls,*]) => `(tactic| simp -implicitDefEqProofs only [VS.runD, VS.runM, VS.evalB, VS.execs, VS.exec, VS.evalE, VS.evalA, VS.evalO, VS.evalC, VS.evalS, VS.evalL, VS.brw, VS.two, VS.three, VS.asVar_var, VS.asVar_cst, VS.asVar_mv, VS.asVar_bin, VS.asVar_neg, VS.asVar_nt, VS.asVar_cmp, VS.asVar_chain, VS.asVar_andE, VS.asVar_orE, VS.asVar_ife, VS.asVar_tupE, VS.asVar_lstE, VS.asVar_idx, VS.asVar_slc, VS.asVar_call, VS.asVar_callM, VS.asVar_popI, VS.asVar_bi, VS.asVar_bi2, VS.asVar_isi, VS.rdE, VS.rdL, VS.putE_fr, VS.putE_own, VS.nmbAt, VS.nmb_none, VS.nmb_fr, VS.nmb_own, VS.updE, VS.putsE, VS.mb0, VS.setL_at0, VS.setL_at1, VS.intOf, VS.bindT, VS.augD, VS.toD, VS.binD, VS.cmpD, VS.eqD_int, VS.eqD_str, VS.eqD_bool, VS.idxD, VS.biD, VS.isNone, VS.itemsD, VS.slcD, VS.atI_zero, VS.atI_one, VS.strict, VS.ok_bind, VS.ex_bind, VS.no_bind, List.map_cons, List.map_nil, List.replicate_succ, List.replicate_zero, List.cons_append, List.nil_append, List.append_nil, List.getElem?_cons_zero, List.getElem?_cons_succ, List.getElem?_nil, List.set_cons_zero, List.set_cons_succ, List.length_cons, List.length_nil, List.length_map, Bool.not_false, Bool.not_true, if_true, if_false, Bool.false_eq_true, List.eraseIdx_cons_succ, List.eraseIdx_cons_zero, and_self, true_and, and_true, ite_true, ite_false, decide_true, decide_false, ne_eq, not_false_eq_true, not_true_eq_false, true_or, or_true, reduceCtorEq, VS.tag_ok, VS.tag_no, VS.tag_ex, VS.obs_none, VS.obs_fr, VS.obs_own, VS.obs_mb, VS.obs_ob, VS.obs_mo, VS.obD, VS.fldAt, VS.updO, VS.fldPut, VS.fldApp, VS.fldLast, VS.fldPop, VS.fldLst, VS.asOb, eq_self, VS.asVar_fo, VS.asVar_callO, VS.asVar_callT, VS.asVar_mkO, VS.asVar_popF, VS.asVar_errO, VS.putE_ob, VS.nmb_ob, VS.runO, VS.mo0, VS.noOb, VS.asVar_lrng, VS.asVar_rev, VS.asVar_idx3, VS.asVar_popE, VS.asVar_callB, VS.asVar_cntB, VS.asVar_idxB, VS.asVar_isE, VS.asVar_fldE, VS.asVar_nevE, VS.asVar_errC, VS.asVar_idxD, VS.caught, VS.evalAr, VS.argsD, VS.appS, VS.flatD, VS.revD, VS.lstD, VS.asVar_fn, VS.biF, $ls,*])
  | `(tactic| simp! only [$ls,*]) => `(tactic| simp -implicitDefEqProofs only [VS.runD, VS.runM, VS.evalB, VS.execs, VS.exec, VS.evalE, VS.evalA, VS.evalO, VS.evalC, VS.evalS, VS.evalL, VS.brw, VS.two, VS.three, VS.asVar_var, VS.asVar_cst, VS.asVar_mv, VS.asVar_bin, VS.asVar_neg, VS.asVar_nt, VS.asVar_cmp, VS.asVar_chain, VS.asVar_andE, VS.asVar_orE, VS.asVar_ife, VS.asVar_tupE, VS.asVar_lstE, VS.asVar_idx, VS.asVar_slc, VS.asVar_call, VS.asVar_callM, VS.asVar_popI, VS.asVar_bi, VS.asVar_bi2, VS.asVar_isi, VS.rdE, VS.rdL, VS.putE_fr, VS.putE_own, VS.nmbAt, VS.nmb_none, VS.nmb_fr, VS.nmb_own, VS.updE, VS.putsE, VS.mb0, VS.setL_at0, VS.setL_at1, VS.intOf, VS.bindT, VS.augD, VS.toD, VS.cmpD, VS.eqD_int, VS.eqD_str, VS.eqD_bool, VS.idxD, VS.biD, VS.isiD, VS.isNone, VS.itemsD, VS.slcD, VS.atI_zero, VS.atI_one, VS.strict, VS.ok_bind, VS.ex_bind, VS.no_bind, List.map_cons, List.map_nil, List.replicate_succ, List.replicate_zero, List.cons_append, List.nil_append, List.append_nil, List.getElem?_cons_zero, List.getElem?_cons_succ, List.getElem?_nil, List.set_cons_zero, List.set_cons_succ, List.length_cons, List.length_nil, List.length_map, Bool.not_false, Bool.not_true, if_true, if_false, Bool.false_eq_true, List.eraseIdx_cons_succ, List.eraseIdx_cons_zero, and_self, true_and, and_true, ite_true, ite_false, decide_true, decide_false, ne_eq, not_false_eq_true, not_true_eq_false, true_or, or_true, reduceCtorEq, VS.tag_ok, VS.tag_no, VS.tag_ex, VS.obs_none, VS.obs_fr, VS.obs_own, VS.obs_mb, VS.obs_ob, VS.obs_mo, VS.obD, VS.fldAt, VS.updO, VS.fldPut, VS.fldApp, VS.fldLast, VS.fldPop, VS.fldLst, VS.asOb, eq_self, VS.asVar_fo, VS.asVar_callO, VS.asVar_callT, VS.asVar_mkO, VS.asVar_popF, VS.asVar_errO, VS.putE_ob, VS.nmb_ob, VS.runO, VS.mo0, VS.noOb, VS.asVar_lrng, VS.asVar_rev, VS.asVar_idx3, VS.asVar_popE, VS.asVar_callB, VS.asVar_cntB, VS.asVar_idxB, VS.asVar_isE, VS.asVar_fldE, VS.asVar_nevE, VS.asVar_errC, VS.asVar_idxD, VS.caught, VS.evalAr, VS.argsD, VS.appS, VS.flatD, VS.revD, VS.lstD, VS.asVar_fn, VS.biF, $ls,*])

/-! What the laws' catcher answers, class by class. -/
namespace VS
open PySem PySem.Spec PyProof.Rows L2
noncomputable def etaP (f n : Str) : List (Str × D) → Ou D
  | [(g, y)] => if g = f ∧ flatD y = true then .ok (.tuple [.str n, y]) else .no
  | _ => .no
theorem etaP_inv {f n : Str} {fs : List (Str × D)} {x : D} (h : etaP f n fs = .ok x) : ∃ y, fs = [(f, y)] ∧ flatD y = true ∧ x = .tuple [.str n, y] := by
  unfold etaP at h
  split at h
  · split at h
    · rename_i q
      obtain ⟨rfl, q2⟩ := q
      have h := Ou.ok.inj h
      exact ⟨_, rfl, q2, h.symm⟩
    · cases h
  · cases h
theorem nd_flat {y : D} (h : flatD y = true) : noDct y = true := by
  cases y <;> first | rfl | cases h
theorem ndP {n : Str} {y : D} (h : flatD y = true) : noDct (.tuple [.str n, y]) = true := by
  simp only [noDct, noDcts, nd_flat h, Bool.and_true]
/-- the catcher's suite -/
noncomputable def hdlOf (st : Stmt) : List Stmt := match defBody st with
  | (.Try _ [.ExceptHandler _ _ b _] _ _ _) :: _ => b
  | _ => []
end VS

/-! What the suite of the laws' catcher of errors answers. -/
namespace VS
open PySem (PyData Str)
open L2 (atI ixN)
noncomputable def ihT (mv tx : Sxs) (last : Ex) : Sxs := .cons (.iff (.cmp .Eq (.var 4) (.cst (.str "move"))) mv (.nil)) (.cons (.iff (.cmp .Eq (.var 4) (.cst (.str "text"))) tx (.nil)) (.cons (.ret (.tupE (.cons (.var 4) (.cons (.ife (.cmp .In (.var 4) (.lstE (.cons (.cst (.str "marks")) (.cons (.cst (.str "steps")) (.cons (.cst (.str "operation")) (.nil)))))) (last) (.cst (.int 0))) (.nil))))) (.nil)))
noncomputable def ihS (a : Nat) (od : Option Nat) (b0 b1 b2 b3 b4 b5 b6 b7 b8 b9 b10 b11 b12 b13 b14 b15 b16 : Bool) (mv tx : Sxs) (last : Ex) : Sxs := .cons (.asg 2 (.lstE (.cons (.isE a od 1 b0) (.cons (.isE a od 1 b1) (.cons (.isE a od 1 b2) (.nil)))))) (.cons (.asg 2 (.bin .Add (.var 2) (.lstE (.cons (.isE a od 1 b3) (.cons (.isE a od 1 b4) (.cons (.isE a od 1 b5) (.nil))))))) (.cons (.asg 2 (.bin .Add (.var 2) (.lstE (.cons (.isE a od 1 b6) (.cons (.isE a od 1 b7) (.cons (.isE a od 1 b8) (.nil))))))) (.cons (.asg 2 (.bin .Add (.var 2) (.lstE (.cons (.isE a od 1 b9) (.cons (.isE a od 1 b10) (.cons (.isE a od 1 b11) (.nil))))))) (.cons (.asg 2 (.bin .Add (.var 2) (.lstE (.cons (.isE a od 1 b12) (.cons (.isE a od 1 b13) (.cons (.isE a od 1 b14) (.nil))))))) (.cons (.asg 2 (.bin .Add (.var 2) (.lstE (.cons (.isE a od 1 b15) (.cons (.isE a od 1 b16) (.nil)))))) (.cons (.iff (.orE (.cmp .NotEq (.cntB 2) (.cst (.int 1))) (.nt (.isE a od 1 true))) (.cons (.ret (.tupE (.cons (.cst (.str "other")) (.cons (.cst (.int 0)) (.nil))))) (.nil)) (.nil)) (.cons (.asg 3 (.lstE (.cons (.cst (.str "pins")) (.cons (.cst (.str "unreachable")) (.cons (.cst (.str "far")) (.cons (.cst (.str "limit")) (.cons (.cst (.str "index")) (.cons (.cst (.str "many")) (.cons (.cst (.str "times")) (.cons (.cst (.str "contradiction")) (.cons (.cst (.str "name")) (.cons (.cst (.str "unknown")) (.nil))))))))))))) (.cons (.asg 3 (.bin .Add (.var 3) (.lstE (.cons (.cst (.str "sign")) (.cons (.cst (.str "amount")) (.cons (.cst (.str "marks")) (.cons (.cst (.str "steps")) (.cons (.cst (.str "move")) (.cons (.cst (.str "operation")) (.cons (.cst (.str "text")) (.nil))))))))))) (.cons (.asg 4 (.idx (.var 3) (.idxB 2))) (ihT mv tx last))))))))))
theorem szT {n : Nat} (h : n ≤ 900) : (n ≤ SZ) = True := eq_true (le_SZ (Nat.le_trans h (by decide)))
theorem ihS_pre {a : Nat} {od : Option Nat} {b0 b1 b2 b3 b4 b5 b6 b7 b8 b9 b10 b11 b12 b13 b14 b15 b16 : Bool} {mv tx : Sxs} {last : Ex} {d : D} {nm : Str} {k : Nat} (hx : excAt a od d = true) (hc : List.count true [b0, b1, b2, b3, b4, b5, b6, b7, b8, b9, b10, b11, b12, b13, b14, b15, b16] = 1) (hf : List.findIdx? id [b0, b1, b2, b3, b4, b5, b6, b7, b8, b9, b10, b11, b12, b13, b14, b15, b16] = some k) (hn : atI ([.str "pins", .str "unreachable", .str "far", .str "limit", .str "index", .str "many", .str "times", .str "contradiction", .str "name", .str "unknown", .str "sign", .str "amount", .str "marks", .str "steps", .str "move", .str "operation", .str "text"] : List D) (k : Int) = some (.str nm)) :
    execs 0 (ihS a od b0 b1 b2 b3 b4 b5 b6 b7 b8 b9 b10 b11 b12 b13 b14 b15 b16 mv tx last) [none, some (.fr d), none, none, none] = execs 0 (ihT mv tx last) [none, some (.fr d), some (.own [.bool b0, .bool b1, .bool b2, .bool b3, .bool b4, .bool b5, .bool b6, .bool b7, .bool b8, .bool b9, .bool b10, .bool b11, .bool b12, .bool b13, .bool b14, .bool b15, .bool b16]), some (.own [.str "pins", .str "unreachable", .str "far", .str "limit", .str "index", .str "many", .str "times", .str "contradiction", .str "name", .str "unknown", .str "sign", .str "amount", .str "marks", .str "steps", .str "move", .str "operation", .str "text"]), some (.fr (.str nm))] := by
    unfold ihS
    have z0 : (0 + 1 + 1 + 1 ≤ SZ) = True := szT (by decide)
    have z1 : (0 + 1 + 1 ≤ SZ) = True := szT (by decide)
    have z2 : (0 + 1 + 1 + 1 + 1 + 1 + 1 + 1 + 1 + 1 + 1 ≤ SZ) = True := szT (by decide)
    have z3 : (0 + 1 + 1 + 1 + 1 + 1 + 1 + 1 ≤ SZ) = True := szT (by decide)
    have z4 : (0 + 1 + 1 + 1 + (0 + 1 + 1 + 1) ≤ SZ) = True := szT (by decide)
    have z5 : (0 + 1 + 1 + 1 + 1 + 1 + 1 + (0 + 1 + 1 + 1) ≤ SZ) = True := szT (by decide)
    have z6 : (0 + 1 + 1 + 1 + 1 + 1 + 1 + 1 + 1 + 1 + (0 + 1 + 1 + 1) ≤ SZ) = True := szT (by decide)
    have z7 : (0 + 1 + 1 + 1 + 1 + 1 + 1 + 1 + 1 + 1 + 1 + 1 + 1 + (0 + 1 + 1 + 1) ≤ SZ) = True := szT (by decide)
    have z8 : (0 + 1 + 1 + 1 + 1 + 1 + 1 + 1 + 1 + 1 + 1 + 1 + 1 + 1 + 1 + 1 + (0 + 1 + 1) ≤ SZ) = True := szT (by decide)
    have z9 : (0 + 1 + 1 + 1 + 1 + 1 + 1 + 1 + 1 + 1 + 1 + (0 + 1 + 1 + 1 + 1 + 1 + 1 + 1) ≤ SZ) = True := szT (by decide)
    refine Eq.trans (ex_nx (e1 := ?e7) ?h7) ?g7
    case h7 => first | (simp_all only [ hx, z0, z1, z2, z3, z4, z5, z6, z7, z8, z9]; done) | (simp_all only [ hx, z0, z1, z2, z3, z4, z5, z6, z7, z8, z9]; rfl)
    refine Eq.trans (ex_nx (e1 := ?e8) ?h8) ?g8
    case h8 => first | (simp_all only [ hx, z0, z1, z2, z3, z4, z5, z6, z7, z8, z9]; done) | (simp_all only [ hx, z0, z1, z2, z3, z4, z5, z6, z7, z8, z9]; rfl)
    refine Eq.trans (ex_nx (e1 := ?e9) ?h9) ?g9
    case h9 => first | (simp_all only [ hx, z0, z1, z2, z3, z4, z5, z6, z7, z8, z9]; done) | (simp_all only [ hx, z0, z1, z2, z3, z4, z5, z6, z7, z8, z9]; rfl)
    refine Eq.trans (ex_nx (e1 := ?e10) ?h10) ?g10
    case h10 => first | (simp_all only [ hx, z0, z1, z2, z3, z4, z5, z6, z7, z8, z9]; done) | (simp_all only [ hx, z0, z1, z2, z3, z4, z5, z6, z7, z8, z9]; rfl)
    refine Eq.trans (ex_nx (e1 := ?e11) ?h11) ?g11
    case h11 => first | (simp_all only [ hx, z0, z1, z2, z3, z4, z5, z6, z7, z8, z9]; done) | (simp_all only [ hx, z0, z1, z2, z3, z4, z5, z6, z7, z8, z9]; rfl)
    refine Eq.trans (ex_nx (e1 := ?e12) ?h12) ?g12
    case h12 => first | (simp_all only [ hx, z0, z1, z2, z3, z4, z5, z6, z7, z8, z9]; done) | (simp_all only [ hx, z0, z1, z2, z3, z4, z5, z6, z7, z8, z9]; rfl)
    refine Eq.trans (iff_skip (e1 := ?e1) ?h1) ?g1
    case h1 => first | (simp_all only [ hx, blsL, blsD, Option.map_some, hc, Int.natCast_one]; done) | (simp_all only [ hx, blsL, blsD, Option.map_some, hc, Int.natCast_one]; rfl)
    refine Eq.trans (ex_nx (e1 := ?e13) ?h13) ?g13
    case h13 => first | (simp_all only [ z0, z1, z2, z3, z4, z5, z6, z7, z8, z9]; done) | (simp_all only [ z0, z1, z2, z3, z4, z5, z6, z7, z8, z9]; rfl)
    refine Eq.trans (ex_nx (e1 := ?e14) ?h14) ?g14
    case h14 => first | (simp_all only [ z0, z1, z2, z3, z4, z5, z6, z7, z8, z9]; done) | (simp_all only [ z0, z1, z2, z3, z4, z5, z6, z7, z8, z9]; rfl)
    refine Eq.trans (ex_nx (e1 := ?e15) ?h15) ?g15
    case h15 => first | (simp_all only [ blsL, blsD, Option.map_some, hf, hn]; done) | (simp_all only [ blsL, blsD, Option.map_some, hf, hn]; rfl)
    rfl
theorem str_ne {x y : Str} (h : x ≠ y) : (x == y) = false := beq_eq_false_iff_ne.mpr h
theorem ihT_1 {mv tx : Sxs} {a dd : Nat} {f : Str} {y d : D} {bs ns : List D} {nm : Str} (h1 : nm ≠ "move") (h2 : nm ≠ "text") (h3 : inD (.str nm) [.str "marks", .str "steps", .str "operation"] = true) (hy : fldD a dd f d = .ok y) :
    execs 0 (ihT mv tx (.fldE a dd 1 f)) [none, some (.fr d), some (.own bs), some (.own ns), some (.fr (.str nm))] = .ok (.rt (.fr (.tuple [.str nm, y])) [none, some (.fr d), some (.own bs), some (.own ns), some (.fr (.str nm))]) := by
    unfold ihT
    have z0 : (0 + 1 + 1 + 1 ≤ SZ) = True := szT (by decide)
    have z1 : (0 + 1 + 1 ≤ SZ) = True := szT (by decide)
    have h1 := str_ne h1
    have h2 := str_ne h2
    refine Eq.trans (iff_skip (e1 := ?e4) ?h4) ?g4
    case h4 => first | (simp_all only [ h1]; done) | (simp_all only [ h1]; rfl)
    refine Eq.trans (iff_skip (e1 := ?e5) ?h5) ?g5
    case h5 => first | (simp_all only [ h2]; done) | (simp_all only [ h2]; rfl)
    have af : ([.str "marks", .str "steps", .str "operation"] : List D).all flatD = true := rfl
    simp_all only [ af, h3, hy, z0, z1]
theorem exc_at {a dd : Nat} {r : List (D × D)} : excAt a (some dd) (.dict ((.int a, .int dd) :: r)) = true := by
  simp [excAt]
theorem fld_at {a dd : Nat} {f : Str} {y : D} {r : List (D × D)} : fldD a dd f (.dict ((.int a, .int dd) :: (.str f, y) :: r)) = .ok y := by
  simp [fldD, fldO]
theorem hv_1 {a dd : Nat} {y : D} {b0 b1 b2 b3 b4 b5 b6 b7 b8 b9 b10 b11 b12 b13 b14 b15 b16 : Bool} {mv tx : Sxs} {C f nm : Str} {k : Nat} (hc : List.count true [b0, b1, b2, b3, b4, b5, b6, b7, b8, b9, b10, b11, b12, b13, b14, b15, b16] = 1) (hf : List.findIdx? id [b0, b1, b2, b3, b4, b5, b6, b7, b8, b9, b10, b11, b12, b13, b14, b15, b16] = some k) (hn : atI ([.str "pins", .str "unreachable", .str "far", .str "limit", .str "index", .str "many", .str "times", .str "contradiction", .str "name", .str "unknown", .str "sign", .str "amount", .str "marks", .str "steps", .str "move", .str "operation", .str "text"] : List D) (k : Int) = some (.str nm)) (h1 : nm ≠ "move") (h2 : nm ≠ "text") (h3 : inD (.str nm) [.str "marks", .str "steps", .str "operation"] = true) :
    ∃ en', execs 0 (ihS a (some dd) b0 b1 b2 b3 b4 b5 b6 b7 b8 b9 b10 b11 b12 b13 b14 b15 b16 mv tx (.fldE a dd 1 f)) [none, some (.fr (excD ⟨C, [(f, y)], none⟩ a (some dd))), none, none, none] = .ok (.rt (.fr (.tuple [.str nm, y])) en') := ⟨_, (ihS_pre exc_at hc hf hn).trans (ihT_1 h1 h2 h3 fld_at)⟩
end VS

set_option maxHeartbeats 2000000
/-! A def without names of its own, made by one and called by another: its cells are tracked while nobody writes them. -/
namespace VS
open PySem PySem.Spec PyProof.Rows L2 LamX
/-- known, never written -/
noncomputable abbrev FrzO (o : Obj) : HO := .frz o (.ext fun _ => True)
theorem frz_ok {P : Program} {w : World} {H : Hp} {h : Heap} {c : Addr} {o : Obj} (e : h.get? c = some o) : ObjOk P w H h c (FrzO o) := ⟨e, True.intro, ⟨o, e⟩, fun _ _ _ _ => True.intro⟩
theorem hid_none {H : Hp} {O : List Addr} {b : Addr} (h : H b = none) : hid H O b = none := by
  unfold hid
  split
  · rfl
  · exact h
/-- what stands at cs as it was -/
noncomputable def mend (H H' : Hp) (cs : List Addr) : Hp := fun b => if b ∈ cs then H b else H' b
theorem mend_in {H H' : Hp} {cs : List Addr} {b : Addr} (h : b ∈ cs) : mend H H' cs b = H b := if_pos h
theorem mend_out {H H' : Hp} {cs : List Addr} {b : Addr} (h : b ∉ cs) : mend H H' cs b = H' b := if_neg h
/-- cells, known -/
noncomputable def CellsAt (H : Hp) (cs : List Addr) : Prop := ∀ c ∈ cs, ∃ o v, H c = some (FrzO o) ∧ o.data = .cell v
section
variable {P : Program} {w : World} {K : PySem.W.Frag} {mg : Str → Option Value} {base : Heap} {A : Around} {outer : List Env} {s : Shared} {H : Hp} {h : Heap} {cs : List Addr}
theorem hok_hid (hok : HOk P w H h) (hc : CellsAt H cs) : HOk P w (hid H cs) h := fun a o e => by
  obtain ⟨n, e⟩ := hid_some e
  refine (hok a o e).stay (fun b u _ q => q) (fun b hb => ?_) fun b xs hb => ?_
  · rw [hid_out fun m => ?_]
    · exact hb
    · obtain ⟨o', _, q, _⟩ := hc b m
      rw [hb] at q; cases q
  · rw [hid_out fun m => ?_]
    · exact hb
    · obtain ⟨o', _, q, _⟩ := hc b m
      rw [hb] at q; cases q
theorem env0_hid (e : Env0 P w K mg base A outer s H) (hc : CellsAt H cs) : Env0 P w K mg base A outer s (hid H cs) :=
  ⟨e.frames, e.mod, fun b o q => ⟨(e.bs b o q).1, hid_none (e.bs b o q).2⟩, e.bsz, e.funs, fun b hb => hid_none (e.frf b hb), hok_hid e.hok hc, e.bare⟩
theorem hok_mend {H' : Hp} {h' : Heap} (hc : CellsAt H cs) (hk : ∀ c ∈ cs, ∀ o, H c = some (FrzO o) → h'.get? c = some o) (hn : ∀ c ∈ cs, H' c = none) (hok : HOk P w H' h') : HOk P w (mend H H' cs) h' := fun b o q => by
  by_cases m : b ∈ cs
  · rw [mend_in m] at q
    obtain ⟨o', _, e, _⟩ := hc b m
    rw [e] at q
    cases q
    exact frz_ok (hk b m o' e)
  · rw [mend_out m] at q
    refine (hok b o q).stay (fun c u _ e => e) (fun c hc' => ?_) fun c xs hc' => ?_
    · rw [mend_out fun z => ?_]
      · exact hc'
      · rw [hn c z] at hc'; cases hc'
    · rw [mend_out fun z => ?_]
      · exact hc'
      · rw [hn c z] at hc'; cases hc'
theorem ce_mend {Q : VK} {u : Value} {s' : Shared} (frf : ∀ b ∈ frs outer, H b = none) (hok : HOk P w H s.heap) (hc : CellsAt H cs) (x : CE outer P w (hid H cs) s (fun v H' => (∀ c ∈ cs, H' c = none) → Q v (mend H H' cs)) u s') : CE outer P w H s Q u s' := by
  obtain ⟨v, H', os, bare, un, hok', r, q⟩ := x
  have cf : ∀ c ∈ cs, ∀ o, H c = some (FrzO o) → s.heap.get? c = some o := fun c m o e => (hok c _ e).1
  have nf : ∀ c ∈ cs, c ∉ frs outer := fun c m z => by
    obtain ⟨o, _, e, _⟩ := hc c m
    rw [frf c z] at e; cases e
  have nb : ∀ b, H b = none → b ∉ cs := fun b n m => by
    obtain ⟨o, _, e, _⟩ := hc b m
    rw [n] at e; cases e
  have hn : ∀ c ∈ cs, H' c = none := fun c m => by
    obtain ⟨o, _, e, _⟩ := hc c m
    exact un.free c o (cf c m o e) (hid_in m) (by simp)
  have hk : ∀ c ∈ cs, ∀ o, H c = some (FrzO o) → s'.heap.get? c = some o := fun c m o e => un.keep c o (cf c m o e) (hid_in m) (nf c m) (by simp)
  refine ⟨v, mend H H' cs, os, bare, ⟨fun b o q n => un.keep b o q (hid_none n), fun b o q n => un.slot b o q (hid_none n), fun b o q n hx => ?_, un.there, fun b xs q => ?_, fun b o u q => ?_, fun b ps q => ?_⟩, hok_mend hc hk hn hok', r, q hn⟩
  · rw [mend_out (nb b n)]
    exact un.free b o q (hid_none n) hx
  · have m : b ∉ cs := fun m => by
      obtain ⟨o, _, e, _⟩ := hc b m
      rw [q] at e; cases e
    rw [mend_out m]
    exact un.tups b xs (by rw [hid_out m]; exact q)
  · by_cases m : b ∈ cs
    · rw [mend_in m]; exact q
    · rw [mend_out m]
      exact un.frzs b o u (by rw [hid_out m]; exact q)
  · have m : b ∉ cs := fun m => by
      obtain ⟨o, _, e, _⟩ := hc b m
      rw [q] at e; cases e
    rw [mend_out m]
    exact un.tbls b ps (by rw [hid_out m]; exact q)
theorem cx_mend {E : XK} {u : Value} {s' : Shared} (frf : ∀ b ∈ frs outer, H b = none) (hok : HOk P w H s.heap) (hc : CellsAt H cs) (x : L2.CX P w outer (hid H cs) s (fun cls d H' => (∀ c ∈ cs, H' c = none) → E cls d (mend H H' cs)) u s') : L2.CX P w outer H s E u s' := by
  obtain ⟨a, B, H', cls, d, e, fl, hok', ub, na, os, bare, q⟩ := x
  have cf : ∀ c ∈ cs, ∀ o, H c = some (FrzO o) → s.heap.get? c = some o := fun c m o e => (hok c _ e).1
  have nf : ∀ c ∈ cs, c ∉ frs outer := fun c m z => by
    obtain ⟨o, _, e, _⟩ := hc c m
    rw [frf c z] at e; cases e
  have nb : ∀ b, H b = none → b ∉ cs := fun b n m => by
    obtain ⟨o, _, e, _⟩ := hc b m
    rw [n] at e; cases e
  have hn : ∀ c ∈ cs, H' c = none := fun c m => by
    obtain ⟨o, _, e, _⟩ := hc c m
    exact ub.free c o (cf c m o e) (hid_in m)
  have hk : ∀ c ∈ cs, ∀ o, H c = some (FrzO o) → B.get? c = some o := fun c m o e => ub.keep c o (cf c m o e) (hid_in m) (nf c m)
  have nac : a ∉ cs := fun m => by
    obtain ⟨o, _, e, _⟩ := hc a m
    have := hk a m o e
    rw [fl.2.1] at this
    cases this
  refine ⟨a, B, mend H H' cs, cls, d, e, fl, hok_mend hc hk hn hok', ⟨fun b o q n => ub.keep b o q (hid_none n), ub.slot, fun b o q n => ?_, ub.there, fun b xs q => ?_, fun b o u q => ?_, fun b ps q => ?_⟩, by rw [mend_out nac]; exact na, os, bare, q hn⟩
  · rw [mend_out (nb b n)]
    exact ub.free b o q (hid_none n)
  · have m : b ∉ cs := fun m => by
      obtain ⟨o, _, e, _⟩ := hc b m
      rw [q] at e; cases e
    rw [mend_out m]
    exact ub.tups b xs (by rw [hid_out m]; exact q)
  · by_cases m : b ∈ cs
    · rw [mend_in m]; exact q
    · rw [mend_out m]
      exact ub.frzs b o u (by rw [hid_out m]; exact q)
  · have m : b ∉ cs := fun m => by
      obtain ⟨o, _, e, _⟩ := hc b m
      rw [q] at e; cases e
    rw [mend_out m]
    exact ub.tbls b ps (by rw [hid_out m]; exact q)
end
/-! ### the call -/
noncomputable abbrev thkEnv (q : Str) (scope : Scope) (cl : List (Str × Addr)) (L f c' : Addr) : Env := PySem.W.envX q scope L f (.ref c') cl
/-- the context of its body -/
noncomputable def thkCx (P : Program) (w : World) (K : PySem.W.Frag) (mg : Str → Option Value) (base : Heap) (N : List Str) (q : Str) (cl : List (Str × Addr)) (A : Around) (outer : List Env) (s : Shared) (H : Hp) (E : XK) (scope : Scope) (f c' : Addr) : Cx where
  prog := P
  w := w
  K := K
  mg := mg
  base := base
  A := A.deeper (thkEnv q scope cl s.heap.objs.size f c')
  N := N
  s_0 := s
  H_0 := H
  env := thkEnv q scope cl s.heap.objs.size f c'
  outer := outer
  stack := thkEnv q scope cl s.heap.objs.size f c' :: outer
  ex := []
  fn := fun _ => false
  calm := true
  pn := []
  xe := fun e s' => wpAny (model P w) (A.deeper (thkEnv q scope cl s.heap.objs.size f c')) (leaving (thkEnv q scope cl s.heap.objs.size f c') e) (fun _ s'' => L2.CX P w outer H s E e s'') (fun e' s'' => L2.CX P w outer H s E e' s'') s'
/-- no cell of its own; parameters bl, which are no names of N -/
structure ThkS (N : List Str) (scope : Scope) (ps : List Str) : Prop where
  kind : scope.kind = .function
  co : scope.isCoroutine = false
  gen : scope.isGenerator = false
  noc : ∀ y ∈ scope.names, y.2 ≠ .cell
  par : ∀ y ∈ ps, scope.names.lookup y = some .local
  nl : ∀ y ∈ N, scope.names.lookup y ≠ some .local
/-- its cells, tracked, and what they hold -/
structure ThkC (N : List Str) (scope : Scope) (cl : List (Str × Addr)) (H : Hp) (σ : L2.St) : Prop where
  at_ : ∀ y c, cl.lookup y = some c → ∃ o v, H c = some (FrzO o) ∧ o.data = .cell v
  inj : ∀ x y c, cl.lookup x = some c → cl.lookup y = some c → x = y
  has : ∀ y, scope.names.lookup y = some .free → ∃ c, cl.lookup y = some c
  val : ∀ (i : Nat) y v, N[i]? = some y → σ[i]? = some (some v) → scope.names.lookup y = some .free → ∃ c o u, cl.lookup y = some c ∧ H c = some (FrzO o) ∧ o.data = .cell (some u) ∧ RelV v u
  len : σ.length = N.length
section
variable {P : Program} {w : World} {K : PySem.W.Frag} {mg : Str → Option Value} {base : Heap} {A : Around} {outer : List Env} {s : Shared} {H : Hp} {cs : List Addr} {N : List Str} {q : Str} {cl : List (Str × Addr)} {scope : Scope} {f c' : Addr} {σ : L2.St} {E : XK} {bl : List (Str × Value)}
theorem thk_start {h₁ : Heap} {tk : Nat} (S : ThkS N scope (bl.map Prod.fst)) (C : ThkC N scope cl H σ) (hcs : ∀ y c, cl.lookup y = some c → c ∈ cs) (hc : CellsAt H cs) (e0 : Env0 P w K mg base A outer s H) (hd : A.handled = none)
    (hns : h₁.Ns s.heap.objs.size fun y => bl.reverse.lookup y) (kp : ∀ b o, s.heap.get? b = some o → h₁.get? b = some o) :
    Inv (thkCx P w K mg base N q cl A outer s (hid H cs) E scope f c') [] σ (hid H cs) { s with heap := h₁, toks := tk } := by
  have e1 := env0_hid e0 hc
  have cellK : ∀ {y c}, cl.lookup y = some c → ∃ o v, H c = some (FrzO o) ∧ o.data = .cell v ∧ h₁.get? c = some o := fun {y c} e => by
    obtain ⟨o, v, h1, h2⟩ := C.at_ y c e
    exact ⟨o, v, h1, h2, kp _ _ (e0.hok c _ h1).1⟩
  have noA : ∀ b : Addr, b ∉ (thkCx P w K mg base N q cl A outer s (hid H cs) E scope f c').ex := fun b z => absurd (show b ∈ ([] : List Addr) from z) (by simp)
  refine ⟨⟨e0.mod, S.kind, rfl, rfl, Nat.le_refl _, fun y z c e1 e2 => C.inj y z c e1 e2, fun y hy => ?_, fun y c z _ => ?_, fun _ => hd, Around.frames_deeper e0.frames, .inr ⟨rfl, rfl⟩, fun b z => absurd z (noA b), e1.bs, e0.bsz, fun b _ _ => noA b,
      fun b z => absurd z (noA b), e0.funs, e1.frf⟩,
    rfl, e0.bare, Un.kept kp, ⟨_, hns, fun i y v e1 e2 e3 => ?_⟩, fun y c e => ?_, e1.hok.fresh (Nat.le_refl _), fun y c e => hid_in (hcs y c e), fun q hq => absurd (show q ∈ ([] : List (Addr × Obj)) ++ [] from hq) (by simp), e1.hok.kept kp, C.len⟩
  · have hy : scope.names.lookup y = some .cell ∨ scope.names.lookup y = some .free := hy
    rcases hy with hy | hy
    · exact absurd rfl (S.noc _ (PySem.mem_of_lookup hy))
    · exact C.has y hy
  · have z : false = true := z
    cases z
  · have e3 : Vis scope y := e3
    rcases e3 with k | k | k
    · exact absurd k (S.nl y (List.mem_of_getElem? e1))
    · exact absurd rfl (S.noc _ (PySem.mem_of_lookup k))
    · obtain ⟨c, o, u, h1, h2, h3, r⟩ := C.val i y v e1 e2 k
      exact ⟨u, r, .inr ⟨.inr k, c, h1, o, kp _ _ (e0.hok c _ h2).1, h3⟩⟩
  · obtain ⟨o, v, _, h2, h3⟩ := cellK e
    exact ⟨v, o, h3, h2⟩
theorem thk_call {params : Arguments} {body : Expr} {dV doc pm ctv : Value} {k : Nat} {t : XK → TE} {Q : VK} (S : ThkS N scope (bl.map Prod.fst)) (C : ThkC N scope cl H σ) (hcs : ∀ y c, cl.lookup y = some c → c ∈ cs) (hc : CellsAt H cs) (e0 : Env0 P w K mg base A outer s H) (hr : Room (k + 1) A)
    (of : s.heap.get? f = some (PySem.W.kdv_obj "<lambda>" q params (.expr body) scope cl dV doc pm c' ctv)) (oc : H c' = some (CodeO c' q))
    (hb : BindsTo s (PySem.W.kdv_fn "<lambda>" q params (.expr body) scope cl dV doc pm (.ref c') ctv) ⟨[], []⟩ bl)
    (hbody : ∀ (A : Around) (outer : List Env) (s : Shared) (H : Hp) (E : XK), Room k (A.deeper (thkEnv q scope cl s.heap.objs.size f c')) → PE (thkCx P w K mg base N q cl A outer s H E scope f c') body (t E))
    {Q0 : VK} {E0 : XK} (ht : t E0 σ (hid H cs) Q0) (hQ : ∀ v H', (∀ c ∈ cs, H' c = none) → Q0 v H' → Q v (mend H H' cs)) (hE : ∀ cls d H', (∀ c ∈ cs, H' c = none) → E0 cls d H' → E cls d (mend H H' cs)) :
    codeAny (model P w) A (.call (.ref f) ⟨[], []⟩) (CR (L2.CX P w) outer P w H s Q E) s := by
  obtain ⟨⟨oc', vs, t', hoc, hdc, hvc⟩, _, _⟩ := e0.hok c' _ oc
  have lim : s.heap.NoLimit := e0.mod.nolimit.keeps fun b o e => (e0.bs b o e).1
  refine PySem.W.kla_callFunE hr.depth of rfl S.co S.gen rfl ⟨c', oc', vs, t', rfl, hoc, hdc, hvc⟩ ?_
  refine hb _ _ _ _ ?_
  refine wpAny_newFunctionEnv (fun y hy => S.noc y hy) (fun y hy => S.par _ (List.mem_map_of_mem hy)) (fun h₁ hns hsb => ⟨lim.fresh _ hsb, ?_⟩) S.kind
  show codeAny _ _ (.expr body (thkEnv q scope cl s.heap.objs.size f c')) _ _
  have kp : ∀ b o, s.heap.get? b = some o → h₁.get? b = some o := fun b o e => hsb.extBut b o (Nat.ne_of_lt (Heap.lt_size e)) (Heap.get?_push_of_some _ e)
  have J : Inv (thkCx P w K mg base N q cl A outer s (hid H cs) E0 scope f c') [] σ (hid H cs) { s with heap := h₁, toks := s.toks + bl.length } := thk_start S C hcs hc e0 hr.hd hns kp
  refine PySem.W.kla_codeExpr (wpAny_mono ((hbody A outer s (hid H cs) _ (hr.deeper _)).run [] _ _ _ _ J ht) (fun v s' hq => ?_) fun e s' hq => ?_)
  · obtain ⟨w', H', J', rv, q⟩ := hq
    exact ce_mend e0.frf e0.hok hc ⟨w', H', J'.os, J'.bare, J'.base, J'.hok, rv, fun hn => hQ _ _ hn q⟩
  · have up : ∀ {e s''}, L2.CX P w outer (hid H cs) s E0 e s'' → L2.CX P w outer H s E e s'' := fun {e s''} ⟨a, B, H', cls, d, e1, fl, hok', ub, na, os, bare, q⟩ => cx_mend e0.frf e0.hok hc ⟨a, B, H', cls, d, e1, fl, hok', ub, na, os, bare, fun hn => hE _ _ _ hn q⟩
    exact wpAny_mono hq (fun _ s'' z => up z) fun e' s'' z => up z
end
end VS

set_option maxHeartbeats 2000000
/-! A catcher that gets what it calls as a value; a def that asks a list of such things. -/
namespace VS
open PySem PySem.Spec PyProof.Rows L2 LamX
/-- f() from a state whose tracked heap is H ends in Q, or E is raised -/
structure CallK (P : Program) (w : World) (K : PySem.W.Frag) (mg : Str → Option Value) (base : Heap) (k : Nat) (f : Addr) (H : Hp) (Q : VK) (E : XK) : Prop where
  fn : ∀ h, HOk P w H h → PySem.W.FnAt f h
  run : ∀ (A : Around) (outer : List Env) (s : Shared), Env0 P w K mg base A outer s H → Room (k + 1) A → codeAny (model P w) A (.call (.ref f) ⟨[], []⟩) (CR (L2.CX P w) outer P w H s Q E) s
section
variable {P : Program} {w : World} {K : PySem.W.Frag} {mg : Str → Option Value} {base : Heap}
theorem pe_actK {CXg : CXT} {Eg : XK} {Ng : List Str} {qg : Str} {sg : Scope} {g f : Addr} {cdg : Value} {A0 : Around} {outer0 : List Env} {s0 : Shared} {H0 : Hp} {k i : Nat} {a : Str} {pn : List (Addr × Obj)} {xe : Value → Shared → Prop} {W : WX} {E : XK} {p1 p2 : Pos}
    (tk : Takes ((cxOf CXg P w K mg base Ng qg sg g cdg A0 outer0 s0 H0 Eg).tr pn xe) W) (hW : ∀ cls d σ' H', E cls d H' → W cls d σ' H') (hr : Room (k + 1) (A0.deeper (envOfC qg sg s0.heap.objs.size g cdg)))
    (hN : Ng[i]? = some a) (hv : Vis sg a) (hd : (a == ("__debug__" : Str)) = false := by decide) (hcd : (a == ("__classdict__" : Str)) = false := by decide) :
    PE ((cxOf CXg P w K mg base Ng qg sg g cdg A0 outer0 s0 H0 Eg).tr pn xe) (.Call (.Name a p1) [] [] p2) (fun σZ HZ Q => σZ[i]? = some (some (.ref f)) ∧ CallK P w K mg base k f HZ Q E) := by
  refine ⟨fun pinsZ sZ σZ HZ Q IZ h => ?_⟩
  obtain ⟨hs, hc⟩ := h
  refine wpAny_Call_Name_kw (thn ((pe_var (pos := p1) (i := i) hN hv hd hcd).run pinsZ sZ σZ HZ (fun v H1 => v = .ref f ∧ H1 = HZ) IZ ⟨.ref f, hs, rfl, rfl⟩) fun u s1 ⟨v, H1, I1, r1, q1⟩ => ?_)
  obtain ⟨ev, eH⟩ := q1
  subst ev
  rw [eH] at I1
  obtain rfl : u = Value.ref f := r1
  refine PySem.W.callWith_F0 (hc.fn _ I1.hok) ?_
  have rc : codeAny (model P w) (A0.deeper (envOfC qg sg s0.heap.objs.size g cdg)) (.call (.ref f) ⟨[], []⟩) (CR (L2.CX P w) (envOfC qg sg s0.heap.objs.size g cdg :: outer0) P w HZ s1 Q E) s1 := hc.run _ _ s1 I1.env0 hr
  have hx : Passes (L2.CX P w) ((cxOf CXg P w K mg base Ng qg sg g cdg A0 outer0 s0 H0 Eg).tr pn xe) E := passes_call tk hW
  refine wpAny_call (codeAny_mono rc fun r s' hq => ?_)
  cases r with
  | error e => exact hx pinsZ σZ HZ s1 e s' I1 hq
  | ok fl =>
    cases fl with
    | ret u => exact I1.after hq
    | next => exact False.elim hq
    | brk => exact False.elim hq
    | cont => exact False.elim hq
variable [kf : KF]
/-- the catcher's promise upon a thing that it calls -/
noncomputable def spK (P : Program) (w : World) (K : PySem.W.Frag) (mg : Str → Option Value) (base : Heap) (k : Nat) (η : Exn → Ou D) : Sp := fun vs H Q _ => ∃ f c' q, vs = [.ref f] ∧ H c' = some (CodeO c' q) ∧ TErr mg η (fun E' H' Q' => CallK P w K mg base k f H' Q' E') H Q
structure FnK' (P : Program) (w : World) (K : PySem.W.Frag) (mg : Str → Option Value) (base : Heap) (k : Nat) (x : Str) (η : Exn → Ou D) : Prop where
  ex : ∃ f fd ps, mg x = some (.ref f) ∧ PySem.W.keepIn K (.ref f) = true ∧ FnOk P w K mg base (L2.CX P w) (k + 2) f fd ps (spK P w K mg base k η) ∧ Binds K fd ps []
theorem FnE.fnK {x : Str} {η : Exn → Ou D} (G : FnE P w K mg base x η) (k : Nat) : FnK' P w K mg base k x η := by
  obtain ⟨g, oc, od, pg, bg, sg, dV, kV, doc, pm, an, cdv, ct, osl, Ng, a, hm, hk, lk, hcg, hb, Sg, hNg, hva, hd, hcd, hG⟩ := G.ex
  refine ⟨g, _, [a], hm, hk, ⟨fun vs H Q E ⟨f, c', q, e, _⟩ => by rw [e]; rfl, fun A outer s H args us vs Q E hr e0 hb' r hsp => ?_⟩, hb⟩
  obtain ⟨f, c', q, rfl, hc, h⟩ := hsp
  have rc : codeAny (model P w) A (.call (.ref g) args) (CR C8.CX0 outer P w H s Q C8.E0) s := by
    refine run_ofS (N := Ng) (ps := [a]) (us := us) (vs := [.ref f]) lk hcg Sg hr e0 hb' r rfl fun hr' => ?_
    have hGX := hG { cxOf C8.CX0 P w K mg base Ng x sg g cdv A outer s H C8.E0 with A := A, stack := outer } q rfl rfl rfl rfl rfl (hr.mono (by omega))
    obtain ⟨t', ht', hq'⟩ := hGX f c' s H Q (fun E' H' Q' => CallK P w K mg base k f H' Q' E') (fun W pn xe E p1 p2 tk hW => by
      have := pe_actK (f := f) (k := k) (p1 := p1) (p2 := p2) tk hW hr' hNg hva hd hcd
      exact this.imp fun σ H Q ⟨h1, _, h3⟩ => ⟨h1, h3⟩) hc h
    exact ⟨t', ht'.nox, hq'⟩
  refine codeAny_mono rc fun r s2 hq => ?_
  cases r with
  | error e => exact (show False from hq).elim
  | ok fl => cases fl <;> exact hq
end
end VS

set_option maxHeartbeats 2000000
/-! All of a list's things raise what is expected. -/
namespace VS
open PySem PySem.Spec PyProof.Rows L2 LamX
variable [kf : KF]
theorem Rel.bare (hT : kf.T = []) {H : Hp} {σ : L2.St} : Rel ⟨H, [], [], none⟩ ⟨H, List.replicate σ.length none, [], fun _ => 0, fun _ => []⟩ σ := by
  have no : ∀ {i : Nat} {s : Sl}, (List.replicate σ.length (none : Option Sl))[i]? = some (some s) → False := fun {i s} e => by
    rw [List.getElem?_replicate] at e
    split at e <;> simp at e
  have isl : ∀ i, ¬ isL (List.replicate σ.length (none : Option Sl)) i := fun i ⟨ds, e⟩ => e.elim no no
  exact ⟨List.length_replicate, fun b o h _ => h, fun _ h => h, fun a h => (by cases h), fun a h => (by cases h), fun a h => (by cases h), fun i d e => (no e).elim, fun i ds e => (isl i ⟨ds, e⟩).elim, fun i ds e => (isl i ⟨ds, .inl e⟩).elim, fun i ds e => (isl i ⟨ds, .inr e⟩).elim, fun i j h => (isl i h).elim,
    fun p hp => (by rw [hT] at hp; cases hp), fun p hp => (by rw [hT] at hp; cases hp), .nil fun i ⟨C, ds, e⟩ => e.elim no no⟩
omit [kf : KF] in
theorem eqD_nn : cmpD .Eq (.list []) (.list []) = .ok true := by
  show eqD (.list []) (.list []) = _
  unfold eqD
  simp only []
  rw [if_pos ⟨rfl, rfl⟩]
  rfl
omit [kf : KF] in
theorem f_bare {H : Hp} {en : En} {ad : Nat → Addr} {fp : Nat → List Addr} {b : Addr} {o : HO} (e : H b = some o) : Sn.F ⟨H, en, [], ad, fp⟩ b = some o := by
  show hid H [] b = _
  rw [hid_out (by simp)]
  exact e
theorem sb_bare {H : Hp} {O : List Addr} {en : En} {ad : Nat → Addr} {fp : Nat → List Addr} {v : V} {d : D} (h : Rp (hid H O) v d) : SB ⟨H, en, [], ad, fp⟩ v d :=
  SB.of (RpK.mono (hid_sub (O := O) (O' := []) (fun a h => (by cases h))) h)
/-- the things at fs, each of which raises what is expected, in turn -/
noncomputable def AllIn (P : Program) (w : World) (K : PySem.W.Frag) (mg : Str → Option Value) (base : Heap) (k : Nat) (η : Exn → Ou D) (fs : List Addr) (ed : D) (J : Nat → List Addr → Hp → Prop) : Prop :=
  (∀ j O H1 H2, J j O H1 → Same H1 H2 → J j O H2) ∧ (∀ j O H1, J j O H1 → ∀ b ∈ O, H1 b ≠ none) ∧
  ∀ j f O H1, fs[j]? = some f → J j O H1 → ∃ c' q, H1 c' = some (CodeO c' q) ∧
    TErr mg η (fun E' H' Q' => CallK P w K mg base k f H' Q' E') H1 (fun v H2 => ∃ O2, Rp (hid H2 O2) v ed ∧ J (j + 1) O2 H2 ∧ Same (hid H1 O) (hid H2 O2))
noncomputable def spAll (P : Program) (w : World) (K : PySem.W.Frag) (mg : Str → Option Value) (base : Heap) (k : Nat) (η : Exn → Ou D) : Sp := fun vs H Q _ =>
  ∃ a u fs O ed J, vs = [.ref a, u] ∧ hid H O a = some (.lst (fs.map V.ref)) ∧ Rp (hid H O) u ed ∧ eqD ed ed = .ok true ∧ AllIn P w K mg base k η fs ed J ∧ J 0 O H ∧
    ∀ O' H', J fs.length O' H' → Same (hid H O) (hid H' O') → Q (.bl true) H'
omit [kf : KF] in
theorem same_hid {H H' : Hp} {O : List Addr} (s : Same H H') : Same (hid H O) (hid H' O) := fun b o e => by
  obtain ⟨n, e⟩ := hid_some e
  rw [hid_out n]
  exact s _ _ e
section
variable {P : Program} {w : World} {K : PySem.W.Frag} {mg : Str → Option Value} {base : Heap} {k : Nat} {η : Exn → Ou D}
theorem all_reading (hT : kf.T = []) (hk : K = kf.K) {vs : List V} {H : Hp} {Q : VK} {E E' : XK} {N : List Str} (h : spAll P w K mg base k η vs H Q E) :
    tOp (rEqV K) (tLc (iList K (tVar 0)) (gName 2) (tTest (tOp (rNeV K) (tCall (spK P w K mg base k η) [] E' (tCons (tVar 2) tNil)) (tVar 1))) (tVar 2) [2]) (tLst tNil) (start ["_law_calls", "_law_expected", "_law_call"] vs) H Q := by
  obtain ⟨a, u, fs, O0, ed, J, rfl, ha, hu, hed, AI, J0, fin⟩ := h
  have st : (start ["_law_calls", "_law_expected", "_law_call"] [V.ref a, u] : L2.St) = [some (.ref a), some u, none] := rfl
  rw [st]
  refine ⟨.ref a, rfl, a, rfl, ⟨_, SqL.of (hid_some ha).2⟩, fun D hD => ?_⟩
  have nD : D ∉ O0 := fun m => AI.2.1 0 O0 H J0 D m hD
  refine ⟨fun i m Hc => m = fs.length - i ∧ i ≤ fs.length ∧ ∃ O, J i O Hc ∧ hid Hc O D = some (.lst []) ∧ Same (hid H O0) (hid Hc O), ⟨fs.length, by omega, Nat.zero_le _, O0, AI.1 0 O0 H _ J0 (same_upd hD), by rw [hid_out nD]; exact upd_same, same_hid (same_upd hD)⟩, ?_⟩
  rintro i m Hc ⟨rfl, hi, O, Ji, hDc, kp⟩
  have hac := (hid_some (kp a _ ha)).2
  by_cases hlt : i < fs.length
  · obtain ⟨f, hf⟩ : ∃ f, fs[i]? = some f := ⟨fs[i], List.getElem?_eq_getElem hlt⟩
    have hx : (fs.map V.ref)[i]? = some (.ref f) := by rw [List.getElem?_map, hf]; rfl
    refine .inr ⟨⟨_, _, SqL.of hac, hx⟩, fun H' => ∃ O, J (i + 1) O H' ∧ hid H' O D = some (.lst []) ∧ Same (hid H O0) (hid H' O), fun H' ⟨O2, h1, h2, h3⟩ => ⟨fs.length - (i + 1), by omega, rfl, hlt, O2, h1, h2, h3⟩, fun x H' y => ?_⟩
    obtain ⟨rfl, hy⟩ := y
    have ex := hy _ (SqL.of hac)
    rw [hx] at ex
    obtain rfl := Option.some.inj ex
    refine ⟨rfl, ?_⟩
    obtain ⟨c', q, hc', te⟩ := AI.2.2 i f O H' hf Ji
    refine ⟨.ref f, rfl, f, c', q, rfl, hc', ?_⟩
    have mono : ∀ {Q1 Q2 : VK}, (∀ v H2, Q1 v H2 → Q2 v H2) → TErr mg η (fun E' H' Q' => CallK P w K mg base k f H' Q' E') H' Q1 → TErr mg η (fun E' H' Q' => CallK P w K mg base k f H' Q' E') H' Q2 := fun {Q1 Q2} hq z => by
      unfold TErr at z ⊢
      refine ⟨z.fn, fun A outer s e0 hr => codeAny_mono (z.run A outer s e0 hr) fun r s' hr => ?_⟩
      cases r with
      | error e =>
        obtain ⟨a, B, H', cls, d, e1, fl, hok', ub, na, os, bare, ee, x, O, h1, h2, h3, h4⟩ := (show L2.CX P w outer _ s _ e s' from hr)
        exact (show L2.CX P w outer _ s _ e s' from ⟨a, B, H', cls, d, e1, fl, hok', ub, na, os, bare, ee, x, O, h1, h2, h3, fun v H'' s r => hq _ _ (h4 v H'' s r)⟩)
      | ok fl =>
        cases fl with
        | ret u =>
          obtain ⟨v, H', os, bare, un, hok', r, q⟩ := (show CE outer P w _ s _ u s' from hr)
          exact (show CE outer P w _ s _ u s' from ⟨v, H', os, bare, un, hok', r, hq _ _ q⟩)
        | next => exact hr
        | brk => exact hr
        | cont => exact hr
    refine mono (fun v H2 ⟨O2, rv, J2, k2⟩ => ?_) te
    refine ⟨u, rfl, ?_⟩
    have ru : Rp (hid H2 O2) u ed := RpK.mono (kp.trans k2) hu
    refine (hop_ne hk) ⟨H2, [], [], none⟩ ⟨H2, List.replicate 3 none, [], fun _ => 0, fun _ => []⟩ [some (.ref a), some u, some (.ref f)] v u ed ed false _ (Rel.bare (σ := [some (.ref a), some u, some (.ref f)]) hT) (sb_bare rv) (sb_bare ru) ?_ fun v' S' e1 Pp => ?_
    · unfold cmpD
      rw [hed]
      rfl
    · have ev : v' = .bl false := by
        have := Pp.val
        cases this
        rfl
      have hS : Same H2 S'.H := fun b o e => (hid_some (Pp.le.le b o (f_bare e))).2
      exact ⟨false, ev, O2, AI.1 _ _ _ _ J2 hS, same_hid hS _ _ (k2 D _ hDc), (kp.trans k2).trans (same_hid hS)⟩
  · refine .inl ⟨⟨_, SqL.of hac, by rw [List.length_map]; omega⟩, Nat.zero_le _, fun p hp => ?_⟩
    have el : i = fs.length := by omega
    subst el
    have np : p ≠ D := fun z => by rw [z, (hid_some hDc).2] at hp; cases hp
    have hDp : (upd Hc p (.lst [])) D = some (.lst []) := by rw [upd_ne np.symm]; exact (hid_some hDc).2
    refine (hop_eq hk) ⟨upd Hc p (.lst []), [], [], none⟩ ⟨upd Hc p (.lst []), List.replicate 3 none, [], fun _ => 0, fun _ => []⟩ [some (.ref a), some u, none] (.ref D) (.ref p) (.list []) (.list []) true _ (Rel.bare (σ := [some (.ref a), some u, none]) hT) ⟨D, [], rfl, hDp, .nil⟩ ⟨p, [], rfl, upd_same, .nil⟩ ?_ fun v' S' e1 Pp => ?_
    · exact eqD_nn
    · have ev : v' = .bl true := by
        have := Pp.val
        cases this
        rfl
      subst ev
      have hS : Same (upd Hc p (.lst [])) S'.H := fun b o e => (hid_some (Pp.le.le b o (f_bare e))).2
      have hS2 : Same Hc S'.H := (same_upd hp).trans hS
      exact fin O _ (AI.1 _ _ _ _ Ji hS2) (kp.trans (same_hid hS2))
end
end VS

set_option maxHeartbeats 2000000
/-! Lambdas that are kept: they are made, their cells are lent. -/
namespace VS
open PySem PySem.Spec PyProof.Rows L2 LamX
section
variable {X : Cx} {pins : List (Addr × Obj)} {σ : L2.St} {H : Hp} {s : Shared}
/-- a new object of ours is tracked -/
theorem inv_adopt {f : Addr} {o : Obj} (I : Inv X pins σ H s) (ho : s.heap.get? f = some o) (hn : H f = none) (hsz : X.s_0.heap.objs.size ≤ f) (hl : f ≠ X.env.locals) (hc : ∀ x c, X.env.cells.lookup x = some c → c ≠ f) (hp : ∀ p ∈ X.pn ++ pins, p.1 ≠ f) : Inv X pins σ (upd H f (FrzO o)) s := by
  refine ⟨I.ok, I.os, I.bare, ⟨I.base.keep, I.base.slot, fun b u q n hx => ?_, I.base.there, fun b xs q => ?_, fun b u xs q => ?_, fun b ps q => ?_⟩, I.loc, I.cell, by rw [upd_ne hl.symm]; exact I.free, fun y c e => by rw [upd_ne (hc y c e)]; exact I.freeC y c e, fun p hp' => ?_, fun b u e => ?_, I.len⟩
  · rw [upd_ne (Nat.ne_of_lt (Nat.lt_of_lt_of_le (Heap.lt_size q) hsz))]
    exact I.base.free b u q n hx
  · have q := I.base.tups b xs q
    rw [upd_ne (ne_of_none q hn)]; exact q
  · have q := I.base.frzs b u xs q
    rw [upd_ne (ne_of_none q hn)]; exact q
  · obtain ⟨more, q⟩ := I.base.tbls b ps q
    exact ⟨more, by rw [upd_ne (ne_of_none q hn)]; exact q⟩
  · obtain ⟨h1, h2, h3, h4, h5⟩ := I.pin p hp'
    exact ⟨h1, by rw [upd_ne (hp p hp')]; exact h2, h3, h4, h5⟩
  · by_cases z : b = f
    · subst z
      rw [upd_same] at e
      cases e
      exact frz_ok ho
    · rw [upd_ne z] at e
      exact (I.hok b u e).stay (fun _ _ _ q => q) (fun c q => by rw [upd_ne (ne_of_none q hn)]; exact q) fun c xs q => by rw [upd_ne (ne_of_none q hn)]; exact q
/-- .. what was made behind s0 -/
theorem inv_adoptN {s0 : Shared} {H0 : Hp} {σ0 : L2.St} {f : Addr} {o : Obj} (I0 : Inv X pins σ0 H0 s0) (I : Inv X pins σ H s) (ho : s.heap.get? f = some o) (hn : H f = none) (hsz : s0.heap.objs.size ≤ f) : Inv X pins σ (upd H f (FrzO o)) s := by
  refine inv_adopt I ho hn (Nat.le_trans I0.sz hsz) (Nat.ne_of_gt (Nat.lt_of_lt_of_le I0.lt hsz)) (fun x c e z => ?_) fun p hp z => ?_
  · obtain ⟨v, o', e', _⟩ := I0.cell x c e
    exact Nat.lt_irrefl _ (Nat.lt_of_lt_of_le (z ▸ Heap.lt_size e') hsz)
  · exact Nat.lt_irrefl _ (Nat.lt_of_lt_of_le (z ▸ Heap.lt_size (I0.pin p hp).1) hsz)
theorem tail_make {T : List (Addr × Str)} {c P : Addr} {params : Arguments} {body : Expr} {scope : Scope} {pos : Pos} {dV : Value} {E : Value → Shared → Prop} {Q : Value → Shared → Prop} (I : Inv X pins σ H s) (TB : TabB X.base X.mg c P) (hcode : X.env.code = .ref c)
    (hm : (P, X.env.qual ++ "<lambda>") ∈ T) (hu : ∀ p ∈ T, p.1 = P → p.2 = X.env.qual ++ "<lambda>") (hT : Tabs T H) (hfree : ∀ y ∈ scope.names, y.2 = .free → ∃ c, X.env.cells.lookup y.1 = some c)
    (h : ∀ (f c' : Addr) (doc pm ctv : Value) (H1 : Hp) (s' : Shared), Inv X pins σ H1 s' → ExtP P H H1 → Tabs T H1 → s.heap.objs.size ≤ f →
      s'.heap.get? f = some (PySem.W.kdv_obj "<lambda>" (X.env.qual ++ "<lambda>") params (.expr body) scope (cloFrom X.env.cells scope.names []) dV doc pm c' ctv) → H1 f = none → H1 c' = some (CodeO c' (X.env.qual ++ "<lambda>")) → Q (.ref f) s') :
    wpAny (model X.prog X.w) X.A (makeTail "<lambda>" (X.env.qual ++ "<lambda>") params (.expr body) scope X.env dV .none none pos pos.line) Q E s := by
  obtain ⟨ps, hP, ht, ha⟩ := hT _ hm
  have bP : s.heap.BuiltinsAt X.mg P := TB.bm.keeps I.bk
  have hP' : s.heap.get? P = some { cls := .none, data := .fields ps } := I.hok P _ hP
  cases hc : codeAmong pos ps.toList with
  | none =>
    refine PySem.W.kdv_makeTail (mg := X.mg) (c := c) (P := P) (ps := ps) (closure_ok hfree) I.ok.glob (I.mod.glob.keeps I.bk) hcode (TB.code.keeps I.bk) hP' ht hc TB.gP bP fun c' ctv doc h' tk hx hge hlt hrec htb => ?_
    obtain ⟨c2, oc, vs, t, e2, hoc, hd, hv⟩ := hrec
    cases e2
    have hsz : s.heap.objs.size ≤ h'.objs.size := Nat.le_trans hge (Nat.le_of_lt hlt)
    have nC : H c' = none := I.hok.fresh hge
    have I1 := inv_table (t' := tk) (more := #[rawInt pos.line, rawInt pos.col, .ref c']) (h' := h'.push (PySem.W.kdv_obj "<lambda>" (X.env.qual ++ "<lambda>") params (.expr body) scope (cloFrom X.env.cells scope.names []) dV doc ((X.mg "__name__").getD .none) c' ctv)) I hP
      (fun b o hb e => Heap.get?_push_of_some _ (hx b o hb e)) (Heap.get?_push_of_some _ htb) hge ⟨oc, vs, t, Heap.get?_push_of_some _ hoc, hd, hv⟩
    have nPc : P ≠ c' := ne_of_none hP nC
    have hE : ExtP P H (upd (upd H P (.tbl (ps ++ #[rawInt pos.line, rawInt pos.col, .ref c']))) c' (CodeO c' (X.env.qual ++ "<lambda>"))) :=
      ⟨fun b o e n => by rw [upd_ne (ne_of_none e nC), upd_ne n]; exact e, by rw [upd_ne nPc, upd_same]; simp⟩
    have eL : (ps ++ #[rawInt pos.line, rawInt pos.col, .ref c']).toList = ps.toList ++ [rawInt pos.line, rawInt pos.col, .ref c'] := by simp
    have nCP : ∀ {a : Addr}, H a = some (CodeO a (X.env.qual ++ "<lambda>")) → a ≠ P := fun {a} e z => by
      rw [z, hP] at e
      exact codeO_ne ps (Option.some.inj e).symm
    refine h h'.objs.size c' doc ((X.mg "__name__").getD .none) ctv _ _ I1 hE (fun p hp => ?_) hsz (Heap.get?_push_size _ rfl) ?_ upd_same
    · by_cases hb : p.1 = P
      · rw [hu p hp hb, hb]
        refine ⟨_, by rw [upd_ne nPc, upd_same], by rw [eL]; exact PySem.TriplesOk_snoc _ _ _ _ ht, fun p' cv hcv => ?_⟩
        rw [eL] at hcv
        rcases among_app _ ht hcv with z | z
        · obtain ⟨c0, e1, e2⟩ := ha p' cv z
          exact ⟨c0, e1, hE.1 _ _ e2 (nCP e2)⟩
        · exact ⟨c', z, upd_same⟩
      · obtain ⟨ps', a1, a2, a3⟩ := hT p hp
        refine ⟨ps', hE.1 _ _ a1 hb, a2, fun p' cv hcv => ?_⟩
        obtain ⟨c0, e1, e2⟩ := a3 p' cv hcv
        refine ⟨c0, e1, hE.1 _ _ e2 fun z => ?_⟩
        rw [z, hP] at e2
        exact codeO_ne ps (Option.some.inj e2).symm
    · have n1 : h'.objs.size ≠ c' := Nat.ne_of_gt hlt
      have n2 : h'.objs.size ≠ P := Nat.ne_of_gt (Nat.lt_of_lt_of_le (Heap.lt_size hP') hsz)
      rw [upd_ne n1, upd_ne n2]
      exact I.hok.fresh hsz
  | some cv =>
    obtain ⟨c', e, hco⟩ := ha pos cv hc
    subst e
    refine PySem.W.kdv_makeTailHit (mg := X.mg) (c := c) (P := P) (ps := ps) (closure_ok hfree) I.ok.glob (I.mod.glob.keeps I.bk) hcode (TB.code.keeps I.bk) hP' ht hc bP fun ctv doc h' tk hx hsz => ?_
    have I1 : Inv X pins σ H { s with heap := h'.push (PySem.W.kdv_obj "<lambda>" (X.env.qual ++ "<lambda>") params (.expr body) scope (cloFrom X.env.cells scope.names []) dV doc ((X.mg "__name__").getD .none) c' ctv), toks := tk } := I.kept fun b o e => Heap.get?_push_of_some _ (hx b o e)
    exact h h'.objs.size c' doc ((X.mg "__name__").getD .none) ctv H _ I1 ⟨fun b o e _ => e, by rw [hP]; simp⟩ hT hsz (Heap.get?_push_size _ rfl) (I.hok.fresh hsz) hco
end
/-- a lambda's text -/
structure LSp where
  params : Arguments
  body : Expr
  scope : Scope
  ps : List Str
/-- f is such a lambda of the frame X -/
noncomputable def IsLam (X : Cx) (p : LSp) (H : Hp) (f : Addr) : Prop :=
  ∃ dV doc pm c' ctv bl, H f = some (FrzO (PySem.W.kdv_obj "<lambda>" (X.env.qual ++ "<lambda>") p.params (.expr p.body) p.scope (cloFrom X.env.cells p.scope.names []) dV doc pm c' ctv)) ∧ H c' = some (CodeO c' (X.env.qual ++ "<lambda>")) ∧ bl.map Prod.fst = p.ps ∧
    ∀ s : Shared, (∀ b o, H b = some (FrzO o) → s.heap.get? b = some o) → BindsTo s (PySem.W.kdv_fn "<lambda>" (X.env.qual ++ "<lambda>") p.params (.expr p.body) p.scope (cloFrom X.env.cells p.scope.names []) dV doc pm (.ref c') ctv) ⟨[], []⟩ bl
/-- what is known for good stays -/
noncomputable def KpX (H H' : Hp) : Prop := (∀ b o, H b = some (FrzO o) → H' b = some (FrzO o)) ∧ ∀ b φ, H b = some (.ext φ) → H' b = some (.ext φ)
theorem KpX.of {H H' : Hp} (s : Same H H') : KpX H H' := ⟨fun b o e => s b _ e, fun b φ e => s b _ e⟩
theorem KpX.trans {A B C : Hp} (x : KpX A B) (y : KpX B C) : KpX A C := ⟨fun b o e => y.1 b o (x.1 b o e), fun b φ e => y.2 b φ (x.2 b φ e)⟩
theorem IsLam.keep {X : Cx} {p : LSp} {H H' : Hp} {f : Addr} (h : IsLam X p H f) (k : KpX H H') : IsLam X p H' f := by
  obtain ⟨dV, doc, pm, c', ctv, bl, h1, h2, h3, h4⟩ := h
  exact ⟨dV, doc, pm, c', ctv, bl, k.1 _ _ h1, k.2 _ _ h2, h3, fun s hs => h4 s fun b o e => hs b o (k.1 _ _ e)⟩
noncomputable def tLam4 (X : Cx) (T : List (Addr × Str)) (P : Addr) (p : LSp) : TE := fun σ H Q => Tabs T H ∧ ∀ f H1, ExtP P H H1 → Tabs T H1 → IsLam X p H1 f → Q (.ref f) H1
section
variable {X : Cx} {T : List (Addr × Str)} {c P : Addr} {params : Arguments} {body : Expr} {scope : Scope} {pos : Pos}
theorem pe_lam0 (TB : TabB X.base X.mg c P) (hcode : X.env.code = .ref c) (hm : (P, X.env.qual ++ "<lambda>") ∈ T) (hu : ∀ p ∈ T, p.1 = P → p.2 = X.env.qual ++ "<lambda>") (hfree : ∀ y ∈ scope.names, y.2 = .free → X.env.scope.names.lookup y.1 = some .cell ∨ X.env.scope.names.lookup y.1 = some .free)
    (hdef : defaultsOf params X.env = ([], []) := by rfl)
    (hbind : ∀ (q : Str) (cl : List (Str × Addr)) (doc pm cv ctv : Value), bindArgs (PySem.W.kdv_fn "<lambda>" q params (.expr body) scope cl .none doc pm cv ctv) ⟨[], []⟩ = pure [] := by intros; rfl) :
    PE X (.Lambda params body scope pos) (tLam4 X T P ⟨params, body, scope, []⟩) := by
  refine ⟨fun pins s σ H Q I ⟨hT, h⟩ => ?_⟩
  refine PySem.W.kla_eval hdef ?_
  rw [makeFunction_eq]
  simp only [List.zip_nil_right, List.filterMap_nil, List.isEmpty_nil, if_true, pure_bind]
  refine tail_make I TB hcode hm hu hT (fun y hy e => I.ok.has _ ?_) fun f c' doc pm ctv H1 s' I1 eP T1 hsz hf hn hco => ?_
  · exact (hfree y hy e).elim .inl .inr
  · have I2 := inv_adoptN I I1 hf hn hsz
    have sm : Same H1 (upd H1 f (FrzO (PySem.W.kdv_obj "<lambda>" (X.env.qual ++ "<lambda>") params (.expr body) scope (cloFrom X.env.cells scope.names []) .none doc pm c' ctv))) := same_upd hn
    have nP : ∀ p ∈ T, ∃ ps, H1 p.1 = some (.tbl ps) := fun p hp => by obtain ⟨ps, e, _⟩ := T1 p hp; exact ⟨ps, e⟩
    refine ⟨.ref f, _, I2, rfl, h f _ ⟨fun b o e n => sm _ _ (eP.1 b o e n), ?_⟩ (T1.ext sm) ⟨_, doc, pm, c', ctv, [], upd_same, sm _ _ hco, rfl, fun s hs => BindsTo.of_eq (hbind _ _ _ _ _ _)⟩⟩
    cases e : H1 P with
    | none => exact absurd e eP.2
    | some o => rw [sm _ _ e]; simp
/-- .. with a parameter whose default is an int -/
theorem pe_lam1 {a : Str} {i : Int} {j : Nat} {p0 : Pos} (TB : TabB X.base X.mg c P) (hcode : X.env.code = .ref c) (hm : (P, X.env.qual ++ "<lambda>") ∈ T) (hu : ∀ p ∈ T, p.1 = P → p.2 = X.env.qual ++ "<lambda>") (hfree : ∀ y ∈ scope.names, y.2 = .free → X.env.scope.names.lookup y.1 = some .cell ∨ X.env.scope.names.lookup y.1 = some .free)
    (hd : params.defaults = [.Constant (.int i) j p0] := by rfl) (hk : params.kw_defaults = [] := by rfl)
    (hbind : ∀ (q : Str) (cl : List (Str × Addr)) (dV doc pm cv ctv v : Value), ∃ k, bindArgs (PySem.W.kdv_fn "<lambda>" q params (.expr body) scope cl dV doc pm cv ctv) ⟨[], []⟩ = seqItems? dV >>= k ∧ k (some [v].toArray) = pure [(a, v)] := by intros; exact ⟨_, rfl, rfl⟩) :
    PE X (.Lambda params body scope pos) (tLam4 X T P ⟨params, body, scope, [a]⟩) := by
  refine ⟨fun pins s σ H Q I ⟨hT, h⟩ => ?_⟩
  refine PySem.W.kdv_lam (by rw [hd]; rfl) hk ?_
  rw [hd]
  refine PySem.W.kdv_all1 (wpAny_Constant_int (PySem.W.kdv_all0 ?_))
  rw [makeFunction_eq]
  simp only [List.zip_nil_right, List.filterMap_nil, List.isEmpty_nil, if_true, pure_bind, List.isEmpty_cons, Bool.false_eq_true, if_false]
  refine wpAny_bind (wpAny_newTextTuple ?_)
  have I0 : Inv X pins σ H { s with heap := s.heap.push (PySem.W.kdv_tup [.int i s.toks]), toks := s.toks + 1 } := I.kept fun b o e => Heap.get?_push_of_some _ e
  have hT0 : H s.heap.objs.size = none := I.hok.fresh (Nat.le_refl _)
  have IT := inv_adoptN I I0 (f := s.heap.objs.size) (Heap.get?_push_size _ rfl) hT0 (Nat.le_refl _)
  have smT : Same H (upd H s.heap.objs.size (FrzO (PySem.W.kdv_tup [.int i s.toks]))) := same_upd hT0
  refine tail_make IT TB hcode hm hu (hT.ext smT) (fun y hy e => I.ok.has _ ?_) fun f c' doc pm ctv H1 s' I1 eP T1 hsz hf hn hco => ?_
  · exact (hfree y hy e).elim .inl .inr
  · have I2 := inv_adoptN IT I1 hf hn hsz
    have sm : Same H1 (upd H1 f (FrzO (PySem.W.kdv_obj "<lambda>" (X.env.qual ++ "<lambda>") params (.expr body) scope (cloFrom X.env.cells scope.names []) (.ref s.heap.objs.size) doc pm c' ctv))) := same_upd hn
    obtain ⟨ps, hP, _⟩ := hT _ hm
    have nPT : s.heap.objs.size ≠ P := fun z => by rw [z, hP] at hT0; cases hT0
    have hTT : H1 s.heap.objs.size = some (FrzO (PySem.W.kdv_tup [.int i s.toks])) := eP.1 _ _ upd_same nPT
    refine ⟨.ref f, _, I2, rfl, h f _ ⟨fun b o e n => sm _ _ (eP.1 b o (smT _ _ e) n), ?_⟩ (T1.ext sm) ⟨_, doc, pm, c', ctv, [(a, .int i s.toks)], upd_same, sm _ _ hco, rfl, fun s' hs => ?_⟩⟩
    · cases e : H1 P with
      | none => exact absurd e eP.2
      | some o => rw [sm _ _ e]; simp
    · obtain ⟨k, k1, k2⟩ := hbind (X.env.qual ++ "<lambda>") (cloFrom X.env.cells scope.names []) (.ref s.heap.objs.size) doc pm (.ref c') ctv (.int i s.toks)
      exact BindsTo.of_defaults rfl (hs _ _ (sm _ _ hTT)) rfl k1 k2
end
/-- lambdas in a row -/
noncomputable def LamsI (X : Cx) : List LSp → Hp → List Addr → Prop
  | [], _, [] => True
  | p :: ps, H, f :: fs => IsLam X p H f ∧ LamsI X ps H fs
  | _, _, _ => False
theorem LamsI.keep {X : Cx} {H H' : Hp} (k : KpX H H') : ∀ {ps : List LSp} {fs : List Addr}, LamsI X ps H fs → LamsI X ps H' fs
  | [], [], _ => True.intro
  | _ :: _, _ :: _, h => ⟨h.1.keep k, LamsI.keep k h.2⟩
  | [], _ :: _, h => h
  | _ :: _, [], h => h
theorem LamsI.app {X : Cx} {H : Hp} : ∀ {ps qs : List LSp} {fs gs : List Addr}, LamsI X ps H fs → LamsI X qs H gs → LamsI X (ps ++ qs) H (fs ++ gs)
  | [], _, [], _, _, h => h
  | _ :: _, _, _ :: _, _, h, h' => ⟨h.1, LamsI.app h.2 h'⟩
  | [], _, _ :: _, _, h, _ => h.elim
  | _ :: _, _, [], _, h, _ => h.elim
theorem LamsI.len {X : Cx} {H : Hp} : ∀ {ps : List LSp} {fs : List Addr}, LamsI X ps H fs → fs.length = ps.length
  | [], [], _ => rfl
  | _ :: _, _ :: _, h => congrArg (· + 1) h.2.len
  | [], _ :: _, h => h.elim
  | _ :: _, [], h => h.elim
theorem LamsI.get {X : Cx} {H : Hp} : ∀ {ps : List LSp} {fs : List Addr} {j : Nat} {f : Addr}, LamsI X ps H fs → fs[j]? = some f → ∃ p, ps[j]? = some p ∧ IsLam X p H f
  | [], [], _, _, _, e => by simp at e
  | p :: _, g :: _, 0, f, h, e => ⟨p, rfl, by simp at e; subst e; exact h.1⟩
  | _ :: _, _ :: _, j + 1, f, h, e => by
    obtain ⟨p, h1, h2⟩ := LamsI.get (j := j) (f := f) h.2 (by simpa using e)
    exact ⟨p, by simpa using h1, h2⟩
  | [], _ :: _, _, _, h, _ => h.elim
  | _ :: _, [], _, _, h, _ => h.elim
noncomputable def tLams (X : Cx) (T : List (Addr × Str)) (P : Addr) (ps : List LSp) : TA := fun σ H Q => Tabs T H ∧ ∀ fs H1, ExtP P H H1 → Tabs T H1 → LamsI X ps H1 fs → Q (fs.map V.ref) H1
section
variable {X : Cx} {T : List (Addr × Str)} {P : Addr}
theorem ExtP.ext {H H' : Hp} (e : ExtP P H H') (q : Str) (hm : (P, q) ∈ T) (hT : Tabs T H) : KpX H H' := by
  obtain ⟨ps, hp, _⟩ := hT _ hm
  have hp : H P = some (.tbl ps) := hp
  exact ⟨fun b o h => e.1 b _ h fun z => (by rw [z, hp] at h; cases h), fun b o h => e.1 b _ h fun z => (by rw [z, hp] at h; cases h)⟩
theorem pa_lams_nil (hP : ∃ q, (P, q) ∈ T) : PA X [] (tLams X T P []) := pa_nil.imp fun σ H Q ⟨hT, h⟩ => by
  obtain ⟨q, hm⟩ := hP
  obtain ⟨ps, hp, _⟩ := hT _ hm
  exact h [] H ⟨fun b o e _ => e, by rw [hp]; simp⟩ hT True.intro
theorem pa_lams_cons {e : Expr} {es : List Expr} {p : LSp} {ps : List LSp} (hP : ∃ q, (P, q) ∈ T) (he : PE X e (tLam4 X T P p)) (ha : PA X es (tLams X T P ps)) (hs : starEach (e :: es) X.env = (false, eval e X.env) :: starEach es X.env := by rfl) : PA X (e :: es) (tLams X T P (p :: ps)) := (pa_cons he ha hs).imp fun σ H Q ⟨hT, h⟩ => by
  obtain ⟨q, hm⟩ := hP
  refine ⟨hT, fun f H1 e1 T1 l1 => ⟨T1, fun fs H2 e2 T2 l2 => ?_⟩⟩
  exact h (f :: fs) H2 ⟨fun b o hb n => e2.1 b o (e1.1 b o hb n) n, e2.2⟩ T2 ⟨l1.keep (ExtP.ext e2 q hm T1), l2⟩
end
end VS

set_option maxHeartbeats 2000000
/-! The cells of a frame are lent while a def runs. -/
namespace VS
open PySem PySem.Spec PyProof.Rows L2 LamX
/-- H1: H, and the cells of X -/
structure Lent (X : Cx) (σ : L2.St) (H H1 : Hp) (cs : List Addr) : Prop where
  out : ∀ b, b ∉ cs → H1 b = H b
  cl : CellsAt H1 cs
  no : ∀ c ∈ cs, H c = none
  mem : ∀ y c, X.env.cells.lookup y = some c → c ∈ cs
  inj : ∀ x y c, X.env.cells.lookup x = some c → X.env.cells.lookup y = some c → x = y
  has : ∀ y, (X.env.scope.names.lookup y = some .cell ∨ X.env.scope.names.lookup y = some .free) → ∃ c, X.env.cells.lookup y = some c
  val : ∀ (i : Nat) y v, X.N[i]? = some y → σ[i]? = some (some v) → (X.env.scope.names.lookup y = some .cell ∨ X.env.scope.names.lookup y = some .free) → ∃ c o u, X.env.cells.lookup y = some c ∧ H1 c = some (FrzO o) ∧ o.data = .cell (some u) ∧ RelV v u
  len : σ.length = X.N.length
theorem Lent.same {X : Cx} {σ : L2.St} {H H1 : Hp} {cs : List Addr} (L : Lent X σ H H1 cs) : Same H H1 := fun b o e => by
  rw [L.out b fun m => by rw [L.no b m] at e; cases e]
  exact e
theorem Lent.hid {X : Cx} {σ : L2.St} {H H1 : Hp} {cs : List Addr} (L : Lent X σ H H1 cs) : hid H1 cs = H := by
  funext b
  by_cases m : b ∈ cs
  · rw [hid_in m, L.no b m]
  · rw [hid_out m, L.out b m]
/-- what a lambda of X has of them -/
theorem Lent.thk {X : Cx} {σ : L2.St} {H H1 H2 : Hp} {cs : List Addr} {scope : Scope} (L : Lent X σ H H1 cs) (hk : ∀ c ∈ cs, H2 c = H1 c) (hfree : ∀ y, scope.names.lookup y = some .free → X.env.scope.names.lookup y = some .cell ∨ X.env.scope.names.lookup y = some .free)
    (hfree' : ∀ y ∈ scope.names, y.2 = .free → X.env.scope.names.lookup y.1 = some .cell ∨ X.env.scope.names.lookup y.1 = some .free) :
    ThkC X.N scope (cloFrom X.env.cells scope.names []) H2 σ ∧ (∀ y c, (cloFrom X.env.cells scope.names []).lookup y = some c → c ∈ cs) ∧ CellsAt H2 cs := by
  have cm : ∀ {y c}, (cloFrom X.env.cells scope.names []).lookup y = some c → X.env.cells.lookup y = some c := fun {y c} e => by
    rcases cloFrom_mem (PySem.mem_of_lookup e) with hm | ⟨h1, h2⟩
    · cases hm
    · obtain ⟨c1, hc⟩ := L.has _ (hfree' _ h1 rfl)
      have hc : X.env.cells.lookup y = some c1 := hc
      have e2 : c = c1 := by
        rw [h2, hc] <;> rfl
      rw [e2]
      exact hc
  have look : ∀ {y}, scope.names.lookup y = some .free → ∃ c, (cloFrom X.env.cells scope.names []).lookup y = some c := fun {y} hl => by
    have hy : (y, NameKind.free) ∈ scope.names := PySem.mem_of_lookup hl
    exact mem_lookup (cloFrom_has (cells := X.env.cells) (acc := []) hy)
  have ca : CellsAt H2 cs := fun c m => by
    obtain ⟨o, v, h1, h2⟩ := L.cl c m
    exact ⟨o, v, by rw [hk c m]; exact h1, h2⟩
  refine ⟨⟨fun y c e => ca c (L.mem y c (cm e)), fun x y c e1 e2 => L.inj x y c (cm e1) (cm e2), fun y h => look h, fun i y v h1 h2 h3 => ?_, L.len⟩, fun y c e => L.mem y c (cm e), ca⟩
  obtain ⟨c, o, u, q1, q2, q3, r⟩ := L.val i y v h1 h2 (hfree y h3)
  obtain ⟨c2, e2⟩ := look h3
  have := cm e2
  rw [q1] at this
  obtain rfl := Option.some.inj this
  exact ⟨c, o, u, e2, by rw [hk c (L.mem y c q1)]; exact q2, q3, r⟩
theorem inv_lend {X : Cx} {pins : List (Addr × Obj)} {σ : L2.St} {H : Hp} {s : Shared} (I : Inv X pins σ H s) (hfn : ∀ y, X.fn y = true) : ∃ cs HL, Lent X σ H HL cs ∧ Env0 X.prog X.w X.K X.mg X.base X.A X.stack s HL := by
  obtain ⟨cs, hcs⟩ : ∃ cs, cs = X.env.cells.filterMap fun p => X.env.cells.lookup p.1 := ⟨_, rfl⟩
  have m1 : ∀ c ∈ cs, ∃ y, X.env.cells.lookup y = some c := fun c m => by
    rw [hcs] at m
    obtain ⟨p, _, e⟩ := List.mem_filterMap.mp m
    exact ⟨p.1, e⟩
  have m2 : ∀ y c, X.env.cells.lookup y = some c → c ∈ cs := fun y c e => by
    rw [hcs]
    exact List.mem_filterMap.mpr ⟨(y, c), PySem.mem_of_lookup e, e⟩
  have ob : ∀ c ∈ cs, ∃ o v, s.heap.get? c = some o ∧ o.data = .cell v := fun c m => by
    obtain ⟨y, e⟩ := m1 c m
    obtain ⟨v, o, e1, e2⟩ := I.cell y c e
    exact ⟨o, v, e1, e2⟩
  have no : ∀ c ∈ cs, H c = none := fun c m => by
    obtain ⟨y, e⟩ := m1 c m
    exact I.freeC y c e
  have ab : ∀ c ∈ cs, X.s_0.heap.objs.size ≤ c := fun c m => by
    obtain ⟨y, e⟩ := m1 c m
    exact I.ok.cab y c (hfn y) e
  have nfr : ∀ c ∈ cs, c ∉ frs X.stack := fun c m z => by
    have out : c ∈ frs X.outer → False := fun z => by
      obtain ⟨_, o, e, _⟩ := I.ok.funs.mem z
      exact Nat.lt_irrefl _ (Nat.lt_of_lt_of_le (Heap.lt_size e) (ab c m))
    rcases I.ok.stk with q | ⟨q, q2⟩
    · rw [q] at z; exact out z
    · rw [q] at z
      unfold frs at z
      rw [List.filterMap_cons, q2] at z
      rcases List.mem_cons.mp z with z | z
      · obtain ⟨_, ⟨o, es, ep, e, hd, _⟩, _⟩ := I.loc
        obtain ⟨o', v, e', hd'⟩ := ob c m
        rw [← z, e'] at e
        cases e
        rw [hd'] at hd
        cases hd
      · exact out z
  obtain ⟨HL, hHL⟩ : ∃ HL : Hp, HL = fun b => if b ∈ cs then (s.heap.get? b).map FrzO else H b := ⟨_, rfl⟩
  have hin : ∀ c ∈ cs, ∀ o, s.heap.get? c = some o → HL c = some (FrzO o) := fun c m o e => by
    rw [hHL]
    show (if c ∈ cs then (s.heap.get? c).map FrzO else H c) = _
    rw [if_pos m, e]
    rfl
  have hout : ∀ b, b ∉ cs → HL b = H b := fun b m => by
    rw [hHL]
    exact if_neg m
  have ca : CellsAt HL cs := fun c m => by
    obtain ⟨o, v, e1, e2⟩ := ob c m
    exact ⟨o, v, hin c m o e1, e2⟩
  have E := I.env0
  have hok : HOk X.prog X.w HL s.heap := fun b o e => by
    by_cases m : b ∈ cs
    · obtain ⟨o', v, e1, _⟩ := ob b m
      rw [hin b m o' e1] at e
      cases e
      exact frz_ok e1
    · rw [hout b m] at e
      refine (I.hok b o e).stay (fun _ _ _ q => q) (fun c q => ?_) fun c xs q => ?_
      · rw [hout c fun m => by rw [no c m] at q; cases q]; exact q
      · rw [hout c fun m => by rw [no c m] at q; cases q]; exact q
  refine ⟨cs, HL, ⟨hout, ca, no, m2, I.ok.inj, fun y h => I.ok.has y h, fun i y v h1 h2 h3 => ?_, I.len⟩, ⟨E.frames, E.mod, fun b o q => ⟨(E.bs b o q).1, ?_⟩, E.bsz, E.funs, fun b hb => ?_, hok, E.bare⟩⟩
  · obtain ⟨m, _, hl⟩ := I.loc
    have hvis : Vis X.env.scope y := h3.elim (fun k => .inr (.inl k)) (fun k => .inr (.inr k))
    obtain ⟨u, r, q⟩ := hl i y v h1 h2 hvis
    rcases q with ⟨k', _⟩ | ⟨_, c, e', o, ho, hd⟩
    · have k' : X.env.scope.names.lookup y = some .local := k'
      rcases h3 with k2 | k2 <;> rw [k2] at k' <;> cases k'
    · exact ⟨c, o, u, e', hin c (m2 y c e') o ho, hd, r⟩
  · rw [hout b fun m => ?_]
    · exact (E.bs b o q).2
    · exact Nat.lt_irrefl _ (Nat.lt_of_lt_of_le (Heap.lt_size q) (Nat.le_trans I.ok.bsz (ab b m)))
  · rw [hout b fun m => nfr b m hb]
    exact E.frf b hb
theorem ce_lend {P : Program} {w : World} {outer : List Env} {X : Cx} {σ : L2.St} {H HL : Hp} {cs : List Addr} {s s' : Shared} {Q : VK} {u : Value} (L : Lent X σ H HL cs) (hok : HOk P w HL s.heap) (frf : ∀ b ∈ frs outer, HL b = none) (x : CE outer P w HL s (fun v H2 => Q v (hid H2 cs)) u s') : CE outer P w H s Q u s' := by
  obtain ⟨v, H', os, bare, un, hok', r, q⟩ := x
  have cf : ∀ c ∈ cs, ∃ o v, s.heap.get? c = some o ∧ H' c = some (FrzO o) ∧ s'.heap.get? c = some o ∧ o.data = .cell v := fun c m => by
    obtain ⟨o, v, h1, h2⟩ := L.cl c m
    have h3 := un.frzs c o _ h1
    exact ⟨o, v, (hok c _ h1).1, h3, (hok' c _ h3).1, h2⟩
  have nc : ∀ b o, H b = some o → b ∉ cs := fun b o e m => by rw [L.no b m] at e; cases e
  have ca : CellsAt H' cs := fun c m => by
    obtain ⟨o, v, _, h2, _, h4⟩ := cf c m
    exact ⟨o, v, h2, h4⟩
  refine ⟨v, VS.hid H' cs, os, bare, ⟨fun b o q n hb hx => ?_, fun b o q n hb hx => ?_, fun b o q n hx => ?_, un.there, fun b xs q => ?_, fun b o u q => ?_, fun b ps q => ?_⟩, hok_hid hok' ca, r, q⟩
  · by_cases m : b ∈ cs
    · obtain ⟨o', _, h1, _, h3, _⟩ := cf b m
      rw [h1] at q
      cases q
      exact h3
    · exact un.keep b o q (by rw [L.out b m]; exact n) hb hx
  · exact un.slot b o q (frf b hb) hb hx
  · by_cases m : b ∈ cs
    · exact hid_in m
    · exact hid_none (un.free b o q (by rw [L.out b m]; exact n) hx)
  · rw [hid_out (nc b _ q)]
    exact un.tups b xs (by rw [L.out b (nc b _ q)]; exact q)
  · rw [hid_out (nc b _ q)]
    exact un.frzs b o u (by rw [L.out b (nc b _ q)]; exact q)
  · rw [hid_out (nc b _ q)]
    exact un.tbls b ps (by rw [L.out b (nc b _ q)]; exact q)
/-- a call while the frame's cells are lent; it raises nothing -/
theorem pe_callL {X : Cx} {k : Nat} {f : Addr} {fd : FuncData} {ps : List Str} {sp : Sp} {x : Str} {p pos : Pos} {e : Expr} {es : List Expr} {t : TA} (F : FnOk X.prog X.w X.K X.mg X.base (L2.CX X.prog X.w) k f fd ps sp) (hr : Room k X.A) (hg : Gl X x) (hm : X.mg x = some (.ref f)) (hk : PySem.W.keepIn X.K (.ref f) = true) (hb : Binds X.K fd ps []) (hfn : ∀ y, X.fn y = true)
    (ha : PA X (e :: es) t) (hdb : (x == ("__debug__" : Str)) = false := by decide) (he : starEach (e :: es) X.env = (false, eval e X.env) :: starEach es X.env := by rfl) (hpl : (backTo pos (starEach es X.env)).any (·.1) = false := by rfl) :
    PE X (.Call (.Name x p) (e :: es) [] pos) (fun σ H Q => t σ H fun vs H1 => ∀ cs HL, Lent X σ H1 HL cs → sp vs HL (fun v H2 => Q v (hid H2 cs)) (fun _ _ _ => False)) := by
  refine ⟨fun pins s σ H Q I h => ?_⟩
  refine wpAny_Call_Name_kw (ld_glob I hg hm ?_ hdb)
  refine PySem.W.callWith_K (h₀ := X.base) I.ok.mod.kin hk (thn (ha.run pos pins s σ H _ I h) fun us s1 ⟨vs, H1, I1, r, q⟩ => ⟨I1.kIn, ?_⟩) he hpl
  obtain ⟨cs, HL, L, E0⟩ := inv_lend I1 hfn
  have hsp := q cs HL L
  have hl := F.len _ _ _ _ hsp
  have hus : us.length = ps.length := by rw [← r.length]; exact hl
  have hbt := hb s1 us I1.kIn (by rw [List.append_nil]; exact hus)
  rw [List.append_nil] at hbt
  have rc := F.run X.A X.stack s1 HL ⟨us, []⟩ us vs _ _ hr E0 hbt r hsp
  refine wpAny_call (codeAny_mono rc fun r s' hq => ?_)
  cases r with
  | error e =>
    obtain ⟨_, _, _, _, _, _, _, _, _, _, _, _, z⟩ := (show L2.CX X.prog X.w X.stack HL s1 _ e s' from hq)
    exact z.elim
  | ok fl =>
    cases fl with
    | ret u => exact I1.after (ce_lend L E0.hok E0.frf hq)
    | next => exact False.elim hq
    | brk => exact False.elim hq
    | cont => exact False.elim hq
end VS

set_option maxHeartbeats 2000000
/-! What a kept lambda does, and a list of them. -/
namespace VS
open PySem PySem.Spec PyProof.Rows L2 LamX
/-- the same module, no table -/
noncomputable abbrev k0 (kf : KF) : KF := ⟨kf.K, [], kf.C⟩
variable [kf : KF]
section
variable {H H' : Hp}
mutual
theorem rp_shrink (k : ∀ b o, H b = some o → (∀ u, o ≠ FrzO u) → H' b = some o) : ∀ {v : V} {d : D}, Rp H v d → Rp H' v d
  | _, _, .non => .non
  | _, _, .bl b => .bl b
  | _, _, .int i => .int i
  | _, _, .str x => .str x
  | _, _, .lst h r => .lst (k _ _ h (fun u e => by cases e)) (rp_shrinks k r)
  | _, _, .tup h r => .tup (h.elim (fun ⟨o, a, b⟩ => .inl ⟨o, k _ _ a (fun u e => by cases e), b⟩) .inr) (rp_shrinks k r)
  | _, _, .any a => .any a
  | _, _, .opq a => .opq a
  | _, _, .exc h n r => .exc (k _ _ h (fun u e => by cases e)) n (rp_shrinks k r)
theorem rp_shrinks (k : ∀ b o, H b = some o → (∀ u, o ≠ FrzO u) → H' b = some o) : ∀ {vs : List V} {ds : List D}, RpA H vs ds → RpA H' vs ds
  | _, _, .nil => .nil
  | _, _, .cons h r => .cons (rp_shrink k h) (rp_shrinks k r)
end
end
theorem ExR.same {mg : Str → Option Value} {e : Exn} {cls : Value} {d : Option Addr} {H H' : Hp} (x : ExR mg e cls d H) (s : Same H H') : ExR mg e cls d H' := by
  obtain ⟨C, h1, h2, h3, h4⟩ := x
  refine ⟨C, h1, h2, h3, fun n => ?_⟩
  obtain ⟨dd, gs, a, b, c⟩ := h4 n
  refine ⟨dd, gs, a, s _ _ b, fun n x hm => ?_⟩
  obtain ⟨v, p, q⟩ := c n x hm
  exact ⟨v, p, q.mono s⟩
/-! ### one of them -/
/-- lists as data; no objects -/
noncomputable def frzS : Option Sl → Option Sl
  | some (.fr d) => some (.fr d)
  | some (.own ds) => some (.fr (.list ds))
  | _ => none
noncomputable def frzE (en : En) : En := en.map frzS
theorem frzS_get {x : Option Sl} {s : Sl} (h : frzS x = some s) : ∃ d, s = .fr d ∧ (x = some (.fr d) ∨ ∃ ds, d = .list ds ∧ x = some (.own ds)) := by
  unfold frzS at h
  split at h
  · rename_i d
    exact ⟨d, (Option.some.inj h).symm, .inl rfl⟩
  · rename_i ds
    exact ⟨.list ds, (Option.some.inj h).symm, .inr ⟨ds, rfl, rfl⟩⟩
  · cases h
theorem frzE_get {en : En} {i : Nat} {s : Sl} (h : (frzE en)[i]? = some (some s)) : ∃ d, s = .fr d ∧ (en[i]? = some (some (.fr d)) ∨ ∃ ds, d = .list ds ∧ en[i]? = some (some (.own ds))) := by
  unfold frzE at h
  rw [List.getElem?_map] at h
  cases e : en[i]? with
  | none => rw [e] at h; cases h
  | some x =>
    rw [e] at h
    obtain ⟨d, h1, h2⟩ := frzS_get (show frzS x = some s from Option.some.inj h)
    refine ⟨d, h1, ?_⟩
    rcases h2 with h2 | ⟨ds, h2, h3⟩
    · exact .inl (by rw [h2])
    · exact .inr ⟨ds, h2, by rw [h3]⟩
open Classical in
/-- a def's entry at this very place -/
theorem Rel.root {t : Ent} {S : Sn} {σ : L2.St} (R : Rel t S σ) : ∃ O, @Rel (k0 kf) ⟨S.H, [], O, none⟩ ⟨S.H, frzE S.en, O, fun _ => 0, fun _ => []⟩ σ := by
  obtain ⟨O, hO⟩ : ∃ O, O = S.O.filter fun b => decide (∀ i ds, S.en[i]? = some (some (.own ds)) → S.ad i ≠ b) := ⟨_, rfl⟩
  have sub : ∀ a ∈ O, a ∈ S.O := fun a h => by rw [hO] at h; exact (List.mem_filter.mp h).1
  have nown : ∀ i ds, S.en[i]? = some (some (.own ds)) → S.ad i ∉ O := fun i ds e h => by
    rw [hO] at h
    exact (of_decide_eq_true (List.mem_filter.mp h).2) i ds e rfl
  have isl : ∀ i, ¬ isL (frzE S.en) i := fun i ⟨ds, e⟩ => by
    rcases e with e | e <;> (obtain ⟨d, q, _⟩ := frzE_get e; cases q)
  refine ⟨O, @Rel.mk (k0 kf) _ _ _ ?_ (fun b o h _ => h) (fun _ h => h) (fun a h => (by cases h)) (fun a h => .inl h) (fun a h => R.trk a (sub a h)) (fun i d e => ?_) (fun i ds e => (isl i ⟨ds, e⟩).elim) (fun i ds e => (isl i ⟨ds, .inl e⟩).elim) (fun i ds e => (isl i ⟨ds, .inr e⟩).elim) (fun i j h => (isl i h).elim) (fun p hp => (by cases hp)) (fun p hp => (by cases hp)) ?_⟩
  · show (frzE S.en).length = _
    unfold frzE
    rw [List.length_map]
    exact R.len
  · obtain ⟨d', q, h⟩ := frzE_get e
    cases q
    rcases h with h | ⟨ds, rfl, h⟩
    · obtain ⟨v, h1, h2⟩ := R.fr i d h
      exact ⟨v, h1, h2.mono (hid_sub sub)⟩
    · obtain ⟨h1, h2, xs, h3, h4⟩ := R.li i ds (.inl h)
      exact ⟨_, h1, RpK.lst (show hid S.H O _ = _ from (hid_out (nown i ds h)).trans h3) (h4.mono (hid_sub sub))⟩
  · exact @Obs.nil (k0 kf) _ _ _ fun i ⟨C, ds, e⟩ => by
      rcases e with e | e <;> (obtain ⟨d, q, _⟩ := frzE_get e; cases q)
structure ThOk (X : Cx) (k : Nat) (η : Exn → Ou D) (p : LSp) (ψ : En → Ou (D × En)) : Prop where
  st : ThkS X.N p.scope p.ps
  fr : ∀ y, p.scope.names.lookup y = some .free → X.env.scope.names.lookup y = some .cell ∨ X.env.scope.names.lookup y = some .free
  fr' : ∀ y ∈ p.scope.names, y.2 = .free → X.env.scope.names.lookup y.1 = some .cell ∨ X.env.scope.names.lookup y.1 = some .free
  ex : ∃ tE : XK → TE, (∀ (f c' : Addr) (cl : List (Str × Addr)) (A : Around) (outer : List Env) (s : Shared) (H : Hp) (E : XK), Room k (A.deeper (thkEnv (X.env.qual ++ "<lambda>") p.scope cl s.heap.objs.size f c')) → PE (thkCx X.prog X.w X.K X.mg X.base X.N (X.env.qual ++ "<lambda>") cl A outer s H E p.scope f c') p.body (tE E)) ∧
    ∀ (t : Ent) (S : Sn) (σ : L2.St) (x : D) (en1 : En) (G : VK), Rel t S σ → ψ S.en = .ok (x, en1) → (∀ v S', S'.en = en1 → Rel t S' σ → Le S S' → KpX S.H S'.H → Rp S'.F v x → G v S'.H) → TErr X.mg η (fun E' H' Q' => tE E' σ H' Q') S.H G
/-- a thing that does nothing but raise -/
noncomputable def thG (η : Exn → Ou D) (ir : Ex) (en : En) : Ou (D × En) := match evalE ir (frzE en) with
  | .ex e => (match η e with
    | .ok x => .ok (x, en)
    | _ => .no)
  | _ => .no
theorem thG_at {η : Exn → Ou D} {ir : Ex} {en en1 : En} {x : D} (h : thG η ir en = .ok (x, en1)) : ∃ e, evalE ir (frzE en) = .ex e ∧ η e = .ok x ∧ en1 = en := by
  unfold thG at h
  split at h
  · rename_i e he
    split at h
    · rename_i y hy
      cases h
      exact ⟨e, he, hy, rfl⟩
    · cases h
  · cases h
theorem thG_ok {X : Cx} {k : Nat} {η : Exn → Ou D} {p : LSp} {ir : Ex} (st : ThkS X.N p.scope p.ps) (fr : ∀ y, p.scope.names.lookup y = some .free → X.env.scope.names.lookup y = some .cell ∨ X.env.scope.names.lookup y = some .free)
    (fr' : ∀ y ∈ p.scope.names, y.2 = .free → X.env.scope.names.lookup y.1 = some .cell ∨ X.env.scope.names.lookup y.1 = some .free)
    (hb : ∀ (f c' : Addr) (cl : List (Str × Addr)) (A : Around) (outer : List Env) (s : Shared) (H : Hp) (E : XK), Room k (A.deeper (thkEnv (X.env.qual ++ "<lambda>") p.scope cl s.heap.objs.size f c')) → @DE (k0 kf) (thkCx X.prog X.w X.K X.mg X.base X.N (X.env.qual ++ "<lambda>") cl A outer s H E p.scope f c') (wE E) p.body ir) : ThOk X k η p (thG η ir) := by
  refine ⟨st, fr, fr', fun E => @tEE (k0 kf) X.mg (wE E) ir, hb, fun t S σ x en1 G R hψ hG => ?_⟩
  obtain ⟨e, hev, hη, rfl⟩ := thG_at hψ
  obtain ⟨O, R0⟩ := R.root
  unfold TErr
  refine ⟨⟨S.H, [], O, none⟩, ⟨S.H, frzE S.en, O, fun _ => 0, fun _ => []⟩, rfl, R0, ?_⟩
  show (evalE ir (frzE S.en)).post _ _
  rw [hev]
  intro cls d H' keep hx _
  have sm : Same S.H H' := fun b o e => keep b o e (by simp)
  refine ⟨e, x, S.O, hx, hη, fun a ha => ?_, fun v H'' s'' hv => ?_⟩
  · cases q : S.H a with
    | none => exact absurd q (R.trk a ha)
    | some o => rw [sm _ _ q]; simp
  · obtain ⟨R', l'⟩ := R.grow (sm.trans s'')
    exact hG v { S with H := H'' } rfl R' l' (KpX.of (sm.trans s'')) hv
/-! ### all of them -/
open Classical in
noncomputable def allGo : List (En → Ou (D × En)) → D → En → Ou En
  | [], _, en => .ok en
  | ψ :: r, d, en => match ψ en with
    | .ok (x, e1) => if x = d then allGo r d e1 else .no
    | _ => .no
theorem allGo_cons {ψ : En → Ou (D × En)} {r : List (En → Ou (D × En))} {d : D} {en e2 : En} (h : allGo (ψ :: r) d en = .ok e2) : ∃ e1, ψ en = .ok (d, e1) ∧ allGo r d e1 = .ok e2 := by
  unfold allGo at h
  split at h
  · rename_i x e1 hψ
    split at h
    · rename_i hx
      subst hx
      exact ⟨e1, hψ, h⟩
    · cases h
  · cases h
open Classical in
noncomputable def allF (ψs : List (En → Ou (D × En))) (ie : Ex) (en : En) : Ou (Sl × En) := do
  let (d, e1) ← evF ie en
  if eqD d d = .ok true then (match allGo ψs d e1 with
    | .ok e2 => .ok (.fr (.bool true), e2)
    | _ => .no) else .no
/-- slot i: a list of such lambdas -/
noncomputable def LamsAt (X : Cx) (i : Nat) (ps : List LSp) (σ : L2.St) (S : Sn) : Prop := ∃ a fs, σ[i]? = some (some (.ref a)) ∧ S.F a = some (.lst (fs.map V.ref)) ∧ LamsI X ps S.H fs
noncomputable def tAllE (X : Cx) (W : WX) (i : Nat) (ps : List LSp) (ψs : List (En → Ou (D × En))) (ie : Ex) : TE := fun σ H Q =>
  ∃ t S, S.H = H ∧ Rel t S σ ∧ LamsAt X i ps σ S ∧ (allF ψs ie S.en).post (fun p => ∀ v S', S'.en = p.2 → EPost t S S' σ v p.1 → Q v S'.H) (RW X.mg W t σ)
structure FnAll (P : Program) (w : World) (K : PySem.W.Frag) (mg : Str → Option Value) (base : Heap) (ka k : Nat) (x : Str) (η : Exn → Ou D) : Prop where
  ex : ∃ f fd ps, mg x = some (.ref f) ∧ PySem.W.keepIn K (.ref f) = true ∧ FnOk P w K mg base (L2.CX P w) ka f fd ps (spAll P w K mg base k η) ∧ Binds K fd ps []
open Classical in
theorem pe_all {X : Cx} {W : WX} {ka k i : Nat} {x : Str} {η : Exn → Ou D} {ps : List LSp} {ψs : List (En → Ou (D × En))} {ie : Ex} {e1 e : Expr} {p pos : Pos} (G : FnAll X.prog X.w X.K X.mg X.base ka k x η) (hr : Room ka X.A) (hg : Gl X x) (hfn : ∀ y, X.fn y = true) (hv : PE X e1 (tVar i)) (he : DK X W e ie)
    (hth : ∀ (j : Nat) q, ps[j]? = some q → ∃ ψ, ψs[j]? = some ψ ∧ ThOk X k η q ψ) (hl : ψs.length = ps.length)
    (hdb : (x == ("__debug__" : Str)) = false := by decide) (hse : starEach [e1, e] X.env = (false, eval e1 X.env) :: starEach [e] X.env := by rfl) (hse2 : starEach [e] X.env = (false, eval e X.env) :: starEach [] X.env := by rfl) (hpl : (backTo pos (starEach [e] X.env)).any (·.1) = false := by rfl) :
    PE X (.Call (.Name x p) [e1, e] [] pos) (tAllE X W i ps ψs ie) := by
  obtain ⟨f0, fd, qs, hm, hk, ok, hb⟩ := G.ex
  refine (pe_callL ok hr hg hm hk hb hfn (pa_cons hv (pa_cons he pa_nil hse2) hse) hdb hse hpl).imp fun σ H Q ⟨t, S, eH, R, ⟨a, fs, ha, hF, hI⟩, h⟩ => ?_
  subst eH
  unfold allF at h
  rw [post_bind] at h
  refine ⟨_, ha, t, S, rfl, R, post_imp h fun q hq k1 v S1 e1 P1 cs HL L => ?_⟩
  obtain ⟨d, en1⟩ := q
  have e1 : S1.en = en1 := e1
  have k1 : (if eqD d d = .ok true then (match allGo ψs d en1 with
    | .ok e2 => .ok (.fr (.bool true), e2)
    | _ => .no) else .no : Ou (Sl × En)).post (fun p => ∀ v S', S'.en = p.2 → EPost t S S' σ v p.1 → Q v S'.H) (RW X.mg W t σ) := k1
  split at k1
  case isFalse => exact k1.elim
  rename_i hed
  cases hgo : allGo ψs d en1 with
  | no => rw [hgo] at k1; exact k1.elim
  | ex _ => rw [hgo] at k1; exact k1.elim
  | ok e2 =>
  rw [hgo] at k1
  have k1 : ∀ v S', S'.en = e2 → EPost t S S' σ v (.fr (.bool true)) → Q v S'.H := k1
  have val : Rp S1.F v d := P1.val
  have lenf : fs.length = ψs.length := hI.len.trans hl.symm
  have sL := L.same
  refine ⟨a, v, fs, S1.O, d, fun j O H1 => (∀ c ∈ cs, H1 c = HL c) ∧ ∃ Sj, Sj.H = hid H1 cs ∧ Sj.O = O ∧ Rel t Sj σ ∧ Le S1 Sj ∧ KpX S1.H Sj.H ∧ allGo (ψs.drop j) d Sj.en = .ok e2, rfl, same_hid sL _ _ (P1.le.le _ _ hF), val.mono (same_hid sL), hed, ⟨?_, ?_, ?_⟩, ⟨fun c m => rfl, S1, L.hid.symm, rfl, P1.rel, Le.refl _, KpX.of (Same.refl _), by rw [e1]; exact hgo⟩, ?_⟩
  · rintro j O H1 H2 ⟨hc, Sj, eH, eO, Rj, lj, kj, hj⟩ sm
    obtain ⟨R', l'⟩ := Rj.grow (H' := hid H2 cs) (by rw [eH]; exact same_hid sm)
    refine ⟨fun c m => ?_, { Sj with H := hid H2 cs }, rfl, eO, R', lj.trans l', kj.trans (KpX.of (by rw [eH]; exact same_hid sm)), hj⟩
    obtain ⟨o, _, z, _⟩ := L.cl c m
    rw [z]
    exact sm _ _ ((hc c m).trans z)
  · rintro j O H1 ⟨hc, Sj, eH, eO, Rj, lj, kj, hj⟩ b hb z
    rw [← eO] at hb
    refine Rj.trk b hb ?_
    rw [eH]
    exact hid_none z
  · rintro j f O H1 hf ⟨hc, Sj, eH, eO, Rj, lj, kj, hj⟩
    obtain ⟨p, hp, hlam⟩ := hI.get hf
    obtain ⟨ψ, hψ, T⟩ := hth j p hp
    have hdrop : ψs.drop j = ψ :: ψs.drop (j + 1) := by
      obtain ⟨h1, h2⟩ := List.getElem?_eq_some_iff.mp hψ
      rw [← h2]
      exact List.drop_eq_getElem_cons h1
    rw [hdrop] at hj
    obtain ⟨en2, hψ2, hj⟩ := allGo_cons hj
    have up : KpX S.H H1 := ((KpX.of P1.sm).trans kj).trans (KpX.of (by rw [eH]; exact hid_le))
    obtain ⟨dV, doc, pm, c', ctv, bl, h1, h2, h3, h4⟩ := hlam.keep up
    refine ⟨c', X.env.qual ++ "<lambda>", h2, ?_⟩
    obtain ⟨tE, hbody, post⟩ := T.ex
    obtain ⟨tC, hcs, ca⟩ := L.thk hc T.fr T.fr'
    obtain ⟨G1, hG1⟩ : ∃ G1 : VK, G1 = fun v H2 => ∃ O2, Rp (hid H2 O2) v d ∧ ((∀ c ∈ cs, H2 c = HL c) ∧ ∃ Sj, Sj.H = hid H2 cs ∧ Sj.O = O2 ∧ Rel t Sj σ ∧ Le S1 Sj ∧ KpX S1.H Sj.H ∧ allGo (ψs.drop (j + 1)) d Sj.en = .ok e2) ∧ Same (hid H1 O) (hid H2 O2) := ⟨_, rfl⟩
    rw [← hG1]
    have te := post t Sj σ d en2 (fun v H'' => ∀ Hl, (∀ c ∈ cs, Hl c = HL c) → hid Hl cs = H'' → G1 v Hl) Rj hψ2 fun v S' es R' l' kx rv Hl hcl hh => by
      rw [hG1]
      have nO : ∀ c ∈ cs, c ∉ S'.O := fun c m z => by
        refine R'.trk c z ?_
        rw [← hh]
        exact hid_in m
      have sF : Same S'.F (hid Hl S'.O) := fun b o e => by
        obtain ⟨n, e⟩ := hid_some e
        rw [hid_out n]
        rw [← hh] at e
        exact (hid_some e).2
      refine ⟨S'.O, rv.mono sF, ⟨hcl, S', hh.symm, rfl, R', lj.trans l', kj.trans kx, by rw [es]; exact hj⟩, fun b o e => ?_⟩
      obtain ⟨n, e⟩ := hid_some e
      by_cases m : b ∈ cs
      · rw [hid_out (nO b m), hcl b m, ← hc b m]
        exact e
      · refine sF _ _ (l'.le b o ?_)
        show hid Sj.H Sj.O b = some o
        rw [eO, hid_out n, eH, hid_out m]
        exact e
    unfold TErr at te ⊢
    rw [eH] at te
    refine ⟨fun h hok => ⟨_, _, _, _, (hok f _ h1).1⟩, fun A outer s e0 hr' => ?_⟩
    have hmend : ∀ {H' : Hp}, (∀ c ∈ cs, H' c = none) → (∀ c ∈ cs, mend H1 H' cs c = HL c) ∧ hid (mend H1 H' cs) cs = H' ∧ Same H' (mend H1 H' cs) := fun {H'} hn => by
      refine ⟨fun c m => (mend_in m).trans (hc c m), ?_, fun b o e => ?_⟩
      · funext b
        by_cases m : b ∈ cs
        · rw [hid_in m, hn b m]
        · rw [hid_out m, mend_out m]
      · rw [mend_out fun m => by rw [hn b m] at e; cases e]
        exact e
    refine thk_call (by rw [h3]; exact T.st) tC hcs ca e0 hr' (e0.hok f _ h1).1 h2 (h4 s fun b o e => (e0.hok b _ e).1) (fun A outer s H E hr2 => hbody f c' _ A outer s H E hr2) te (fun v H' hn q => ?_) fun cls dd H' hn q => ?_
    · obtain ⟨m1, m2, _⟩ := hmend hn
      exact q _ m1 m2
    · obtain ⟨ee, x, Oe, q1, q2, q3, q4⟩ := q
      obtain ⟨m1, m2, m3⟩ := hmend hn
      refine ⟨ee, x, Oe, q1.same m3, q2, fun b hb z => ?_, fun v Hl sl rv => ?_⟩
      · cases w : H' b with
        | none => exact q3 b hb w
        | some o => rw [m3 _ _ w] at z; cases z
      · have hcl : ∀ c ∈ cs, Hl c = HL c := fun c m => by
          obtain ⟨o, _, z, _⟩ := L.cl c m
          rw [z]
          exact sl _ _ ((m1 c m).trans z)
        have sH : Same H' (hid Hl cs) := fun b o e => by
          rw [hid_out fun m => by rw [hn b m] at e; cases e]
          exact sl _ _ (m3 _ _ e)
        refine q4 v (hid Hl cs) sH (rp_shrink (fun b o e nf => ?_) rv) Hl hcl rfl
        obtain ⟨n, e⟩ := hid_some e
        rw [hid_out n, hid_out fun m => ?_]
        · exact e
        · obtain ⟨o', _, z, _⟩ := L.cl b m
          rw [hcl b m, z] at e
          exact nf o' (Option.some.inj e).symm
  · rintro O' H' ⟨hc, Sk, eH, eO, Rk, lk, _, hk⟩ sm
    rw [lenf, List.drop_length] at hk
    have hk : Sk.en = e2 := Ou.ok.inj hk
    show Q (.bl true) (hid H' cs)
    rw [← eH]
    exact k1 (.bl true) Sk hk (.fr Rk (P1.le.trans lk) (.bl true))
end VS

set_option maxHeartbeats 2000000
/-! Names for lists of kept lambdas: the statements. -/
namespace VS
open PySem PySem.Spec PyProof.Rows L2 LamX
variable [kf : KF]
/-- the name gets something of which nothing is told -/
noncomputable def anyS (i : Nat) (en : En) : Ou En := if i < en.length then putE en i (.fr (.dict [])) else .no
omit [kf : KF] in
theorem anyS_at {i : Nat} {en en1 : En} (h : anyS i en = .ok en1) : putE en i (.fr (.dict [])) = .ok en1 ∧ i < en.length := by
  unfold anyS at h
  split at h
  · exact ⟨h, by assumption⟩
  · cases h
omit [kf : KF] in
theorem anyS_no {i : Nat} {en : En} {e : Exn} : anyS i en ≠ .ex e := fun h => by
  unfold anyS at h
  split at h
  · unfold putE at h
    split at h <;> cases h
  · cases h
noncomputable def tSTL (X : Cx) (i : Nat) (ps : List LSp) (mg : Str → Option Value) (E : XK) (ev : En → Ou Fl) : TS := fun Dn σ H => ∃ t S, S.H = H ∧ Rel t S σ ∧ LamsAt X i ps σ S ∧ (ev S.en).post (SF t S Dn) (RX mg E t)
/-- .. behind which slot i bears the lambdas ps -/
noncomputable abbrev DSL (X : Cx) (E : XK) (n i : Nat) (ps : List LSp) (st : List Stmt) (sx : Sxs) : Prop := PSs X st (tSTL X i ps X.mg E (execs n sx))
noncomputable def tTL (X : Cx) (W : WX) (i : Nat) (ps : List LSp) (ic : Ex) : TT := fun σ H Q =>
  ∃ t S, S.H = H ∧ Rel t S σ ∧ LamsAt X i ps σ S ∧ (evalB ic S.en).post (fun p => ∃ b, p.1 = .bool b ∧ ∀ S', S'.en = p.2 → Rel t S' σ → Le S S' → Q b S'.H) (RW X.mg W t σ)
/-- what a stored list of lambdas leaves -/
theorem lams_put {X : Cx} {t : Ent} {S : Sn} {σ : L2.St} {H1 : Hp} {i : Nat} {en1 : En} {fs : List Addr} {p : Addr} {ps : List LSp} (R : Rel t { S with H := H1 } σ) (l : Le S { S with H := H1 }) (hI : LamsI X ps H1 fs) (hp : H1 p = none) (he : anyS i S.en = .ok en1) :
    ∃ S2, S2.H = upd H1 p (.lst (fs.map V.ref)) ∧ S2.en = en1 ∧ Rel t S2 (σ.set i (some (.ref p))) ∧ Same S.F S2.F ∧ LamsAt X i ps (σ.set i (some (.ref p))) S2 := by
  obtain ⟨he, hi⟩ := anyS_at he
  obtain ⟨R2, l2⟩ := R.grow (H' := upd H1 p (.lst (fs.map V.ref))) (same_upd hp)
  obtain ⟨S2, q1, q2, R3, q3⟩ := R2.put (v := .ref p) (r := .fr (.dict [])) (show Rp _ _ _ from .any p) he
  have np : p ∉ S.O := fun m => R.trk p m hp
  have len : i < σ.length := by
    have := R.len
    have : S.en.length = σ.length := this
    omega
  refine ⟨S2, q1, q2, R3, by rw [q3]; exact l.le.trans l2.le, p, fs, by rw [List.getElem?_set_self len], ?_, ?_⟩
  · rw [q3]
    show hid _ S.O p = _
    rw [hid_out np]
    exact upd_same
  · rw [q1]
    exact hI.keep (KpX.of (same_upd hp))
section
variable {X : Cx} {E : XK} {W : WX} {n i : Nat} {ps qs : List LSp} {x : Str} {pos pos' pos2 pos3 pos4 : Pos} {rest a b : List Stmt} {sr sa sb : Sxs} {es : List Expr} {P : Addr}
theorem dss_lams (hN : X.N.Nodup) (hT : kf.T = [(P, X.env.qual ++ "<lambda>")]) (hl : PA X es (tLams X kf.T P ps)) (hz : ps.length ≤ 1000) (h2 : DSL X E n i ps rest sr) (hi : X.N[i]? = some x := by rfl) (hx : Loc X.env.scope x := by first | exact Or.inl rfl | exact Or.inr rfl)
    (hs : swapsWith (.List es pos2) (some (.Name x pos')) pos.line X.env = pure false := by rfl) (hf : X.fn x = true ∨ X.env.scope.names.lookup x = some .local := by first | exact .inl rfl | exact .inr rfl) :
    DSs X E n (.Assign [.Name x pos'] (.List es pos2) pos :: rest) (.cons (.fnS (anyS i)) sr) := (pss_cons (ps_set hN hi hx (pe_lst hl) hs hf) h2).imp fun D σ H ⟨t, S, eH, R, h⟩ => by
  subst eH
  have mT : (P, X.env.qual ++ "<lambda>") ∈ kf.T := by rw [hT]; exact List.mem_cons_self
  rw [execs, exec] at h
  simp only [post_bind] at h
  cases he : anyS i S.en with
  | no => rw [he] at h; exact h.elim
  | ex e => exact absurd he anyS_no
  | ok en1 =>
  rw [he] at h
  refine ⟨R.tb, fun fs H1 e1 T1 hI => ⟨?_, fun p hp => ?_⟩⟩
  · rw [List.length_map, hI.len, ← SZ_eq]
    exact Nat.le_trans hz (le_SZ (by omega))
  · obtain ⟨R1, l1⟩ := R.growT mT e1 T1
    obtain ⟨S2, q1, q2, R2, q3, q4⟩ := lams_put (S := S) R1 l1 hI hp he
    exact ⟨t, S2, q1, R2, q4, by rw [q2]; exact post_imp h fun f _ q => q.mono q3⟩
theorem dsl_more (hN : X.N.Nodup) (hT : kf.T = [(P, X.env.qual ++ "<lambda>")]) (hv : PE X (.Name x pos3) (tVar i)) (hl : PA X es (tLams X kf.T P qs)) (hz : ps.length + qs.length ≤ 1000) (h2 : DSL X E n i (ps ++ qs) rest sr) (hi : X.N[i]? = some x := by rfl) (hx : Loc X.env.scope x := by first | exact Or.inl rfl | exact Or.inr rfl)
    (hs : swapsWith (.BinOp (.Name x pos3) .Add (.List es pos2) pos4) (some (.Name x pos')) pos.line X.env = pure false := by rfl) (hf : X.fn x = true ∨ X.env.scope.names.lookup x = some .local := by first | exact .inl rfl | exact .inr rfl) :
    DSL X E n i ps (.Assign [.Name x pos'] (.BinOp (.Name x pos3) .Add (.List es pos2) pos4) pos :: rest) (.cons (.fnS (anyS i)) sr) := (pss_cons (ps_set hN hi hx (pe_op op_cat hv (pe_lst hl)) hs hf) h2).imp fun D σ H ⟨t, S, eH, R, ⟨a, fs, ha, hF, hI⟩, h⟩ => by
  subst eH
  have mT : (P, X.env.qual ++ "<lambda>") ∈ kf.T := by rw [hT]; exact List.mem_cons_self
  rw [execs, exec] at h
  simp only [post_bind] at h
  cases he : anyS i S.en with
  | no => rw [he] at h; exact h.elim
  | ex e => exact absurd he anyS_no
  | ok en1 =>
  rw [he] at h
  have lf := hI.len
  refine ⟨_, ha, R.tb, fun gs H1 e1 T1 hJ => ⟨?_, fun p hp => ?_⟩⟩
  · rw [List.length_map, hJ.len, ← SZ_eq]
    exact le_SZ (by omega)
  · obtain ⟨R1, l1⟩ := R.growT mT e1 T1
    have sp : Same H1 (upd H1 p (.lst (gs.map V.ref))) := same_upd hp
    obtain ⟨R2, l2⟩ := R1.grow (H' := upd H1 p (.lst (gs.map V.ref))) sp
    have l12 := l1.trans l2
    have hFa : (upd H1 p (.lst (gs.map V.ref))) a = some (.lst (fs.map V.ref)) := (hid_some (l12.le _ _ hF)).2
    refine ⟨a, p, fs.map V.ref, gs.map V.ref, rfl, rfl, hFa, upd_same, ?_, fun p2 hp2 => ?_⟩
    · rw [List.length_map, List.length_map, lf, hJ.len, ← SZ_eq]
      exact le_SZ (by omega)
    · have kx : KpX S.H H1 := ExtP.ext e1 _ mT R.tb
      obtain ⟨S2, q1, q2, R3, q3, q4⟩ := lams_put (X := X) (ps := ps ++ qs) (fs := fs ++ gs) (S := S) R2 l12 (((hI.keep kx).app hJ).keep (KpX.of sp)) hp2 he
      rw [List.map_append] at q1
      exact ⟨t, S2, q1, R3, q4, by rw [q2]; exact post_imp h fun f _ q => q.mono q3⟩
variable {ka k j : Nat} {y : Str} {η : Exn → Ou D} {ψs : List (En → Ou (D × En))} {ie ib ic : Ex} {e1 e ea eb ec : Expr} {p p1 : Pos} {rest' : List Expr}
/-- not all(xs, e) -/
theorem dtl_all (h : PE X ea (tAllE X W i ps ψs ie)) (he : ∀ whole, isTrue ea X.env whole = (do let v ← whole; standAt ea.pos; holding [v] (truthy v)) := by intro _; rfl) :
    PT X (.UnaryOp .Not ea pos) (tTL X W i ps (.nt (.fn (allF ψs ie)))) := (pt_not (pt_val h he)).imp fun σ H Q ⟨t, S, eH, R, hA, h⟩ => by
  refine ⟨t, S, eH, R, hA, ?_⟩
  subst eH
  simp only [evalB, brw, asVar, evalE, post_bind] at h
  refine post_imp h fun q hq h1 x S1 e1 P1 => ?_
  obtain ⟨r, en⟩ := q
  have hv := P1.val
  cases r with
  | fr d =>
    cases d <;> (try exact h1.elim)
    rename_i b
    refine ⟨b, (by cases (show Rp S1.F x (.bool b) from hv); rfl), ?_⟩
    obtain ⟨b', eb, h2⟩ := h1
    have z : (!b) = b' := by simpa [toD] using eb
    subst z
    exact h2 S1 e1 P1.rel P1.le
  | own ds => exact h1.elim
  | mb ds => exact h1.elim
  | ob C ds => exact h1.elim
  | mo C ds => exact h1.elim
theorem dsl_if (hc : PT X ec (tTL X (wE E) i ps ic)) (ha : DSs X E n a sa) (hb : DSs X E n b sb) (hr : DSs X E n rest sr) : DSL X E n i ps (.If ec a b pos :: rest) (.cons (.iff ic sa sb) sr) := (pss_cons (ps_if hc ha hb) hr).imp fun D σ H ⟨t, S, eH, R, hA, h⟩ => by
  subst eH
  simp only [execs, exec, post_bind] at h
  refine ⟨t, S, rfl, R, hA, post_imp h fun p hp k => ?_⟩
  obtain ⟨d, en⟩ := p
  cases d <;> (try exact k.elim)
  rename_i b'
  refine ⟨b', rfl, fun S1 e1 R1 l1 => ?_⟩
  have e1 : S1.en = en := e1
  have fin : ∀ {S2 : Sn} {sx : Sxs}, S2 = S1 → ((execs n sx en).post (fun a => (match a with
      | .nx en => execs n sr en
      | f => .ok f : Ou Fl).post (SF t S D) (RX X.mg E t)) (RX X.mg E t)) → tST X.mg E (execs n sx) { D with nx := tST X.mg E (execs n sr) D } σ S1.H := fun {S2 sx} _ z => by
    refine ⟨t, S1, rfl, R1, ?_⟩
    rw [e1]
    refine post_imp z fun f hf q => ?_
    cases f with
    | nx en => exact fun σ' S' e R' s' => ⟨t, S', rfl, R', by rw [e]; exact post_imp q fun f _ q => q.mono (l1.le.trans s')⟩
    | bk en => exact SF.mono (f := .bk en) l1.le q
    | ct en => exact SF.mono (f := .ct en) l1.le q
    | rt r en => exact SF.mono (f := .rt r en) l1.le q
  cases b' with
  | true => exact iteT (fin rfl k)
  | false => exact iteF (fin rfl k)
end
/-! ### the lambdas' promises in a row -/
noncomputable def ThsOk (X : Cx) (k : Nat) (η : Exn → Ou D) : List LSp → List (En → Ou (D × En)) → Prop
  | [], [] => True
  | p :: ps, ψ :: ψs => ThOk X k η p ψ ∧ ThsOk X k η ps ψs
  | _, _ => False
theorem ths_nil {X : Cx} {k : Nat} {η : Exn → Ou D} : ThsOk X k η [] [] := True.intro
theorem ths_cons {X : Cx} {k : Nat} {η : Exn → Ou D} {p : LSp} {ps : List LSp} {ψ : En → Ou (D × En)} {ψs : List (En → Ou (D × En))} (h : ThOk X k η p ψ) (r : ThsOk X k η ps ψs) : ThsOk X k η (p :: ps) (ψ :: ψs) := ⟨h, r⟩
theorem ThsOk.len {X : Cx} {k : Nat} {η : Exn → Ou D} : ∀ {ps : List LSp} {ψs : List (En → Ou (D × En))}, ThsOk X k η ps ψs → ψs.length = ps.length
  | [], [], _ => rfl
  | _ :: _, _ :: _, h => congrArg (· + 1) (ThsOk.len h.2)
  | [], _ :: _, h => h.elim
  | _ :: _, [], h => h.elim
theorem ThsOk.get {X : Cx} {k : Nat} {η : Exn → Ou D} : ∀ {ps : List LSp} {ψs : List (En → Ou (D × En))}, ThsOk X k η ps ψs → ∀ (j : Nat) q, ps[j]? = some q → ∃ ψ, ψs[j]? = some ψ ∧ ThOk X k η q ψ
  | [], [], _, _, _, e => by simp at e
  | p :: _, ψ :: _, h, 0, q, e => ⟨ψ, rfl, by simp at e; subst e; exact h.1⟩
  | _ :: _, _ :: _, h, j + 1, q, e => by
    obtain ⟨ψ, h1, h2⟩ := ThsOk.get h.2 j q (by simpa using e)
    exact ⟨ψ, by simpa using h1, h2⟩
  | [], _ :: _, h, _, _, _ => h.elim
  | _ :: _, [], h, _, _, _ => h.elim
theorem pe_alls {X : Cx} {W : WX} {ka k i : Nat} {x : Str} {η : Exn → Ou D} {ps : List LSp} {ψs : List (En → Ou (D × En))} {ie : Ex} {e1 e : Expr} {p pos : Pos} (G : FnAll X.prog X.w X.K X.mg X.base ka k x η) (hr : Room ka X.A) (hv : PE X e1 (tVar i)) (he : DK X W e ie) (hth : ThsOk X k η ps ψs) (hg : Gl X x := by rfl) (hfn : ∀ y, X.fn y = true := by intros; rfl)
    (hdb : (x == ("__debug__" : Str)) = false := by decide) (hse : starEach [e1, e] X.env = (false, eval e1 X.env) :: starEach [e] X.env := by rfl) (hse2 : starEach [e] X.env = (false, eval e X.env) :: starEach [] X.env := by rfl) (hpl : (backTo pos (starEach [e] X.env)).any (·.1) = false := by rfl) :
    PE X (.Call (.Name x p) [e1, e] [] pos) (tAllE X W i ps ψs ie) := pe_all G hr hg hfn hv he hth.get hth.len hdb hse hse2 hpl
noncomputable def thkB (N : List Str) (sc scope : Scope) (ps : List Str) : Bool :=
  decide (scope.kind = .function) && !scope.isCoroutine && !scope.isGenerator && scope.names.all (fun y => !decide (y.2 = .cell) && (!decide (y.2 = .free) || decide (sc.names.lookup y.1 = some .cell) || decide (sc.names.lookup y.1 = some .free))) && ps.all (fun y => decide (scope.names.lookup y = some .local)) && N.all fun y => !decide (scope.names.lookup y = some .local)
omit [kf : KF] in
theorem thkB_at {N : List Str} {sc scope : Scope} {ps : List Str} (h : thkB N sc scope ps = true) : ThkS N scope ps ∧ ∀ y ∈ scope.names, y.2 = .free → sc.names.lookup y.1 = some .cell ∨ sc.names.lookup y.1 = some .free := by
  unfold thkB at h
  simp only [Bool.and_eq_true, Bool.or_eq_true, Bool.not_eq_true', decide_eq_true_eq, decide_eq_false_iff_not, List.all_eq_true] at h
  obtain ⟨⟨⟨⟨⟨h1, h2⟩, h3⟩, h4⟩, h5⟩, h6⟩ := h
  refine ⟨⟨h1, h2, h3, fun y hy => (h4 y hy).1, h5, h6⟩, fun y hy e => ?_⟩
  rcases (h4 y hy).2 with (z | z) | z
  · exact absurd e z
  · exact .inl z
  · exact .inr z
theorem thG_by {X : Cx} {k : Nat} {η : Exn → Ou D} {p : LSp} {ir : Ex} {N : List Str} {sc : Scope} (h : thkB N sc p.scope p.ps = true) (eN : X.N = N) (eS : X.env.scope = sc)
    (hb : ∀ (f c' : Addr) (cl : List (Str × Addr)) (A : Around) (outer : List Env) (s : Shared) (H : Hp) (E : XK), Room k (A.deeper (thkEnv (X.env.qual ++ "<lambda>") p.scope cl s.heap.objs.size f c')) → @DE (k0 kf) (thkCx X.prog X.w X.K X.mg X.base X.N (X.env.qual ++ "<lambda>") cl A outer s H E p.scope f c') (wE E) p.body ir) : ThOk X k η p (thG η ir) := by
  subst eN eS
  obtain ⟨h1, h2⟩ := thkB_at h
  exact thG_ok h1 (fun y e => h2 (y, _) (PySem.mem_of_lookup e) rfl) h2 hb
section
variable {X : Cx} {T : List (Addr × Str)} {c P : Addr} {params : Arguments} {body : Expr} {scope sc : Scope} {pos : Pos} {N : List Str}
theorem pe_lamA (TB : TabB X.base X.mg c P) (hcode : X.env.code = .ref c) (hT : kf.T = [(P, X.env.qual ++ "<lambda>")]) (h : thkB N sc scope [] = true) (eS : X.env.scope = sc) (hdef : defaultsOf params X.env = ([], []) := by rfl)
    (hbind : ∀ (q : Str) (cl : List (Str × Addr)) (doc pm cv ctv : Value), bindArgs (PySem.W.kdv_fn "<lambda>" q params (.expr body) scope cl .none doc pm cv ctv) ⟨[], []⟩ = pure [] := by intros; rfl) :
    PE X (.Lambda params body scope pos) (tLam4 X kf.T P ⟨params, body, scope, []⟩) :=
  pe_lam0 TB hcode (by rw [hT]; exact List.mem_cons_self) (fun q hq _ => by rw [hT] at hq; rw [List.mem_singleton.mp hq]) (by subst eS; exact (thkB_at h).2) hdef hbind
theorem pe_lamB {a : Str} {i : Int} {j : Nat} {p0 : Pos} (TB : TabB X.base X.mg c P) (hcode : X.env.code = .ref c) (hT : kf.T = [(P, X.env.qual ++ "<lambda>")]) (h : thkB N sc scope [a] = true) (eS : X.env.scope = sc) (hd : params.defaults = [.Constant (.int i) j p0] := by rfl) (hk : params.kw_defaults = [] := by rfl)
    (hbind : ∀ (q : Str) (cl : List (Str × Addr)) (dV doc pm cv ctv v : Value), ∃ k, bindArgs (PySem.W.kdv_fn "<lambda>" q params (.expr body) scope cl dV doc pm cv ctv) ⟨[], []⟩ = seqItems? dV >>= k ∧ k (some [v].toArray) = pure [(a, v)] := by intros; exact ⟨_, rfl, rfl⟩) :
    PE X (.Lambda params body scope pos) (tLam4 X kf.T P ⟨params, body, scope, [a]⟩) :=
  pe_lam1 TB hcode (by rw [hT]; exact List.mem_cons_self) (fun q hq _ => by rw [hT] at hq; rw [List.mem_singleton.mp hq]) (by subst eS; exact (thkB_at h).2) hd hk hbind
theorem pa_lamsN (hT : kf.T = [(P, X.env.qual ++ "<lambda>")]) : PA X [] (tLams X kf.T P []) := pa_lams_nil ⟨_, by rw [hT]; exact List.mem_cons_self⟩
theorem pa_lamsC {e : Expr} {es : List Expr} {p : LSp} {ps : List LSp} (hT : kf.T = [(P, X.env.qual ++ "<lambda>")]) (he : PE X e (tLam4 X kf.T P p)) (ha : PA X es (tLams X kf.T P ps)) (hs : starEach (e :: es) X.env = (false, eval e X.env) :: starEach es X.env := by rfl) : PA X (e :: es) (tLams X kf.T P (p :: ps)) := pa_lams_cons ⟨_, by rw [hT]; exact List.mem_cons_self⟩ he ha hs
end
/-! ### the def -/
section
variable {P : Program} {w : World} {K : PySem.W.Frag} {mg : Str → Option Value} {base : Heap} {x qual : Str} {st : Stmt} {f : Addr} {fd : FuncData} {k kb : Nat} {η : Exn → Ou D}
omit [kf : KF] in
theorem passF {P : Program} {w : World} {X : Cx} : Passes (L2.CX P w) X (fun _ _ _ => False) := fun pins σ H s e s' I h => by
  obtain ⟨_, _, _, _, _, _, _, _, _, _, _, _, z⟩ := h
  exact z.elim
theorem fnAll_of {E' : XK} (hT : kf.T = []) (hK : K = kf.K) (F : Fun K x qual st f fd) (hm : mg x = some (.ref f)) (S : FnScope ["_law_calls", "_law_expected", "_law_call"] ["_law_calls", "_law_expected"] (defScope st)) (bd : Binds K fd ["_law_calls", "_law_expected"] [])
    (body : ∀ (cdv : Value) (A : Around) (outer : List Env) (s : Shared) (H : Hp) (E : XK), Room kb (A.deeper (envOfC qual (defScope st) s.heap.objs.size f cdv)) →
      PSs (cxOf (L2.CX P w) P w K mg base ["_law_calls", "_law_expected", "_law_call"] qual (defScope st) f cdv A outer s H E) (defBody st)
        (tRet (tOp (rEqV K) (tLc (iList K (tVar 0)) (gName 2) (tTest (tOp (rNeV K) (tCall (spK P w K mg base k η) [] E' (tCons (tVar 2) tNil)) (tVar 1))) (tVar 2) [2]) (tLst tNil)))) : FnAll P w K mg base (kb + 1) k x η := by
  refine ⟨f, fd, ["_law_calls", "_law_expected"], hm, F.kp, F.okX S (fun vs H Q E h => ?_) (fun cdv A outer s H vs Q E hr h => ?_), bd⟩
  · obtain ⟨a, u, fs, O, ed, J, rfl, _⟩ := h
    rfl
  · exact ⟨_, body cdv A outer s H E hr, all_reading (N := []) hT hK h⟩
end
end VS

set_option maxHeartbeats 2000000
/-! Kept lambdas that ask an object. -/
namespace VS
open PySem PySem.Spec PyProof.Rows L2 LamX
variable [kf : KF]
section
variable {X : Cx} {W : WX} {e eo : Expr} {es : List Expr} {is : Exs} {pos p : Pos} {i : Nat}
end
/-! ### o.m(e, ..) -/
/-! ### x(lambda: body), which does nothing but raise -/
section
variable {X : Cx} {W : WX} {body : Expr} {ir : Ex} {pos p lpos : Pos} {x : Str} {k : Nat} {c P : Addr} {params : Arguments} {scope : Scope} {η : Exn → Ou D}
end
end VS

set_option maxHeartbeats 2000000
/-! A chain of two comparisons as a test. -/
namespace VS
open PySem PySem.Spec PyProof.Rows L2 LamX
variable [kf : KF]
section
variable {X : Cx} {W : WX} {ea eb ec : Expr} {ia ib ic : Ex} {pos : Pos}
end
end VS

/-! What the law's own helpers give. -/
namespace VS
open PySem (PyData)
theorem is_int_in_val (k lo hi : Int) : phi_is_int_in [.int k, .int lo, .int hi] = .ok (.fr (.bool (decide (lo ≤ k) && decide (k ≤ hi)))) := by
  refine fnOf_eq (n := 0) ?_ (by simp)
  unfold ir_is_int_in
  simp_all only []
  by_cases h : lo ≤ k
  · simp [h]
  · simp [h]
theorem is_int_yes {k lo hi : Int} (h1 : lo ≤ k) (h2 : k ≤ hi) : phi_is_int_in [.int k, .int lo, .int hi] = .ok (.fr (.bool true)) := by
  rw [is_int_in_val]
  simp [h1, h2]
/-- the numbers that the law draws from -/
noncomputable def okD (ms : List D) : Prop := ∃ a b : Int, ∃ ns : List Int, ms = .int a :: .int b :: ns.map PyData.int ∧ okSeed a ∧ 0 ≤ b ∧ (∀ z ∈ ns, 0 < z) ∧ ns.length ≤ 1000
theorem okD_start (ns : List Int) (hl : ns.length ≤ 63) {z : Int} (hz : okSeed z) : okD ((rnd ns z).map PyData.int) := by
  refine ⟨_, 0, bigs ns, rfl, okSeed_of hz ns, Int.le_refl _, fun c hc => ?_, Nat.le_trans (bigs_len ns) (by omega)⟩
  have := (List.mem_filter.mp hc).2
  have h : (10 : Int) ^ (18 : Int).toNat ≤ c := by simpa using this
  have h2 : (0 : Int) < (10 : Int) ^ (18 : Int).toNat := by decide
  omega
theorem below_case {a b : Int} {ns : List Int} {L r : Int} {ms' : List D} (h : runM 0 ir__law_below 1 (.int a :: .int b :: ns.map PyData.int) [.int L] = .ok (.int r, ms')) : phi__law_below (.int a :: .int b :: ns.map PyData.int) [.int L] = .ok (.int r, ms') := fmOf_eq h (by simp)
theorem below_pos {a b : Int} {ns : List Int} {L : Int} (hb : 0 < b) (h1 : 0 < L) (h2 : L < 2 ^ 30) : phi__law_below (.int a :: .int b :: ns.map PyData.int) [.int L] = .ok (.int (b.fmod L), .int a :: .int (b.fdiv L) :: ns.map PyData.int) := by
  refine below_case ?_
  have L0 : L ≠ 0 := by omega
  have L1 : L.natAbs < 1073741824 := by omega
  have b0 : (b == 0) = false := by simp; omega
  unfold ir__law_below
  simp_all only [ b0, hb, L0, L1]
theorem nextseed (a : Int) : okSeed ((a * 48271 + 11).fmod 2147483647) := ⟨Int.fmod_nonneg_of_pos _ (by decide), Int.fmod_lt_of_pos _ (by decide)⟩
theorem below_nil {a : Int} {L : Int} (ha : okSeed a) (h1 : 0 < L) : phi__law_below [.int a, .int 0] [.int L] = .ok (.int ((((a * 48271 + 11).fmod 2147483647).fdiv 64).fmod L), [.int ((a * 48271 + 11).fmod 2147483647), .int 0]) := by
  refine below_case (ns := []) ?_
  have L0 : L ≠ 0 := by omega
  have wa : wInt a := okSeed_mul ha
  unfold ir__law_below
  simp_all only [ L0, wa, beq_self_eq_true, Int.lt_irrefl, show ¬ ((2 : Int) < ((0 + 1 + 1 : Nat) : Int)) from by decide, show ¬ ((2147483647 : Int) = 0) from by decide, show ((64 : Int) ≠ 0 ∧ (64 : Int).natAbs < 1073741824) from by decide]
theorem below_big {a c : Int} {ns : List Int} {L : Int} (hc : 0 < c) (h1 : 0 < L) (h2 : L < 2 ^ 30) : phi__law_below (.int a :: .int 0 :: .int c :: ns.map PyData.int) [.int L] = .ok (.int (c.fmod L), .int a :: .int (c.fdiv L) :: ns.map PyData.int) := by
  refine below_case (ns := c :: ns) ?_
  have L0 : L ≠ 0 := by omega
  have L1 : L.natAbs < 1073741824 := by omega
  have hl : (2 : Int) < ((ns.length + 1 + 1 + 1 : Nat) : Int) := by omega
  unfold ir__law_below
  simp_all only [ L0, L1, hc, hl, beq_self_eq_true]
theorem below_ok {ms : List D} {L : Int} (h : okD ms) (h1 : 0 < L) (h2 : L < 2 ^ 30) : ∃ r ms', phi__law_below ms [.int L] = .ok (.int r, ms') ∧ okD ms' ∧ 0 ≤ r ∧ r < L := by
  obtain ⟨a, b, ns, rfl, ha, hb, hn, hl⟩ := h
  have fm : ∀ x : Int, 0 ≤ x.fmod L ∧ x.fmod L < L := fun x => ⟨Int.fmod_nonneg_of_pos _ h1, Int.fmod_lt_of_pos _ h1⟩
  have fd : ∀ x : Int, 0 ≤ x → 0 ≤ x.fdiv L := fun x hx => Int.fdiv_nonneg hx (Int.le_of_lt h1)
  by_cases hb0 : b = 0
  · subst hb0
    cases ns with
    | nil => exact ⟨_, _, below_nil ha h1, ⟨_, 0, [], rfl, nextseed a, Int.le_refl _, hn, hl⟩, fm _⟩
    | cons c ns =>
      have hc := Int.le_of_lt (hn c (List.mem_cons_self ..))
      exact ⟨_, _, below_big (hn c (List.mem_cons_self ..)) h1 h2, ⟨a, _, ns, rfl, ha, fd _ hc, fun z hz => hn z (List.mem_cons_of_mem _ hz), by simp at hl; omega⟩, fm _⟩
  · exact ⟨_, _, below_pos (by omega) h1 h2, ⟨a, _, ns, rfl, ha, fd _ hb, hn, hl⟩, fm _⟩
/-! ### rings -/
noncomputable def iL (ns : List Int) : List D := ns.map PyData.int
noncomputable def okMarks (ns : List Int) : Prop := 3 ≤ ns.length ∧ ns.length ≤ 8 ∧ ∀ m ∈ ns, -1000000 ≤ m ∧ m ≤ 1000000
theorem lc_marks {elt : Ex} {a b c d : Option Sl} {n : Int} (h0 : 0 ≤ n) (h8 : n ≤ 8) (ha : a = some (.fr (.int n)))
    (h : ∀ ms v, okD ms → ∃ r ms', evalE elt [some (.mb ms), a, b, c, d, v] = .ok (.fr (.int r), [some (.mb ms'), a, b, c, d, v]) ∧ okD ms' ∧ -1000000 ≤ r ∧ r ≤ 1000000) {ms : List D} (hm : okD ms) :
    ∃ ns ms', evalE (.lc elt (.one 5) (.rng1 (.var 1)) .none [5]) [some (.mb ms), a, b, c, d, none] = .ok (.own (iL ns), [some (.mb ms'), a, b, c, d, none]) ∧ okD ms' ∧ ns.length = n.toNat ∧ ∀ m ∈ ns, -1000000 ≤ m ∧ m ≤ 1000000 := by
  subst ha
  obtain ⟨xs, s', h1, h2, ⟨ns, h3, h4, h5⟩⟩ := lc_run (elt := elt) (tg := .one 5) (src := .rng1 (.var 1)) (cond := .none) (vs := [5]) (en := [some (.mb ms), some (.fr (.int n)), b, c, d, none]) (items := rngD 0 n.toNat) (fun ms => [some (.mb ms), some (.fr (.int n)), b, c, d, none])
    (fun i acc ms => okD ms ∧ ∃ ns : List Int, acc = iL ns ∧ ns.length = i ∧ ∀ m ∈ ns, -1000000 ≤ m ∧ m ≤ 1000000) (s0 := ms)
    (evalS_rngI (by simp_all only []) (by omega) (by omega))
    (by rw [rngD_len]; have : SZ = 16777216 := SZ_lit; omega)
    (fun i z acc s hi ⟨q1, ns, q2, q3, q4⟩ => by
      obtain ⟨r, ms', w1, w2, w3⟩ := h s (some (.fr z)) q1
      refine ⟨_, true, _, rfl, rfl, fun _ => ⟨.fr (.int r), _, ms', w1, ⟨w2, ns ++ [r], ?_, by simp [q3], fun m hm => ?_⟩, rfl⟩, fun z => by cases z⟩
      · rw [q2]; simp [iL, toD]
      · rcases List.mem_append.mp hm with hm | hm
        · exact q4 m hm
        · rw [List.mem_singleton.mp hm]; exact w3)
    ⟨hm, [], rfl, rfl, fun m hm => by cases hm⟩
  refine ⟨ns, s', ?_, h2, by rw [h4, rngD_len], h5⟩
  rw [h1, h3]
  rfl
end VS

/-! The law's rings. -/
namespace VS
open PySem (PyData)
theorem marks_ok {ms : List D} (hm : okD ms) : ∃ ns ms', phi__law_marks ms [] = .ok (.tuple (iL ns), ms') ∧ okD ms' ∧ okMarks ns := by
  obtain ⟨r1, ms1, e1, m1, l1, u1⟩ := below_ok hm (L := 6) (by decide) (by decide)
  obtain ⟨r2, ms2, e2, m2, l2, u2⟩ := below_ok m1 (L := 5) (by decide) (by decide)
  have fin : ∀ {ns : List Int}, ns.length = (3 + r1).toNat → (∀ m ∈ ns, -1000000 ≤ m ∧ m ≤ 1000000) → okMarks ns := fun {ns} h1 h2 => ⟨by omega, by omega, h2⟩
  by_cases k0 : r2 = 0
  · subst k0
    obtain ⟨ns, ms', hE, hm', hl, hb⟩ := lc_marks (elt := .bin .Sub (.callM phi__law_below 0 (.cons (.cst (.int 2000001)) .nil)) (.cst (.int 1000000))) (a := some (.fr (.int (3 + r1)))) (b := some (.fr (.int 0))) (c := none) (d := none) (n := 3 + r1) (by omega) (by omega) rfl
      (fun ms v h => by
        obtain ⟨r, ms', e, h', lo, hi⟩ := below_ok h (L := 2000001) (by decide) (by decide)
        exact ⟨r - 1000000, ms', by simp_all only [ e], h', by omega, by omega⟩) m2
    have hE : evalE c2__law_marks _ = _ := hE
    refine ⟨ns, ms', fmOf_eq (n := 0) ?_ (by simp), hm', fin hl hb⟩
    unfold ir__law_marks
    simp_all only [ e1, e2, beq_self_eq_true, hE, c2__law_marks_v]
  · by_cases k1 : r2 = 1
    · subst k1
      obtain ⟨r3, ms3, e3, m3, l3, u3⟩ := below_ok m2 (L := 9) (by decide) (by decide)
      obtain ⟨r4, ms4, e4, m4, l4, u4⟩ := below_ok m3 (L := 5) (by decide) (by decide)
      obtain ⟨ns, ms', hE, hm', hl, hb⟩ := lc_marks (elt := .bin .Add (.var 3) (.bin .Mult (.var 4) (.callM phi__law_below 0 (.cons (.cst (.int 4)) .nil)))) (a := some (.fr (.int (3 + r1)))) (b := some (.fr (.int 1))) (c := some (.fr (.int (r3 - 4)))) (d := some (.fr (.int (1 + r4)))) (n := 3 + r1) (by omega) (by omega) rfl
        (fun ms v h => by
          obtain ⟨r, ms', e, h', lo, hi⟩ := below_ok h (L := 4) (by decide) (by decide)
          have w : wInt (1 + r4) := ⟨by omega, by omega⟩
          have b1 : 0 ≤ (1 + r4) * r := Int.mul_nonneg (by omega) lo
          have b2 : (1 + r4) * r ≤ 5 * 3 := Int.mul_le_mul (by omega) (by omega) lo (by omega)
          exact ⟨r3 - 4 + (1 + r4) * r, ms', by simp_all only [ e, w], h', by omega, by omega⟩) m4
      have hE : evalE c1__law_marks _ = _ := hE
      refine ⟨ns, ms', fmOf_eq (n := 0) ?_ (by simp), hm', fin hl hb⟩
      unfold ir__law_marks
      simp_all only [ e1, e2, e3, e4, beq_self_eq_true, show ((1 : Int) == 0) = false from by decide, hE, c1__law_marks_v]
    · have k0' : (r2 == 0) = false := by simp; omega
      have k1' : (r2 == 1) = false := by simp; omega
      by_cases k2 : r2 = 2
      · subst k2
        obtain ⟨r3, ms3, e3, m3, l3, u3⟩ := below_ok m2 (L := 9) (by decide) (by decide)
        have hk1 : 2 ≤ 3 + r1 := by omega
        have hk2 : 3 + r1 ≤ 1000 := by omega
        refine ⟨List.replicate (3 + r1).toNat r3, ms3, fmOf_eq (n := 0) ?_ (by simp), m3, fin (by simp) (fun m h => ?_)⟩
        · unfold ir__law_marks
          have hrep : repD (3 + r1) [PyData.int r3] = iL (List.replicate (3 + r1).toNat r3) := by
            unfold repD iL
            rw [List.map_replicate]
            generalize (3 + r1).toNat = k
            induction k with
            | zero => rfl
            | succ k ih => rw [List.replicate_succ, List.replicate_succ, List.flatten_cons, ih]; rfl
          have hs : (0 + 1 ≤ SZ) = True := eq_true (le_SZ (by decide))
          simp_all only [ e1, e2, e3, k0', k1', beq_self_eq_true, hs, hk1, hk2, hrep, show (0 + 1 ≤ 1000) = True from eq_true (by decide)]
        · have := (List.mem_replicate.mp h).2
          subst this
          exact ⟨by omega, by omega⟩
      · have k2' : (r2 == 2) = false := by simp; omega
        obtain ⟨ns, ms', hE, hm', hl, hb⟩ := lc_marks (elt := .bin .Sub (.callM phi__law_below 0 (.cons (.idx (.lstE (.cons (.cst (.int 3)) (.cons (.cst (.int 20)) .nil))) (.callM phi__law_below 0 (.cons (.cst (.int 2)) .nil))) .nil)) (.cst (.int 2))) (a := some (.fr (.int (3 + r1)))) (b := some (.fr (.int r2))) (c := none) (d := none) (n := 3 + r1) (by omega) (by omega) rfl
          (fun ms v h => by
            obtain ⟨r, ms', e, h', lo, hi⟩ := below_ok h (L := 2) (by decide) (by decide)
            have hs : (0 + 1 + 1 ≤ SZ) = True := eq_true (le_SZ (by decide))
            by_cases q : r = 0
            · subst q
              obtain ⟨z, ms2, f, g, lz, hz⟩ := below_ok h' (L := 3) (by decide) (by decide)
              exact ⟨z - 2, ms2, by simp_all only [ e, f, hs], g, by omega, by omega⟩
            · have q1 : r = 1 := by omega
              subst q1
              obtain ⟨z, ms2, f, g, lz, hz⟩ := below_ok h' (L := 20) (by decide) (by decide)
              exact ⟨z - 2, ms2, by simp_all only [ e, f, hs], g, by omega, by omega⟩) m2
        have hE : evalE c0__law_marks _ = _ := hE
        refine ⟨ns, ms', fmOf_eq (n := 0) ?_ (by simp), hm', fin hl hb⟩
        unfold ir__law_marks
        simp_all only [ e1, e2, k0', k1', k2', hE, c0__law_marks_v]
end VS

/-! Steps of rings. -/
namespace VS
open PySem (PyData)
open L2 (atI ixN)
theorem enumD_eq : ∀ (xs : List D) (k : Nat), enumD k xs = (List.range xs.length).map fun (i : Nat) => PyData.tuple [.int ((k + i : Nat) : Int), xs.getD i .none]
  | [], _ => rfl
  | x :: r, k => by
    rw [List.length_cons, List.range_succ_eq_map, List.map_cons, List.map_map]
    simp only [enumD]
    rw [enumD_eq r (k + 1)]
    congr 1
    apply List.map_congr_left
    intro i _
    show PyData.tuple [PyData.int ((k + 1 + i : Nat) : Int), _] = PyData.tuple [PyData.int ((k + (i + 1) : Nat) : Int), _]
    rw [show k + 1 + i = k + (i + 1) by omega]
    rfl
noncomputable def gI (ns : List Int) (i : Nat) : Int := ns.getD i 0
theorem gI_get {ns : List Int} {i : Nat} (h : i < ns.length) : ns[i]? = some (gI ns i) := by
  unfold gI
  rw [List.getD_eq_getElem?_getD, List.getElem?_eq_getElem h]
  rfl
theorem iL_len {ns : List Int} : (iL ns).length = ns.length := List.length_map _
theorem iL_get {ns : List Int} {i : Nat} (h : i < ns.length) : (iL ns)[i]? = some (.int (gI ns i)) := by
  show (ns.map PyData.int)[i]? = _
  rw [List.getElem?_map, gI_get h]
  rfl
theorem at_iL {ns : List Int} {k : Int} (h0 : 0 ≤ k) (h : k < ns.length) : atI (iL ns) k = some (.int (gI ns k.toNat)) := by
  unfold atI
  have e : ixN (iL ns).length k = some k.toNat := by
    unfold ixN
    rw [if_pos h0, if_pos (by rw [iL_len]; exact h)]
  rw [e]
  show (iL ns)[k.toNat]? = _
  exact iL_get (by omega)
theorem at_iL' {ns : List Int} {i : Nat} (h : i < ns.length) : atI (iL ns) (i : Int) = some (.int (gI ns i)) := by
  rw [at_iL (by omega) (by omega)]
  rfl
theorem fmod_nat (a n : Nat) : ((a : Int)).fmod (n : Int) = ((a % n : Nat) : Int) := by
  rw [Int.fmod_eq_emod_of_nonneg _ (by omega)]
  rfl
/-- the steps of a ring -/
noncomputable def dif (ns : List Int) : List Int := (List.range ns.length).map fun i => gI ns ((i + 1) % ns.length) - gI ns i
theorem dif_len {ns : List Int} : (dif ns).length = ns.length := by simp [dif]
theorem steps_of_val {ns : List Int} (h0 : 0 < ns.length) (hz : ns.length ≤ SZ) : phi_steps_of [.tuple (iL ns)] = .ok (.fr (.tuple (iL (dif ns)))) := by
  refine fnOf_eq (n := 0) ?_ (by simp)
  have hE : evalE c0_steps_of [some (.fr (.tuple (iL ns))), none, none] = .ok (.own (iL (dif ns)), [some (.fr (.tuple (iL ns))), none, none]) := by
    unfold c0_steps_of
    refine (lc_idx (en1 := [some (.fr (.tuple (iL ns))), none, none]) (items := enumD 0 (iL ns))
      (fun i => .int (gI ns ((i + 1) % ns.length) - gI ns i))
      (by simp_all only []) (by rw [enumD_len, iL_len]; exact hz) (fun i d hd => by
        obtain ⟨x, hx, rfl⟩ := enumD_get _ _ _ _ hd
        have hi : i < ns.length := by
          have := (List.getElem?_eq_some_iff.mp hx).1
          rw [iL_len] at this
          exact this
        rw [iL_get hi] at hx
        have hx := Option.some.inj hx
        subst hx
        have hm : (i + 1) % ns.length < ns.length := Nat.mod_lt _ h0
        have e1 : (((i : Int) + 1)).fmod (ns.length : Int) = (((i + 1) % ns.length : Nat) : Int) := fmod_nat (i + 1) ns.length
        have n0 : ¬ ((ns.length : Int) = 0) := by omega
        refine ⟨[some (.fr (.tuple (iL ns))), some (.fr (.int (i : Int))), some (.fr (.int (gI ns i)))], .fr (.int (gI ns ((i + 1) % ns.length) - gI ns i)), [some (.fr (.tuple (iL ns))), some (.fr (.int (i : Int))), some (.fr (.int (gI ns i)))], ?_, ?_, rfl, rfl⟩
        · rw [Nat.zero_add]; rfl
        · simp_all only [ iL_len, e1, n0, at_iL' hm])).trans ?_
    rw [enumD_len, iL_len]
    unfold dif
    show _ = Ou.ok (Sl.own (List.map PyData.int _), _)
    rw [List.map_map]
    rfl
  unfold ir_steps_of
  simp_all only [ hE, c0_steps_of_v]
theorem check_marks_val (q : Bool) {ns : List Int} (h : okMarks ns) : phi_check_marks q [.tuple (iL ns)] = .ok (.fr .none) := by
  obtain ⟨h3, h8, hb⟩ := h
  obtain ⟨en', hf, a, b, he⟩ := for_run (f := execs 0 (b0_check_marks q)) (t := .tup [1, 2]) (ds := enumD 0 (iL ns)) (fun i en => ∃ a b, en = [some (.fr (.tuple (iL ns))), a, b]) (en := [some (.fr (.tuple (iL ns))), none, none]) (fun i d en hd ⟨a, b, he⟩ => by
    subst he
    obtain ⟨x, hx, rfl⟩ := enumD_get _ _ _ _ hd
    have hi : i < ns.length := by
      have := (List.getElem?_eq_some_iff.mp hx).1
      rw [iL_len] at this
      exact this
    rw [iL_get hi] at hx
    have hx := Option.some.inj hx
    subst hx
    have hm := hb (gI ns i) (List.mem_of_getElem? (gI_get hi))
    refine ⟨[some (.fr (.tuple (iL ns))), some (.fr (.int (i : Int))), some (.fr (.int (gI ns i)))], [some (.fr (.tuple (iL ns))), some (.fr (.int (i : Int))), some (.fr (.int (gI ns i)))], by rw [Nat.zero_add]; rfl, .inl ?_, _, _, rfl⟩
    have i8 : ((i : Int) == 8) = false := by simp; omega
    unfold b0_check_marks
    simp_all only [ i8, is_int_yes (lo := 0 - 1000000) (hi := 1000000) (k := gI ns i) (by omega) (by omega)]) ⟨none, none, rfl⟩
  subst he
  refine fnOf_eq (n := 0) ?_ (by simp)
  have hl : ¬ ((ns.length : Int) < 3) := by omega
  unfold ir_check_marks
  simp_all only [ hf, iL_len, hl]
end VS

/-! Equality of data, common divisors, rings from steps. -/
namespace VS
open PySem (PyData)
open L2 (atI ixN)
/-! ### greatest common divisors -/
end VS

/-! The modulus, two ways; the ring of its steps. -/
namespace VS
open PySem (PyData)
open L2 (atI ixN)
end VS

/-! The ring of its steps. -/
namespace VS
open PySem (PyData)
open L2 (atI ixN)
theorem iL_app {xs ys : List Int} : iL (xs ++ ys) = iL xs ++ iL ys := List.map_append ..
theorem iL_take {xs : List Int} {n : Nat} : iL (xs.take n) = (iL xs).take n := List.map_take ..
theorem dif_get {ns : List Int} {i : Nat} (h : i < ns.length) : gI (dif ns) i = gI ns ((i + 1) % ns.length) - gI ns i := by
  have h1 := gI_get (ns := dif ns) (i := i) (by rw [dif_len]; exact h)
  unfold dif at h1
  rw [List.getElem?_map, List.getElem?_range h] at h1
  exact (Option.some.inj h1).symm
end VS

/-! Reflections, random lists of seats, shuffled lists. -/
namespace VS
open L2
open PySem (PyData)
/-! ### equality of lists of ints -/
/-! ### slices -/
/-! ### one reflection -/
noncomputable def refl (ns : List Int) (i : Nat) : List Int := ns.set i (gI ns ((i + ns.length - 1) % ns.length) + gI ns ((i + 1) % ns.length) - gI ns i)
/-! ### many -/
noncomputable def nats (is : List Nat) : List Int := is.map fun (i : Nat) => (i : Int)
noncomputable abbrev nL (is : List Nat) : List D := iL (nats is)
/-! ### random seats -/
/-! ### shuffled -/
end VS

/-! Another ring. -/
namespace VS
open L2
open PySem (PyData)
theorem one_SZ : (0 + 1 ≤ SZ) = True := eq_true (le_SZ (by decide))
theorem two_SZ : (0 + 1 + 1 ≤ SZ) = True := eq_true (le_SZ (by decide))
theorem three_SZ : (0 + 1 + 1 + 1 ≤ SZ) = True := eq_true (le_SZ (by decide))
theorem zero_SZ : (0 ≤ SZ) = True := eq_true (Nat.zero_le _)
theorem beq_no {a b : Int} (h : a ≠ b) : (a == b) = false := beq_eq_false_iff_ne.mpr h
end VS

/-! sorted(set(xs)) of a list of ints. -/
namespace VS
open PySem PySem.Spec PyProof.Rows L2
section
variable {P : Program} {w : World} {A : Around} {E : Value → Shared → Prop} {s : Shared}
end
end VS

/-! sorted(set(xs)). -/
namespace VS
open PySem PySem.Spec PyProof.Rows L2
section
variable {X : Cx} {W : WX} {ea : Expr} {ia : Ex} {pos p p2 pos2 : Pos}
variable [kf : KF]
end
end VS

/-! The first difference of two rings. -/
namespace VS
open L2
open PySem (PyData)
/-! ### greatest common divisors -/
/-! ### the first of a list in order -/
/-! ### the value -/
/-! ### in one direction exactly if in the other -/
end VS

/-! Pinned seats. -/
namespace VS
open L2
open PySem (PyData)
theorem cut_upto (xs : List D) (k : Nat) : cutD xs none (some (k : Int)) = xs.take k := by
  have e1 : HT.sIx xs.length 0 none = 0 := rfl
  have e2 : HT.sIx xs.length xs.length (some (k : Int)) = min k xs.length := HT.sIx_nat ..
  unfold cutD
  rw [e1, e2]
  simp
end VS

/-! Applied reflections, active seats. -/
namespace VS
open L2
open PySem (PyData)
/-! ### active seats -/
end VS

/-! Errors: rings and steps. -/
namespace VS
open PySem (PyData Str)
open L2 (atI ixN)
theorem for_ex {f : En → Ou Fl} {t : Tg} {ds : List D} {x : Exn} (i0 : Nat) (I : Nat → En → Prop) (h : ∀ i d en, i < i0 → ds[i]? = some d → I i en → ∃ e1 e2, bindT t d en = .ok e1 ∧ (f e1 = .ok (.nx e2) ∨ f e1 = .ok (.ct e2)) ∧ I (i + 1) e2)
    (hx : ∀ en, I i0 en → ∃ d e1, ds[i0]? = some d ∧ bindT t d en = .ok e1 ∧ f e1 = .ex x) {en : En} (h0 : I 0 en) (hl : i0 < ds.length) : forGo f t ds en = .ex x := by
  have main : ∀ k i en, k + i = i0 → I i en → forGo f t (ds.drop i) en = .ex x := by
    intro k
    induction k with
    | zero =>
      intro i en hi hI
      have e : i = i0 := by omega
      subst e
      obtain ⟨d, e1, h1, h2, h3⟩ := hx en hI
      obtain ⟨hlt, hd⟩ := List.getElem?_eq_some_iff.mp h1
      rw [List.drop_eq_getElem_cons hlt, hd]
      simp only [forGo, h2, ok_bind, h3, ex_bind]
    | succ k ih =>
      intro i en hi hI
      have hlt : i < ds.length := by omega
      obtain ⟨e1, e2, h1, h2, h3⟩ := h i ds[i] en (by omega) (List.getElem?_eq_getElem hlt) hI
      have h4 := ih (i + 1) e2 (by omega) h3
      rw [List.drop_eq_getElem_cons hlt]
      simp only [forGo, h1, ok_bind]
      rcases h2 with h2 | h2
      · simp only [h2, ok_bind, h4]
      · simp only [h2, ok_bind, h4]
  have := main i0 0 en (by omega) h0
  rw [List.drop_zero] at this
  exact this
theorem ex_ex {n : Nat} {s : Sx} {r : Sxs} {en : En} {x : Exn} (h : exec n s en = .ex x) : execs n (.cons s r) en = .ex x := by
  rw [execs, h]
  rfl
theorem runD_ex {n m : Nat} {b : Sxs} {ds : List D} {x : Exn} (h : execs n b (ds.map (fun d => some (.fr d)) ++ List.replicate m none) = .ex x) : runD n b m ds = .ex x := by
  unfold runD
  rw [h]
  rfl
/-- not a dict -/
noncomputable def ndc : D → Bool
  | .dict _ => false
  | _ => true
noncomputable def inI (d : D) (lo hi : Int) : Bool := match d with
  | .int k => decide (lo ≤ k) && decide (k ≤ hi)
  | _ => false
theorem is_int_any {d : D} {lo hi : Int} (h : ndc d = true) : phi_is_int_in [d, .int lo, .int hi] = .ok (.fr (.bool (inI d lo hi))) := by
  cases d with
  | int k => exact is_int_in_val k lo hi
  | dict k => cases h
  | none => exact fnOf_eq (n := 0) (by unfold ir_is_int_in; simp_all only [ inI]) (by simp)
  | bool b => exact fnOf_eq (n := 0) (by unfold ir_is_int_in; simp_all only [ inI]) (by simp)
  | str b => exact fnOf_eq (n := 0) (by unfold ir_is_int_in; simp_all only [ inI]) (by simp)
  | tuple b => exact fnOf_eq (n := 0) (by unfold ir_is_int_in; simp_all only [ inI]) (by simp)
  | list b => exact fnOf_eq (n := 0) (by unfold ir_is_int_in; simp_all only [ inI]) (by simp)
@[reducible] noncomputable def eMarks (i : Int) : Exn := ⟨"InvalidMarks", [("position", .int i)], none⟩
noncomputable def isTup : D → Bool
  | .tuple _ => true
  | _ => false
theorem isiT_no {d : D} (h : ndc d = true) (h2 : isTup d = false) : isiD .tuple d = .ok false := by
  cases d <;> first | rfl | exact absurd (show false = true from h) (by decide) | exact absurd (show true = false from h2) (by decide)
theorem check_marks_no {d : D} (h : ndc d = true) (h2 : isTup d = false) : phi_check_marks true [d] = .ex (eMarks 0) := by
  refine fnOf_eq (n := 0) ?_ (by simp)
  unfold ir_check_marks
  simp_all_arith only [ isiT_no h h2, mk1]
  try rfl
/-- a good item of a ring: an int in its bounds -/
noncomputable def goodM (m : Int) (d : Option D) : Prop := ∃ k, d = some (.int k) ∧ -m ≤ k ∧ k ≤ m
theorem check_marks_bad {xs : List D} {i : Nat} (hi : i < xs.length) (h8 : i ≤ 8) (hb : ∀ j, j < i → goodM 1000000 xs[j]?) (hx : i = 8 ∨ ∃ d, xs[i]? = some d ∧ ndc d = true ∧ inI d (-1000000) 1000000 = false) : phi_check_marks true [.tuple xs] = .ex (eMarks i) := by
  have hf : forGo (execs 0 (b0_check_marks true)) (.tup [1, 2]) (enumD 0 xs) [some (.fr (.tuple xs)), none, none] = .ex (eMarks i) := for_ex i (fun _ en => ∃ a b, en = [some (.fr (.tuple xs)), a, b]) (fun j d en hj hd ⟨a, b, he⟩ => by
    subst he
    obtain ⟨x, hx, rfl⟩ := enumD_get _ _ _ _ hd
    obtain ⟨k, hk, k1, k2⟩ := hb j hj
    rw [hk] at hx
    have hx := Option.some.inj hx
    subst hx
    refine ⟨[some (.fr (.tuple xs)), some (.fr (.int (j : Int))), some (.fr (.int k))], [some (.fr (.tuple xs)), some (.fr (.int (j : Int))), some (.fr (.int k))], by rw [Nat.zero_add]; rfl, .inl ?_, _, _, rfl⟩
    have i8 : ((j : Int) == 8) = false := by simp; omega
    unfold b0_check_marks
    simp_all only [ i8, is_int_yes (lo := 0 - 1000000) (hi := 1000000) (k := k) (by omega) (by omega)]) (fun en ⟨a, b, he⟩ => by
    subst he
    have hd : (enumD 0 xs)[i]? = some (.tuple [.int (i : Int), xs[i]]) := by
      rw [enumD_eq, List.getElem?_map, List.getElem?_range hi]
      show some (PyData.tuple [.int ((0 + i : Nat) : Int), xs.getD i .none]) = _
      rw [List.getD_eq_getElem?_getD, List.getElem?_eq_getElem hi, Nat.zero_add]
      rfl
    refine ⟨_, [some (.fr (.tuple xs)), some (.fr (.int (i : Int))), some (.fr xs[i])], hd, rfl, ?_⟩
    unfold b0_check_marks
    by_cases q : i = 8
    · have q8 : ((i : Int) == 8) = true := by simp; omega
      simp_all only [ q8, mk1]
      try rfl
    · have q8 : ((i : Int) == 8) = false := by simp; omega
      rcases hx with hx | ⟨d, h1, h2, h3⟩
      · exact absurd hx q
      · rw [List.getElem?_eq_getElem hi] at h1
        rw [Option.some.inj h1]
        have h3' : inI d (0 - 1000000) 1000000 = false := h3
        simp_all only [ q8, is_int_any h2, h3', mk1]
        try rfl) ⟨none, none, rfl⟩ (by rw [enumD_len]; exact hi)
  refine fnOf_eq (n := 0) ?_ (by simp)
  unfold ir_check_marks
  simp_all only [ hf]
theorem check_marks_short {xs : List Int} (hl : xs.length < 3) (hb : ∀ m ∈ xs, -1000000 ≤ m ∧ m ≤ 1000000) : phi_check_marks true [.tuple (iL xs)] = .ex (eMarks xs.length) := by
  obtain ⟨en', hf, a, b, he⟩ := for_run (f := execs 0 (b0_check_marks true)) (t := .tup [1, 2]) (ds := enumD 0 (iL xs)) (fun i en => ∃ a b, en = [some (.fr (.tuple (iL xs))), a, b]) (en := [some (.fr (.tuple (iL xs))), none, none]) (fun i d en hd ⟨a, b, he⟩ => by
    subst he
    obtain ⟨x, hx, rfl⟩ := enumD_get _ _ _ _ hd
    have hi : i < xs.length := by
      have := (List.getElem?_eq_some_iff.mp hx).1
      rw [iL_len] at this
      exact this
    rw [iL_get hi] at hx
    have hx := Option.some.inj hx
    subst hx
    have hm := hb (gI xs i) (List.mem_of_getElem? (gI_get hi))
    refine ⟨[some (.fr (.tuple (iL xs))), some (.fr (.int (i : Int))), some (.fr (.int (gI xs i)))], [some (.fr (.tuple (iL xs))), some (.fr (.int (i : Int))), some (.fr (.int (gI xs i)))], by rw [Nat.zero_add]; rfl, .inl ?_, _, _, rfl⟩
    have i8 : ((i : Int) == 8) = false := by simp; omega
    unfold b0_check_marks
    simp_all only [ i8, is_int_yes (lo := 0 - 1000000) (hi := 1000000) (k := gI xs i) (by omega) (by omega)]) ⟨none, none, rfl⟩
  subst he
  refine fnOf_eq (n := 0) ?_ (by simp)
  have hl' : ((xs.length : Int) < 3) := by omega
  unfold ir_check_marks
  simp_all only [ hf, iL_len, hl', mk1]
  try rfl
/-- a first mark and steps, added up -/
noncomputable def acc (a : Int) : List Int → List Int
  | [] => [a]
  | s :: r => a :: acc (a + s) r
/-! ### build_ring's errors -/
end VS

set_option maxRecDepth 100000
set_option maxHeartbeats 1000000
namespace K01
open PySem PySem.Spec PyProof.Rows L2 VS
noncomputable def top (i : Nat) : Stmt := PySem.Challenge.pw_markring_k01_ring_arguments.main.body.getD i (.Pass ⟨0, 0, 0, 0⟩)
noncomputable abbrev cl_Workbench (A : Addr) : ClsI := ⟨A, [("state", .val), ("past", .lst), ("undone", .lst), ("saved", .val)]⟩
section
variable {P : Program} {w : World} [kf : KF] {mg : Str → Option Value} {base : Heap}
noncomputable abbrev s_InvalidMarks___init__ : Stmt := inClass (top 3) 0
noncomputable abbrev N_InvalidMarks___init__ : List Str := ["self", "position"]
theorem sc_InvalidMarks___init__ : FnScope N_InvalidMarks___init__ ["self", "position"] (defScope s_InvalidMarks___init__) := ⟨rfl, rfl, rfl, by decide +kernel, rfl, by decide +kernel, by decide +kernel⟩
theorem er_InvalidMarks {C fI CM : Addr} {fd : FuncData} (hm : mg "InvalidMarks" = some (.ref C)) (T : OexC kf.K C) (iC : PySem.W.isClsIn kf.K C = true) (i1 : PySem.W.findIn kf.K (.ref C) "__init__" = some (some (.ref fI))) (t1 : PySem.W.typeIn kf.K (.ref fI) = some (.type "function")) (n_position : PySem.W.findIn kf.K (.ref C) "position" = some none) (F : Fun kf.K "__init__" "InvalidMarks.__init__" s_InvalidMarks___init__ fI fd) (B : BaseC kf.K mg "MarkError" CM) : Er1 P w kf.K mg base "InvalidMarks" "position" :=
  ⟨C, fI, fd, ["self", "position"], hm, T, iC, i1, t1, n_position, init1 F sc_InvalidMarks___init__ (fun cdv A outer s H E => pss_cons (ps_expr (pe_baseinit (xb := "MarkError") rfl B.m B.g1 B.g2 B.g3 B.vV (pa_cons (pv 0) (pa_cons (pv 1) pa_nil)))) (pss_one (ps_ost (pv 0) (pv 1)))), F.binds (ps := ["self", "position"]) fun _ _ _ _ _ _ us hl => match us, hl with | [_, _], _ => rfl⟩
noncomputable abbrev s__law_random : Stmt := top 89
theorem sc__law_random : FnScope ["_law_script", "_law_salt", "_law_seed", "_law_cell"] ["_law_script", "_law_salt"] (defScope s__law_random) := ⟨rfl, rfl, rfl, by decide +kernel, rfl, by decide +kernel, by decide +kernel⟩
theorem ok__law_random {f : Addr} {fd : FuncData} (F : Fun kf.K "_law_random" "_law_random" s__law_random f fd) (Tabs : mg "abs" = none) : FnOk P w kf.K mg base (L2.CX P w) 1 f fd ["_law_script", "_law_salt"] (spRand kf.K) := by
  refine F.okX sc__law_random (fun vs H Q E h => ?_) (fun cdv A outer s H vs Q E hr h => ?_)
  · obtain ⟨a, ns, z, rfl, _⟩ := h
    rfl
  · obtain ⟨a, ns, z, rfl, hS, hl, hz, k⟩ := h
    have nd := sc__law_random.nd
    refine ⟨_, pss_cons (ps_set (i := 2) nd rfl (Or.inl rfl) (pv 1)) (pss_cons
      (ps_for (passes_of rfl) rfl (pi_list (pv 0)) (pg_name (i := 3) nd rfl (Or.inl rfl)) (pss_one (ps_set (i := 2) nd rfl (Or.inl rfl)
        (pe_op op_modN (pe_op op_add (pe_op op_mul (pv 2) pe_int) (pe_callB call_abs (by rfl) Tabs (by decide +kernel) (pa_cons (pv 3) pa_nil))) pe_int))))
      (pss_one (ps_ret (pe_op op_cat (pe_lst (pa_cons (pv 2) (pa_cons pe_int pa_nil)))
        (pe_lc (own := [("_law_cell", 3)]) rfl nd (pi_list (pv 0)) (blkOk_by (N := ["_law_script", "_law_salt", "_law_seed", "_law_cell"]) (sc := defScope s__law_random) (by decide +kernel)) (fun _ _ _ _ _ => pg_name (i := 3) nd rfl (by first | exact Or.inl rfl | exact Or.inr rfl)) (fun _ _ _ _ _ => pts_one (pt_cmpR op_ge (pv 3) (pe_op op_pow pe_int pe_int) (nomark _))) (fun _ _ _ _ _ => pv 3)))))), ?_⟩
    refine ⟨_, rfl, ?_⟩
    refine ⟨_, rfl, a, rfl, ⟨_, hS⟩, for_list (K := kf.K) (a := a) (xs := ns.map V.int) (fun i σ H' => ∃ v, H' = H ∧ σ = [some (.ref a), some (.int z), some (.int (seedOf z (ns.take i))), v] ∧ okSeed (seedOf z (ns.take i))) ⟨none, rfl, rfl, hz⟩ (fun i σ H' _ ⟨_, e, _⟩ => e ▸ hS) ?_ ?_⟩
    · rintro i y σ H' hi ⟨v, rfl, rfl, hs⟩
      rw [List.getElem?_map] at hi
      cases e : ns[i]? with
      | none => rw [e] at hi; cases hi
      | some c =>
        rw [e] at hi
        have hi := (Option.some.inj hi).symm
        subst hi
        refine ⟨_, rfl, _, _, rfl, rfl, .inl (okSeed_mul hs), _, rfl, ?_⟩
        refine ⟨c, rfl, _, _, rfl, rfl, _, _, rfl, rfl, (by show (2147483647 : Int) ≠ 0; decide), ?_⟩
        have e2 : seedOf z (ns.take (i + 1)) = (seedOf z (ns.take i) * 31 + (if c < 0 then -c else c)).fmod 2147483647 := by
          rw [take_succ e, seedOf_append]
          rfl
        refine ⟨some (.int c), rfl, ?_, ?_⟩
        · rw [e2]
          rfl
        · rw [e2]
          exact okSeed_step _ _
    · rintro σ H' ⟨v, e, rfl, hs⟩
      obtain rfl := (show H = H' from e.symm)
      have hlen : (ns.map V.int).length = ns.length := List.length_map _
      rw [hlen, List.take_length] at hs ⊢
      refine ⟨_, rfl, Nat.le_of_ble_eq_true rfl, fun p hp => ?_⟩
      have s1 : Same H (upd H p (.lst [.int (seedOf z ns), .int 0])) := same_upd hp
      refine ⟨_, rfl, a, rfl, ⟨_, VS.SqL.same hS s1⟩, fun D hD => ?_⟩
      have npD : p ≠ D := fun e => by rw [e, upd_same] at hD; cases hD
      have hD0 : H D = none := by rw [upd_ne npD.symm] at hD; exact hD
      refine lc_list (K := kf.K) (a := a) (xs := ns.map V.int) (fun i H' => H' = upd (upd H p (.lst [.int (seedOf z ns), .int 0])) D (.lst ((bigs (ns.take i)).map V.int))) rfl (fun i H' _ e => e ▸ VS.SqL.same (VS.SqL.same hS s1) (same_upd hD)) ?_ ?_
      · rintro i y H' hi rfl
        rw [List.getElem?_map] at hi
        cases e : ns[i]? with
        | none => rw [e] at hi; cases hi
        | some c =>
          rw [e] at hi
          have hi := (Option.some.inj hi).symm
          subst hi
          refine ⟨rfl, _, rfl, _, _, rfl, rfl, ⟨by decide, by decide, by decide⟩, _, _, rfl, rfl, _, rfl, ?_⟩
          have hb : bigs (ns.take (i + 1)) = bigs (ns.take i) ++ (if decide ((10 : Int) ^ (18 : Int).toNat ≤ c) = true then [c] else []) := by
            rw [take_succ e]
            rw [bigs_app, bigs_one]
          by_cases q : decide ((10 : Int) ^ (18 : Int).toNat ≤ c) = true
          · rw [if_pos q] at hb
            refine iteT' q ⟨_, rfl, _, upd_same, ?_, ?_⟩
            · rw [List.length_map]
              have := bigs_len (ns.take i)
              have h2 : (ns.take i).length ≤ ns.length := by rw [List.length_take]; omega
              rw [sizeLine_eq]
              omega
            · rw [hb, upd_upd, List.map_append]
              rfl
          · rw [if_neg q, List.append_nil] at hb
            refine iteF' q ?_
            rw [hb]
      · rintro H' rfl
        rw [List.length_map, List.take_length]
        refine ⟨p, D, _, _, rfl, rfl, by rw [upd_ne npD]; exact upd_same, upd_same, ?_, fun q hq => ?_⟩
        · rw [List.length_map]
          have := bigs_len ns
          rw [sizeLine_eq]
          simp
          omega
        · have nqp : q ≠ p := fun e => by rw [e, upd_ne npD, upd_same] at hq; cases hq
          have nqD : q ≠ D := fun e => by rw [e, upd_same] at hq; cases hq
          have hq0 : H q = none := by rw [upd_ne nqD, upd_ne nqp] at hq; exact hq
          exact k q _ ((s1.trans (same_upd hD)).trans (same_upd hq)) hq0 upd_same

noncomputable abbrev s__law_below : Stmt := top 90
noncomputable abbrev N__law_below : List Str := ["_law_d", "_law_limit", "_law_result"]
theorem sc__law_below : FnScope N__law_below ["_law_d", "_law_limit"] (defScope s__law_below) := ⟨rfl, rfl, rfl, by decide +kernel, rfl, by decide +kernel, by decide +kernel⟩
theorem bd__law_below (T_len : mg "len" = none) : Bd P w kf.K mg base N__law_below "_law_below" s__law_below 0 ir__law_below := fun n f cdv A outer s H E hr => by
  have nd := sc__law_below.nd
  have hu := hr.units
  have hu0 := hr.units0
  have hu2 := VS.un65 hr
  exact (dss_cons (dst_if (PW.pt (dw_and (dt_eq hu (DE.l (de_idx (dl_var (pv 0)) (DE.b (de_int)))) (DE.b (de_int))) (dw_and1 (dt_gt (DE.l (de_len T_len (db_var (pv 0)))) (DE.b (de_int)))))) (dss_cons (dst_setI (DE.f (de_popI (pv 0) (k := 2))) (pv 0) (DE.b (de_int)))
    dss_nil) dss_nil)
    (dss_cons (dst_if (dt_gt (DE.l (de_idx (dl_var (pv 0)) (DE.b (de_int)))) (DE.b (de_int))) (dss_cons (dst_set nd (de_mod (DE.l (de_idx (dl_var (pv 0)) (DE.b (de_int)))) (db_var (pv 1))))
    (dss_cons (dst_setI (DE.f (de_div (DE.l (de_idx (dl_var (pv 0)) (DE.b (de_int)))) (db_var (pv 1)))) (pv 0) (DE.b (de_int)))
    (dss_cons (dst_ret (de_mv (pv 2)))
    dss_nil))) dss_nil)
    (dss_cons (dst_setI (DE.f (de_mod (DE.l (de_add (DE.l (de_mul (DE.l (de_idx (dl_var (pv 0)) (DE.b (de_int)))) (DE.b (de_int)))) (DE.b (de_int)))) (DE.b (de_int)))) (pv 0) (DE.b (de_int)))
    (dss_cons (dst_ret (de_mod (DE.l (de_div (DE.l (de_idx (dl_var (pv 0)) (DE.b (de_int)))) (DE.b (de_int)))) (db_var (pv 1))))
    dss_nil))))
theorem fd__law_below {fa : Addr} {fd : FuncData} (hTT : kf.T = []) (F : Fun kf.K "_law_below" "_law_below" s__law_below fa fd) (hm : mg "_law_below" = some (.ref fa)) (T_len : mg "len" = none) : FnM P w kf.K mg base 1 "_law_below" 1 phi__law_below := fnM_fm hTT F hm sc__law_below (F.binds (ps := ["_law_d", "_law_limit"]) fun _ _ _ _ _ _ us hl => match us, hl with | [_, _], _ => rfl) rfl (bd__law_below T_len)
noncomputable abbrev s__law_marks : Stmt := top 91
noncomputable abbrev N__law_marks : List Str := ["_law_d", "_law_length", "_law_kind", "_law_low", "_law_step", "_law_seat"]
theorem sc__law_marks : FnScope N__law_marks ["_law_d"] (defScope s__law_marks) := ⟨rfl, rfl, rfl, by decide +kernel, rfl, by decide +kernel, by decide +kernel⟩
theorem bd__law_marks (T_tuple : mg "tuple" = none) (T__law_below : FnM P w kf.K mg base 1 "_law_below" 1 phi__law_below) (T_range : mg "range" = none) : Bd P w kf.K mg base N__law_marks "_law_marks" s__law_marks 1 ir__law_marks := fun n f cdv A outer s H E hr => by
  have nd := sc__law_marks.nd
  have hu := hr.units
  have hu0 := hr.units0
  have hu2 := VS.un65 hr
  exact (dss_cons (dst_par2 rfl nd (dal_cons (de_add (DE.l (de_int)) (DE.b (de_callM T__law_below (hr.mono (by decide)) (takes_of rfl rfl rfl rfl) (pv 0) (da_cons (DE.f (de_int)) da_nil)))) (dal_cons (de_callM T__law_below (hr.mono (by decide)) (takes_of rfl rfl rfl rfl) (pv 0) (da_cons (DE.f (de_int)) da_nil)) dal_nil)))
    (dss_cons (dst_if (dt_eq hu (dl_var (pv 2)) (DE.b (de_int))) (dss_cons (dst_ret (de_tuple T_tuple (DE.b (de_lc rfl nd (own := [("_law_seat", 5)]) (ds_rng1 T_range (db_var (pv 1))) (blkOk_by (N := N__law_marks) (sc := defScope s__law_marks) (by decide +kernel)) (fun _ _ _ _ _ => (pg_name (i := 5) nd rfl (by first | exact Or.inl rfl | exact Or.inr rfl))) (gok_one 5) (by decide) (fun _ _ _ _ _ => dc_none) (fun _ _ _ _ _ => (DE.f (de_sub (DE.l (de_callM T__law_below (hr.mono (by decide)) takes0 (pv 0) (da_cons (DE.f (de_int)) da_nil))) (DE.b (de_int)))))))))
    dss_nil) dss_nil)
    (dss_cons (dst_if (dt_eq hu (dl_var (pv 2)) (DE.b (de_int))) (dss_cons (dst_parT rfl (dal_cons (de_sub (DE.l (de_callM T__law_below (hr.mono (by decide)) (takes_of rfl rfl rfl rfl) (pv 0) (da_cons (DE.f (de_int)) da_nil))) (DE.b (de_int))) (dal_cons (de_add (DE.l (de_int)) (DE.b (de_callM T__law_below (hr.mono (by decide)) (takes_of rfl rfl rfl rfl) (pv 0) (da_cons (DE.f (de_int)) da_nil)))) dal_nil)) (pgs_cons (pg_name (i := 3) nd rfl (by first | exact Or.inl rfl | exact Or.inr rfl)) (pgs_cons (pg_name (i := 4) nd rfl (by first | exact Or.inl rfl | exact Or.inr rfl)) pgs_nil)) (gn_cons (gn_cons gn_nil)))
    (dss_cons (dst_ret (de_tuple T_tuple (DE.b (de_lc rfl nd (own := [("_law_seat", 5)]) (ds_rng1 T_range (db_var (pv 1))) (blkOk_by (N := N__law_marks) (sc := defScope s__law_marks) (by decide +kernel)) (fun _ _ _ _ _ => (pg_name (i := 5) nd rfl (by first | exact Or.inl rfl | exact Or.inr rfl))) (gok_one 5) (by decide) (fun _ _ _ _ _ => dc_none) (fun _ _ _ _ _ => (DE.f (de_add (dl_var (pv 3)) (DE.b (de_mul (dl_var (pv 4)) (DE.b (de_callM T__law_below (hr.mono (by decide)) takes0 (pv 0) (da_cons (DE.f (de_int)) da_nil))))))))))))
    dss_nil)) dss_nil)
    (dss_cons (dst_if (dt_eq hu (dl_var (pv 2)) (DE.b (de_int))) (dss_cons (dst_ret (de_mul (DE.l (de_tup (da_cons (DE.f (de_callM T__law_below (hr.mono (by decide)) (takes_of rfl rfl rfl rfl) (pv 0) (da_cons (DE.f (de_int)) da_nil))) da_nil))) (db_var (pv 1))))
    dss_nil) dss_nil)
    (dss_cons (dst_ret (de_tuple T_tuple (DE.b (de_lc rfl nd (own := [("_law_seat", 5)]) (ds_rng1 T_range (db_var (pv 1))) (blkOk_by (N := N__law_marks) (sc := defScope s__law_marks) (by decide +kernel)) (fun _ _ _ _ _ => (pg_name (i := 5) nd rfl (by first | exact Or.inl rfl | exact Or.inr rfl))) (gok_one 5) (by decide) (fun _ _ _ _ _ => dc_none) (fun _ _ _ _ _ => (DE.f (de_sub (DE.l (de_callM T__law_below (hr.mono (by decide)) takes0 (pv 0) (da_cons (DE.f (de_idx (DE.l (de_lst (da_cons (DE.f (de_int)) (da_cons (DE.f (de_int)) da_nil)))) (DE.b (de_callM T__law_below (hr.mono (by decide)) takes0 (pv 0) (da_cons (DE.f (de_int)) da_nil))))) da_nil))) (DE.b (de_int)))))))))
    dss_nil)))))
theorem fd__law_marks {fa : Addr} {fd : FuncData} (hTT : kf.T = []) (F : Fun kf.K "_law_marks" "_law_marks" s__law_marks fa fd) (hm : mg "_law_marks" = some (.ref fa)) (T_tuple : mg "tuple" = none) (T__law_below : FnM P w kf.K mg base 1 "_law_below" 1 phi__law_below) (T_range : mg "range" = none) : FnM P w kf.K mg base 2 "_law_marks" 0 phi__law_marks := fnM_fm hTT F hm sc__law_marks (F.binds (ps := ["_law_d"]) fun _ _ _ _ _ _ us hl => match us, hl with | [_], _ => rfl) rfl (bd__law_marks T_tuple T__law_below T_range)
noncomputable abbrev s__law_bad_marks : Stmt := top 92
noncomputable abbrev N__law_bad_marks : List Str := ["_law_d", "_law_marks_here", "_law_kind", "_law_many", "_law_at", "_law_odd"]
theorem sc__law_bad_marks : FnScope N__law_bad_marks ["_law_d"] (defScope s__law_bad_marks) := ⟨rfl, rfl, rfl, by decide +kernel, rfl, by decide +kernel, by decide +kernel⟩
theorem bd__law_bad_marks (T__law_below : FnM P w kf.K mg base 1 "_law_below" 1 phi__law_below) (T__law_marks : FnM P w kf.K mg base 2 "_law_marks" 0 phi__law_marks) (T_len : mg "len" = none) (T_list : mg "list" = none) : Bd P w kf.K mg base N__law_bad_marks "_law_bad_marks" s__law_bad_marks 2 ir__law_bad_marks := fun n f cdv A outer s H E hr => by
  have nd := sc__law_bad_marks.nd
  have hu := hr.units
  have hu0 := hr.units0
  have hu2 := VS.un65 hr
  exact (dss_cons (dst_par2 rfl nd (dal_cons (de_callM T__law_marks (hr.mono (by decide)) (takes_of rfl rfl rfl rfl) (pv 0) da_nil) (dal_cons (de_callM T__law_below (hr.mono (by decide)) (takes_of rfl rfl rfl rfl) (pv 0) (da_cons (DE.f (de_int)) da_nil)) dal_nil)))
    (dss_cons (dst_if (dt_eq hu (dl_var (pv 2)) (DE.b (de_int))) (dss_cons (dst_ret (de_tup (da_cons (DE.f (de_idx (DE.l (de_lst (da_cons (DE.f (de_non)) (da_cons (DE.f (de_int)) (da_cons (DE.f (de_list T_list (db_var (pv 1)))) (da_cons (DE.f (de_str)) (da_cons (DE.f (de_bl)) da_nil))))))) (DE.b (de_callM T__law_below (hr.mono (by decide)) (takes_of rfl rfl rfl rfl) (pv 0) (da_cons (DE.f (de_int)) da_nil))))) (da_cons (DE.f (de_int)) da_nil))))
    dss_nil) dss_nil)
    (dss_cons (dst_if (dt_eq hu (dl_var (pv 2)) (DE.b (de_int))) (dss_cons (dst_set nd (de_callM T__law_below (hr.mono (by decide)) (takes_of rfl rfl rfl rfl) (pv 0) (da_cons (DE.f (de_int)) da_nil)))
    (dss_cons (dst_ret (de_tup (da_cons (DE.f (de_slc (dl_var (pv 1)) do_none (do_some (db_var (pv 3))))) (da_cons (DE.f (de_var (pv 3))) da_nil))))
    dss_nil)) dss_nil)
    (dss_cons (dst_if (dt_eq hu (dl_var (pv 2)) (DE.b (de_int))) (dss_cons (dst_ret (de_tup (da_cons (DE.f (de_slc (DE.l (de_add (DE.l (de_add (dl_var (pv 1)) (db_var (pv 1)))) (db_var (pv 1)))) do_none (do_some (DE.b (de_add (DE.l (de_int)) (DE.b (de_callM T__law_below (hr.mono (by decide)) (takes_of rfl rfl rfl rfl) (pv 0) (da_cons (DE.f (de_int)) da_nil)))))))) (da_cons (DE.f (de_int)) da_nil))))
    dss_nil) dss_nil)
    (dss_cons (dst_set nd (de_callM T__law_below (hr.mono (by decide)) (takes_of rfl rfl rfl rfl) (pv 0) (da_cons (DE.f (de_len T_len (db_var (pv 1)))) da_nil)))
    (dss_cons (dst_set nd (de_idx (DE.l (de_lst (da_cons (DE.f (de_non)) (da_cons (DE.f (de_bl)) (da_cons (DE.f (de_str)) (da_cons (DE.f (de_add (DE.l (de_int)) (DE.b (de_callM T__law_below (hr.mono (by decide)) (takes_of rfl rfl rfl rfl) (pv 0) (da_cons (DE.f (de_int)) da_nil))))) (da_cons (DE.f (de_sub (DE.l (de_sub (DE.l (de_int)) (DE.b (de_int)))) (DE.b (de_callM T__law_below (hr.mono (by decide)) (takes_of rfl rfl rfl rfl) (pv 0) (da_cons (DE.f (de_int)) da_nil))))) (da_cons (DE.f (de_tup (da_cons (DE.f (de_int)) da_nil))) da_nil)))))))) (DE.b (de_callM T__law_below (hr.mono (by decide)) (takes_of rfl rfl rfl rfl) (pv 0) (da_cons (DE.f (de_int)) da_nil)))))
    (dss_cons (dst_ret (de_tup (da_cons (DE.f (de_add (DE.l (de_add (DE.l (de_add (DE.l (de_slc (dl_var (pv 1)) do_none (do_some (db_var (pv 4))))) (DE.b (de_tup (da_cons (DE.f (de_var (pv 5))) da_nil))))) (DE.b (de_slc (dl_var (pv 1)) (do_some (DE.b (de_add (dl_var (pv 4)) (DE.b (de_int))))) do_none)))) (DE.b (de_mul (DE.l (de_tup (da_cons (DE.f (de_non)) da_nil))) (DE.b (de_callM T__law_below (hr.mono (by decide)) (takes_of rfl rfl rfl rfl) (pv 0) (da_cons (DE.f (de_int)) da_nil))))))) (da_cons (DE.f (de_var (pv 4))) da_nil))))
    dss_nil)))))))
theorem fd__law_bad_marks {fa : Addr} {fd : FuncData} (hTT : kf.T = []) (F : Fun kf.K "_law_bad_marks" "_law_bad_marks" s__law_bad_marks fa fd) (hm : mg "_law_bad_marks" = some (.ref fa)) (T__law_below : FnM P w kf.K mg base 1 "_law_below" 1 phi__law_below) (T__law_marks : FnM P w kf.K mg base 2 "_law_marks" 0 phi__law_marks) (T_len : mg "len" = none) (T_list : mg "list" = none) : FnM P w kf.K mg base 3 "_law_bad_marks" 0 phi__law_bad_marks := fnM_fm hTT F hm sc__law_bad_marks (F.binds (ps := ["_law_d"]) fun _ _ _ _ _ _ us hl => match us, hl with | [_], _ => rfl) rfl (bd__law_bad_marks T__law_below T__law_marks T_len T_list)
noncomputable abbrev s__law_error_of : Stmt := top 93
noncomputable abbrev N__law_error_of : List Str := ["_law_call", "_law_e", "_law_kinds", "_law_names", "_law_name"]
theorem sc__law_error_of : FnScope N__law_error_of ["_law_call"] (defScope s__law_error_of) := ⟨rfl, rfl, rfl, by decide +kernel, rfl, by decide +kernel, by decide +kernel⟩
noncomputable abbrev eX (P : Program) (w : World) (K : PySem.W.Frag) (mg : Str → Option Value) (base : Heap) (g : Addr) (cdv : Value) (A : Around) (outer : List Env) (s : Shared) (H : Hp) : Cx := (cxOf C8.CX0 P w kf.K mg base N__law_error_of "_law_error_of" (defScope s__law_error_of) g cdv A outer s H C8.E0).nox
noncomputable def ih_InvalidMarks (a dd : Nat) : Sxs := ihS a (some dd) false false false false false false false false false false false false true false false false false (.cons .nev .nil) (.cons .nev .nil) (.fldE a dd 1 "position")
theorem hs_InvalidMarks {g C a dd : Addr} {cdv : Value} {A : Around} {outer : List Env} {s : Shared} {H : Hp} {oe : Obj} {pn : List (Addr × Obj)} {E : XK} {n : Nat} {A_InvalidPins : Addr} {A_NotReachable : Addr} {A_TooFar : Addr} {A_InvalidLimit : Addr} {A_InvalidIndex : Addr} {A_TooManyRings : Addr} {A_InvalidTimes : Addr} {A_Contradiction : Addr} {A_InvalidName : Addr} {A_UnknownName : Addr} {A_InvalidSign : Addr} {A_InvalidAmount : Addr} {A_InvalidMarks : Addr} {A_InvalidSteps : Addr} {A_InvalidMove : Addr} {A_InvalidOperation : Addr} {A_InvalidText : Addr} (hr : Room 1 A) (XC : ExcC kf.K C) (XF : XfC kf.K C) (n_position : PySem.W.findIn kf.K (.ref C) "position" = some none) (hz : Zc (.ref C) (some dd) oe) (hf : ∃ vs, oe.data = .fields vs) (T_isinstance : mg "isinstance" = none) (T_ValueError : mg "ValueError" = none) (T_InvalidPins : mg "InvalidPins" = some (.ref A_InvalidPins)) (T_NotReachable : mg "NotReachable" = some (.ref A_NotReachable)) (T_TooFar : mg "TooFar" = some (.ref A_TooFar)) (T_InvalidLimit : mg "InvalidLimit" = some (.ref A_InvalidLimit)) (T_InvalidIndex : mg "InvalidIndex" = some (.ref A_InvalidIndex)) (T_TooManyRings : mg "TooManyRings" = some (.ref A_TooManyRings)) (T_InvalidTimes : mg "InvalidTimes" = some (.ref A_InvalidTimes)) (T_Contradiction : mg "Contradiction" = some (.ref A_Contradiction)) (T_InvalidName : mg "InvalidName" = some (.ref A_InvalidName)) (T_UnknownName : mg "UnknownName" = some (.ref A_UnknownName)) (T_InvalidSign : mg "InvalidSign" = some (.ref A_InvalidSign)) (T_InvalidAmount : mg "InvalidAmount" = some (.ref A_InvalidAmount)) (T_InvalidMarks : mg "InvalidMarks" = some (.ref A_InvalidMarks)) (T_InvalidSteps : mg "InvalidSteps" = some (.ref A_InvalidSteps)) (T_InvalidMove : mg "InvalidMove" = some (.ref A_InvalidMove)) (T_InvalidOperation : mg "InvalidOperation" = some (.ref A_InvalidOperation)) (T_InvalidText : mg "InvalidText" = some (.ref A_InvalidText))
    (k_InvalidPins : PySem.W.kitOne kf.K (.ref C) (.ref A_InvalidPins) = some false) (k_NotReachable : PySem.W.kitOne kf.K (.ref C) (.ref A_NotReachable) = some false) (k_TooFar : PySem.W.kitOne kf.K (.ref C) (.ref A_TooFar) = some false) (k_InvalidLimit : PySem.W.kitOne kf.K (.ref C) (.ref A_InvalidLimit) = some false) (k_InvalidIndex : PySem.W.kitOne kf.K (.ref C) (.ref A_InvalidIndex) = some false) (k_TooManyRings : PySem.W.kitOne kf.K (.ref C) (.ref A_TooManyRings) = some false) (k_InvalidTimes : PySem.W.kitOne kf.K (.ref C) (.ref A_InvalidTimes) = some false) (k_Contradiction : PySem.W.kitOne kf.K (.ref C) (.ref A_Contradiction) = some false) (k_InvalidName : PySem.W.kitOne kf.K (.ref C) (.ref A_InvalidName) = some false) (k_UnknownName : PySem.W.kitOne kf.K (.ref C) (.ref A_UnknownName) = some false) (k_InvalidSign : PySem.W.kitOne kf.K (.ref C) (.ref A_InvalidSign) = some false) (k_InvalidAmount : PySem.W.kitOne kf.K (.ref C) (.ref A_InvalidAmount) = some false) (k_InvalidMarks : PySem.W.kitOne kf.K (.ref C) (.ref A_InvalidMarks) = some true) (k_InvalidSteps : PySem.W.kitOne kf.K (.ref C) (.ref A_InvalidSteps) = some false) (k_InvalidMove : PySem.W.kitOne kf.K (.ref C) (.ref A_InvalidMove) = some false) (k_InvalidOperation : PySem.W.kitOne kf.K (.ref C) (.ref A_InvalidOperation) = some false) (k_InvalidText : PySem.W.kitOne kf.K (.ref C) (.ref A_InvalidText) = some false) (k_ValueError : PySem.W.kitOne kf.K (.ref C) (.type "ValueError") = some true) :
    DSs ((eX P w kf.K mg base g cdv A outer s H).suite a ((a, oe) :: pn)) E n (hdlOf s__law_error_of) (ih_InvalidMarks a dd) := by
  have nd := sc__law_error_of.nd
  have hu : ((eX P w kf.K mg base g cdv A outer s H).suite a ((a, oe) :: pn)).A.units + 64 < cLine := (hr.deeper (eX P w kf.K mg base g cdv A outer s H).env).units
  have hu2 : ((eX P w kf.K mg base g cdv A outer s H).suite a ((a, oe) :: pn)).A.units + 65 < cLine := (VS.un65 (hr.deeper (eX P w kf.K mg base g cdv A outer s H).env) : (A.deeper (eX P w kf.K mg base g cdv A outer s H).env).units + 65 < cLine)
  exact (dss_cons (dst_set nd (de_lst (da_cons (DE.f (de_isE XC hz hf T_isinstance (pv 1) (pe_glob (v := .ref A_InvalidPins) (by rfl) T_InvalidPins rfl) (fun u h => h) k_InvalidPins)) (da_cons (DE.f (de_isE XC hz hf T_isinstance (pv 1) (pe_glob (v := .ref A_NotReachable) (by rfl) T_NotReachable rfl) (fun u h => h) k_NotReachable)) (da_cons (DE.f (de_isE XC hz hf T_isinstance (pv 1) (pe_glob (v := .ref A_TooFar) (by rfl) T_TooFar rfl) (fun u h => h) k_TooFar)) da_nil)))))
    (dss_cons (dst_set nd (de_add (dl_var (pv 2)) (DE.b (de_lst (da_cons (DE.f (de_isE XC hz hf T_isinstance (pv 1) (pe_glob (v := .ref A_InvalidLimit) (by rfl) T_InvalidLimit rfl) (fun u h => h) k_InvalidLimit)) (da_cons (DE.f (de_isE XC hz hf T_isinstance (pv 1) (pe_glob (v := .ref A_InvalidIndex) (by rfl) T_InvalidIndex rfl) (fun u h => h) k_InvalidIndex)) (da_cons (DE.f (de_isE XC hz hf T_isinstance (pv 1) (pe_glob (v := .ref A_TooManyRings) (by rfl) T_TooManyRings rfl) (fun u h => h) k_TooManyRings)) da_nil)))))))
    (dss_cons (dst_set nd (de_add (dl_var (pv 2)) (DE.b (de_lst (da_cons (DE.f (de_isE XC hz hf T_isinstance (pv 1) (pe_glob (v := .ref A_InvalidTimes) (by rfl) T_InvalidTimes rfl) (fun u h => h) k_InvalidTimes)) (da_cons (DE.f (de_isE XC hz hf T_isinstance (pv 1) (pe_glob (v := .ref A_Contradiction) (by rfl) T_Contradiction rfl) (fun u h => h) k_Contradiction)) (da_cons (DE.f (de_isE XC hz hf T_isinstance (pv 1) (pe_glob (v := .ref A_InvalidName) (by rfl) T_InvalidName rfl) (fun u h => h) k_InvalidName)) da_nil)))))))
    (dss_cons (dst_set nd (de_add (dl_var (pv 2)) (DE.b (de_lst (da_cons (DE.f (de_isE XC hz hf T_isinstance (pv 1) (pe_glob (v := .ref A_UnknownName) (by rfl) T_UnknownName rfl) (fun u h => h) k_UnknownName)) (da_cons (DE.f (de_isE XC hz hf T_isinstance (pv 1) (pe_glob (v := .ref A_InvalidSign) (by rfl) T_InvalidSign rfl) (fun u h => h) k_InvalidSign)) (da_cons (DE.f (de_isE XC hz hf T_isinstance (pv 1) (pe_glob (v := .ref A_InvalidAmount) (by rfl) T_InvalidAmount rfl) (fun u h => h) k_InvalidAmount)) da_nil)))))))
    (dss_cons (dst_set nd (de_add (dl_var (pv 2)) (DE.b (de_lst (da_cons (DE.f (de_isE XC hz hf T_isinstance (pv 1) (pe_glob (v := .ref A_InvalidMarks) (by rfl) T_InvalidMarks rfl) (fun u h => h) k_InvalidMarks)) (da_cons (DE.f (de_isE XC hz hf T_isinstance (pv 1) (pe_glob (v := .ref A_InvalidSteps) (by rfl) T_InvalidSteps rfl) (fun u h => h) k_InvalidSteps)) (da_cons (DE.f (de_isE XC hz hf T_isinstance (pv 1) (pe_glob (v := .ref A_InvalidMove) (by rfl) T_InvalidMove rfl) (fun u h => h) k_InvalidMove)) da_nil)))))))
    (dss_cons (dst_set nd (de_add (dl_var (pv 2)) (DE.b (de_lst (da_cons (DE.f (de_isE XC hz hf T_isinstance (pv 1) (pe_glob (v := .ref A_InvalidOperation) (by rfl) T_InvalidOperation rfl) (fun u h => h) k_InvalidOperation)) (da_cons (DE.f (de_isE XC hz hf T_isinstance (pv 1) (pe_glob (v := .ref A_InvalidText) (by rfl) T_InvalidText rfl) (fun u h => h) k_InvalidText)) da_nil))))))
    (dss_cons (dst_if (PW.pt (dw_or (dt_ne hu (DE.l (de_cntB (pv 2))) (DE.b (de_int))) (dw_or1 (dt_not (DB.t (DE.b (de_isE XC hz hf T_isinstance (pv 1) (pe_bltn (v := .ty "ValueError") (by rfl) T_ValueError (by decide +kernel) rfl) (fun u h => h) k_ValueError))))))) (dss_cons (dst_ret (de_tup (da_cons (DE.f (de_str)) (da_cons (DE.f (de_int)) da_nil))))
    dss_nil) dss_nil)
    (dss_cons (dst_set nd (de_lst (da_cons (DE.f (de_str)) (da_cons (DE.f (de_str)) (da_cons (DE.f (de_str)) (da_cons (DE.f (de_str)) (da_cons (DE.f (de_str)) (da_cons (DE.f (de_str)) (da_cons (DE.f (de_str)) (da_cons (DE.f (de_str)) (da_cons (DE.f (de_str)) (da_cons (DE.f (de_str)) da_nil))))))))))))
    (dss_cons (dst_set nd (de_add (dl_var (pv 3)) (DE.b (de_lst (da_cons (DE.f (de_str)) (da_cons (DE.f (de_str)) (da_cons (DE.f (de_str)) (da_cons (DE.f (de_str)) (da_cons (DE.f (de_str)) (da_cons (DE.f (de_str)) (da_cons (DE.f (de_str)) da_nil)))))))))))
    (dss_cons (dst_set nd (de_idx (dl_var (pv 3)) (DE.b (de_idxB (pv 2)))))
    (dss_cons (dst_if (dt_eq hu (dl_var (pv 4)) (DE.b (de_str))) (dss_cons (dst_nev) dss_nil) dss_nil)
    (dss_cons (dst_if (dt_eq hu (dl_var (pv 4)) (DE.b (de_str))) (dss_cons (dst_nev) dss_nil) dss_nil)
    (dss_cons (dst_ret (de_tup (da_cons (DE.f (de_var (pv 4))) (da_cons (DE.f (de_ife (dt_in hu2 (dl_var (pv 4)) (DE.b (de_lst (da_cons (DE.f (de_str)) (da_cons (DE.f (de_str)) (da_cons (DE.f (de_str)) da_nil))))) (by with_unfolding_all rfl)) (de_fldE XF n_position hz hf (pv 1)) (de_int))) da_nil))))
    dss_nil)))))))))))))
noncomputable def eta_law (e : Exn) : Ou D := if e.cls = "InvalidMarks" then etaP "position" "marks" e.fs else .no
omit [kf : KF] in
theorem hv_InvalidMarks : ∀ (a dd : Nat) (y : D), ∃ en', VS.execs 0 (ih_InvalidMarks a dd) (none :: some (.fr (excD ⟨"InvalidMarks", [("position", y)], none⟩ a (some dd))) :: List.replicate (N__law_error_of.length - 2) none) = .ok (.rt (.fr (.tuple [.str "marks", y])) en') := by intros; exact hv_1 (k := 12) rfl rfl rfl (by decide) (by decide) rfl
theorem hd_law {A_InvalidPins : Addr} {A_NotReachable : Addr} {A_TooFar : Addr} {A_InvalidLimit : Addr} {A_InvalidIndex : Addr} {A_TooManyRings : Addr} {A_InvalidTimes : Addr} {A_Contradiction : Addr} {A_InvalidName : Addr} {A_UnknownName : Addr} {A_InvalidSign : Addr} {A_InvalidAmount : Addr} {A_InvalidMarks : Addr} {A_InvalidSteps : Addr} {A_InvalidMove : Addr} {A_InvalidOperation : Addr} {A_InvalidText : Addr} {A_MarkError : Addr} (T_isinstance : mg "isinstance" = none) (T_ValueError : mg "ValueError" = none) (T_InvalidPins : mg "InvalidPins" = some (.ref A_InvalidPins)) (T_NotReachable : mg "NotReachable" = some (.ref A_NotReachable)) (T_TooFar : mg "TooFar" = some (.ref A_TooFar)) (T_InvalidLimit : mg "InvalidLimit" = some (.ref A_InvalidLimit)) (T_InvalidIndex : mg "InvalidIndex" = some (.ref A_InvalidIndex)) (T_TooManyRings : mg "TooManyRings" = some (.ref A_TooManyRings)) (T_InvalidTimes : mg "InvalidTimes" = some (.ref A_InvalidTimes)) (T_Contradiction : mg "Contradiction" = some (.ref A_Contradiction)) (T_InvalidName : mg "InvalidName" = some (.ref A_InvalidName)) (T_UnknownName : mg "UnknownName" = some (.ref A_UnknownName)) (T_InvalidSign : mg "InvalidSign" = some (.ref A_InvalidSign)) (T_InvalidAmount : mg "InvalidAmount" = some (.ref A_InvalidAmount)) (T_InvalidMarks : mg "InvalidMarks" = some (.ref A_InvalidMarks)) (T_InvalidSteps : mg "InvalidSteps" = some (.ref A_InvalidSteps)) (T_InvalidMove : mg "InvalidMove" = some (.ref A_InvalidMove)) (T_InvalidOperation : mg "InvalidOperation" = some (.ref A_InvalidOperation)) (T_InvalidText : mg "InvalidText" = some (.ref A_InvalidText))
    (X_InvalidMarks : ExcC kf.K A_InvalidMarks) (XF_InvalidMarks : XfC kf.K A_InvalidMarks) (n_InvalidMarks_position : PySem.W.findIn kf.K (.ref A_InvalidMarks) "position" = some none) (x_InvalidMarks : PySem.W.exmOne kf.K (.ref A_InvalidMarks) (.ref A_MarkError) = some true) (k_InvalidMarks_InvalidPins : PySem.W.kitOne kf.K (.ref A_InvalidMarks) (.ref A_InvalidPins) = some false) (k_InvalidMarks_NotReachable : PySem.W.kitOne kf.K (.ref A_InvalidMarks) (.ref A_NotReachable) = some false) (k_InvalidMarks_TooFar : PySem.W.kitOne kf.K (.ref A_InvalidMarks) (.ref A_TooFar) = some false) (k_InvalidMarks_InvalidLimit : PySem.W.kitOne kf.K (.ref A_InvalidMarks) (.ref A_InvalidLimit) = some false) (k_InvalidMarks_InvalidIndex : PySem.W.kitOne kf.K (.ref A_InvalidMarks) (.ref A_InvalidIndex) = some false) (k_InvalidMarks_TooManyRings : PySem.W.kitOne kf.K (.ref A_InvalidMarks) (.ref A_TooManyRings) = some false) (k_InvalidMarks_InvalidTimes : PySem.W.kitOne kf.K (.ref A_InvalidMarks) (.ref A_InvalidTimes) = some false) (k_InvalidMarks_Contradiction : PySem.W.kitOne kf.K (.ref A_InvalidMarks) (.ref A_Contradiction) = some false) (k_InvalidMarks_InvalidName : PySem.W.kitOne kf.K (.ref A_InvalidMarks) (.ref A_InvalidName) = some false) (k_InvalidMarks_UnknownName : PySem.W.kitOne kf.K (.ref A_InvalidMarks) (.ref A_UnknownName) = some false) (k_InvalidMarks_InvalidSign : PySem.W.kitOne kf.K (.ref A_InvalidMarks) (.ref A_InvalidSign) = some false) (k_InvalidMarks_InvalidAmount : PySem.W.kitOne kf.K (.ref A_InvalidMarks) (.ref A_InvalidAmount) = some false) (k_InvalidMarks_InvalidMarks : PySem.W.kitOne kf.K (.ref A_InvalidMarks) (.ref A_InvalidMarks) = some true) (k_InvalidMarks_InvalidSteps : PySem.W.kitOne kf.K (.ref A_InvalidMarks) (.ref A_InvalidSteps) = some false) (k_InvalidMarks_InvalidMove : PySem.W.kitOne kf.K (.ref A_InvalidMarks) (.ref A_InvalidMove) = some false) (k_InvalidMarks_InvalidOperation : PySem.W.kitOne kf.K (.ref A_InvalidMarks) (.ref A_InvalidOperation) = some false) (k_InvalidMarks_InvalidText : PySem.W.kitOne kf.K (.ref A_InvalidMarks) (.ref A_InvalidText) = some false) (k_InvalidMarks_ValueError : PySem.W.kitOne kf.K (.ref A_InvalidMarks) (.type "ValueError") = some true)
    (hv_InvalidMarks : ∀ (a dd : Nat) (y : D), ∃ en', VS.execs 0 (ih_InvalidMarks a dd) (none :: some (.fr (excD ⟨"InvalidMarks", [("position", y)], none⟩ a (some dd))) :: List.replicate (N__law_error_of.length - 2) none) = .ok (.rt (.fr (.tuple [.str "marks", y])) en')) :
    HdlOk mg kf.K A_MarkError eta_law N__law_error_of (fun X => ∃ g cdv A outer s H, Room 1 A ∧ X = eX P w kf.K mg base g cdv A outer s H) (hdlOf s__law_error_of) := by
  intro e x h
  obtain ⟨c, fs, ms⟩ := e
  unfold eta_law at h
  by_cases q_InvalidMarks : c = "InvalidMarks"
  · subst q_InvalidMarks
    rw [if_pos rfl] at h
    obtain ⟨y, rfl, fy, rfl⟩ := etaP_inv h
    refine ⟨by simp [fy], ndP fy, A_InvalidMarks, T_InvalidMarks, x_InvalidMarks, fun X a oe d pn hY hz hf h0 h1 => ?_⟩
    obtain ⟨g, cdv, A, outer, s, H, hr, rfl⟩ := hY
    cases d with
    | none => exact absurd rfl (h1 (by simp))
    | some dd =>
      obtain ⟨en', hv⟩ := hv_InvalidMarks a dd y
      exact ⟨_, fun _ _ _ => False, en', hs_InvalidMarks hr X_InvalidMarks XF_InvalidMarks n_InvalidMarks_position hz hf T_isinstance T_ValueError T_InvalidPins T_NotReachable T_TooFar T_InvalidLimit T_InvalidIndex T_TooManyRings T_InvalidTimes T_Contradiction T_InvalidName T_UnknownName T_InvalidSign T_InvalidAmount T_InvalidMarks T_InvalidSteps T_InvalidMove T_InvalidOperation T_InvalidText k_InvalidMarks_InvalidPins k_InvalidMarks_NotReachable k_InvalidMarks_TooFar k_InvalidMarks_InvalidLimit k_InvalidMarks_InvalidIndex k_InvalidMarks_TooManyRings k_InvalidMarks_InvalidTimes k_InvalidMarks_Contradiction k_InvalidMarks_InvalidName k_InvalidMarks_UnknownName k_InvalidMarks_InvalidSign k_InvalidMarks_InvalidAmount k_InvalidMarks_InvalidMarks k_InvalidMarks_InvalidSteps k_InvalidMarks_InvalidMove k_InvalidMarks_InvalidOperation k_InvalidMarks_InvalidText k_InvalidMarks_ValueError, hv⟩
  rw [if_neg q_InvalidMarks] at h
  cases h
theorem fe_law {fa : Addr} {oc kV doc pm cdv ct : Value} {od an : Option Addr} {osl : Array (Option Value)} {A_InvalidPins : Addr} {A_NotReachable : Addr} {A_TooFar : Addr} {A_InvalidLimit : Addr} {A_InvalidIndex : Addr} {A_TooManyRings : Addr} {A_InvalidTimes : Addr} {A_Contradiction : Addr} {A_InvalidName : Addr} {A_UnknownName : Addr} {A_InvalidSign : Addr} {A_InvalidAmount : Addr} {A_InvalidMarks : Addr} {A_InvalidSteps : Addr} {A_InvalidMove : Addr} {A_InvalidOperation : Addr} {A_InvalidText : Addr} {A_MarkError : Addr} (hTT : kf.T = []) (hm : mg "_law_error_of" = some (.ref fa)) (lk : kf.K.lookup fa = some ⟨oc, od, .func (PySem.W.fnOf "_law_error_of" "_law_error_of" (defArgs s__law_error_of) (defBody s__law_error_of) (defScope s__law_error_of) .none kV doc pm an cdv ct), osl⟩) (hcd : PySem.W.codeIn kf.K cdv "_law_error_of" = true) (kp : PySem.W.keepIn kf.K (.ref fa) = true) (bd : Binds kf.K (PySem.W.fnOf "_law_error_of" "_law_error_of" (defArgs s__law_error_of) (defBody s__law_error_of) (defScope s__law_error_of) .none kV doc pm an cdv ct) ["_law_call"] []) (T_MarkError : mg "MarkError" = some (.ref A_MarkError)) (T_isinstance : mg "isinstance" = none) (T_ValueError : mg "ValueError" = none) (T_InvalidPins : mg "InvalidPins" = some (.ref A_InvalidPins)) (T_NotReachable : mg "NotReachable" = some (.ref A_NotReachable)) (T_TooFar : mg "TooFar" = some (.ref A_TooFar)) (T_InvalidLimit : mg "InvalidLimit" = some (.ref A_InvalidLimit)) (T_InvalidIndex : mg "InvalidIndex" = some (.ref A_InvalidIndex)) (T_TooManyRings : mg "TooManyRings" = some (.ref A_TooManyRings)) (T_InvalidTimes : mg "InvalidTimes" = some (.ref A_InvalidTimes)) (T_Contradiction : mg "Contradiction" = some (.ref A_Contradiction)) (T_InvalidName : mg "InvalidName" = some (.ref A_InvalidName)) (T_UnknownName : mg "UnknownName" = some (.ref A_UnknownName)) (T_InvalidSign : mg "InvalidSign" = some (.ref A_InvalidSign)) (T_InvalidAmount : mg "InvalidAmount" = some (.ref A_InvalidAmount)) (T_InvalidMarks : mg "InvalidMarks" = some (.ref A_InvalidMarks)) (T_InvalidSteps : mg "InvalidSteps" = some (.ref A_InvalidSteps)) (T_InvalidMove : mg "InvalidMove" = some (.ref A_InvalidMove)) (T_InvalidOperation : mg "InvalidOperation" = some (.ref A_InvalidOperation)) (T_InvalidText : mg "InvalidText" = some (.ref A_InvalidText))
    (X_InvalidMarks : ExcC kf.K A_InvalidMarks) (XF_InvalidMarks : XfC kf.K A_InvalidMarks) (n_InvalidMarks_position : PySem.W.findIn kf.K (.ref A_InvalidMarks) "position" = some none) (x_InvalidMarks : PySem.W.exmOne kf.K (.ref A_InvalidMarks) (.ref A_MarkError) = some true) (k_InvalidMarks_InvalidPins : PySem.W.kitOne kf.K (.ref A_InvalidMarks) (.ref A_InvalidPins) = some false) (k_InvalidMarks_NotReachable : PySem.W.kitOne kf.K (.ref A_InvalidMarks) (.ref A_NotReachable) = some false) (k_InvalidMarks_TooFar : PySem.W.kitOne kf.K (.ref A_InvalidMarks) (.ref A_TooFar) = some false) (k_InvalidMarks_InvalidLimit : PySem.W.kitOne kf.K (.ref A_InvalidMarks) (.ref A_InvalidLimit) = some false) (k_InvalidMarks_InvalidIndex : PySem.W.kitOne kf.K (.ref A_InvalidMarks) (.ref A_InvalidIndex) = some false) (k_InvalidMarks_TooManyRings : PySem.W.kitOne kf.K (.ref A_InvalidMarks) (.ref A_TooManyRings) = some false) (k_InvalidMarks_InvalidTimes : PySem.W.kitOne kf.K (.ref A_InvalidMarks) (.ref A_InvalidTimes) = some false) (k_InvalidMarks_Contradiction : PySem.W.kitOne kf.K (.ref A_InvalidMarks) (.ref A_Contradiction) = some false) (k_InvalidMarks_InvalidName : PySem.W.kitOne kf.K (.ref A_InvalidMarks) (.ref A_InvalidName) = some false) (k_InvalidMarks_UnknownName : PySem.W.kitOne kf.K (.ref A_InvalidMarks) (.ref A_UnknownName) = some false) (k_InvalidMarks_InvalidSign : PySem.W.kitOne kf.K (.ref A_InvalidMarks) (.ref A_InvalidSign) = some false) (k_InvalidMarks_InvalidAmount : PySem.W.kitOne kf.K (.ref A_InvalidMarks) (.ref A_InvalidAmount) = some false) (k_InvalidMarks_InvalidMarks : PySem.W.kitOne kf.K (.ref A_InvalidMarks) (.ref A_InvalidMarks) = some true) (k_InvalidMarks_InvalidSteps : PySem.W.kitOne kf.K (.ref A_InvalidMarks) (.ref A_InvalidSteps) = some false) (k_InvalidMarks_InvalidMove : PySem.W.kitOne kf.K (.ref A_InvalidMarks) (.ref A_InvalidMove) = some false) (k_InvalidMarks_InvalidOperation : PySem.W.kitOne kf.K (.ref A_InvalidMarks) (.ref A_InvalidOperation) = some false) (k_InvalidMarks_InvalidText : PySem.W.kitOne kf.K (.ref A_InvalidMarks) (.ref A_InvalidText) = some false) (k_InvalidMarks_ValueError : PySem.W.kitOne kf.K (.ref A_InvalidMarks) (.type "ValueError") = some true)
    (hv_InvalidMarks : ∀ (a dd : Nat) (y : D), ∃ en', VS.execs 0 (ih_InvalidMarks a dd) (none :: some (.fr (excD ⟨"InvalidMarks", [("position", y)], none⟩ a (some dd))) :: List.replicate (N__law_error_of.length - 2) none) = .ok (.rt (.fr (.tuple [.str "marks", y])) en')) : FnE P w kf.K mg base "_law_error_of" eta_law := by
  have hd := hd_law (P := P) (w := w) (base := base) T_isinstance T_ValueError T_InvalidPins T_NotReachable T_TooFar T_InvalidLimit T_InvalidIndex T_TooManyRings T_InvalidTimes T_Contradiction T_InvalidName T_UnknownName T_InvalidSign T_InvalidAmount T_InvalidMarks T_InvalidSteps T_InvalidMove T_InvalidOperation T_InvalidText X_InvalidMarks XF_InvalidMarks n_InvalidMarks_position x_InvalidMarks k_InvalidMarks_InvalidPins k_InvalidMarks_NotReachable k_InvalidMarks_TooFar k_InvalidMarks_InvalidLimit k_InvalidMarks_InvalidIndex k_InvalidMarks_TooManyRings k_InvalidMarks_InvalidTimes k_InvalidMarks_Contradiction k_InvalidMarks_InvalidName k_InvalidMarks_UnknownName k_InvalidMarks_InvalidSign k_InvalidMarks_InvalidAmount k_InvalidMarks_InvalidMarks k_InvalidMarks_InvalidSteps k_InvalidMarks_InvalidMove k_InvalidMarks_InvalidOperation k_InvalidMarks_InvalidText k_InvalidMarks_ValueError hv_InvalidMarks
  refine ⟨fa, _, _, _, _, _, _, _, _, _, _, _, _, _, N__law_error_of, "_law_call", hm, kp, lk, hcd, bd, sc__law_error_of, rfl, .inl rfl, by decide, by decide, fun X q e1 e2 e3 e4 e5 hr => ?_⟩
  subst e1 e2 e4 e5
  refine gives_err (Y := fun Z => ∃ g cdv A outer s H, Room 1 A ∧ Z = eX X.prog X.w kf.K X.mg X.base g cdv A outer s H) (n := "_law_e") (xb := "MarkError") (CS := A_MarkError) (b₀ := (hdlOf s__law_error_of).head (by decide +kernel)) (suite := (hdlOf s__law_error_of).tail) e3 hTT sc__law_error_of.nd rfl rfl (by decide) rfl T_MarkError (by decide) (by rw [e3]; exact hd) (fun s H => ⟨fa, cdv, X.A, X.stack, s, H, hr, by rw [e3]⟩) (fun _ _ => rfl)
noncomputable abbrev s_is_int_in : Stmt := top 24
noncomputable abbrev N_is_int_in : List Str := ["value", "low", "high"]
theorem sc_is_int_in : FnScope N_is_int_in ["value", "low", "high"] (defScope s_is_int_in) := ⟨rfl, rfl, rfl, by decide +kernel, rfl, by decide +kernel, by decide +kernel⟩
theorem bd_is_int_in (T_isinstance : mg "isinstance" = none) (T_int : mg "int" = none) (T_bool : mg "bool" = none) : Bd P w kf.K mg base N_is_int_in "is_int_in" s_is_int_in 0 ir_is_int_in := fun n f cdv A outer s H E hr => by
  have nd := sc_is_int_in.nd
  have hu := hr.units
  have hu0 := hr.units0
  have hu2 := VS.un65 hr
  exact (dss_cons (dst_ret (de_and (DE.b (de_isi T_isinstance (db_var (pv 0)) (pe_bltn (v := .ty "int") (by rfl) T_int (by decide +kernel) rfl))) (de_and (DE.b (de_not (DE.b (de_isi T_isinstance (db_var (pv 0)) (pe_bltn (v := .ty "bool") (by rfl) T_bool (by decide +kernel) rfl))))) (de_one (de_chain_le (DE.f (de_var (pv 1))) (DE.f (de_var (pv 0))) (DE.f (de_var (pv 2))))))))
    dss_nil)
theorem fd_is_int_in {fa : Addr} {fd : FuncData} (hTT : kf.T = []) (F : Fun kf.K "is_int_in" "is_int_in" s_is_int_in fa fd) (hm : mg "is_int_in" = some (.ref fa)) (T_isinstance : mg "isinstance" = none) (T_int : mg "int" = none) (T_bool : mg "bool" = none) : FnD P w kf.K mg base 1 "is_int_in" 3 phi_is_int_in := fnD_fn hTT F hm sc_is_int_in (F.binds (ps := ["value", "low", "high"]) fun _ _ _ _ _ _ us hl => match us, hl with | [_, _, _], _ => rfl) rfl (bd_is_int_in T_isinstance T_int T_bool)
noncomputable abbrev s_check_marks : Stmt := top 25
noncomputable abbrev N_check_marks : List Str := ["marks", "position", "mark"]
theorem sc_check_marks : FnScope N_check_marks ["marks"] (defScope s_check_marks) := ⟨rfl, rfl, rfl, by decide +kernel, rfl, by decide +kernel, by decide +kernel⟩
theorem bd_check_marks {tk_MIN_SEATS tk_MAX_SEATS tk_MAX_MARK : Tok} (T_enumerate : mg "enumerate" = none) (T_MIN_SEATS : mg "MIN_SEATS" = some (.int 3 tk_MIN_SEATS)) (T_isinstance : mg "isinstance" = none) (T_tuple : mg "tuple" = none) (T_InvalidMarks : Er1 P w kf.K mg base "InvalidMarks" "position") (T_len : mg "len" = none) (T_MAX_SEATS : mg "MAX_SEATS" = some (.int 8 tk_MAX_SEATS)) (T_is_int_in : FnD P w kf.K mg base 1 "is_int_in" 3 phi_is_int_in) (T_MAX_MARK : mg "MAX_MARK" = some (.int 1000000 tk_MAX_MARK)) : Bd P w kf.K mg base N_check_marks "check_marks" s_check_marks 2 (ir_check_marks true) := fun n f cdv A outer s H E hr => by
  have nd := sc_check_marks.nd
  have hu := hr.units
  have hu0 := hr.units0
  have hu2 := VS.un65 hr
  exact (dss_cons (dst_if (dt_not (DB.t (DE.b (de_isi T_isinstance (db_var (pv 0)) (pe_bltn (v := .ty "tuple") (by rfl) T_tuple (by decide +kernel) rfl))))) (dss_cons (dst_raise1 rfl (hr.mono (by decide)) (takes_of rfl rfl rfl rfl) T_InvalidMarks (da_cons (DE.f (de_int)) da_nil))
    dss_nil) dss_nil)
    (dss_cons (dst_for (passes_of rfl) rfl (ds_enum T_enumerate (DE.f (de_var (pv 0)))) (pg_tup (n := 2) rfl (pgs_cons (pg_name (i := 1) nd rfl (by first | exact Or.inl rfl | exact Or.inr rfl)) (pgs_cons (pg_name (i := 2) nd rfl (by first | exact Or.inl rfl | exact Or.inr rfl)) pgs_nil))) (gok_tup [1, 2]) (dss_cons (dst_if (PW.pt (dw_or (dt_eq hu (dl_var (pv 1)) (DE.b (de_cst (pe_glob (by rfl) T_MAX_SEATS rel_int) (fun _ => .int _)))) (dw_or1 (dt_not (DB.t (DE.b (de_callD T_is_int_in (hr.mono (by decide)) (takes_of rfl rfl rfl rfl) (da_cons (DE.f (de_var (pv 2))) (da_cons (DE.f (de_sub (DE.l (de_int)) (DE.b (de_cst (pe_glob (by rfl) T_MAX_MARK rel_int) (fun _ => .int _))))) (da_cons (DE.f (de_cst (pe_glob (by rfl) T_MAX_MARK rel_int) (fun _ => .int _))) da_nil)))))))))) (dss_cons (dst_raise1 rfl (hr.mono (by decide)) (takes_of rfl rfl rfl rfl) T_InvalidMarks (da_cons (DE.f (de_var (pv 1))) da_nil))
    dss_nil) dss_nil)
    dss_nil))
    (dss_cons (dst_if (dt_lt hu0 (DE.l (de_len T_len (db_var (pv 0)))) (DE.b (de_cst (pe_glob (by rfl) T_MIN_SEATS rel_int) (fun _ => .int _)))) (dss_cons (dst_raise1 rfl (hr.mono (by decide)) (takes_of rfl rfl rfl rfl) T_InvalidMarks (da_cons (DE.f (de_len T_len (db_var (pv 0)))) da_nil))
    dss_nil) dss_nil)
    dss_nil)))
theorem fd_check_marks {tk_MIN_SEATS tk_MAX_SEATS tk_MAX_MARK : Tok} {fa : Addr} {fd : FuncData} (hTT : kf.T = []) (F : Fun kf.K "check_marks" "check_marks" s_check_marks fa fd) (hm : mg "check_marks" = some (.ref fa)) (T_enumerate : mg "enumerate" = none) (T_MIN_SEATS : mg "MIN_SEATS" = some (.int 3 tk_MIN_SEATS)) (T_isinstance : mg "isinstance" = none) (T_tuple : mg "tuple" = none) (T_InvalidMarks : Er1 P w kf.K mg base "InvalidMarks" "position") (T_len : mg "len" = none) (T_MAX_SEATS : mg "MAX_SEATS" = some (.int 8 tk_MAX_SEATS)) (T_is_int_in : FnD P w kf.K mg base 1 "is_int_in" 3 phi_is_int_in) (T_MAX_MARK : mg "MAX_MARK" = some (.int 1000000 tk_MAX_MARK)) : FnD P w kf.K mg base 3 "check_marks" 1 (phi_check_marks true) := fnD_fn hTT F hm sc_check_marks (F.binds (ps := ["marks"]) fun _ _ _ _ _ _ us hl => match us, hl with | [_], _ => rfl) rfl (bd_check_marks T_enumerate T_MIN_SEATS T_isinstance T_tuple T_InvalidMarks T_len T_MAX_SEATS T_is_int_in T_MAX_MARK)
noncomputable abbrev s_steps_of : Stmt := top 27
noncomputable abbrev N_steps_of : List Str := ["marks", "seat", "mark"]
theorem sc_steps_of : FnScope N_steps_of ["marks"] (defScope s_steps_of) := ⟨rfl, rfl, rfl, by decide +kernel, rfl, by decide +kernel, by decide +kernel⟩
theorem bd_steps_of (T_tuple : mg "tuple" = none) (T_enumerate : mg "enumerate" = none) (T_len : mg "len" = none) : Bd P w kf.K mg base N_steps_of "steps_of" s_steps_of 0 ir_steps_of := fun n f cdv A outer s H E hr => by
  have nd := sc_steps_of.nd
  have hu := hr.units
  have hu0 := hr.units0
  have hu2 := VS.un65 hr
  exact (dss_cons (dst_ret (de_tuple T_tuple (DE.b (de_lc rfl nd (own := [("seat", 1), ("mark", 2)]) (ds_enum T_enumerate (DE.f (de_var (pv 0)))) (blkOk_by (N := N_steps_of) (sc := defScope s_steps_of) (by decide +kernel)) (fun _ _ _ _ _ => (pg_tup (n := 2) rfl (pgs_cons (pg_name (i := 1) nd rfl (by first | exact Or.inl rfl | exact Or.inr rfl)) (pgs_cons (pg_name (i := 2) nd rfl (by first | exact Or.inl rfl | exact Or.inr rfl)) pgs_nil)))) (gok_tup [1, 2]) (by decide) (fun _ _ _ _ _ => dc_none) (fun _ _ _ _ _ => (DE.f (de_sub (DE.l (de_idx (dl_var (pv 0)) (DE.b (de_mod (DE.l (de_add (dl_var (pv 1)) (DE.b (de_int)))) (DE.b (de_len T_len (db_var (pv 0)))))))) (db_var (pv 2)))))))))
    dss_nil)
theorem fd_steps_of {fa : Addr} {fd : FuncData} (hTT : kf.T = []) (F : Fun kf.K "steps_of" "steps_of" s_steps_of fa fd) (hm : mg "steps_of" = some (.ref fa)) (T_tuple : mg "tuple" = none) (T_enumerate : mg "enumerate" = none) (T_len : mg "len" = none) : FnD P w kf.K mg base 1 "steps_of" 1 phi_steps_of := fnD_fn hTT F hm sc_steps_of (F.binds (ps := ["marks"]) fun _ _ _ _ _ _ us hl => match us, hl with | [_], _ => rfl) rfl (bd_steps_of T_tuple T_enumerate T_len)
noncomputable abbrev s_find_steps : Stmt := top 29
noncomputable abbrev N_find_steps : List Str := ["marks"]
theorem sc_find_steps : FnScope N_find_steps ["marks"] (defScope s_find_steps) := ⟨rfl, rfl, rfl, by decide +kernel, rfl, by decide +kernel, by decide +kernel⟩
theorem bd_find_steps (T_check_marks : FnD P w kf.K mg base 3 "check_marks" 1 (phi_check_marks true)) (T_steps_of : FnD P w kf.K mg base 1 "steps_of" 1 phi_steps_of) : Bd P w kf.K mg base N_find_steps "find_steps" s_find_steps 3 (ir_find_steps true) := fun n f cdv A outer s H E hr => by
  have nd := sc_find_steps.nd
  have hu := hr.units
  have hu0 := hr.units0
  have hu2 := VS.un65 hr
  exact (dss_cons (dst_expr (de_callD T_check_marks (hr.mono (by decide)) (takes_of rfl rfl rfl rfl) (da_cons (DE.f (de_var (pv 0))) da_nil)))
    (dss_cons (dst_ret (de_callD T_steps_of (hr.mono (by decide)) (takes_of rfl rfl rfl rfl) (da_cons (DE.f (de_var (pv 0))) da_nil)))
    dss_nil))
theorem fd_find_steps {fa : Addr} {fd : FuncData} (hTT : kf.T = []) (F : Fun kf.K "find_steps" "find_steps" s_find_steps fa fd) (hm : mg "find_steps" = some (.ref fa)) (T_check_marks : FnD P w kf.K mg base 3 "check_marks" 1 (phi_check_marks true)) (T_steps_of : FnD P w kf.K mg base 1 "steps_of" 1 phi_steps_of) : FnD P w kf.K mg base 4 "find_steps" 1 (phi_find_steps true) := fnD_fn hTT F hm sc_find_steps (F.binds (ps := ["marks"]) fun _ _ _ _ _ _ us hl => match us, hl with | [_], _ => rfl) rfl (bd_find_steps T_check_marks T_steps_of)
noncomputable abbrev s_find_modulus : Stmt := top 32
noncomputable abbrev N_find_modulus : List Str := ["marks"]
theorem sc_find_modulus : FnScope N_find_modulus ["marks"] (defScope s_find_modulus) := ⟨rfl, rfl, rfl, by decide +kernel, rfl, by decide +kernel, by decide +kernel⟩
noncomputable def ir1_find_modulus : Sxs := .cons (.expr (.call (phi_check_marks true) (.cons (.var 0) (.nil))))
    (.cons (.nev)
    (.nil))
noncomputable def phi1_find_modulus : List D → Ou Sl := fnOf ir1_find_modulus 0
theorem bd_find_modulus (T_check_marks : FnD P w kf.K mg base 3 "check_marks" 1 (phi_check_marks true)) : Bd P w kf.K mg base N_find_modulus "find_modulus" s_find_modulus 3 ir1_find_modulus := fun n f cdv A outer s H E hr => by
  have nd := sc_find_modulus.nd
  have hu := hr.units
  have hu0 := hr.units0
  have hu2 := VS.un65 hr
  exact (dss_cons (dst_expr (de_callD T_check_marks (hr.mono (by decide)) (takes_of rfl rfl rfl rfl) (da_cons (DE.f (de_var (pv 0))) da_nil)))
    (dss_cons (dst_nev)
    dss_nil))
theorem fd_find_modulus {fa : Addr} {fd : FuncData} (hTT : kf.T = []) (F : Fun kf.K "find_modulus" "find_modulus" s_find_modulus fa fd) (hm : mg "find_modulus" = some (.ref fa)) (T_check_marks : FnD P w kf.K mg base 3 "check_marks" 1 (phi_check_marks true)) : FnD P w kf.K mg base 4 "find_modulus" 1 phi1_find_modulus := fnD_fn hTT F hm sc_find_modulus (F.binds (ps := ["marks"]) fun _ _ _ _ _ _ us hl => match us, hl with | [_], _ => rfl) rfl (bd_find_modulus T_check_marks)
noncomputable abbrev s_apply_moves : Stmt := top 36
noncomputable abbrev N_apply_moves : List Str := ["marks", "seats", "pins", "position", "seat", "reason"]
theorem sc_apply_moves : FnScope N_apply_moves ["marks", "seats", "pins"] (defScope s_apply_moves) := ⟨rfl, rfl, rfl, by decide +kernel, rfl, by decide +kernel, by decide +kernel⟩
noncomputable def ir1_apply_moves : Sxs := .cons (.expr (.call (phi_check_marks true) (.cons (.var 0) (.nil))))
    (.cons (.nev)
    (.cons (.nev)
    (.cons (.nev)
    (.nil))))
noncomputable def phi1_apply_moves : List D → Ou Sl := fnOf ir1_apply_moves 3
theorem bd_apply_moves (T_check_marks : FnD P w kf.K mg base 3 "check_marks" 1 (phi_check_marks true)) : Bd P w kf.K mg base N_apply_moves "apply_moves" s_apply_moves 3 ir1_apply_moves := fun n f cdv A outer s H E hr => by
  have nd := sc_apply_moves.nd
  have hu := hr.units
  have hu0 := hr.units0
  have hu2 := VS.un65 hr
  exact (dss_cons (dst_expr (de_callD T_check_marks (hr.mono (by decide)) (takes_of rfl rfl rfl rfl) (da_cons (DE.f (de_var (pv 0))) da_nil)))
    (dss_cons (dst_nev)
    (dss_cons (dst_nev)
    (dss_cons (dst_nev)
    dss_nil))))
theorem fd_apply_moves {fa T : Addr} {fd : FuncData} (hTT : kf.T = []) (F : Fun kf.K "apply_moves" "apply_moves" s_apply_moves fa fd) (hm : mg "apply_moves" = some (.ref fa)) (hT : ∀ H, Rp H (.ref T) (.tuple [])) (bd : Binds kf.K fd ["marks", "seats", "pins"] [.ref T]) (kb : KBn kf.K fd ["marks", "seats", "pins"] 2 ["pins"] (fun us ws => us ++ ws) (fun vs zs => vs ++ zs)) (T_check_marks : FnD P w kf.K mg base 3 "check_marks" 1 (phi_check_marks true)) : FnK P w kf.K mg base 4 "apply_moves" 2 "pins" phi1_apply_moves := fnK_fn hTT F hm sc_apply_moves hT bd kb rfl rfl (bd_apply_moves T_check_marks)
noncomputable abbrev s_Workbench_reaches : Stmt := inClass (top 86) 12
noncomputable abbrev N_Workbench_reaches : List Str := ["self", "marks", "here", "pins"]
theorem sc_Workbench_reaches : FnScope N_Workbench_reaches ["self", "marks"] (defScope s_Workbench_reaches) := ⟨rfl, rfl, rfl, by decide +kernel, rfl, by decide +kernel, by decide +kernel⟩
noncomputable def ir1_Workbench_reaches : Sxs := .cons (.expr (.call (phi_check_marks true) (.cons (.var 1) (.nil))))
    (.cons (.nev)
    (.cons (.nev)
    (.cons (.nev)
    (.nil))))
noncomputable def phi1_Workbench_reaches : List D → List D → Ou (Sl × List D) := foOf ir1_Workbench_reaches 2 "Workbench"
theorem bd_Workbench_reaches {A_Workbench : Addr} (T_check_marks : FnD P w kf.K mg base 3 "check_marks" 1 (phi_check_marks true)) (T_c_Workbench : ClsQ kf.K "Workbench" (cl_Workbench A_Workbench)) : Bd P w kf.K mg base N_Workbench_reaches "Workbench.reaches" s_Workbench_reaches 3 ir1_Workbench_reaches := fun n f cdv A outer s H E hr => by
  have nd := sc_Workbench_reaches.nd
  have hu := hr.units
  have hu0 := hr.units0
  have hu2 := VS.un65 hr
  exact (dss_cons (dst_expr (de_callD T_check_marks (hr.mono (by decide)) (takes_of rfl rfl rfl rfl) (da_cons (DE.f (de_var (pv 1))) da_nil)))
    (dss_cons (dst_nev)
    (dss_cons (dst_nev)
    (dss_cons (dst_nev)
    dss_nil))))
theorem fd_Workbench_reaches {A_Workbench : Addr} {fa : Addr} {fd : FuncData} (hTT : kf.T = []) (F : Fun kf.K "reaches" "Workbench.reaches" s_Workbench_reaches fa fd) (M : Meth kf.K A_Workbench "reaches" fa) (T_check_marks : FnD P w kf.K mg base 3 "check_marks" 1 (phi_check_marks true)) (T_c_Workbench : ClsQ kf.K "Workbench" (cl_Workbench A_Workbench)) : FnO P w kf.K mg base 4 "Workbench" "reaches" 1 phi1_Workbench_reaches := fnO_fo hTT T_c_Workbench.h T_c_Workbench.F F M (show ("reaches" : Str) ∉ (["state", "past", "undone", "saved"] : List Str) from by decide) sc_Workbench_reaches (F.binds (ps := ["self", "marks"]) fun _ _ _ _ _ _ us hl => match us, hl with | [_, _], _ => rfl) rfl (bd_Workbench_reaches T_check_marks T_c_Workbench)
noncomputable abbrev s_active_seats : Stmt := top 37
noncomputable abbrev N_active_seats : List Str := ["marks", "pins", "steps", "seat"]
theorem sc_active_seats : FnScope N_active_seats ["marks", "pins"] (defScope s_active_seats) := ⟨rfl, rfl, rfl, by decide +kernel, rfl, by decide +kernel, by decide +kernel⟩
noncomputable def ir1_active_seats : Sxs := .cons (.expr (.call (phi_check_marks true) (.cons (.var 0) (.nil))))
    (.cons (.nev)
    (.cons (.nev)
    (.cons (.nev)
    (.nil))))
noncomputable def phi1_active_seats : List D → Ou Sl := fnOf ir1_active_seats 2
theorem bd_active_seats (T_check_marks : FnD P w kf.K mg base 3 "check_marks" 1 (phi_check_marks true)) : Bd P w kf.K mg base N_active_seats "active_seats" s_active_seats 3 ir1_active_seats := fun n f cdv A outer s H E hr => by
  have nd := sc_active_seats.nd
  have hu := hr.units
  have hu0 := hr.units0
  have hu2 := VS.un65 hr
  exact (dss_cons (dst_expr (de_callD T_check_marks (hr.mono (by decide)) (takes_of rfl rfl rfl rfl) (da_cons (DE.f (de_var (pv 0))) da_nil)))
    (dss_cons (dst_nev)
    (dss_cons (dst_nev)
    (dss_cons (dst_nev)
    dss_nil))))
theorem fd_active_seats {fa T : Addr} {fd : FuncData} (hTT : kf.T = []) (F : Fun kf.K "active_seats" "active_seats" s_active_seats fa fd) (hm : mg "active_seats" = some (.ref fa)) (hT : ∀ H, Rp H (.ref T) (.tuple [])) (bd : Binds kf.K fd ["marks", "pins"] [.ref T]) (kb : KBn kf.K fd ["marks", "pins"] 1 ["pins"] (fun us ws => us ++ ws) (fun vs zs => vs ++ zs)) (T_check_marks : FnD P w kf.K mg base 3 "check_marks" 1 (phi_check_marks true)) : FnK P w kf.K mg base 4 "active_seats" 1 "pins" phi1_active_seats := fnK_fn hTT F hm sc_active_seats hT bd kb rfl rfl (bd_active_seats T_check_marks)
noncomputable abbrev s_find_difference : Stmt := top 40
noncomputable abbrev N_find_difference : List Str := ["first", "second"]
theorem sc_find_difference : FnScope N_find_difference ["first", "second"] (defScope s_find_difference) := ⟨rfl, rfl, rfl, by decide +kernel, rfl, by decide +kernel, by decide +kernel⟩
noncomputable def ir1_find_difference : Sxs := .cons (.expr (.call (phi_check_marks true) (.cons (.var 0) (.nil))))
    (.cons (.expr (.call (phi_check_marks true) (.cons (.var 1) (.nil))))
    (.cons (.nev)
    (.nil)))
noncomputable def phi1_find_difference : List D → Ou Sl := fnOf ir1_find_difference 0
theorem bd_find_difference (T_check_marks : FnD P w kf.K mg base 3 "check_marks" 1 (phi_check_marks true)) : Bd P w kf.K mg base N_find_difference "find_difference" s_find_difference 3 ir1_find_difference := fun n f cdv A outer s H E hr => by
  have nd := sc_find_difference.nd
  have hu := hr.units
  have hu0 := hr.units0
  have hu2 := VS.un65 hr
  exact (dss_cons (dst_expr (de_callD T_check_marks (hr.mono (by decide)) (takes_of rfl rfl rfl rfl) (da_cons (DE.f (de_var (pv 0))) da_nil)))
    (dss_cons (dst_expr (de_callD T_check_marks (hr.mono (by decide)) (takes_of rfl rfl rfl rfl) (da_cons (DE.f (de_var (pv 1))) da_nil)))
    (dss_cons (dst_nev)
    dss_nil)))
theorem fd_find_difference {fa : Addr} {fd : FuncData} (hTT : kf.T = []) (F : Fun kf.K "find_difference" "find_difference" s_find_difference fa fd) (hm : mg "find_difference" = some (.ref fa)) (T_check_marks : FnD P w kf.K mg base 3 "check_marks" 1 (phi_check_marks true)) : FnD P w kf.K mg base 4 "find_difference" 2 phi1_find_difference := fnD_fn hTT F hm sc_find_difference (F.binds (ps := ["first", "second"]) fun _ _ _ _ _ _ us hl => match us, hl with | [_, _], _ => rfl) rfl (bd_find_difference T_check_marks)
noncomputable abbrev s_find_moves : Stmt := top 49
noncomputable abbrev N_find_moves : List Str := ["first", "second"]
theorem sc_find_moves : FnScope N_find_moves ["first", "second"] (defScope s_find_moves) := ⟨rfl, rfl, rfl, by decide +kernel, rfl, by decide +kernel, by decide +kernel⟩
noncomputable def ir1_find_moves : Sxs := .cons (.expr (.call (phi_check_marks true) (.cons (.var 0) (.nil))))
    (.cons (.expr (.call (phi_check_marks true) (.cons (.var 1) (.nil))))
    (.cons (.nev)
    (.cons (.nev)
    (.nil))))
noncomputable def phi1_find_moves : List D → Ou Sl := fnOf ir1_find_moves 0
theorem bd_find_moves (T_check_marks : FnD P w kf.K mg base 3 "check_marks" 1 (phi_check_marks true)) : Bd P w kf.K mg base N_find_moves "find_moves" s_find_moves 3 ir1_find_moves := fun n f cdv A outer s H E hr => by
  have nd := sc_find_moves.nd
  have hu := hr.units
  have hu0 := hr.units0
  have hu2 := VS.un65 hr
  exact (dss_cons (dst_expr (de_callD T_check_marks (hr.mono (by decide)) (takes_of rfl rfl rfl rfl) (da_cons (DE.f (de_var (pv 0))) da_nil)))
    (dss_cons (dst_expr (de_callD T_check_marks (hr.mono (by decide)) (takes_of rfl rfl rfl rfl) (da_cons (DE.f (de_var (pv 1))) da_nil)))
    (dss_cons (dst_nev)
    (dss_cons (dst_nev)
    dss_nil))))
theorem fd_find_moves {fa : Addr} {fd : FuncData} (hTT : kf.T = []) (F : Fun kf.K "find_moves" "find_moves" s_find_moves fa fd) (hm : mg "find_moves" = some (.ref fa)) (T_check_marks : FnD P w kf.K mg base 3 "check_marks" 1 (phi_check_marks true)) : FnD P w kf.K mg base 4 "find_moves" 2 phi1_find_moves := fnD_fn hTT F hm sc_find_moves (F.binds (ps := ["first", "second"]) fun _ _ _ _ _ _ us hl => match us, hl with | [_, _], _ => rfl) rfl (bd_find_moves T_check_marks)
noncomputable abbrev s_shortest_moves : Stmt := top 53
noncomputable abbrev N_shortest_moves : List Str := ["first", "second", "limit", "near", "far", "options", "ring"]
theorem sc_shortest_moves : FnScope N_shortest_moves ["first", "second", "limit"] (defScope s_shortest_moves) := ⟨rfl, rfl, rfl, by decide +kernel, rfl, by decide +kernel, by decide +kernel⟩
noncomputable def ir1_shortest_moves : Sxs := .cons (.expr (.call (phi_check_marks true) (.cons (.var 0) (.nil))))
    (.cons (.expr (.call (phi_check_marks true) (.cons (.var 1) (.nil))))
    (.cons (.nev)
    (.cons (.nev)
    (.cons (.nev)
    (.cons (.nev)
    (.cons (.nev)
    (.cons (.nev)
    (.nil))))))))
noncomputable def phi1_shortest_moves : List D → Ou Sl := fnOf ir1_shortest_moves 4
theorem bd_shortest_moves (T_check_marks : FnD P w kf.K mg base 3 "check_marks" 1 (phi_check_marks true)) : Bd P w kf.K mg base N_shortest_moves "shortest_moves" s_shortest_moves 3 ir1_shortest_moves := fun n f cdv A outer s H E hr => by
  have nd := sc_shortest_moves.nd
  have hu := hr.units
  have hu0 := hr.units0
  have hu2 := VS.un65 hr
  exact (dss_cons (dst_expr (de_callD T_check_marks (hr.mono (by decide)) (takes_of rfl rfl rfl rfl) (da_cons (DE.f (de_var (pv 0))) da_nil)))
    (dss_cons (dst_expr (de_callD T_check_marks (hr.mono (by decide)) (takes_of rfl rfl rfl rfl) (da_cons (DE.f (de_var (pv 1))) da_nil)))
    (dss_cons (dst_nev)
    (dss_cons (dst_nev)
    (dss_cons (dst_nev)
    (dss_cons (dst_nev)
    (dss_cons (dst_nev)
    (dss_cons (dst_nev)
    dss_nil))))))))
theorem fd_shortest_moves {fa : Addr} {fd : FuncData} (hTT : kf.T = []) (F : Fun kf.K "shortest_moves" "shortest_moves" s_shortest_moves fa fd) (hm : mg "shortest_moves" = some (.ref fa)) (T_check_marks : FnD P w kf.K mg base 3 "check_marks" 1 (phi_check_marks true)) : FnD P w kf.K mg base 4 "shortest_moves" 3 phi1_shortest_moves := fnD_fn hTT F hm sc_shortest_moves (F.binds (ps := ["first", "second", "limit"]) fun _ _ _ _ _ _ us hl => match us, hl with | [_, _, _], _ => rfl) rfl (bd_shortest_moves T_check_marks)
noncomputable abbrev s_min_moves : Stmt := top 54
noncomputable abbrev N_min_moves : List Str := ["first", "second", "limit"]
theorem sc_min_moves : FnScope N_min_moves ["first", "second", "limit"] (defScope s_min_moves) := ⟨rfl, rfl, rfl, by decide +kernel, rfl, by decide +kernel, by decide +kernel⟩
noncomputable def ir1_min_moves : Sxs := .cons (.ret (.bi .len (.call phi1_shortest_moves (.cons (.var 0) (.cons (.var 1) (.cons (.var 2) (.nil)))))))
    (.nil)
noncomputable def phi1_min_moves : List D → Ou Sl := fnOf ir1_min_moves 0
theorem bd_min_moves (T_len : mg "len" = none) (T_shortest_moves : FnD P w kf.K mg base 4 "shortest_moves" 3 phi1_shortest_moves) : Bd P w kf.K mg base N_min_moves "min_moves" s_min_moves 4 ir1_min_moves := fun n f cdv A outer s H E hr => by
  have nd := sc_min_moves.nd
  have hu := hr.units
  have hu0 := hr.units0
  have hu2 := VS.un65 hr
  exact (dss_cons (dst_ret (de_len T_len (DE.b (de_callD T_shortest_moves (hr.mono (by decide)) (takes_of rfl rfl rfl rfl) (da_cons (DE.f (de_var (pv 0))) (da_cons (DE.f (de_var (pv 1))) (da_cons (DE.f (de_var (pv 2))) da_nil)))))))
    dss_nil)
theorem fd_min_moves {fa : Addr} {fd : FuncData} (hTT : kf.T = []) (F : Fun kf.K "min_moves" "min_moves" s_min_moves fa fd) (hm : mg "min_moves" = some (.ref fa)) (T_len : mg "len" = none) (T_shortest_moves : FnD P w kf.K mg base 4 "shortest_moves" 3 phi1_shortest_moves) : FnD P w kf.K mg base 5 "min_moves" 3 phi1_min_moves := fnD_fn hTT F hm sc_min_moves (F.binds (ps := ["first", "second", "limit"]) fun _ _ _ _ _ _ us hl => match us, hl with | [_, _, _], _ => rfl) rfl (bd_min_moves T_len T_shortest_moves)
noncomputable abbrev s_check_pinned : Stmt := top 56
noncomputable abbrev N_check_pinned : List Str := ["marks", "pins"]
theorem sc_check_pinned : FnScope N_check_pinned ["marks", "pins"] (defScope s_check_pinned) := ⟨rfl, rfl, rfl, by decide +kernel, rfl, by decide +kernel, by decide +kernel⟩
noncomputable def ir1_check_pinned : Sxs := .cons (.expr (.call (phi_check_marks true) (.cons (.var 0) (.nil))))
    (.cons (.nev)
    (.cons (.nev)
    (.nil)))
noncomputable def phi1_check_pinned : List D → Ou Sl := fnOf ir1_check_pinned 0
theorem bd_check_pinned (T_check_marks : FnD P w kf.K mg base 3 "check_marks" 1 (phi_check_marks true)) : Bd P w kf.K mg base N_check_pinned "check_pinned" s_check_pinned 3 ir1_check_pinned := fun n f cdv A outer s H E hr => by
  have nd := sc_check_pinned.nd
  have hu := hr.units
  have hu0 := hr.units0
  have hu2 := VS.un65 hr
  exact (dss_cons (dst_expr (de_callD T_check_marks (hr.mono (by decide)) (takes_of rfl rfl rfl rfl) (da_cons (DE.f (de_var (pv 0))) da_nil)))
    (dss_cons (dst_nev)
    (dss_cons (dst_nev)
    dss_nil)))
theorem fd_check_pinned {fa : Addr} {fd : FuncData} (hTT : kf.T = []) (F : Fun kf.K "check_pinned" "check_pinned" s_check_pinned fa fd) (hm : mg "check_pinned" = some (.ref fa)) (T_check_marks : FnD P w kf.K mg base 3 "check_marks" 1 (phi_check_marks true)) : FnD P w kf.K mg base 4 "check_pinned" 2 phi1_check_pinned := fnD_fn hTT F hm sc_check_pinned (F.binds (ps := ["marks", "pins"]) fun _ _ _ _ _ _ us hl => match us, hl with | [_, _], _ => rfl) rfl (bd_check_pinned T_check_marks)
noncomputable abbrev s_find_arcs : Stmt := top 59
noncomputable abbrev N_find_arcs : List Str := ["marks", "pins", "arc"]
theorem sc_find_arcs : FnScope N_find_arcs ["marks", "pins"] (defScope s_find_arcs) := ⟨rfl, rfl, rfl, by decide +kernel, rfl, by decide +kernel, by decide +kernel⟩
noncomputable def ir1_find_arcs : Sxs := .cons (.expr (.call phi1_check_pinned (.cons (.var 0) (.cons (.var 1) (.nil)))))
    (.cons (.nev)
    (.nil))
noncomputable def phi1_find_arcs : List D → Ou Sl := fnOf ir1_find_arcs 1
theorem bd_find_arcs (T_check_pinned : FnD P w kf.K mg base 4 "check_pinned" 2 phi1_check_pinned) : Bd P w kf.K mg base N_find_arcs "find_arcs" s_find_arcs 4 ir1_find_arcs := fun n f cdv A outer s H E hr => by
  have nd := sc_find_arcs.nd
  have hu := hr.units
  have hu0 := hr.units0
  have hu2 := VS.un65 hr
  exact (dss_cons (dst_expr (de_callD T_check_pinned (hr.mono (by decide)) (takes_of rfl rfl rfl rfl) (da_cons (DE.f (de_var (pv 0))) (da_cons (DE.f (de_var (pv 1))) da_nil))))
    (dss_cons (dst_nev)
    dss_nil))
theorem fd_find_arcs {fa : Addr} {fd : FuncData} (hTT : kf.T = []) (F : Fun kf.K "find_arcs" "find_arcs" s_find_arcs fa fd) (hm : mg "find_arcs" = some (.ref fa)) (T_check_pinned : FnD P w kf.K mg base 4 "check_pinned" 2 phi1_check_pinned) : FnD P w kf.K mg base 5 "find_arcs" 2 phi1_find_arcs := fnD_fn hTT F hm sc_find_arcs (F.binds (ps := ["marks", "pins"]) fun _ _ _ _ _ _ us hl => match us, hl with | [_, _], _ => rfl) rfl (bd_find_arcs T_check_pinned)
noncomputable abbrev s_find_pinned_difference : Stmt := top 61
noncomputable abbrev N_find_pinned_difference : List Str := ["first", "second", "pins"]
theorem sc_find_pinned_difference : FnScope N_find_pinned_difference ["first", "second", "pins"] (defScope s_find_pinned_difference) := ⟨rfl, rfl, rfl, by decide +kernel, rfl, by decide +kernel, by decide +kernel⟩
noncomputable def ir1_find_pinned_difference : Sxs := .cons (.expr (.call (phi_check_marks true) (.cons (.var 0) (.nil))))
    (.cons (.expr (.call (phi_check_marks true) (.cons (.var 1) (.nil))))
    (.cons (.nev)
    (.cons (.nev)
    (.nil))))
noncomputable def phi1_find_pinned_difference : List D → Ou Sl := fnOf ir1_find_pinned_difference 0
theorem bd_find_pinned_difference (T_check_marks : FnD P w kf.K mg base 3 "check_marks" 1 (phi_check_marks true)) : Bd P w kf.K mg base N_find_pinned_difference "find_pinned_difference" s_find_pinned_difference 3 ir1_find_pinned_difference := fun n f cdv A outer s H E hr => by
  have nd := sc_find_pinned_difference.nd
  have hu := hr.units
  have hu0 := hr.units0
  have hu2 := VS.un65 hr
  exact (dss_cons (dst_expr (de_callD T_check_marks (hr.mono (by decide)) (takes_of rfl rfl rfl rfl) (da_cons (DE.f (de_var (pv 0))) da_nil)))
    (dss_cons (dst_expr (de_callD T_check_marks (hr.mono (by decide)) (takes_of rfl rfl rfl rfl) (da_cons (DE.f (de_var (pv 1))) da_nil)))
    (dss_cons (dst_nev)
    (dss_cons (dst_nev)
    dss_nil))))
theorem fd_find_pinned_difference {fa : Addr} {fd : FuncData} (hTT : kf.T = []) (F : Fun kf.K "find_pinned_difference" "find_pinned_difference" s_find_pinned_difference fa fd) (hm : mg "find_pinned_difference" = some (.ref fa)) (T_check_marks : FnD P w kf.K mg base 3 "check_marks" 1 (phi_check_marks true)) : FnD P w kf.K mg base 4 "find_pinned_difference" 3 phi1_find_pinned_difference := fnD_fn hTT F hm sc_find_pinned_difference (F.binds (ps := ["first", "second", "pins"]) fun _ _ _ _ _ _ us hl => match us, hl with | [_, _, _], _ => rfl) rfl (bd_find_pinned_difference T_check_marks)
noncomputable abbrev s_pinned_moves : Stmt := top 63
noncomputable abbrev N_pinned_moves : List Str := ["first", "second", "pins", "seats", "seat", "here", "there", "place"]
theorem sc_pinned_moves : FnScope N_pinned_moves ["first", "second", "pins"] (defScope s_pinned_moves) := ⟨rfl, rfl, rfl, by decide +kernel, rfl, by decide +kernel, by decide +kernel⟩
noncomputable def ir1_pinned_moves : Sxs := .cons (.expr (.call (phi_check_marks true) (.cons (.var 0) (.nil))))
    (.cons (.expr (.call (phi_check_marks true) (.cons (.var 1) (.nil))))
    (.cons (.nev)
    (.cons (.nev)
    (.cons (.nev)
    (.cons (.nev)
    (.cons (.nev)
    (.nil)))))))
noncomputable def phi1_pinned_moves : List D → Ou Sl := fnOf ir1_pinned_moves 5
theorem bd_pinned_moves (T_check_marks : FnD P w kf.K mg base 3 "check_marks" 1 (phi_check_marks true)) : Bd P w kf.K mg base N_pinned_moves "pinned_moves" s_pinned_moves 3 ir1_pinned_moves := fun n f cdv A outer s H E hr => by
  have nd := sc_pinned_moves.nd
  have hu := hr.units
  have hu0 := hr.units0
  have hu2 := VS.un65 hr
  exact (dss_cons (dst_expr (de_callD T_check_marks (hr.mono (by decide)) (takes_of rfl rfl rfl rfl) (da_cons (DE.f (de_var (pv 0))) da_nil)))
    (dss_cons (dst_expr (de_callD T_check_marks (hr.mono (by decide)) (takes_of rfl rfl rfl rfl) (da_cons (DE.f (de_var (pv 1))) da_nil)))
    (dss_cons (dst_nev)
    (dss_cons (dst_nev)
    (dss_cons (dst_nev)
    (dss_cons (dst_nev)
    (dss_cons (dst_nev)
    dss_nil)))))))
theorem fd_pinned_moves {fa : Addr} {fd : FuncData} (hTT : kf.T = []) (F : Fun kf.K "pinned_moves" "pinned_moves" s_pinned_moves fa fd) (hm : mg "pinned_moves" = some (.ref fa)) (T_check_marks : FnD P w kf.K mg base 3 "check_marks" 1 (phi_check_marks true)) : FnD P w kf.K mg base 4 "pinned_moves" 3 phi1_pinned_moves := fnD_fn hTT F hm sc_pinned_moves (F.binds (ps := ["first", "second", "pins"]) fun _ _ _ _ _ _ us hl => match us, hl with | [_, _, _], _ => rfl) rfl (bd_pinned_moves T_check_marks)
noncomputable abbrev s_count_pinned : Stmt := top 68
noncomputable abbrev N_count_pinned : List Str := ["marks", "pins", "result", "arc"]
theorem sc_count_pinned : FnScope N_count_pinned ["marks", "pins"] (defScope s_count_pinned) := ⟨rfl, rfl, rfl, by decide +kernel, rfl, by decide +kernel, by decide +kernel⟩
noncomputable def ir1_count_pinned : Sxs := .cons (.expr (.call phi1_check_pinned (.cons (.var 0) (.cons (.var 1) (.nil)))))
    (.cons (.nev)
    (.cons (.nev)
    (.cons (.nev)
    (.nil))))
noncomputable def phi1_count_pinned : List D → Ou Sl := fnOf ir1_count_pinned 2
theorem bd_count_pinned (T_check_pinned : FnD P w kf.K mg base 4 "check_pinned" 2 phi1_check_pinned) : Bd P w kf.K mg base N_count_pinned "count_pinned" s_count_pinned 4 ir1_count_pinned := fun n f cdv A outer s H E hr => by
  have nd := sc_count_pinned.nd
  have hu := hr.units
  have hu0 := hr.units0
  have hu2 := VS.un65 hr
  exact (dss_cons (dst_expr (de_callD T_check_pinned (hr.mono (by decide)) (takes_of rfl rfl rfl rfl) (da_cons (DE.f (de_var (pv 0))) (da_cons (DE.f (de_var (pv 1))) da_nil))))
    (dss_cons (dst_nev)
    (dss_cons (dst_nev)
    (dss_cons (dst_nev)
    dss_nil))))
theorem fd_count_pinned {fa : Addr} {fd : FuncData} (hTT : kf.T = []) (F : Fun kf.K "count_pinned" "count_pinned" s_count_pinned fa fd) (hm : mg "count_pinned" = some (.ref fa)) (T_check_pinned : FnD P w kf.K mg base 4 "check_pinned" 2 phi1_check_pinned) : FnD P w kf.K mg base 5 "count_pinned" 2 phi1_count_pinned := fnD_fn hTT F hm sc_count_pinned (F.binds (ps := ["marks", "pins"]) fun _ _ _ _ _ _ us hl => match us, hl with | [_, _], _ => rfl) rfl (bd_count_pinned T_check_pinned)
noncomputable abbrev s_rank_pinned : Stmt := top 69
noncomputable abbrev N_rank_pinned : List Str := ["marks", "pins", "rank", "arc"]
theorem sc_rank_pinned : FnScope N_rank_pinned ["marks", "pins"] (defScope s_rank_pinned) := ⟨rfl, rfl, rfl, by decide +kernel, rfl, by decide +kernel, by decide +kernel⟩
noncomputable def ir1_rank_pinned : Sxs := .cons (.expr (.call phi1_check_pinned (.cons (.var 0) (.cons (.var 1) (.nil)))))
    (.cons (.nev)
    (.cons (.nev)
    (.cons (.nev)
    (.nil))))
noncomputable def phi1_rank_pinned : List D → Ou Sl := fnOf ir1_rank_pinned 2
theorem bd_rank_pinned (T_check_pinned : FnD P w kf.K mg base 4 "check_pinned" 2 phi1_check_pinned) : Bd P w kf.K mg base N_rank_pinned "rank_pinned" s_rank_pinned 4 ir1_rank_pinned := fun n f cdv A outer s H E hr => by
  have nd := sc_rank_pinned.nd
  have hu := hr.units
  have hu0 := hr.units0
  have hu2 := VS.un65 hr
  exact (dss_cons (dst_expr (de_callD T_check_pinned (hr.mono (by decide)) (takes_of rfl rfl rfl rfl) (da_cons (DE.f (de_var (pv 0))) (da_cons (DE.f (de_var (pv 1))) da_nil))))
    (dss_cons (dst_nev)
    (dss_cons (dst_nev)
    (dss_cons (dst_nev)
    dss_nil))))
theorem fd_rank_pinned {fa : Addr} {fd : FuncData} (hTT : kf.T = []) (F : Fun kf.K "rank_pinned" "rank_pinned" s_rank_pinned fa fd) (hm : mg "rank_pinned" = some (.ref fa)) (T_check_pinned : FnD P w kf.K mg base 4 "check_pinned" 2 phi1_check_pinned) : FnD P w kf.K mg base 5 "rank_pinned" 2 phi1_rank_pinned := fnD_fn hTT F hm sc_rank_pinned (F.binds (ps := ["marks", "pins"]) fun _ _ _ _ _ _ us hl => match us, hl with | [_, _], _ => rfl) rfl (bd_rank_pinned T_check_pinned)
noncomputable abbrev s_pinned_at : Stmt := top 70
noncomputable abbrev N_pinned_at : List Str := ["marks", "pins", "rank", "arcs", "total", "arc", "result", "inner"]
theorem sc_pinned_at : FnScope N_pinned_at ["marks", "pins", "rank"] (defScope s_pinned_at) := ⟨rfl, rfl, rfl, by decide +kernel, rfl, by decide +kernel, by decide +kernel⟩
noncomputable def ir1_pinned_at : Sxs := .cons (.expr (.call phi1_check_pinned (.cons (.var 0) (.cons (.var 1) (.nil)))))
    (.cons (.nev)
    (.cons (.nev)
    (.cons (.nev)
    (.cons (.nev)
    (.cons (.nev)
    (.cons (.nev)
    (.cons (.nev)
    (.nil))))))))
noncomputable def phi1_pinned_at : List D → Ou Sl := fnOf ir1_pinned_at 5
theorem bd_pinned_at (T_check_pinned : FnD P w kf.K mg base 4 "check_pinned" 2 phi1_check_pinned) : Bd P w kf.K mg base N_pinned_at "pinned_at" s_pinned_at 4 ir1_pinned_at := fun n f cdv A outer s H E hr => by
  have nd := sc_pinned_at.nd
  have hu := hr.units
  have hu0 := hr.units0
  have hu2 := VS.un65 hr
  exact (dss_cons (dst_expr (de_callD T_check_pinned (hr.mono (by decide)) (takes_of rfl rfl rfl rfl) (da_cons (DE.f (de_var (pv 0))) (da_cons (DE.f (de_var (pv 1))) da_nil))))
    (dss_cons (dst_nev)
    (dss_cons (dst_nev)
    (dss_cons (dst_nev)
    (dss_cons (dst_nev)
    (dss_cons (dst_nev)
    (dss_cons (dst_nev)
    (dss_cons (dst_nev)
    dss_nil))))))))
theorem fd_pinned_at {fa : Addr} {fd : FuncData} (hTT : kf.T = []) (F : Fun kf.K "pinned_at" "pinned_at" s_pinned_at fa fd) (hm : mg "pinned_at" = some (.ref fa)) (T_check_pinned : FnD P w kf.K mg base 4 "check_pinned" 2 phi1_check_pinned) : FnD P w kf.K mg base 5 "pinned_at" 3 phi1_pinned_at := fnD_fn hTT F hm sc_pinned_at (F.binds (ps := ["marks", "pins", "rank"]) fun _ _ _ _ _ _ us hl => match us, hl with | [_, _, _], _ => rfl) rfl (bd_pinned_at T_check_pinned)
noncomputable abbrev s_possible_marks : Stmt := top 71
noncomputable abbrev N_possible_marks : List Str := ["marks", "pins", "seat", "start", "arc", "place", "sums", "step", "count", "total"]
theorem sc_possible_marks : FnScope N_possible_marks ["marks", "pins", "seat"] (defScope s_possible_marks) := ⟨rfl, rfl, rfl, by decide +kernel, rfl, by decide +kernel, by decide +kernel⟩
noncomputable def ir1_possible_marks : Sxs := .cons (.expr (.call phi1_check_pinned (.cons (.var 0) (.cons (.var 1) (.nil)))))
    (.cons (.nev)
    (.cons (.nev)
    (.cons (.nev)
    (.nil))))
noncomputable def phi1_possible_marks : List D → Ou Sl := fnOf ir1_possible_marks 7
theorem bd_possible_marks (T_check_pinned : FnD P w kf.K mg base 4 "check_pinned" 2 phi1_check_pinned) (T_nst : kf.C VS.nsC = none) : Bd P w kf.K mg base N_possible_marks "possible_marks" s_possible_marks 4 ir1_possible_marks := fun n f cdv A outer s H E hr => by
  have nd := sc_possible_marks.nd
  have hu := hr.units
  have hu0 := hr.units0
  have hu2 := VS.un65 hr
  have hu1 := VS.un1 hu
  exact (dss_cons (dst_expr (de_callD T_check_pinned (hr.mono (by decide)) (takes_of rfl rfl rfl rfl) (da_cons (DE.f (de_var (pv 0))) (da_cons (DE.f (de_var (pv 1))) da_nil))))
    (dss_cons (dst_nev)
    (dss_cons (dst_nev)
    (dss_cons (dst_nev)
    dss_nil))))
theorem fd_possible_marks {fa : Addr} {fd : FuncData} (hTT : kf.T = []) (F : Fun kf.K "possible_marks" "possible_marks" s_possible_marks fa fd) (hm : mg "possible_marks" = some (.ref fa)) (T_check_pinned : FnD P w kf.K mg base 4 "check_pinned" 2 phi1_check_pinned) (T_nst : kf.C VS.nsC = none) : FnD P w kf.K mg base 5 "possible_marks" 3 phi1_possible_marks := fnD_fn hTT F hm sc_possible_marks (F.binds (ps := ["marks", "pins", "seat"]) fun _ _ _ _ _ _ us hl => match us, hl with | [_, _, _], _ => rfl) rfl (bd_possible_marks T_check_pinned T_nst)
noncomputable abbrev s_Workbench___init__ : Stmt := inClass (top 86) 0
noncomputable abbrev N_Workbench___init__ : List Str := ["self", "marks"]
theorem sc_Workbench___init__ : FnScope N_Workbench___init__ ["self", "marks"] (defScope s_Workbench___init__) := ⟨rfl, rfl, rfl, by decide +kernel, rfl, by decide +kernel, by decide +kernel⟩
theorem bd_Workbench___init__ {A_Workbench : Addr} (T_check_marks : FnD P w kf.K mg base 3 "check_marks" 1 (phi_check_marks true)) (T_c_Workbench : ClsQ kf.K "Workbench" (cl_Workbench A_Workbench)) : Bd P w kf.K mg base N_Workbench___init__ "Workbench.__init__" s_Workbench___init__ 3 (ir_Workbench___init__ true) := fun n f cdv A outer s H E hr => by
  have nd := sc_Workbench___init__.nd
  have hu := hr.units
  have hu0 := hr.units0
  have hu2 := VS.un65 hr
  exact (dss_cons (dst_expr (de_callD T_check_marks (hr.mono (by decide)) (takes_of rfl rfl rfl rfl) (da_cons (DE.f (de_var (pv 1))) da_nil)))
    (dss_cons (dst_setF T_c_Workbench.h T_c_Workbench.F (DE.f (de_tup (da_cons (DE.f (de_var (pv 1))) (da_cons (DE.f (de_tup da_nil)) da_nil)))) (pv 0) (j := 0) rfl)
    (dss_cons (dst_setL T_c_Workbench.h T_c_Workbench.F (de_lst da_nil) (pv 0) (j := 1) rfl)
    (dss_cons (dst_setL T_c_Workbench.h T_c_Workbench.F (de_lst da_nil) (pv 0) (j := 2) rfl)
    (dss_cons (dst_setF T_c_Workbench.h T_c_Workbench.F (DE.f (de_dict0)) (pv 0) (j := 3) rfl)
    dss_nil)))))
theorem fd_Workbench___init__ {A_Workbench : Addr} {fa : Addr} {fd : FuncData} (hTT : kf.T = []) (F : Fun kf.K "__init__" "Workbench.__init__" s_Workbench___init__ fa fd) (hm : mg "Workbench" = some (.ref A_Workbench)) (M : Mk kf.K A_Workbench fa) (T_check_marks : FnD P w kf.K mg base 3 "check_marks" 1 (phi_check_marks true)) (T_c_Workbench : ClsQ kf.K "Workbench" (cl_Workbench A_Workbench)) : FnI P w kf.K mg base 4 "Workbench" "Workbench" 1 (phi_Workbench___init__ true) := fnI_fo hTT T_c_Workbench.h F hm M sc_Workbench___init__ (F.binds (ps := ["self", "marks"]) fun _ _ _ _ _ _ us hl => match us, hl with | [_, _], _ => rfl) rfl (bd_Workbench___init__ T_check_marks T_c_Workbench)
noncomputable abbrev s_replay : Stmt := top 87
noncomputable abbrev N_replay : List Str := ["marks", "operations", "workbench", "position", "operation", "e"]
theorem sc_replay : FnScope N_replay ["marks", "operations"] (defScope s_replay) := ⟨rfl, rfl, rfl, by decide +kernel, rfl, by decide +kernel, by decide +kernel⟩
noncomputable def ir1_replay : Sxs := .cons (.asg 2 (.mkO "Workbench" (iniO (phi_Workbench___init__ true)) (.cons (.var 0) (.nil))))
    (.cons (.nev)
    (.cons (.nev)
    (.cons (.nev)
    (.nil))))
noncomputable def phi1_replay : List D → Ou Sl := fnOf ir1_replay 4
theorem bd_replay {A_Workbench : Addr} (T_Workbench : FnI P w kf.K mg base 4 "Workbench" "Workbench" 1 (phi_Workbench___init__ true)) (T_c_Workbench : ClsQ kf.K "Workbench" (cl_Workbench A_Workbench)) : Bd P w kf.K mg base N_replay "replay" s_replay 5 ir1_replay := fun n f cdv A outer s H E hr => by
  have nd := sc_replay.nd
  have hu := hr.units
  have hu0 := hr.units0
  have hu2 := VS.un65 hr
  exact (dss_cons (dst_set nd (de_mkO T_Workbench (hr.mono (by decide)) (takes_of rfl rfl rfl rfl) (da_cons (DE.f (de_var (pv 0))) da_nil)))
    (dss_cons (dst_nev)
    (dss_cons (dst_nev)
    (dss_cons (dst_nev)
    dss_nil))))
theorem fd_replay {A_Workbench : Addr} {fa : Addr} {fd : FuncData} (hTT : kf.T = []) (F : Fun kf.K "replay" "replay" s_replay fa fd) (hm : mg "replay" = some (.ref fa)) (T_Workbench : FnI P w kf.K mg base 4 "Workbench" "Workbench" 1 (phi_Workbench___init__ true)) (T_c_Workbench : ClsQ kf.K "Workbench" (cl_Workbench A_Workbench)) : FnD P w kf.K mg base 6 "replay" 2 phi1_replay := fnD_fn hTT F hm sc_replay (F.binds (ps := ["marks", "operations"]) fun _ _ _ _ _ _ us hl => match us, hl with | [_, _], _ => rfl) rfl (bd_replay T_Workbench T_c_Workbench)
noncomputable abbrev s__law_all_raise : Stmt := top 94
theorem sc__law_all_raise : FnScope ["_law_calls", "_law_expected", "_law_call"] ["_law_calls", "_law_expected"] (defScope s__law_all_raise) := ⟨rfl, rfl, rfl, by decide +kernel, rfl, by decide +kernel, by decide +kernel⟩
theorem fd__law_all_raise {fa : Addr} {fd : FuncData} (hTT : kf.T = []) (F : Fun kf.K "_law_all_raise" "_law_all_raise" s__law_all_raise fa fd) (hm : mg "_law_all_raise" = some (.ref fa)) (T__law_error_of : FnE P w kf.K mg base "_law_error_of" eta_law) : FnAll P w kf.K mg base 11 8 "_law_all_raise" eta_law := by
  obtain ⟨g, fdg, psg, hmg, hkg, okg, hbg⟩ := (T__law_error_of.fnK 8).ex
  refine fnAll_of (E' := fun _ _ _ => False) (kb := 10) hTT rfl F hm sc__law_all_raise (F.binds (ps := ["_law_calls", "_law_expected"]) fun _ _ _ _ _ _ us hl => match us, hl with | [_, _], _ => rfl) (fun cdv A outer s H E hr => ?_)
  have nd := sc__law_all_raise.nd
  have hu := hr.units
  exact pss_one (ps_ret (pe_cmpR (op_eq.or (op_eqD hu)) (pe_lc (own := [("_law_call", 2)]) rfl nd (pi_list (pv 0)) (blkOk_by (N := ["_law_calls", "_law_expected", "_law_call"]) (sc := defScope s__law_all_raise) (by decide +kernel)) (fun _ _ _ _ _ => pg_name (i := 2) nd rfl (by first | exact Or.inl rfl | exact Or.inr rfl)) (fun _ _ _ _ _ => pts_one (pt_cmpR (op_ne.or (op_neD hu)) (pe_call okg hr rfl hmg hkg hbg .nil passF (pa_cons (pv 2) pa_nil)) (pv 1) (nomark _))) (fun _ _ _ _ _ => pv 2)) (pe_lst pa_nil) (nomark _)))
noncomputable abbrev s_law : Stmt := top 95
noncomputable abbrev N_law : List Str := ["_law_script", "_law_d", "_law_good", "_law_bad", "_law_place", "_law_calls"]
theorem sc_law : FnScope N_law ["_law_script"] (defScope s_law) := ⟨rfl, rfl, rfl, by decide +kernel, rfl, by decide +kernel, by decide +kernel⟩
noncomputable def t0_law : List (En → Ou (D × En)) := [thG eta_law (.call (phi_find_steps true) (.cons (.var 3) (.nil))), thG eta_law (.call phi1_find_modulus (.cons (.var 3) (.nil))), thG eta_law (.call phi1_apply_moves (appS (.cons (.var 3) (.cons (.lstE (.cons (.cst (.int 9)) (.nil))) (.nil))) (.cst .none))), thG eta_law (.call phi1_active_seats (appS (.cons (.var 3) (.nil)) (.cst .none))), thG eta_law (.call phi1_find_difference (.cons (.var 3) (.cons (.cst .none) (.nil)))), thG eta_law (.call phi1_find_difference (.cons (.var 2) (.cons (.var 3) (.nil)))), thG eta_law (.call phi1_find_moves (.cons (.var 3) (.cons (.cst .none) (.nil)))), thG eta_law (.call phi1_find_moves (.cons (.var 2) (.cons (.var 3) (.nil)))), thG eta_law (.call phi1_min_moves (.cons (.var 3) (.cons (.cst .none) (.cons (.cst (.int 9)) (.nil))))), thG eta_law (.call phi1_min_moves (.cons (.var 2) (.cons (.var 3) (.cons (.cst (.int 9)) (.nil))))), thG eta_law (.call phi1_shortest_moves (.cons (.var 2) (.cons (.var 3) (.cons (.cst (.int 9)) (.nil))))), thG eta_law (.call phi1_find_arcs (.cons (.var 3) (.cons (.cst .none) (.nil)))), thG eta_law (.call phi1_find_pinned_difference (.cons (.var 3) (.cons (.cst .none) (.cons (.cst .none) (.nil))))), thG eta_law (.call phi1_find_pinned_difference (.cons (.var 2) (.cons (.var 3) (.cons (.cst .none) (.nil))))), thG eta_law (.call phi1_pinned_moves (.cons (.var 3) (.cons (.cst .none) (.cons (.cst .none) (.nil))))), thG eta_law (.call phi1_pinned_moves (.cons (.var 2) (.cons (.var 3) (.cons (.cst .none) (.nil))))), thG eta_law (.call phi1_count_pinned (.cons (.var 3) (.cons (.cst .none) (.nil)))), thG eta_law (.call phi1_rank_pinned (.cons (.var 3) (.cons (.cst .none) (.nil)))), thG eta_law (.call phi1_pinned_at (.cons (.var 3) (.cons (.cst .none) (.cons (.cst .none) (.nil))))), thG eta_law (.call phi1_possible_marks (.cons (.var 3) (.cons (.cst .none) (.cons (.cst .none) (.nil))))), thG eta_law (.mkO "Workbench" (iniO (phi_Workbench___init__ true)) (.cons (.var 3) (.nil))), thG eta_law (.call phi1_replay (.cons (.var 3) (.cons (.cst .none) (.nil)))), thG eta_law (.callT "Workbench" phi1_Workbench_reaches (.mkO "Workbench" (iniO (phi_Workbench___init__ true)) (.cons (.var 2) (.nil))) (.cons (.var 3) (.nil)))]
noncomputable def ir_law : Sxs := .cons (.asg 2 (.callM phi__law_marks 1 (.nil)))
    (.cons (.unp [.nm 3, .nm 4] (.callM phi__law_bad_marks 1 (.nil)))
    (.cons (.fnS (anyS 5))
    (.cons (.fnS (anyS 5))
    (.cons (.fnS (anyS 5))
    (.cons (.fnS (anyS 5))
    (.cons (.fnS (anyS 5))
    (.cons (.fnS (anyS 5))
    (.cons (.fnS (anyS 5))
    (.cons (.fnS (anyS 5))
    (.cons (.fnS (anyS 5))
    (.cons (.fnS (anyS 5))
    (.cons (.fnS (anyS 5))
    (.cons (.iff (.nt (.fn (allF t0_law (.tupE (.cons (.cst (.str "marks")) (.cons (.var 4) (.nil))))))) (.cons (.ret (.cst (.bool false)))
    (.nil)) (.nil))
    (.cons (.ret (.cmp .Eq (.idx (.call (phi_find_steps true) (.cons (.bin .Add (.tupE (.cons (.cst (.int 1000000)) (.cons (.neg (.cst (.int 1000000))) (.cons (.cst (.int 0)) (.nil))))) (.bin .Mult (.tupE (.cons (.cst (.int 0)) (.nil))) (.callM phi__law_below 1 (.cons (.cst (.int 6)) (.nil))))) (.nil))) (.cst (.int 0))) (.neg (.cst (.int 2000000)))))
    (.nil)))))))))))))))
noncomputable abbrev lamQ : Str := (envOfC "law" (defScope s_law) 0 0 .none).qual ++ "<lambda>"
theorem bd_law {A_Workbench : Addr} {c P0 : Addr} (TB : LamX.TabB base mg c P0) (hT : kf.T = [(P0, lamQ)]) (T__law_marks : FnM P w kf.K mg base 2 "_law_marks" 0 phi__law_marks) (T__law_bad_marks : FnM P w kf.K mg base 3 "_law_bad_marks" 0 phi__law_bad_marks) (T__law_all_raise : FnAll P w kf.K mg base 11 8 "_law_all_raise" eta_law) (T_find_steps : FnD P w kf.K mg base 4 "find_steps" 1 (phi_find_steps true)) (T_find_modulus : FnD P w kf.K mg base 4 "find_modulus" 1 phi1_find_modulus) (T_apply_moves : FnK P w kf.K mg base 4 "apply_moves" 2 "pins" phi1_apply_moves) (T_active_seats : FnK P w kf.K mg base 4 "active_seats" 1 "pins" phi1_active_seats) (T_find_difference : FnD P w kf.K mg base 4 "find_difference" 2 phi1_find_difference) (T_find_moves : FnD P w kf.K mg base 4 "find_moves" 2 phi1_find_moves) (T_min_moves : FnD P w kf.K mg base 5 "min_moves" 3 phi1_min_moves) (T_shortest_moves : FnD P w kf.K mg base 4 "shortest_moves" 3 phi1_shortest_moves) (T_find_arcs : FnD P w kf.K mg base 5 "find_arcs" 2 phi1_find_arcs) (T_find_pinned_difference : FnD P w kf.K mg base 4 "find_pinned_difference" 3 phi1_find_pinned_difference) (T_pinned_moves : FnD P w kf.K mg base 4 "pinned_moves" 3 phi1_pinned_moves) (T_count_pinned : FnD P w kf.K mg base 5 "count_pinned" 2 phi1_count_pinned) (T_rank_pinned : FnD P w kf.K mg base 5 "rank_pinned" 2 phi1_rank_pinned) (T_pinned_at : FnD P w kf.K mg base 5 "pinned_at" 3 phi1_pinned_at) (T_possible_marks : FnD P w kf.K mg base 5 "possible_marks" 3 phi1_possible_marks) (T_replay : FnD P w kf.K mg base 6 "replay" 2 phi1_replay) (T__law_below : FnM P w kf.K mg base 1 "_law_below" 1 phi__law_below) (T_Workbench_reaches : FnO P w kf.K mg base 4 "Workbench" "reaches" 1 phi1_Workbench_reaches) (T_Workbench : FnI P w kf.K mg base 4 "Workbench" "Workbench" 1 (phi_Workbench___init__ true)) (T_c_Workbench : ClsQ kf.K "Workbench" (cl_Workbench A_Workbench)) (n : Nat) (f : Addr) (A : Around) (outer : List Env) (s : Shared) (H : Hp) (E : XK) (hr : Room 11 (A.deeper (envOfC "law" (defScope s_law) s.heap.objs.size f (.ref c)))) :
    DSs (cxOf (L2.CX P w) P w kf.K mg base N_law "law" (defScope s_law) f (.ref c) A outer s H E) E n (defBody s_law).tail ir_law := by
  have nd := sc_law.nd
  have hu := hr.units
  have hu0 := hr.units0
  have hu2 := VS.un65 hr
  exact (dss_cons (dst_set nd (de_callM T__law_marks (hr.mono (by decide)) (takes_of rfl rfl rfl rfl) (pv 1) da_nil))
    (dss_cons (dst_unp rfl (DE.b (de_callM T__law_bad_marks (hr.mono (by decide)) (takes_of rfl rfl rfl rfl) (pv 1) da_nil)) (pgs_cons (pg_name (i := 3) nd rfl (by first | exact Or.inl rfl | exact Or.inr rfl)) (pgs_cons (pg_name (i := 4) nd rfl (by first | exact Or.inl rfl | exact Or.inr rfl)) pgs_nil)) (gs_nm (gs_nm gs_nil)))
    (dss_lams nd hT (pa_lamsC hT (pe_lamA TB rfl hT (show thkB N_law (defScope s_law) _ [] = true by decide +kernel) rfl)
    (pa_lamsC hT (pe_lamB TB rfl hT (show thkB N_law (defScope s_law) _ ["_law_a"] = true by decide +kernel) rfl)
    (pa_lamsC hT (pe_lamB TB rfl hT (show thkB N_law (defScope s_law) _ ["_law_b"] = true by decide +kernel) rfl)
    (pa_lamsN hT)))) (by decide)
    (dsl_more nd hT (pv 5) (pa_lamsC hT (pe_lamB TB rfl hT (show thkB N_law (defScope s_law) _ ["_law_c"] = true by decide +kernel) rfl)
    (pa_lamsC hT (pe_lamB TB rfl hT (show thkB N_law (defScope s_law) _ ["_law_e"] = true by decide +kernel) rfl)
    (pa_lamsN hT))) (by decide)
    (dsl_more nd hT (pv 5) (pa_lamsC hT (pe_lamB TB rfl hT (show thkB N_law (defScope s_law) _ ["_law_f"] = true by decide +kernel) rfl)
    (pa_lamsC hT (pe_lamB TB rfl hT (show thkB N_law (defScope s_law) _ ["_law_g"] = true by decide +kernel) rfl)
    (pa_lamsN hT))) (by decide)
    (dsl_more nd hT (pv 5) (pa_lamsC hT (pe_lamB TB rfl hT (show thkB N_law (defScope s_law) _ ["_law_h"] = true by decide +kernel) rfl)
    (pa_lamsC hT (pe_lamB TB rfl hT (show thkB N_law (defScope s_law) _ ["_law_i"] = true by decide +kernel) rfl)
    (pa_lamsN hT))) (by decide)
    (dsl_more nd hT (pv 5) (pa_lamsC hT (pe_lamB TB rfl hT (show thkB N_law (defScope s_law) _ ["_law_j"] = true by decide +kernel) rfl)
    (pa_lamsC hT (pe_lamB TB rfl hT (show thkB N_law (defScope s_law) _ ["_law_k"] = true by decide +kernel) rfl)
    (pa_lamsN hT))) (by decide)
    (dsl_more nd hT (pv 5) (pa_lamsC hT (pe_lamB TB rfl hT (show thkB N_law (defScope s_law) _ ["_law_m"] = true by decide +kernel) rfl)
    (pa_lamsC hT (pe_lamB TB rfl hT (show thkB N_law (defScope s_law) _ ["_law_n"] = true by decide +kernel) rfl)
    (pa_lamsN hT))) (by decide)
    (dsl_more nd hT (pv 5) (pa_lamsC hT (pe_lamB TB rfl hT (show thkB N_law (defScope s_law) _ ["_law_o"] = true by decide +kernel) rfl)
    (pa_lamsC hT (pe_lamB TB rfl hT (show thkB N_law (defScope s_law) _ ["_law_p"] = true by decide +kernel) rfl)
    (pa_lamsN hT))) (by decide)
    (dsl_more nd hT (pv 5) (pa_lamsC hT (pe_lamB TB rfl hT (show thkB N_law (defScope s_law) _ ["_law_q"] = true by decide +kernel) rfl)
    (pa_lamsC hT (pe_lamB TB rfl hT (show thkB N_law (defScope s_law) _ ["_law_r"] = true by decide +kernel) rfl)
    (pa_lamsN hT))) (by decide)
    (dsl_more nd hT (pv 5) (pa_lamsC hT (pe_lamB TB rfl hT (show thkB N_law (defScope s_law) _ ["_law_s"] = true by decide +kernel) rfl)
    (pa_lamsC hT (pe_lamB TB rfl hT (show thkB N_law (defScope s_law) _ ["_law_t"] = true by decide +kernel) rfl)
    (pa_lamsN hT))) (by decide)
    (dsl_more nd hT (pv 5) (pa_lamsC hT (pe_lamB TB rfl hT (show thkB N_law (defScope s_law) _ ["_law_u"] = true by decide +kernel) rfl)
    (pa_lamsC hT (pe_lamB TB rfl hT (show thkB N_law (defScope s_law) _ ["_law_v"] = true by decide +kernel) rfl)
    (pa_lamsN hT))) (by decide)
    (dsl_more nd hT (pv 5) (pa_lamsC hT (pe_lamB TB rfl hT (show thkB N_law (defScope s_law) _ ["_law_w"] = true by decide +kernel) rfl)
    (pa_lamsC hT (pe_lamB TB rfl hT (show thkB N_law (defScope s_law) _ ["_law_x"] = true by decide +kernel) rfl)
    (pa_lamsN hT))) (by decide)
    (dsl_if (dtl_all (pe_alls T__law_all_raise (hr.mono (by decide)) (pv 5) (dk_tup (dak_cons (dk_cst pe_str fun _ => .str _) (dak_cons (dk_var (pv 4)) dak_nil))) (ths_cons (thG_by (ir := .call (phi_find_steps true) (.cons (.var 3) (.nil))) (show thkB N_law (defScope s_law) _ [] = true by decide +kernel) rfl rfl (fun f c' cl A outer s H E hr => by
      have E_find_steps := T_find_steps.ex
      letI kfz : KF := k0 kf
      have hu := hr.units
      have hu0 := hr.units0
      have hu2 := VS.un65 hr
      have T_find_steps : FnD P w kf.K mg base 4 "find_steps" 1 (phi_find_steps true) := ⟨E_find_steps⟩
      exact (de_callD T_find_steps (hr.mono (by decide)) (takes_of rfl rfl rfl rfl) (da_cons (DE.f (de_var (pv 3))) da_nil))))
    (ths_cons (thG_by (ir := .call phi1_find_modulus (.cons (.var 3) (.nil))) (show thkB N_law (defScope s_law) _ ["_law_a"] = true by decide +kernel) rfl rfl (fun f c' cl A outer s H E hr => by
      have E_find_modulus := T_find_modulus.ex
      letI kfz : KF := k0 kf
      have hu := hr.units
      have hu0 := hr.units0
      have hu2 := VS.un65 hr
      have T_find_modulus : FnD P w kf.K mg base 4 "find_modulus" 1 phi1_find_modulus := ⟨E_find_modulus⟩
      exact (de_callD T_find_modulus (hr.mono (by decide)) (takes_of rfl rfl rfl rfl) (da_cons (DE.f (de_var (pv 3))) da_nil))))
    (ths_cons (thG_by (ir := .call phi1_apply_moves (appS (.cons (.var 3) (.cons (.lstE (.cons (.cst (.int 9)) (.nil))) (.nil))) (.cst .none))) (show thkB N_law (defScope s_law) _ ["_law_b"] = true by decide +kernel) rfl rfl (fun f c' cl A outer s H E hr => by
      have E_apply_moves := T_apply_moves.ex
      letI kfz : KF := k0 kf
      have hu := hr.units
      have hu0 := hr.units0
      have hu2 := VS.un65 hr
      have T_apply_moves : FnK P w kf.K mg base 4 "apply_moves" 2 "pins" phi1_apply_moves := ⟨E_apply_moves⟩
      exact (de_callK T_apply_moves (hr.mono (by decide)) (takes_of rfl rfl rfl rfl) (da_cons (DE.f (de_var (pv 3))) (da_cons (DE.f (de_lst (da_cons (DE.f (de_int)) da_nil))) da_nil)) (DE.f (de_non)))))
    (ths_cons (thG_by (ir := .call phi1_active_seats (appS (.cons (.var 3) (.nil)) (.cst .none))) (show thkB N_law (defScope s_law) _ ["_law_c"] = true by decide +kernel) rfl rfl (fun f c' cl A outer s H E hr => by
      have E_active_seats := T_active_seats.ex
      letI kfz : KF := k0 kf
      have hu := hr.units
      have hu0 := hr.units0
      have hu2 := VS.un65 hr
      have T_active_seats : FnK P w kf.K mg base 4 "active_seats" 1 "pins" phi1_active_seats := ⟨E_active_seats⟩
      exact (de_callK T_active_seats (hr.mono (by decide)) (takes_of rfl rfl rfl rfl) (da_cons (DE.f (de_var (pv 3))) da_nil) (DE.f (de_non)))))
    (ths_cons (thG_by (ir := .call phi1_find_difference (.cons (.var 3) (.cons (.cst .none) (.nil)))) (show thkB N_law (defScope s_law) _ ["_law_e"] = true by decide +kernel) rfl rfl (fun f c' cl A outer s H E hr => by
      have E_find_difference := T_find_difference.ex
      letI kfz : KF := k0 kf
      have hu := hr.units
      have hu0 := hr.units0
      have hu2 := VS.un65 hr
      have T_find_difference : FnD P w kf.K mg base 4 "find_difference" 2 phi1_find_difference := ⟨E_find_difference⟩
      exact (de_callD T_find_difference (hr.mono (by decide)) (takes_of rfl rfl rfl rfl) (da_cons (DE.f (de_var (pv 3))) (da_cons (DE.f (de_non)) da_nil)))))
    (ths_cons (thG_by (ir := .call phi1_find_difference (.cons (.var 2) (.cons (.var 3) (.nil)))) (show thkB N_law (defScope s_law) _ ["_law_f"] = true by decide +kernel) rfl rfl (fun f c' cl A outer s H E hr => by
      have E_find_difference := T_find_difference.ex
      letI kfz : KF := k0 kf
      have hu := hr.units
      have hu0 := hr.units0
      have hu2 := VS.un65 hr
      have T_find_difference : FnD P w kf.K mg base 4 "find_difference" 2 phi1_find_difference := ⟨E_find_difference⟩
      exact (de_callD T_find_difference (hr.mono (by decide)) (takes_of rfl rfl rfl rfl) (da_cons (DE.f (de_var (pv 2))) (da_cons (DE.f (de_var (pv 3))) da_nil)))))
    (ths_cons (thG_by (ir := .call phi1_find_moves (.cons (.var 3) (.cons (.cst .none) (.nil)))) (show thkB N_law (defScope s_law) _ ["_law_g"] = true by decide +kernel) rfl rfl (fun f c' cl A outer s H E hr => by
      have E_find_moves := T_find_moves.ex
      letI kfz : KF := k0 kf
      have hu := hr.units
      have hu0 := hr.units0
      have hu2 := VS.un65 hr
      have T_find_moves : FnD P w kf.K mg base 4 "find_moves" 2 phi1_find_moves := ⟨E_find_moves⟩
      exact (de_callD T_find_moves (hr.mono (by decide)) (takes_of rfl rfl rfl rfl) (da_cons (DE.f (de_var (pv 3))) (da_cons (DE.f (de_non)) da_nil)))))
    (ths_cons (thG_by (ir := .call phi1_find_moves (.cons (.var 2) (.cons (.var 3) (.nil)))) (show thkB N_law (defScope s_law) _ ["_law_h"] = true by decide +kernel) rfl rfl (fun f c' cl A outer s H E hr => by
      have E_find_moves := T_find_moves.ex
      letI kfz : KF := k0 kf
      have hu := hr.units
      have hu0 := hr.units0
      have hu2 := VS.un65 hr
      have T_find_moves : FnD P w kf.K mg base 4 "find_moves" 2 phi1_find_moves := ⟨E_find_moves⟩
      exact (de_callD T_find_moves (hr.mono (by decide)) (takes_of rfl rfl rfl rfl) (da_cons (DE.f (de_var (pv 2))) (da_cons (DE.f (de_var (pv 3))) da_nil)))))
    (ths_cons (thG_by (ir := .call phi1_min_moves (.cons (.var 3) (.cons (.cst .none) (.cons (.cst (.int 9)) (.nil))))) (show thkB N_law (defScope s_law) _ ["_law_i"] = true by decide +kernel) rfl rfl (fun f c' cl A outer s H E hr => by
      have E_min_moves := T_min_moves.ex
      letI kfz : KF := k0 kf
      have hu := hr.units
      have hu0 := hr.units0
      have hu2 := VS.un65 hr
      have T_min_moves : FnD P w kf.K mg base 5 "min_moves" 3 phi1_min_moves := ⟨E_min_moves⟩
      exact (de_callD T_min_moves (hr.mono (by decide)) (takes_of rfl rfl rfl rfl) (da_cons (DE.f (de_var (pv 3))) (da_cons (DE.f (de_non)) (da_cons (DE.f (de_int)) da_nil))))))
    (ths_cons (thG_by (ir := .call phi1_min_moves (.cons (.var 2) (.cons (.var 3) (.cons (.cst (.int 9)) (.nil))))) (show thkB N_law (defScope s_law) _ ["_law_j"] = true by decide +kernel) rfl rfl (fun f c' cl A outer s H E hr => by
      have E_min_moves := T_min_moves.ex
      letI kfz : KF := k0 kf
      have hu := hr.units
      have hu0 := hr.units0
      have hu2 := VS.un65 hr
      have T_min_moves : FnD P w kf.K mg base 5 "min_moves" 3 phi1_min_moves := ⟨E_min_moves⟩
      exact (de_callD T_min_moves (hr.mono (by decide)) (takes_of rfl rfl rfl rfl) (da_cons (DE.f (de_var (pv 2))) (da_cons (DE.f (de_var (pv 3))) (da_cons (DE.f (de_int)) da_nil))))))
    (ths_cons (thG_by (ir := .call phi1_shortest_moves (.cons (.var 2) (.cons (.var 3) (.cons (.cst (.int 9)) (.nil))))) (show thkB N_law (defScope s_law) _ ["_law_k"] = true by decide +kernel) rfl rfl (fun f c' cl A outer s H E hr => by
      have E_shortest_moves := T_shortest_moves.ex
      letI kfz : KF := k0 kf
      have hu := hr.units
      have hu0 := hr.units0
      have hu2 := VS.un65 hr
      have T_shortest_moves : FnD P w kf.K mg base 4 "shortest_moves" 3 phi1_shortest_moves := ⟨E_shortest_moves⟩
      exact (de_callD T_shortest_moves (hr.mono (by decide)) (takes_of rfl rfl rfl rfl) (da_cons (DE.f (de_var (pv 2))) (da_cons (DE.f (de_var (pv 3))) (da_cons (DE.f (de_int)) da_nil))))))
    (ths_cons (thG_by (ir := .call phi1_find_arcs (.cons (.var 3) (.cons (.cst .none) (.nil)))) (show thkB N_law (defScope s_law) _ ["_law_m"] = true by decide +kernel) rfl rfl (fun f c' cl A outer s H E hr => by
      have E_find_arcs := T_find_arcs.ex
      letI kfz : KF := k0 kf
      have hu := hr.units
      have hu0 := hr.units0
      have hu2 := VS.un65 hr
      have T_find_arcs : FnD P w kf.K mg base 5 "find_arcs" 2 phi1_find_arcs := ⟨E_find_arcs⟩
      exact (de_callD T_find_arcs (hr.mono (by decide)) (takes_of rfl rfl rfl rfl) (da_cons (DE.f (de_var (pv 3))) (da_cons (DE.f (de_non)) da_nil)))))
    (ths_cons (thG_by (ir := .call phi1_find_pinned_difference (.cons (.var 3) (.cons (.cst .none) (.cons (.cst .none) (.nil))))) (show thkB N_law (defScope s_law) _ ["_law_n"] = true by decide +kernel) rfl rfl (fun f c' cl A outer s H E hr => by
      have E_find_pinned_difference := T_find_pinned_difference.ex
      letI kfz : KF := k0 kf
      have hu := hr.units
      have hu0 := hr.units0
      have hu2 := VS.un65 hr
      have T_find_pinned_difference : FnD P w kf.K mg base 4 "find_pinned_difference" 3 phi1_find_pinned_difference := ⟨E_find_pinned_difference⟩
      exact (de_callD T_find_pinned_difference (hr.mono (by decide)) (takes_of rfl rfl rfl rfl) (da_cons (DE.f (de_var (pv 3))) (da_cons (DE.f (de_non)) (da_cons (DE.f (de_non)) da_nil))))))
    (ths_cons (thG_by (ir := .call phi1_find_pinned_difference (.cons (.var 2) (.cons (.var 3) (.cons (.cst .none) (.nil))))) (show thkB N_law (defScope s_law) _ ["_law_o"] = true by decide +kernel) rfl rfl (fun f c' cl A outer s H E hr => by
      have E_find_pinned_difference := T_find_pinned_difference.ex
      letI kfz : KF := k0 kf
      have hu := hr.units
      have hu0 := hr.units0
      have hu2 := VS.un65 hr
      have T_find_pinned_difference : FnD P w kf.K mg base 4 "find_pinned_difference" 3 phi1_find_pinned_difference := ⟨E_find_pinned_difference⟩
      exact (de_callD T_find_pinned_difference (hr.mono (by decide)) (takes_of rfl rfl rfl rfl) (da_cons (DE.f (de_var (pv 2))) (da_cons (DE.f (de_var (pv 3))) (da_cons (DE.f (de_non)) da_nil))))))
    (ths_cons (thG_by (ir := .call phi1_pinned_moves (.cons (.var 3) (.cons (.cst .none) (.cons (.cst .none) (.nil))))) (show thkB N_law (defScope s_law) _ ["_law_p"] = true by decide +kernel) rfl rfl (fun f c' cl A outer s H E hr => by
      have E_pinned_moves := T_pinned_moves.ex
      letI kfz : KF := k0 kf
      have hu := hr.units
      have hu0 := hr.units0
      have hu2 := VS.un65 hr
      have T_pinned_moves : FnD P w kf.K mg base 4 "pinned_moves" 3 phi1_pinned_moves := ⟨E_pinned_moves⟩
      exact (de_callD T_pinned_moves (hr.mono (by decide)) (takes_of rfl rfl rfl rfl) (da_cons (DE.f (de_var (pv 3))) (da_cons (DE.f (de_non)) (da_cons (DE.f (de_non)) da_nil))))))
    (ths_cons (thG_by (ir := .call phi1_pinned_moves (.cons (.var 2) (.cons (.var 3) (.cons (.cst .none) (.nil))))) (show thkB N_law (defScope s_law) _ ["_law_q"] = true by decide +kernel) rfl rfl (fun f c' cl A outer s H E hr => by
      have E_pinned_moves := T_pinned_moves.ex
      letI kfz : KF := k0 kf
      have hu := hr.units
      have hu0 := hr.units0
      have hu2 := VS.un65 hr
      have T_pinned_moves : FnD P w kf.K mg base 4 "pinned_moves" 3 phi1_pinned_moves := ⟨E_pinned_moves⟩
      exact (de_callD T_pinned_moves (hr.mono (by decide)) (takes_of rfl rfl rfl rfl) (da_cons (DE.f (de_var (pv 2))) (da_cons (DE.f (de_var (pv 3))) (da_cons (DE.f (de_non)) da_nil))))))
    (ths_cons (thG_by (ir := .call phi1_count_pinned (.cons (.var 3) (.cons (.cst .none) (.nil)))) (show thkB N_law (defScope s_law) _ ["_law_r"] = true by decide +kernel) rfl rfl (fun f c' cl A outer s H E hr => by
      have E_count_pinned := T_count_pinned.ex
      letI kfz : KF := k0 kf
      have hu := hr.units
      have hu0 := hr.units0
      have hu2 := VS.un65 hr
      have T_count_pinned : FnD P w kf.K mg base 5 "count_pinned" 2 phi1_count_pinned := ⟨E_count_pinned⟩
      exact (de_callD T_count_pinned (hr.mono (by decide)) (takes_of rfl rfl rfl rfl) (da_cons (DE.f (de_var (pv 3))) (da_cons (DE.f (de_non)) da_nil)))))
    (ths_cons (thG_by (ir := .call phi1_rank_pinned (.cons (.var 3) (.cons (.cst .none) (.nil)))) (show thkB N_law (defScope s_law) _ ["_law_s"] = true by decide +kernel) rfl rfl (fun f c' cl A outer s H E hr => by
      have E_rank_pinned := T_rank_pinned.ex
      letI kfz : KF := k0 kf
      have hu := hr.units
      have hu0 := hr.units0
      have hu2 := VS.un65 hr
      have T_rank_pinned : FnD P w kf.K mg base 5 "rank_pinned" 2 phi1_rank_pinned := ⟨E_rank_pinned⟩
      exact (de_callD T_rank_pinned (hr.mono (by decide)) (takes_of rfl rfl rfl rfl) (da_cons (DE.f (de_var (pv 3))) (da_cons (DE.f (de_non)) da_nil)))))
    (ths_cons (thG_by (ir := .call phi1_pinned_at (.cons (.var 3) (.cons (.cst .none) (.cons (.cst .none) (.nil))))) (show thkB N_law (defScope s_law) _ ["_law_t"] = true by decide +kernel) rfl rfl (fun f c' cl A outer s H E hr => by
      have E_pinned_at := T_pinned_at.ex
      letI kfz : KF := k0 kf
      have hu := hr.units
      have hu0 := hr.units0
      have hu2 := VS.un65 hr
      have T_pinned_at : FnD P w kf.K mg base 5 "pinned_at" 3 phi1_pinned_at := ⟨E_pinned_at⟩
      exact (de_callD T_pinned_at (hr.mono (by decide)) (takes_of rfl rfl rfl rfl) (da_cons (DE.f (de_var (pv 3))) (da_cons (DE.f (de_non)) (da_cons (DE.f (de_non)) da_nil))))))
    (ths_cons (thG_by (ir := .call phi1_possible_marks (.cons (.var 3) (.cons (.cst .none) (.cons (.cst .none) (.nil))))) (show thkB N_law (defScope s_law) _ ["_law_u"] = true by decide +kernel) rfl rfl (fun f c' cl A outer s H E hr => by
      have E_possible_marks := T_possible_marks.ex
      letI kfz : KF := k0 kf
      have hu := hr.units
      have hu0 := hr.units0
      have hu2 := VS.un65 hr
      have T_possible_marks : FnD P w kf.K mg base 5 "possible_marks" 3 phi1_possible_marks := ⟨E_possible_marks⟩
      exact (de_callD T_possible_marks (hr.mono (by decide)) (takes_of rfl rfl rfl rfl) (da_cons (DE.f (de_var (pv 3))) (da_cons (DE.f (de_non)) (da_cons (DE.f (de_non)) da_nil))))))
    (ths_cons (thG_by (ir := .mkO "Workbench" (iniO (phi_Workbench___init__ true)) (.cons (.var 3) (.nil))) (show thkB N_law (defScope s_law) _ ["_law_v"] = true by decide +kernel) rfl rfl (fun f c' cl A outer s H E hr => by
      have E_Workbench := T_Workbench.ex
      have E_Workbench := T_Workbench.ex
      have E_c_Workbench := T_c_Workbench.ex
      letI kfz : KF := k0 kf
      have hu := hr.units
      have hu0 := hr.units0
      have hu2 := VS.un65 hr
      have T_Workbench : FnI P w kf.K mg base 4 "Workbench" "Workbench" 1 (phi_Workbench___init__ true) := ⟨E_Workbench⟩
      have T_Workbench : FnI P w kf.K mg base 4 "Workbench" "Workbench" 1 (phi_Workbench___init__ true) := ⟨E_Workbench⟩
      have T_c_Workbench : ClsQ kf.K "Workbench" (cl_Workbench A_Workbench) := ⟨E_c_Workbench⟩
      exact (de_mkO T_Workbench (hr.mono (by decide)) (takes_of rfl rfl rfl rfl) (da_cons (DE.f (de_var (pv 3))) da_nil))))
    (ths_cons (thG_by (ir := .call phi1_replay (.cons (.var 3) (.cons (.cst .none) (.nil)))) (show thkB N_law (defScope s_law) _ ["_law_w"] = true by decide +kernel) rfl rfl (fun f c' cl A outer s H E hr => by
      have E_replay := T_replay.ex
      letI kfz : KF := k0 kf
      have hu := hr.units
      have hu0 := hr.units0
      have hu2 := VS.un65 hr
      have T_replay : FnD P w kf.K mg base 6 "replay" 2 phi1_replay := ⟨E_replay⟩
      exact (de_callD T_replay (hr.mono (by decide)) (takes_of rfl rfl rfl rfl) (da_cons (DE.f (de_var (pv 3))) (da_cons (DE.f (de_non)) da_nil)))))
    (ths_cons (thG_by (ir := .callT "Workbench" phi1_Workbench_reaches (.mkO "Workbench" (iniO (phi_Workbench___init__ true)) (.cons (.var 2) (.nil))) (.cons (.var 3) (.nil))) (show thkB N_law (defScope s_law) _ ["_law_x"] = true by decide +kernel) rfl rfl (fun f c' cl A outer s H E hr => by
      have E_Workbench_reaches := T_Workbench_reaches.ex
      have E_Workbench := T_Workbench.ex
      have E_Workbench := T_Workbench.ex
      have E_c_Workbench := T_c_Workbench.ex
      letI kfz : KF := k0 kf
      have hu := hr.units
      have hu0 := hr.units0
      have hu2 := VS.un65 hr
      have T_Workbench_reaches : FnO P w kf.K mg base 4 "Workbench" "reaches" 1 phi1_Workbench_reaches := ⟨E_Workbench_reaches⟩
      have T_Workbench : FnI P w kf.K mg base 4 "Workbench" "Workbench" 1 (phi_Workbench___init__ true) := ⟨E_Workbench⟩
      have T_Workbench : FnI P w kf.K mg base 4 "Workbench" "Workbench" 1 (phi_Workbench___init__ true) := ⟨E_Workbench⟩
      have T_c_Workbench : ClsQ kf.K "Workbench" (cl_Workbench A_Workbench) := ⟨E_c_Workbench⟩
      exact (de_callT T_Workbench_reaches (hr.mono (by decide)) (takes_of rfl rfl rfl rfl) (de_mkO T_Workbench (hr.mono (by decide)) (takes_of rfl rfl rfl rfl) (da_cons (DE.f (de_var (pv 2))) da_nil)) (da_cons (DE.f (de_var (pv 3))) da_nil))))
    ths_nil))))))))))))))))))))))))) (dss_cons (dst_ret (de_bl))
    dss_nil) dss_nil
    (dss_cons (dst_ret (de_eq hu (DE.l (de_idx (DE.l (de_callD T_find_steps (hr.mono (by decide)) (takes_of rfl rfl rfl rfl) (da_cons (DE.f (de_add (DE.l (de_tup (da_cons (DE.f (de_int)) (da_cons (DE.f (de_neg (DE.b (de_int)))) (da_cons (DE.f (de_int)) da_nil))))) (DE.b (de_mul (DE.l (de_tup (da_cons (DE.f (de_int)) da_nil))) (DE.b (de_callM T__law_below (hr.mono (by decide)) (takes_of rfl rfl rfl rfl) (pv 1) (da_cons (DE.f (de_int)) da_nil))))))) da_nil))) (DE.b (de_int)))) (DE.b (de_neg (DE.b (de_int))))))
    dss_nil)))))))))))))))
theorem lw {A_Workbench : Addr} {fa fR c0 P0 : Addr} {fdR : FuncData} {oc kV doc pm ct : Value} {od an : Option Addr} {osl : Array (Option Value)} (lk : kf.K.lookup fa = some ⟨oc, od, .func (PySem.W.fnOf "law" "law" (defArgs s_law) (defBody s_law) (defScope s_law) .none kV doc pm an (.ref c0) ct), osl⟩) (hcd : PySem.W.codeIn kf.K (.ref c0) "law" = true) (TB : LamX.TabB base mg c0 P0) (hT : kf.T = [(P0, lamQ)]) (FR : FnOk P w kf.K mg base (L2.CX P w) 1 fR fdR ["_law_script", "_law_salt"] (spRand kf.K)) (mR : mg "_law_random" = some (.ref fR)) (kR : PySem.W.keepIn kf.K (.ref fR) = true) (bR : Binds kf.K fdR ["_law_script", "_law_salt"] []) (T__law_marks : FnM P w kf.K mg base 2 "_law_marks" 0 phi__law_marks) (T__law_bad_marks : FnM P w kf.K mg base 3 "_law_bad_marks" 0 phi__law_bad_marks) (T__law_all_raise : FnAll P w kf.K mg base 11 8 "_law_all_raise" eta_law) (T_find_steps : FnD P w kf.K mg base 4 "find_steps" 1 (phi_find_steps true)) (T_find_modulus : FnD P w kf.K mg base 4 "find_modulus" 1 phi1_find_modulus) (T_apply_moves : FnK P w kf.K mg base 4 "apply_moves" 2 "pins" phi1_apply_moves) (T_active_seats : FnK P w kf.K mg base 4 "active_seats" 1 "pins" phi1_active_seats) (T_find_difference : FnD P w kf.K mg base 4 "find_difference" 2 phi1_find_difference) (T_find_moves : FnD P w kf.K mg base 4 "find_moves" 2 phi1_find_moves) (T_min_moves : FnD P w kf.K mg base 5 "min_moves" 3 phi1_min_moves) (T_shortest_moves : FnD P w kf.K mg base 4 "shortest_moves" 3 phi1_shortest_moves) (T_find_arcs : FnD P w kf.K mg base 5 "find_arcs" 2 phi1_find_arcs) (T_find_pinned_difference : FnD P w kf.K mg base 4 "find_pinned_difference" 3 phi1_find_pinned_difference) (T_pinned_moves : FnD P w kf.K mg base 4 "pinned_moves" 3 phi1_pinned_moves) (T_count_pinned : FnD P w kf.K mg base 5 "count_pinned" 2 phi1_count_pinned) (T_rank_pinned : FnD P w kf.K mg base 5 "rank_pinned" 2 phi1_rank_pinned) (T_pinned_at : FnD P w kf.K mg base 5 "pinned_at" 3 phi1_pinned_at) (T_possible_marks : FnD P w kf.K mg base 5 "possible_marks" 3 phi1_possible_marks) (T_replay : FnD P w kf.K mg base 6 "replay" 2 phi1_replay) (T__law_below : FnM P w kf.K mg base 1 "_law_below" 1 phi__law_below) (T_Workbench_reaches : FnO P w kf.K mg base 4 "Workbench" "reaches" 1 phi1_Workbench_reaches) (T_Workbench : FnI P w kf.K mg base 4 "Workbench" "Workbench" 1 (phi_Workbench___init__ true)) (T_c_Workbench : ClsQ kf.K "Workbench" (cl_Workbench A_Workbench))
    (plain : ∀ ns : List Int, ns.length ≤ 63 → ∃ n en', VS.execs n ir_law (lawEn 4 ns 1) = .ok (.rt (.fr (.bool true)) en')) : FnOk P w kf.K mg base (L2.CX P w) 12 fa (PySem.W.fnOf "law" "law" (defArgs s_law) (defBody s_law) (defScope s_law) .none kV doc pm an (.ref c0) ct) ["_law_script"] (spLawT kf.K kf.T) := by
  refine ok_lawC (st0 := (defBody s_law).head (by decide +kernel)) (rest := (defBody s_law).tail) (b := ir_law) lk hcd sc_law (m := 4) rfl (by rfl) (z := 1) (E' := fun E σ => WE (wE E) σ) ⟨by decide, by decide⟩ (fun A outer s H E hr => ?_) (fun n A outer s H E hr => bd_law TB hT T__law_marks T__law_bad_marks T__law_all_raise T_find_steps T_find_modulus T_apply_moves T_active_seats T_find_difference T_find_moves T_min_moves T_shortest_moves T_find_arcs T_find_pinned_difference T_pinned_moves T_count_pinned T_rank_pinned T_pinned_at T_possible_marks T_replay T__law_below T_Workbench_reaches T_Workbench T_c_Workbench n fa A outer s H E hr) plain
  have nd := sc_law.nd
  exact ps_set (i := 1) nd rfl (by first | exact Or.inl rfl | exact Or.inr rfl) (pe_callSD FR (hr.mono (by decide)) (by rfl) mR kR bR .nil (fun σ => passAt (takes_of rfl rfl rfl rfl) σ) (pa_cons (pv 0) (pa_cons pe_int pa_nil)))
end
theorem all_mk {l : PySem.W.OpenLaw} {w : World} {K : PySem.W.Frag} {h : Heap} {mg : Str → Option Value} {fa : Addr} (X : K.In h) (G : h.Ns mainGlobals mg) (hfa : mg "law" = some (.ref fa)) (own : LamX.OwnTab K fa h)
    {A_Workbench : Addr}
    {f0 : Addr} {od0 an0 : Option Addr} {sl0 : Array (Option Value)} {oc0 kV0 dc0 pm0 cd0 ct0 : Value}
    {f1 : Addr} {od1 an1 : Option Addr} {sl1 : Array (Option Value)} {oc1 kV1 dc1 pm1 cd1 ct1 : Value}
    {f2 : Addr} {od2 an2 : Option Addr} {sl2 : Array (Option Value)} {oc2 kV2 dc2 pm2 cd2 ct2 : Value}
    {f3 : Addr} {od3 an3 : Option Addr} {sl3 : Array (Option Value)} {oc3 kV3 dc3 pm3 cd3 ct3 : Value}
    {f4 : Addr} {od4 an4 : Option Addr} {sl4 : Array (Option Value)} {oc4 kV4 dc4 pm4 cd4 ct4 : Value}
    {f5 : Addr} {od5 an5 : Option Addr} {sl5 : Array (Option Value)} {oc5 kV5 dc5 pm5 cd5 ct5 : Value}
    {f6 : Addr} {od6 an6 : Option Addr} {sl6 : Array (Option Value)} {oc6 kV6 dc6 pm6 cd6 ct6 : Value}
    {f7 : Addr} {od7 an7 : Option Addr} {sl7 : Array (Option Value)} {oc7 kV7 dc7 pm7 cd7 ct7 : Value}
    {f8 : Addr} {od8 an8 : Option Addr} {sl8 : Array (Option Value)} {oc8 kV8 dc8 pm8 cd8 ct8 : Value}
    {f9 : Addr} {od9 an9 : Option Addr} {sl9 : Array (Option Value)} {oc9 kV9 dc9 pm9 cd9 ct9 : Value}
    {f10 : Addr} {od10 an10 : Option Addr} {sl10 : Array (Option Value)} {oc10 dc10 pm10 cd10 ct10 : Value} {D10 T10 : Addr} {z10 : Nat} {st10 : Array (Option Value)}
    {f11 : Addr} {od11 an11 : Option Addr} {sl11 : Array (Option Value)} {oc11 kV11 dc11 pm11 cd11 ct11 : Value}
    {f12 : Addr} {od12 an12 : Option Addr} {sl12 : Array (Option Value)} {oc12 dc12 pm12 cd12 ct12 : Value} {D12 T12 : Addr} {z12 : Nat} {st12 : Array (Option Value)}
    {f13 : Addr} {od13 an13 : Option Addr} {sl13 : Array (Option Value)} {oc13 kV13 dc13 pm13 cd13 ct13 : Value}
    {f14 : Addr} {od14 an14 : Option Addr} {sl14 : Array (Option Value)} {oc14 kV14 dc14 pm14 cd14 ct14 : Value}
    {f15 : Addr} {od15 an15 : Option Addr} {sl15 : Array (Option Value)} {oc15 kV15 dc15 pm15 cd15 ct15 : Value}
    {f16 : Addr} {od16 an16 : Option Addr} {sl16 : Array (Option Value)} {oc16 kV16 dc16 pm16 cd16 ct16 : Value}
    {f17 : Addr} {od17 an17 : Option Addr} {sl17 : Array (Option Value)} {oc17 kV17 dc17 pm17 cd17 ct17 : Value}
    {f18 : Addr} {od18 an18 : Option Addr} {sl18 : Array (Option Value)} {oc18 kV18 dc18 pm18 cd18 ct18 : Value}
    {f19 : Addr} {od19 an19 : Option Addr} {sl19 : Array (Option Value)} {oc19 kV19 dc19 pm19 cd19 ct19 : Value}
    {f20 : Addr} {od20 an20 : Option Addr} {sl20 : Array (Option Value)} {oc20 kV20 dc20 pm20 cd20 ct20 : Value}
    {f21 : Addr} {od21 an21 : Option Addr} {sl21 : Array (Option Value)} {oc21 kV21 dc21 pm21 cd21 ct21 : Value}
    {f22 : Addr} {od22 an22 : Option Addr} {sl22 : Array (Option Value)} {oc22 kV22 dc22 pm22 cd22 ct22 : Value}
    {f23 : Addr} {od23 an23 : Option Addr} {sl23 : Array (Option Value)} {oc23 kV23 dc23 pm23 cd23 ct23 : Value}
    {f24 : Addr} {od24 an24 : Option Addr} {sl24 : Array (Option Value)} {oc24 kV24 dc24 pm24 cd24 ct24 : Value}
    {f25 : Addr} {od25 an25 : Option Addr} {sl25 : Array (Option Value)} {oc25 kV25 dc25 pm25 cd25 ct25 : Value}
    {f26 : Addr} {od26 an26 : Option Addr} {sl26 : Array (Option Value)} {oc26 kV26 dc26 pm26 cd26 ct26 : Value}
    {f27 : Addr} {od27 an27 : Option Addr} {sl27 : Array (Option Value)} {oc27 kV27 dc27 pm27 cd27 ct27 : Value}
    {f28 : Addr} {od28 an28 : Option Addr} {sl28 : Array (Option Value)} {oc28 kV28 dc28 pm28 cd28 ct28 : Value}
    {tk_MIN_SEATS : Tok}
    {tk_MAX_SEATS : Tok}
    {tk_MAX_MARK : Tok}
    {A_MarkError : Addr}
    {A_InvalidPins : Addr}
    {A_NotReachable : Addr}
    {A_TooFar : Addr}
    {A_InvalidLimit : Addr}
    {A_InvalidIndex : Addr}
    {A_TooManyRings : Addr}
    {A_InvalidTimes : Addr}
    {A_Contradiction : Addr}
    {A_InvalidName : Addr}
    {A_UnknownName : Addr}
    {A_InvalidSign : Addr}
    {A_InvalidAmount : Addr}
    {A_InvalidMarks : Addr}
    {A_InvalidSteps : Addr}
    {A_InvalidMove : Addr}
    {A_InvalidOperation : Addr}
    {A_InvalidText : Addr}
    {nm_InvalidMarks q_InvalidMarks : Str} {N_InvalidMarks : Addr} {bs_InvalidMarks bm_InvalidMarks sub_InvalidMarks : List Value} {sn_InvalidMarks : List Str} {ab_InvalidMarks : Bool} {col_InvalidMarks : Option Bool} {dd_InvalidMarks : Option Addr} {k0_InvalidMarks k1_InvalidMarks k2_InvalidMarks k3_InvalidMarks k5_InvalidMarks : Option Value}
    {I_InvalidMarks : Addr} {iod_InvalidMarks ian_InvalidMarks : Option Addr} {isl_InvalidMarks : Array (Option Value)} {ioc_InvalidMarks ikV_InvalidMarks idc_InvalidMarks ipm_InvalidMarks icd_InvalidMarks ict_InvalidMarks : Value}
    {cL P0 : Addr} {eC : Value} {ddC : Option Addr} {vsC : Array Value} {slC : Array (Option Value)}
    (y_Workbench : PySem.W.nsIn K mainGlobals "Workbench" = some (some (.ref A_Workbench)))
    (cp_Workbench : PySem.W.plainGet K A_Workbench Str.empty = true)
    (ch_Workbench : PySem.W.hasDictIn K A_Workbench = true)
    (co_Workbench : PySem.W.plainOver K A_Workbench = true)
    (cs_Workbench : PySem.W.findIn K (.ref A_Workbench) "__setattr__" = some (some (.builtin "object.__setattr__")))
    (cm_Workbench : PySem.W.makesIn K A_Workbench = true)
    (ck_Workbench : PySem.W.keepIn K (.ref A_Workbench) = true)
    (cn_Workbench_state : PySem.W.findIn K (.ref A_Workbench) "state" = some none)
    (cn_Workbench_past : PySem.W.findIn K (.ref A_Workbench) "past" = some none)
    (cn_Workbench_undone : PySem.W.findIn K (.ref A_Workbench) "undone" = some none)
    (cn_Workbench_saved : PySem.W.findIn K (.ref A_Workbench) "saved" = some none)
    (a0 : PySem.W.nsIn K mainGlobals "_law_random" = some (some (.ref f0))) (l0 : K.lookup f0 = some ⟨oc0, od0, .func (PySem.W.fnOf "_law_random" "_law_random" (defArgs s__law_random) (defBody s__law_random) (defScope s__law_random) .none kV0 dc0 pm0 an0 cd0 ct0), sl0⟩) (c0 : PySem.W.codeIn K cd0 "_law_random" = true) (k0 : PySem.W.keepIn K (.ref f0) = true)
    (a1 : PySem.W.nsIn K mainGlobals "_law_below" = some (some (.ref f1))) (l1 : K.lookup f1 = some ⟨oc1, od1, .func (PySem.W.fnOf "_law_below" "_law_below" (defArgs s__law_below) (defBody s__law_below) (defScope s__law_below) .none kV1 dc1 pm1 an1 cd1 ct1), sl1⟩) (c1 : PySem.W.codeIn K cd1 "_law_below" = true) (k1 : PySem.W.keepIn K (.ref f1) = true)
    (a2 : PySem.W.nsIn K mainGlobals "_law_marks" = some (some (.ref f2))) (l2 : K.lookup f2 = some ⟨oc2, od2, .func (PySem.W.fnOf "_law_marks" "_law_marks" (defArgs s__law_marks) (defBody s__law_marks) (defScope s__law_marks) .none kV2 dc2 pm2 an2 cd2 ct2), sl2⟩) (c2 : PySem.W.codeIn K cd2 "_law_marks" = true) (k2 : PySem.W.keepIn K (.ref f2) = true)
    (a3 : PySem.W.nsIn K mainGlobals "_law_bad_marks" = some (some (.ref f3))) (l3 : K.lookup f3 = some ⟨oc3, od3, .func (PySem.W.fnOf "_law_bad_marks" "_law_bad_marks" (defArgs s__law_bad_marks) (defBody s__law_bad_marks) (defScope s__law_bad_marks) .none kV3 dc3 pm3 an3 cd3 ct3), sl3⟩) (c3 : PySem.W.codeIn K cd3 "_law_bad_marks" = true) (k3 : PySem.W.keepIn K (.ref f3) = true)
    (a4 : PySem.W.nsIn K mainGlobals "_law_error_of" = some (some (.ref f4))) (l4 : K.lookup f4 = some ⟨oc4, od4, .func (PySem.W.fnOf "_law_error_of" "_law_error_of" (defArgs s__law_error_of) (defBody s__law_error_of) (defScope s__law_error_of) .none kV4 dc4 pm4 an4 cd4 ct4), sl4⟩) (c4 : PySem.W.codeIn K cd4 "_law_error_of" = true) (k4 : PySem.W.keepIn K (.ref f4) = true)
    (a5 : PySem.W.nsIn K mainGlobals "is_int_in" = some (some (.ref f5))) (l5 : K.lookup f5 = some ⟨oc5, od5, .func (PySem.W.fnOf "is_int_in" "is_int_in" (defArgs s_is_int_in) (defBody s_is_int_in) (defScope s_is_int_in) .none kV5 dc5 pm5 an5 cd5 ct5), sl5⟩) (c5 : PySem.W.codeIn K cd5 "is_int_in" = true) (k5 : PySem.W.keepIn K (.ref f5) = true)
    (a6 : PySem.W.nsIn K mainGlobals "check_marks" = some (some (.ref f6))) (l6 : K.lookup f6 = some ⟨oc6, od6, .func (PySem.W.fnOf "check_marks" "check_marks" (defArgs s_check_marks) (defBody s_check_marks) (defScope s_check_marks) .none kV6 dc6 pm6 an6 cd6 ct6), sl6⟩) (c6 : PySem.W.codeIn K cd6 "check_marks" = true) (k6 : PySem.W.keepIn K (.ref f6) = true)
    (a7 : PySem.W.nsIn K mainGlobals "steps_of" = some (some (.ref f7))) (l7 : K.lookup f7 = some ⟨oc7, od7, .func (PySem.W.fnOf "steps_of" "steps_of" (defArgs s_steps_of) (defBody s_steps_of) (defScope s_steps_of) .none kV7 dc7 pm7 an7 cd7 ct7), sl7⟩) (c7 : PySem.W.codeIn K cd7 "steps_of" = true) (k7 : PySem.W.keepIn K (.ref f7) = true)
    (a8 : PySem.W.nsIn K mainGlobals "find_steps" = some (some (.ref f8))) (l8 : K.lookup f8 = some ⟨oc8, od8, .func (PySem.W.fnOf "find_steps" "find_steps" (defArgs s_find_steps) (defBody s_find_steps) (defScope s_find_steps) .none kV8 dc8 pm8 an8 cd8 ct8), sl8⟩) (c8 : PySem.W.codeIn K cd8 "find_steps" = true) (k8 : PySem.W.keepIn K (.ref f8) = true)
    (a9 : PySem.W.nsIn K mainGlobals "find_modulus" = some (some (.ref f9))) (l9 : K.lookup f9 = some ⟨oc9, od9, .func (PySem.W.fnOf "find_modulus" "find_modulus" (defArgs s_find_modulus) (defBody s_find_modulus) (defScope s_find_modulus) .none kV9 dc9 pm9 an9 cd9 ct9), sl9⟩) (c9 : PySem.W.codeIn K cd9 "find_modulus" = true) (k9 : PySem.W.keepIn K (.ref f9) = true)
    (a10 : PySem.W.nsIn K mainGlobals "apply_moves" = some (some (.ref f10))) (l10 : K.lookup f10 = some ⟨oc10, od10, .func (PySem.W.fnOf "apply_moves" "apply_moves" (defArgs s_apply_moves) (defBody s_apply_moves) (defScope s_apply_moves) .none (.ref D10) dc10 pm10 an10 cd10 ct10), sl10⟩) (c10 : PySem.W.codeIn K cd10 "apply_moves" = true) (k10 : PySem.W.keepIn K (.ref f10) = true)
    (d10 : PySem.W.nsIn K D10 "pins" = some (some (.ref T10))) (t10 : K.lookup T10 = some ⟨.type "tuple", none, .seq #[] z10, st10⟩)
    (m11 : PySem.W.findIn K (.ref A_Workbench) "reaches" = some (some (.ref f11))) (n11 : PySem.W.isFn K (.ref f11) = true) (l11 : K.lookup f11 = some ⟨oc11, od11, .func (PySem.W.fnOf "reaches" "Workbench.reaches" (defArgs s_Workbench_reaches) (defBody s_Workbench_reaches) (defScope s_Workbench_reaches) .none kV11 dc11 pm11 an11 cd11 ct11), sl11⟩) (c11 : PySem.W.codeIn K cd11 "Workbench.reaches" = true) (k11 : PySem.W.keepIn K (.ref f11) = true)
    (a12 : PySem.W.nsIn K mainGlobals "active_seats" = some (some (.ref f12))) (l12 : K.lookup f12 = some ⟨oc12, od12, .func (PySem.W.fnOf "active_seats" "active_seats" (defArgs s_active_seats) (defBody s_active_seats) (defScope s_active_seats) .none (.ref D12) dc12 pm12 an12 cd12 ct12), sl12⟩) (c12 : PySem.W.codeIn K cd12 "active_seats" = true) (k12 : PySem.W.keepIn K (.ref f12) = true)
    (d12 : PySem.W.nsIn K D12 "pins" = some (some (.ref T12))) (t12 : K.lookup T12 = some ⟨.type "tuple", none, .seq #[] z12, st12⟩)
    (a13 : PySem.W.nsIn K mainGlobals "find_difference" = some (some (.ref f13))) (l13 : K.lookup f13 = some ⟨oc13, od13, .func (PySem.W.fnOf "find_difference" "find_difference" (defArgs s_find_difference) (defBody s_find_difference) (defScope s_find_difference) .none kV13 dc13 pm13 an13 cd13 ct13), sl13⟩) (c13 : PySem.W.codeIn K cd13 "find_difference" = true) (k13 : PySem.W.keepIn K (.ref f13) = true)
    (a14 : PySem.W.nsIn K mainGlobals "find_moves" = some (some (.ref f14))) (l14 : K.lookup f14 = some ⟨oc14, od14, .func (PySem.W.fnOf "find_moves" "find_moves" (defArgs s_find_moves) (defBody s_find_moves) (defScope s_find_moves) .none kV14 dc14 pm14 an14 cd14 ct14), sl14⟩) (c14 : PySem.W.codeIn K cd14 "find_moves" = true) (k14 : PySem.W.keepIn K (.ref f14) = true)
    (a15 : PySem.W.nsIn K mainGlobals "shortest_moves" = some (some (.ref f15))) (l15 : K.lookup f15 = some ⟨oc15, od15, .func (PySem.W.fnOf "shortest_moves" "shortest_moves" (defArgs s_shortest_moves) (defBody s_shortest_moves) (defScope s_shortest_moves) .none kV15 dc15 pm15 an15 cd15 ct15), sl15⟩) (c15 : PySem.W.codeIn K cd15 "shortest_moves" = true) (k15 : PySem.W.keepIn K (.ref f15) = true)
    (a16 : PySem.W.nsIn K mainGlobals "min_moves" = some (some (.ref f16))) (l16 : K.lookup f16 = some ⟨oc16, od16, .func (PySem.W.fnOf "min_moves" "min_moves" (defArgs s_min_moves) (defBody s_min_moves) (defScope s_min_moves) .none kV16 dc16 pm16 an16 cd16 ct16), sl16⟩) (c16 : PySem.W.codeIn K cd16 "min_moves" = true) (k16 : PySem.W.keepIn K (.ref f16) = true)
    (a17 : PySem.W.nsIn K mainGlobals "check_pinned" = some (some (.ref f17))) (l17 : K.lookup f17 = some ⟨oc17, od17, .func (PySem.W.fnOf "check_pinned" "check_pinned" (defArgs s_check_pinned) (defBody s_check_pinned) (defScope s_check_pinned) .none kV17 dc17 pm17 an17 cd17 ct17), sl17⟩) (c17 : PySem.W.codeIn K cd17 "check_pinned" = true) (k17 : PySem.W.keepIn K (.ref f17) = true)
    (a18 : PySem.W.nsIn K mainGlobals "find_arcs" = some (some (.ref f18))) (l18 : K.lookup f18 = some ⟨oc18, od18, .func (PySem.W.fnOf "find_arcs" "find_arcs" (defArgs s_find_arcs) (defBody s_find_arcs) (defScope s_find_arcs) .none kV18 dc18 pm18 an18 cd18 ct18), sl18⟩) (c18 : PySem.W.codeIn K cd18 "find_arcs" = true) (k18 : PySem.W.keepIn K (.ref f18) = true)
    (a19 : PySem.W.nsIn K mainGlobals "find_pinned_difference" = some (some (.ref f19))) (l19 : K.lookup f19 = some ⟨oc19, od19, .func (PySem.W.fnOf "find_pinned_difference" "find_pinned_difference" (defArgs s_find_pinned_difference) (defBody s_find_pinned_difference) (defScope s_find_pinned_difference) .none kV19 dc19 pm19 an19 cd19 ct19), sl19⟩) (c19 : PySem.W.codeIn K cd19 "find_pinned_difference" = true) (k19 : PySem.W.keepIn K (.ref f19) = true)
    (a20 : PySem.W.nsIn K mainGlobals "pinned_moves" = some (some (.ref f20))) (l20 : K.lookup f20 = some ⟨oc20, od20, .func (PySem.W.fnOf "pinned_moves" "pinned_moves" (defArgs s_pinned_moves) (defBody s_pinned_moves) (defScope s_pinned_moves) .none kV20 dc20 pm20 an20 cd20 ct20), sl20⟩) (c20 : PySem.W.codeIn K cd20 "pinned_moves" = true) (k20 : PySem.W.keepIn K (.ref f20) = true)
    (a21 : PySem.W.nsIn K mainGlobals "count_pinned" = some (some (.ref f21))) (l21 : K.lookup f21 = some ⟨oc21, od21, .func (PySem.W.fnOf "count_pinned" "count_pinned" (defArgs s_count_pinned) (defBody s_count_pinned) (defScope s_count_pinned) .none kV21 dc21 pm21 an21 cd21 ct21), sl21⟩) (c21 : PySem.W.codeIn K cd21 "count_pinned" = true) (k21 : PySem.W.keepIn K (.ref f21) = true)
    (a22 : PySem.W.nsIn K mainGlobals "rank_pinned" = some (some (.ref f22))) (l22 : K.lookup f22 = some ⟨oc22, od22, .func (PySem.W.fnOf "rank_pinned" "rank_pinned" (defArgs s_rank_pinned) (defBody s_rank_pinned) (defScope s_rank_pinned) .none kV22 dc22 pm22 an22 cd22 ct22), sl22⟩) (c22 : PySem.W.codeIn K cd22 "rank_pinned" = true) (k22 : PySem.W.keepIn K (.ref f22) = true)
    (a23 : PySem.W.nsIn K mainGlobals "pinned_at" = some (some (.ref f23))) (l23 : K.lookup f23 = some ⟨oc23, od23, .func (PySem.W.fnOf "pinned_at" "pinned_at" (defArgs s_pinned_at) (defBody s_pinned_at) (defScope s_pinned_at) .none kV23 dc23 pm23 an23 cd23 ct23), sl23⟩) (c23 : PySem.W.codeIn K cd23 "pinned_at" = true) (k23 : PySem.W.keepIn K (.ref f23) = true)
    (a24 : PySem.W.nsIn K mainGlobals "possible_marks" = some (some (.ref f24))) (l24 : K.lookup f24 = some ⟨oc24, od24, .func (PySem.W.fnOf "possible_marks" "possible_marks" (defArgs s_possible_marks) (defBody s_possible_marks) (defScope s_possible_marks) .none kV24 dc24 pm24 an24 cd24 ct24), sl24⟩) (c24 : PySem.W.codeIn K cd24 "possible_marks" = true) (k24 : PySem.W.keepIn K (.ref f24) = true)
    (m25 : PySem.W.findIn K (.ref A_Workbench) "__init__" = some (some (.ref f25))) (n25 : PySem.W.isFn K (.ref f25) = true) (l25 : K.lookup f25 = some ⟨oc25, od25, .func (PySem.W.fnOf "__init__" "Workbench.__init__" (defArgs s_Workbench___init__) (defBody s_Workbench___init__) (defScope s_Workbench___init__) .none kV25 dc25 pm25 an25 cd25 ct25), sl25⟩) (c25 : PySem.W.codeIn K cd25 "Workbench.__init__" = true) (k25 : PySem.W.keepIn K (.ref f25) = true)
    (a26 : PySem.W.nsIn K mainGlobals "replay" = some (some (.ref f26))) (l26 : K.lookup f26 = some ⟨oc26, od26, .func (PySem.W.fnOf "replay" "replay" (defArgs s_replay) (defBody s_replay) (defScope s_replay) .none kV26 dc26 pm26 an26 cd26 ct26), sl26⟩) (c26 : PySem.W.codeIn K cd26 "replay" = true) (k26 : PySem.W.keepIn K (.ref f26) = true)
    (a27 : PySem.W.nsIn K mainGlobals "_law_all_raise" = some (some (.ref f27))) (l27 : K.lookup f27 = some ⟨oc27, od27, .func (PySem.W.fnOf "_law_all_raise" "_law_all_raise" (defArgs s__law_all_raise) (defBody s__law_all_raise) (defScope s__law_all_raise) .none kV27 dc27 pm27 an27 cd27 ct27), sl27⟩) (c27 : PySem.W.codeIn K cd27 "_law_all_raise" = true) (k27 : PySem.W.keepIn K (.ref f27) = true)
    (a28 : PySem.W.nsIn K mainGlobals "law" = some (some (.ref f28))) (l28 : K.lookup f28 = some ⟨oc28, od28, .func (PySem.W.fnOf "law" "law" (defArgs s_law) (defBody s_law) (defScope s_law) .none kV28 dc28 pm28 an28 cd28 ct28), sl28⟩) (c28 : PySem.W.codeIn K cd28 "law" = true) (k28 : PySem.W.keepIn K (.ref f28) = true)
    (g_MIN_SEATS : PySem.W.nsIn K mainGlobals "MIN_SEATS" = some (some (.int 3 tk_MIN_SEATS)))
    (g_MAX_SEATS : PySem.W.nsIn K mainGlobals "MAX_SEATS" = some (some (.int 8 tk_MAX_SEATS)))
    (g_MAX_MARK : PySem.W.nsIn K mainGlobals "MAX_MARK" = some (some (.int 1000000 tk_MAX_MARK)))
    (g_abs : PySem.W.nsIn K mainGlobals "abs" = some none)
    (g_len : PySem.W.nsIn K mainGlobals "len" = some none)
    (g_tuple : PySem.W.nsIn K mainGlobals "tuple" = some none)
    (g_range : PySem.W.nsIn K mainGlobals "range" = some none)
    (g_list : PySem.W.nsIn K mainGlobals "list" = some none)
    (g_isinstance : PySem.W.nsIn K mainGlobals "isinstance" = some none)
    (g_int : PySem.W.nsIn K mainGlobals "int" = some none)
    (g_bool : PySem.W.nsIn K mainGlobals "bool" = some none)
    (g_enumerate : PySem.W.nsIn K mainGlobals "enumerate" = some none)
    (g_ValueError : PySem.W.nsIn K mainGlobals "ValueError" = some none)
    (y_MarkError : PySem.W.nsIn K mainGlobals "MarkError" = some (some (.ref A_MarkError)))
    (y_InvalidPins : PySem.W.nsIn K mainGlobals "InvalidPins" = some (some (.ref A_InvalidPins)))
    (y_NotReachable : PySem.W.nsIn K mainGlobals "NotReachable" = some (some (.ref A_NotReachable)))
    (y_TooFar : PySem.W.nsIn K mainGlobals "TooFar" = some (some (.ref A_TooFar)))
    (y_InvalidLimit : PySem.W.nsIn K mainGlobals "InvalidLimit" = some (some (.ref A_InvalidLimit)))
    (y_InvalidIndex : PySem.W.nsIn K mainGlobals "InvalidIndex" = some (some (.ref A_InvalidIndex)))
    (y_TooManyRings : PySem.W.nsIn K mainGlobals "TooManyRings" = some (some (.ref A_TooManyRings)))
    (y_InvalidTimes : PySem.W.nsIn K mainGlobals "InvalidTimes" = some (some (.ref A_InvalidTimes)))
    (y_Contradiction : PySem.W.nsIn K mainGlobals "Contradiction" = some (some (.ref A_Contradiction)))
    (y_InvalidName : PySem.W.nsIn K mainGlobals "InvalidName" = some (some (.ref A_InvalidName)))
    (y_UnknownName : PySem.W.nsIn K mainGlobals "UnknownName" = some (some (.ref A_UnknownName)))
    (y_InvalidSign : PySem.W.nsIn K mainGlobals "InvalidSign" = some (some (.ref A_InvalidSign)))
    (y_InvalidAmount : PySem.W.nsIn K mainGlobals "InvalidAmount" = some (some (.ref A_InvalidAmount)))
    (y_InvalidMarks : PySem.W.nsIn K mainGlobals "InvalidMarks" = some (some (.ref A_InvalidMarks)))
    (y_InvalidSteps : PySem.W.nsIn K mainGlobals "InvalidSteps" = some (some (.ref A_InvalidSteps)))
    (y_InvalidMove : PySem.W.nsIn K mainGlobals "InvalidMove" = some (some (.ref A_InvalidMove)))
    (y_InvalidOperation : PySem.W.nsIn K mainGlobals "InvalidOperation" = some (some (.ref A_InvalidOperation)))
    (y_InvalidText : PySem.W.nsIn K mainGlobals "InvalidText" = some (some (.ref A_InvalidText)))
    (b_g1 : PySem.W.specialIn K (.ref A_MarkError) "__getattribute__" = some (some (.builtin "type.__getattribute__"))) (b_g2 : PySem.W.typeIn K (.ref A_MarkError) = some (.type "type")) (b_g3 : PySem.W.readsIn K A_MarkError (.type "type") = true) (b_vV : PySem.W.findCls K (.ref A_MarkError) (.type "type") "__init__" = some (.val (.builtin "ValueError.__init__")))
    (b_cn : PySem.W.specialIn K (.builtin "object.__class__") "__get__" = some (some (.builtin "getset_descriptor.__get__"))) (b_ct : PySem.W.takesIn K (.builtin "object.__class__") = some true)
    (xl_InvalidMarks : K.lookup A_InvalidMarks = some (excClassObj nm_InvalidMarks q_InvalidMarks A_InvalidMarks N_InvalidMarks bs_InvalidMarks bm_InvalidMarks true sn_InvalidMarks sub_InvalidMarks ab_InvalidMarks col_InvalidMarks dd_InvalidMarks k0_InvalidMarks k1_InvalidMarks k2_InvalidMarks k3_InvalidMarks k5_InvalidMarks "ValueError.__new__"))
    (xr_InvalidMarks : PySem.HandSPX.refsVE bm_InvalidMarks = true)
    (xsa_InvalidMarks : PySem.W.findIn K (.ref A_InvalidMarks) "__setattr__" = some (some (.builtin "object.__setattr__")))
    (xga_InvalidMarks : PySem.W.findIn K (.ref A_InvalidMarks) "__getattribute__" = some (some (.builtin "BaseException.__getattribute__")))
    (xgg_InvalidMarks : PySem.W.findIn K (.ref A_InvalidMarks) "__getattr__" = some none)
    (xs_InvalidMarks : PySem.W.subIn K (.ref A_InvalidMarks) (.type "BaseException") = some true)
    (xt_InvalidMarks : PySem.W.typeIn K (.ref A_InvalidMarks) = some (.type "type"))
    (xk_InvalidMarks : PySem.W.keepIn K (.ref A_InvalidMarks) = true)
    (xd_InvalidMarks : PySem.W.hasDictIn K A_InvalidMarks = true)
    (xc_InvalidMarks : PySem.W.findIn K (.ref A_InvalidMarks) "__class__" = some (some (.builtin "object.__class__")))
    (xm_InvalidMarks : PySem.W.mroIn K A_InvalidMarks (.type "object") = some true)
    (xi_InvalidMarks : PySem.W.isClsIn K A_InvalidMarks = true)
    (x_InvalidMarks : PySem.W.exmOne K (.ref A_InvalidMarks) (.ref A_MarkError) = some true)
    (k_InvalidMarks_ValueError : PySem.W.kitOne K (.ref A_InvalidMarks) (.type "ValueError") = some true)
    (k_InvalidMarks_InvalidPins : PySem.W.kitOne K (.ref A_InvalidMarks) (.ref A_InvalidPins) = some false)
    (k_InvalidMarks_NotReachable : PySem.W.kitOne K (.ref A_InvalidMarks) (.ref A_NotReachable) = some false)
    (k_InvalidMarks_TooFar : PySem.W.kitOne K (.ref A_InvalidMarks) (.ref A_TooFar) = some false)
    (k_InvalidMarks_InvalidLimit : PySem.W.kitOne K (.ref A_InvalidMarks) (.ref A_InvalidLimit) = some false)
    (k_InvalidMarks_InvalidIndex : PySem.W.kitOne K (.ref A_InvalidMarks) (.ref A_InvalidIndex) = some false)
    (k_InvalidMarks_TooManyRings : PySem.W.kitOne K (.ref A_InvalidMarks) (.ref A_TooManyRings) = some false)
    (k_InvalidMarks_InvalidTimes : PySem.W.kitOne K (.ref A_InvalidMarks) (.ref A_InvalidTimes) = some false)
    (k_InvalidMarks_Contradiction : PySem.W.kitOne K (.ref A_InvalidMarks) (.ref A_Contradiction) = some false)
    (k_InvalidMarks_InvalidName : PySem.W.kitOne K (.ref A_InvalidMarks) (.ref A_InvalidName) = some false)
    (k_InvalidMarks_UnknownName : PySem.W.kitOne K (.ref A_InvalidMarks) (.ref A_UnknownName) = some false)
    (k_InvalidMarks_InvalidSign : PySem.W.kitOne K (.ref A_InvalidMarks) (.ref A_InvalidSign) = some false)
    (k_InvalidMarks_InvalidAmount : PySem.W.kitOne K (.ref A_InvalidMarks) (.ref A_InvalidAmount) = some false)
    (k_InvalidMarks_InvalidMarks : PySem.W.kitOne K (.ref A_InvalidMarks) (.ref A_InvalidMarks) = some true)
    (k_InvalidMarks_InvalidSteps : PySem.W.kitOne K (.ref A_InvalidMarks) (.ref A_InvalidSteps) = some false)
    (k_InvalidMarks_InvalidMove : PySem.W.kitOne K (.ref A_InvalidMarks) (.ref A_InvalidMove) = some false)
    (k_InvalidMarks_InvalidOperation : PySem.W.kitOne K (.ref A_InvalidMarks) (.ref A_InvalidOperation) = some false)
    (k_InvalidMarks_InvalidText : PySem.W.kitOne K (.ref A_InvalidMarks) (.ref A_InvalidText) = some false)
    (i1_InvalidMarks : PySem.W.findIn K (.ref A_InvalidMarks) "__init__" = some (some (.ref I_InvalidMarks)))
    (i2_InvalidMarks : PySem.W.typeIn K (.ref I_InvalidMarks) = some (.type "function"))
    (i3_InvalidMarks : K.lookup I_InvalidMarks = some ⟨ioc_InvalidMarks, iod_InvalidMarks, .func (PySem.W.fnOf "__init__" "InvalidMarks.__init__" (defArgs s_InvalidMarks___init__) (defBody s_InvalidMarks___init__) (defScope s_InvalidMarks___init__) .none ikV_InvalidMarks idc_InvalidMarks ipm_InvalidMarks ian_InvalidMarks icd_InvalidMarks ict_InvalidMarks), isl_InvalidMarks⟩)
    (i4_InvalidMarks : PySem.W.codeIn K icd_InvalidMarks "InvalidMarks.__init__" = true)
    (i5_InvalidMarks : PySem.W.keepIn K (.ref I_InvalidMarks) = true)
    (n_InvalidMarks_position : PySem.W.findIn K (.ref A_InvalidMarks) "position" = some none)
    (z_cd : cd28 = .ref cL) (z_lc : K.lookup cL = some ⟨eC, ddC, .fields vsC, slC⟩) (z_vP : vsC[11]? = some (.ref P0)) (z_nP : K.lookup P0 = none) (z_ch : PySem.W.codeHdIn K cL P0 = true)
    (hv_InvalidMarks : ∀ (a dd : Nat) (y : D), ∃ en', VS.execs 0 (ih_InvalidMarks a dd) (none :: some (.fr (excD ⟨"InvalidMarks", [("position", y)], none⟩ a (some dd))) :: List.replicate (N__law_error_of.length - 2) none) = .ok (.rt (.fr (.tuple [.str "marks", y])) en')) (plain : ∀ ns : List Int, ns.length ≤ 63 → ∃ n en', VS.execs n ir_law (lawEn 4 ns 1) = .ok (.rt (.fr (.bool true)) en')) :
    LamX.LawAtS l w K (L2.CX l.prog w) 12 63 "_law_script" mg fa h := by
  have e := hfa.symm.trans (PySem.W.mg_of X G a28)
  cases e
  subst z_cd
  have T_MarkError : mg "MarkError" = some (.ref A_MarkError) := PySem.W.mg_of X G y_MarkError
  have T_InvalidPins : mg "InvalidPins" = some (.ref A_InvalidPins) := PySem.W.mg_of X G y_InvalidPins
  have T_NotReachable : mg "NotReachable" = some (.ref A_NotReachable) := PySem.W.mg_of X G y_NotReachable
  have T_TooFar : mg "TooFar" = some (.ref A_TooFar) := PySem.W.mg_of X G y_TooFar
  have T_InvalidLimit : mg "InvalidLimit" = some (.ref A_InvalidLimit) := PySem.W.mg_of X G y_InvalidLimit
  have T_InvalidIndex : mg "InvalidIndex" = some (.ref A_InvalidIndex) := PySem.W.mg_of X G y_InvalidIndex
  have T_TooManyRings : mg "TooManyRings" = some (.ref A_TooManyRings) := PySem.W.mg_of X G y_TooManyRings
  have T_InvalidTimes : mg "InvalidTimes" = some (.ref A_InvalidTimes) := PySem.W.mg_of X G y_InvalidTimes
  have T_Contradiction : mg "Contradiction" = some (.ref A_Contradiction) := PySem.W.mg_of X G y_Contradiction
  have T_InvalidName : mg "InvalidName" = some (.ref A_InvalidName) := PySem.W.mg_of X G y_InvalidName
  have T_UnknownName : mg "UnknownName" = some (.ref A_UnknownName) := PySem.W.mg_of X G y_UnknownName
  have T_InvalidSign : mg "InvalidSign" = some (.ref A_InvalidSign) := PySem.W.mg_of X G y_InvalidSign
  have T_InvalidAmount : mg "InvalidAmount" = some (.ref A_InvalidAmount) := PySem.W.mg_of X G y_InvalidAmount
  have T_InvalidMarks : mg "InvalidMarks" = some (.ref A_InvalidMarks) := PySem.W.mg_of X G y_InvalidMarks
  have T_InvalidSteps : mg "InvalidSteps" = some (.ref A_InvalidSteps) := PySem.W.mg_of X G y_InvalidSteps
  have T_InvalidMove : mg "InvalidMove" = some (.ref A_InvalidMove) := PySem.W.mg_of X G y_InvalidMove
  have T_InvalidOperation : mg "InvalidOperation" = some (.ref A_InvalidOperation) := PySem.W.mg_of X G y_InvalidOperation
  have T_InvalidText : mg "InvalidText" = some (.ref A_InvalidText) := PySem.W.mg_of X G y_InvalidText
  have T_MIN_SEATS : mg "MIN_SEATS" = some (.int 3 tk_MIN_SEATS) := PySem.W.mg_of X G g_MIN_SEATS
  have T_MAX_SEATS : mg "MAX_SEATS" = some (.int 8 tk_MAX_SEATS) := PySem.W.mg_of X G g_MAX_SEATS
  have T_MAX_MARK : mg "MAX_MARK" = some (.int 1000000 tk_MAX_MARK) := PySem.W.mg_of X G g_MAX_MARK
  have T_abs : mg "abs" = none := PySem.W.mg_none_of X G g_abs
  have T_len : mg "len" = none := PySem.W.mg_none_of X G g_len
  have T_tuple : mg "tuple" = none := PySem.W.mg_none_of X G g_tuple
  have T_range : mg "range" = none := PySem.W.mg_none_of X G g_range
  have T_list : mg "list" = none := PySem.W.mg_none_of X G g_list
  have T_isinstance : mg "isinstance" = none := PySem.W.mg_none_of X G g_isinstance
  have T_int : mg "int" = none := PySem.W.mg_none_of X G g_int
  have T_bool : mg "bool" = none := PySem.W.mg_none_of X G g_bool
  have T_enumerate : mg "enumerate" = none := PySem.W.mg_none_of X G g_enumerate
  have T_ValueError : mg "ValueError" = none := PySem.W.mg_none_of X G g_ValueError
  have F0 := fun_mk (st := s__law_random) l0 c0 k0
  have F1 := fun_mk (st := s__law_below) l1 c1 k1
  have F2 := fun_mk (st := s__law_marks) l2 c2 k2
  have F3 := fun_mk (st := s__law_bad_marks) l3 c3 k3
  have F4 := fun_mk (st := s__law_error_of) l4 c4 k4
  have F5 := fun_mk (st := s_is_int_in) l5 c5 k5
  have F6 := fun_mk (st := s_check_marks) l6 c6 k6
  have F7 := fun_mk (st := s_steps_of) l7 c7 k7
  have F8 := fun_mk (st := s_find_steps) l8 c8 k8
  have F9 := fun_mk (st := s_find_modulus) l9 c9 k9
  have F10 := fun_mk (st := s_apply_moves) l10 c10 k10
  have FD10 := funD_kw (kw := "pins") l10 c10 k10 d10
  have B10 := binds_kw (ps := ["marks", "seats", "pins"]) FD10 2 rfl fun _ _ _ _ _ _ us _ hl => match us, hl with | [_, _], _ => ⟨_, _, _, _, _, _, rfl, rfl, rfl⟩
  have F11 := fun_mk (st := s_Workbench_reaches) l11 c11 k11
  have F12 := fun_mk (st := s_active_seats) l12 c12 k12
  have FD12 := funD_kw (kw := "pins") l12 c12 k12 d12
  have B12 := binds_kw (ps := ["marks", "pins"]) FD12 1 rfl fun _ _ _ _ _ _ us _ hl => match us, hl with | [_], _ => ⟨_, _, _, _, _, _, rfl, rfl, rfl⟩
  have F13 := fun_mk (st := s_find_difference) l13 c13 k13
  have F14 := fun_mk (st := s_find_moves) l14 c14 k14
  have F15 := fun_mk (st := s_shortest_moves) l15 c15 k15
  have F16 := fun_mk (st := s_min_moves) l16 c16 k16
  have F17 := fun_mk (st := s_check_pinned) l17 c17 k17
  have F18 := fun_mk (st := s_find_arcs) l18 c18 k18
  have F19 := fun_mk (st := s_find_pinned_difference) l19 c19 k19
  have F20 := fun_mk (st := s_pinned_moves) l20 c20 k20
  have F21 := fun_mk (st := s_count_pinned) l21 c21 k21
  have F22 := fun_mk (st := s_rank_pinned) l22 c22 k22
  have F23 := fun_mk (st := s_pinned_at) l23 c23 k23
  have F24 := fun_mk (st := s_possible_marks) l24 c24 k24
  have F25 := fun_mk (st := s_Workbench___init__) l25 c25 k25
  have F26 := fun_mk (st := s_replay) l26 c26 k26
  have F27 := fun_mk (st := s__law_all_raise) l27 c27 k27
  have F28 := fun_mk (st := s_law) l28 c28 k28
  refine VS.lawAt (q := lamQ) own X l28 rfl z_lc z_vP z_nP z_ch (fun s v => .of_eq rfl) fun base _ _ TB => ?_
  letI kf0 : KF := ⟨K, [], fun x => if x = "Workbench" then some (cl_Workbench A_Workbench) else none⟩
  have K_Workbench : Cls K A_Workbench := ⟨cp_Workbench, ch_Workbench, co_Workbench, cs_Workbench⟩
  have T_c_Workbench : ClsQ K "Workbench" (cl_Workbench A_Workbench) := ⟨if_pos rfl, clsF_of K_Workbench (by simp only [List.mem_cons, List.not_mem_nil, or_false, forall_eq_or_imp, forall_eq]; exact ⟨cn_Workbench_state, cn_Workbench_past, cn_Workbench_undone, cn_Workbench_saved⟩) (by decide) (by decide)⟩
  have T_nst : kf0.C VS.nsC = none := by first | rfl | decide
  have BC : BaseC K mg "MarkError" A_MarkError := ⟨T_MarkError, b_g1, b_g2, b_g3, b_vV⟩
  have X_InvalidMarks : ExcC K A_InvalidMarks := ⟨xga_InvalidMarks, xgg_InvalidMarks, xs_InvalidMarks, xd_InvalidMarks, xc_InvalidMarks, b_cn, b_ct, xm_InvalidMarks⟩
  have XF_InvalidMarks : XfC K A_InvalidMarks := ⟨xga_InvalidMarks, xgg_InvalidMarks, xs_InvalidMarks, xd_InvalidMarks⟩
  have O_InvalidMarks : OexC K A_InvalidMarks := ⟨⟨_, _, _, _, _, _, _, _, _, _, _, _, _, _, _, xl_InvalidMarks, xr_InvalidMarks⟩, xsa_InvalidMarks, xs_InvalidMarks, xt_InvalidMarks, xk_InvalidMarks⟩
  have R_InvalidMarks := er_InvalidMarks (P := l.prog) (w := w) (base := base) T_InvalidMarks O_InvalidMarks xi_InvalidMarks i1_InvalidMarks i2_InvalidMarks n_InvalidMarks_position (fun_mk (st := s_InvalidMarks___init__) i3_InvalidMarks i4_InvalidMarks i5_InvalidMarks) BC
  have FR : FnOk l.prog w K mg base (L2.CX l.prog w) 1 f0 _ ["_law_script", "_law_salt"] (spRand K) := ok__law_random F0 T_abs
  have T__law_below : FnM l.prog w K mg base 1 "_law_below" 1 phi__law_below := fd__law_below rfl F1 (PySem.W.mg_of X G a1) T_len
  have T__law_marks : FnM l.prog w K mg base 2 "_law_marks" 0 phi__law_marks := fd__law_marks rfl F2 (PySem.W.mg_of X G a2) T_tuple T__law_below T_range
  have T__law_bad_marks : FnM l.prog w K mg base 3 "_law_bad_marks" 0 phi__law_bad_marks := fd__law_bad_marks rfl F3 (PySem.W.mg_of X G a3) T__law_below T__law_marks T_len T_list
  have T__law_error_of : FnE l.prog w K mg base "_law_error_of" eta_law := fe_law rfl (PySem.W.mg_of X G a4) l4 c4 k4 (F4.binds (ps := ["_law_call"]) fun _ _ _ _ _ _ us hl => match us, hl with | [_], _ => rfl) T_MarkError T_isinstance T_ValueError T_InvalidPins T_NotReachable T_TooFar T_InvalidLimit T_InvalidIndex T_TooManyRings T_InvalidTimes T_Contradiction T_InvalidName T_UnknownName T_InvalidSign T_InvalidAmount T_InvalidMarks T_InvalidSteps T_InvalidMove T_InvalidOperation T_InvalidText X_InvalidMarks XF_InvalidMarks n_InvalidMarks_position x_InvalidMarks k_InvalidMarks_InvalidPins k_InvalidMarks_NotReachable k_InvalidMarks_TooFar k_InvalidMarks_InvalidLimit k_InvalidMarks_InvalidIndex k_InvalidMarks_TooManyRings k_InvalidMarks_InvalidTimes k_InvalidMarks_Contradiction k_InvalidMarks_InvalidName k_InvalidMarks_UnknownName k_InvalidMarks_InvalidSign k_InvalidMarks_InvalidAmount k_InvalidMarks_InvalidMarks k_InvalidMarks_InvalidSteps k_InvalidMarks_InvalidMove k_InvalidMarks_InvalidOperation k_InvalidMarks_InvalidText k_InvalidMarks_ValueError hv_InvalidMarks
  have T_is_int_in : FnD l.prog w K mg base 1 "is_int_in" 3 phi_is_int_in := fd_is_int_in rfl F5 (PySem.W.mg_of X G a5) T_isinstance T_int T_bool
  have T_check_marks : FnD l.prog w K mg base 3 "check_marks" 1 (phi_check_marks true) := fd_check_marks rfl F6 (PySem.W.mg_of X G a6) T_enumerate T_MIN_SEATS T_isinstance T_tuple R_InvalidMarks T_len T_MAX_SEATS T_is_int_in T_MAX_MARK
  have T_steps_of : FnD l.prog w K mg base 1 "steps_of" 1 phi_steps_of := fd_steps_of rfl F7 (PySem.W.mg_of X G a7) T_tuple T_enumerate T_len
  have T_find_steps : FnD l.prog w K mg base 4 "find_steps" 1 (phi_find_steps true) := fd_find_steps rfl F8 (PySem.W.mg_of X G a8) T_check_marks T_steps_of
  have T_find_modulus : FnD l.prog w K mg base 4 "find_modulus" 1 phi1_find_modulus := fd_find_modulus rfl F9 (PySem.W.mg_of X G a9) T_check_marks
  have T_apply_moves : FnK l.prog w K mg base 4 "apply_moves" 2 "pins" phi1_apply_moves := fd_apply_moves rfl F10 (PySem.W.mg_of X G a10) (rp_empty rfl t10 rfl rfl rfl) B10 (kb_kw fun us c hl => match us, hl with | [_, _], _ => rfl) T_check_marks
  have T_Workbench_reaches : FnO l.prog w K mg base 4 "Workbench" "reaches" 1 phi1_Workbench_reaches := fd_Workbench_reaches rfl F11 ⟨m11, n11, k11⟩ T_check_marks T_c_Workbench
  have T_active_seats : FnK l.prog w K mg base 4 "active_seats" 1 "pins" phi1_active_seats := fd_active_seats rfl F12 (PySem.W.mg_of X G a12) (rp_empty rfl t12 rfl rfl rfl) B12 (kb_kw fun us c hl => match us, hl with | [_], _ => rfl) T_check_marks
  have T_find_difference : FnD l.prog w K mg base 4 "find_difference" 2 phi1_find_difference := fd_find_difference rfl F13 (PySem.W.mg_of X G a13) T_check_marks
  have T_find_moves : FnD l.prog w K mg base 4 "find_moves" 2 phi1_find_moves := fd_find_moves rfl F14 (PySem.W.mg_of X G a14) T_check_marks
  have T_shortest_moves : FnD l.prog w K mg base 4 "shortest_moves" 3 phi1_shortest_moves := fd_shortest_moves rfl F15 (PySem.W.mg_of X G a15) T_check_marks
  have T_min_moves : FnD l.prog w K mg base 5 "min_moves" 3 phi1_min_moves := fd_min_moves rfl F16 (PySem.W.mg_of X G a16) T_len T_shortest_moves
  have T_check_pinned : FnD l.prog w K mg base 4 "check_pinned" 2 phi1_check_pinned := fd_check_pinned rfl F17 (PySem.W.mg_of X G a17) T_check_marks
  have T_find_arcs : FnD l.prog w K mg base 5 "find_arcs" 2 phi1_find_arcs := fd_find_arcs rfl F18 (PySem.W.mg_of X G a18) T_check_pinned
  have T_find_pinned_difference : FnD l.prog w K mg base 4 "find_pinned_difference" 3 phi1_find_pinned_difference := fd_find_pinned_difference rfl F19 (PySem.W.mg_of X G a19) T_check_marks
  have T_pinned_moves : FnD l.prog w K mg base 4 "pinned_moves" 3 phi1_pinned_moves := fd_pinned_moves rfl F20 (PySem.W.mg_of X G a20) T_check_marks
  have T_count_pinned : FnD l.prog w K mg base 5 "count_pinned" 2 phi1_count_pinned := fd_count_pinned rfl F21 (PySem.W.mg_of X G a21) T_check_pinned
  have T_rank_pinned : FnD l.prog w K mg base 5 "rank_pinned" 2 phi1_rank_pinned := fd_rank_pinned rfl F22 (PySem.W.mg_of X G a22) T_check_pinned
  have T_pinned_at : FnD l.prog w K mg base 5 "pinned_at" 3 phi1_pinned_at := fd_pinned_at rfl F23 (PySem.W.mg_of X G a23) T_check_pinned
  have T_possible_marks : FnD l.prog w K mg base 5 "possible_marks" 3 phi1_possible_marks := fd_possible_marks rfl F24 (PySem.W.mg_of X G a24) T_check_pinned T_nst
  have T_Workbench : FnI l.prog w K mg base 4 "Workbench" "Workbench" 1 (phi_Workbench___init__ true) := fd_Workbench___init__ rfl F25 (PySem.W.mg_of X G y_Workbench) ⟨cm_Workbench, m25, n25, ck_Workbench⟩ T_check_marks T_c_Workbench
  have T_replay : FnD l.prog w K mg base 6 "replay" 2 phi1_replay := fd_replay rfl F26 (PySem.W.mg_of X G a26) T_Workbench T_c_Workbench
  have T__law_all_raise : FnAll l.prog w K mg base 11 8 "_law_all_raise" eta_law := fd__law_all_raise rfl F27 (PySem.W.mg_of X G a27) T__law_error_of
  have E__law_marks := T__law_marks.ex
  have E__law_bad_marks := T__law_bad_marks.ex
  have E__law_all_raise := T__law_all_raise.ex
  have E_find_steps := T_find_steps.ex
  have E_find_modulus := T_find_modulus.ex
  have E_apply_moves := T_apply_moves.ex
  have E_active_seats := T_active_seats.ex
  have E_find_difference := T_find_difference.ex
  have E_find_moves := T_find_moves.ex
  have E_min_moves := T_min_moves.ex
  have E_shortest_moves := T_shortest_moves.ex
  have E_find_arcs := T_find_arcs.ex
  have E_find_pinned_difference := T_find_pinned_difference.ex
  have E_pinned_moves := T_pinned_moves.ex
  have E_count_pinned := T_count_pinned.ex
  have E_rank_pinned := T_rank_pinned.ex
  have E_pinned_at := T_pinned_at.ex
  have E_possible_marks := T_possible_marks.ex
  have E_replay := T_replay.ex
  have E__law_below := T__law_below.ex
  have E_Workbench_reaches := T_Workbench_reaches.ex
  have E_Workbench := T_Workbench.ex
  have E_c_Workbench := T_c_Workbench.ex
  letI kf1 : KF := ⟨K, [(P0, lamQ)], fun x => if x = "Workbench" then some (cl_Workbench A_Workbench) else none⟩
  exact lw (kf := kf1) l28 c28 TB rfl FR (PySem.W.mg_of X G a0) k0 (F0.binds (ps := ["_law_script", "_law_salt"]) fun _ _ _ _ _ _ us hl => match us, hl with | [_, _], _ => rfl) ⟨E__law_marks⟩ ⟨E__law_bad_marks⟩ ⟨E__law_all_raise⟩ ⟨E_find_steps⟩ ⟨E_find_modulus⟩ ⟨E_apply_moves⟩ ⟨E_active_seats⟩ ⟨E_find_difference⟩ ⟨E_find_moves⟩ ⟨E_min_moves⟩ ⟨E_shortest_moves⟩ ⟨E_find_arcs⟩ ⟨E_find_pinned_difference⟩ ⟨E_pinned_moves⟩ ⟨E_count_pinned⟩ ⟨E_rank_pinned⟩ ⟨E_pinned_at⟩ ⟨E_possible_marks⟩ ⟨E_replay⟩ ⟨E__law_below⟩ ⟨E_Workbench_reaches⟩ ⟨E_Workbench⟩ ⟨E_c_Workbench⟩ plain
end K01

namespace K01
open VS L2
open PySem (PyData Str)
theorem eta_marks (i : Int) : eta_law (eMarks i) = .ok (.tuple [.str "marks", .int i]) := by
  have hc : (eMarks i).cls = "InvalidMarks" := rfl
  have hf : (eMarks i).fs = ([(("position" : Str), (PyData.int i : D))] : List (Str × D)) := rfl
  unfold eta_law
  rw [hc, hf]
  repeat rw [if_neg (by decide)]
  rw [if_pos rfl]
  simp [etaP, flatD]
theorem eqM (i : Int) : eqD (.tuple [.str "marks", .int i]) (.tuple [.str "marks", .int i]) = .ok true := by
  have hx : PyData.strOk "marks" = true := by decide +kernel
  show (if _ ∧ _ then Ou.ok (PyData.eqvAll _ _) else .no) = _
  rw [if_pos ⟨by simp [PySem.SeqAt.shaped, PyData.canLay0, PyData.canLayAll0, PyData.depth, PyData.depthAll, hx], by simp [PySem.SeqAt.shaped, PyData.canLay0, PyData.canLayAll0, PyData.depth, PyData.depthAll, hx]⟩]
  simp [PyData.eqvAll, PyData.eqv]
/-! ### marks that are none -/
noncomputable abbrev Bad (X : D) (p : Int) : Prop := phi_check_marks true [X] = .ex (eMarks p)
theorem five {P : D → Prop} {r : Int} (a b c d e : D) (h0 : 0 ≤ r) (h1 : r < 5) (ha : P a) (hb : P b) (hc : P c) (hd : P d) (he : P e) : ∃ x, atI [a, b, c, d, e] r = some x ∧ P x := by
  have : r = 0 ∨ r = 1 ∨ r = 2 ∨ r = 3 ∨ r = 4 := by omega
  rcases this with rfl | rfl | rfl | rfl | rfl
  · exact ⟨_, rfl, ha⟩
  · exact ⟨_, rfl, hb⟩
  · exact ⟨_, rfl, hc⟩
  · exact ⟨_, rfl, hd⟩
  · exact ⟨_, rfl, he⟩
theorem six {P : D → Prop} {r : Int} (a b c d e f : D) (h0 : 0 ≤ r) (h1 : r < 6) (ha : P a) (hb : P b) (hc : P c) (hd : P d) (he : P e) (hf : P f) : ∃ x, atI [a, b, c, d, e, f] r = some x ∧ P x := by
  have : r = 0 ∨ r = 1 ∨ r = 2 ∨ r = 3 ∨ r = 4 ∨ r = 5 := by omega
  rcases this with rfl | rfl | rfl | rfl | rfl | rfl
  · exact ⟨_, rfl, ha⟩
  · exact ⟨_, rfl, hb⟩
  · exact ⟨_, rfl, hc⟩
  · exact ⟨_, rfl, hd⟩
  · exact ⟨_, rfl, he⟩
  · exact ⟨_, rfl, hf⟩
theorem good_at {ss : List Int} (hb : ∀ k ∈ ss, -1000000 ≤ k ∧ k ≤ 1000000) {j : Nat} (hj : j < ss.length) {r : List D} : goodM 1000000 (iL ss ++ r)[j]? :=
  ⟨gI ss j, by rw [List.getElem?_append_left (by rw [iL_len]; exact hj)]; exact iL_get hj, hb _ (List.mem_of_getElem? (gI_get hj))⟩
theorem bad_marks {ms : List D} (hm : okD ms) : ∃ X p ms', phi__law_bad_marks ms [] = .ok (.tuple [X, .int p], ms') ∧ okD ms' ∧ Bad X p := by
  obtain ⟨ns, ms1, e1, m1, o1⟩ := marks_ok hm
  obtain ⟨k, ms2, e2, m2, l2, u2⟩ := below_ok m1 (L := 6) (by decide) (by decide)
  have h3 := o1.1
  have h8 := o1.2.1
  have hb := o1.2.2
  have ln : ((iL ns).length : Int) = (ns.length : Int) := by rw [iL_len]
  have z5 : (0 + 1 + 1 + 1 + 1 + 1 ≤ SZ) = True := eq_true (le_SZ (by decide))
  have z6 : (0 + 1 + 1 + 1 + 1 + 1 + 1 ≤ SZ) = True := eq_true (le_SZ (by decide))
  have par : exec 0 (.par [1, 2] (.cons (.callM phi__law_marks 0 (.nil)) (.cons (.callM phi__law_below 0 (.cons (.cst (.int 6)) (.nil))) (.nil)))) [some (.mb ms), none, none, none, none, none] = .ok (.nx [some (.mb ms2), some (.fr (.tuple (iL ns))), some (.fr (.int k)), none, none, none]) := by
    simp_all only [ e1, e2]
  by_cases k0 : k = 0
  · subst k0
    obtain ⟨r, ms3, e3, m3, l3, u3⟩ := below_ok m2 (L := 5) (by decide) (by decide)
    obtain ⟨X, x1, x2, x3⟩ := five (P := fun d => ndc d = true ∧ isTup d = false) .none (.int 5) (.list (iL ns)) (.str "1") (.bool true) l3 u3 ⟨rfl, rfl⟩ ⟨rfl, rfl⟩ ⟨rfl, rfl⟩ ⟨rfl, rfl⟩ ⟨rfl, rfl⟩
    refine ⟨X, 0, ms3, fmOf_eq (n := 0) (runM_rt (v := .fr (.tuple [X, .int 0])) (e1 := [some (.fr (.tuple (iL ns))), some (.fr (.int 0)), none, none, none]) ?_) (by simp), m3, check_marks_no x2 x3⟩
    unfold ir__law_bad_marks
    refine Eq.trans (ex_nx par) ?_
    refine iff_ret (e1 := [some (.mb ms2), some (.fr (.tuple (iL ns))), some (.fr (.int 0)), none, none, none]) ?_ ?_
    · simp_all only [ beq_self_eq_true]
    · simp_all only [ e3, x1, z5, two_SZ]
  have b0 : (k == 0) = false := beq_no k0
  by_cases k1 : k = 1
  · subst k1
    obtain ⟨r, ms3, e3, m3, l3, u3⟩ := below_ok m2 (L := 3) (by decide) (by decide)
    obtain ⟨c, rfl⟩ : ∃ c : Nat, r = (c : Int) := ⟨r.toNat, by omega⟩
    have cu : cutD (iL ns) none (some (c : Int)) = iL (ns.take c) := by rw [cut_upto, ← iL_take]
    have bad := check_marks_short (xs := ns.take c) (by rw [List.length_take]; omega) fun m h => hb m (List.mem_of_mem_take h)
    have lc : (ns.take c).length = c := by rw [List.length_take]; omega
    rw [lc] at bad
    refine ⟨.tuple (iL (ns.take c)), c, ms3, fmOf_eq (n := 0) (runM_rt (v := .fr (.tuple [.tuple (iL (ns.take c)), .int (c : Int)])) (e1 := [some (.fr (.tuple (iL ns))), some (.fr (.int 1)), some (.fr (.int (c : Int))), none, none]) ?_) (by simp), m3, bad⟩
    unfold ir__law_bad_marks
    refine Eq.trans (ex_nx par) ?_
    refine Eq.trans (iff_skip (e1 := [some (.mb ms2), some (.fr (.tuple (iL ns))), some (.fr (.int 1)), none, none, none]) ?_) ?_
    · simp_all only [ b0]
    refine iff_ret (e1 := [some (.mb ms2), some (.fr (.tuple (iL ns))), some (.fr (.int 1)), none, none, none]) ?_ ?_
    · simp_all only [ beq_self_eq_true]
    · refine Eq.trans (ex_nx (e1 := [some (.mb ms3), some (.fr (.tuple (iL ns))), some (.fr (.int 1)), some (.fr (.int (c : Int))), none, none]) ?_) ?_
      · simp_all only [ e3]
      · simp_all only [ cu, two_SZ]
  have b1 : (k == 1) = false := beq_no k1
  by_cases k2 : k = 2
  · subst k2
    obtain ⟨r, ms3, e3, m3, l3, u3⟩ := below_ok m2 (L := 2) (by decide) (by decide)
    obtain ⟨c, hc⟩ : ∃ c : Nat, 9 + r = (c : Int) := ⟨(9 + r).toNat, by omega⟩
    have cu : cutD (iL ns ++ iL ns ++ iL ns) none (some (9 + r)) = iL ((ns ++ ns ++ ns).take c) := by rw [hc, cut_upto, ← iL_app, ← iL_app, ← iL_take]
    have bm : ∀ m ∈ (ns ++ ns ++ ns).take c, -1000000 ≤ m ∧ m ≤ 1000000 := fun m h => by
      have := List.mem_of_mem_take h
      simp only [List.mem_append, or_self] at this
      exact hb m this
    have lc : 8 < ((ns ++ ns ++ ns).take c).length := by simp only [List.length_take, List.length_append]; omega
    have bad := check_marks_bad (xs := iL ((ns ++ ns ++ ns).take c)) (i := 8) (by rw [iL_len]; exact lc) (by decide) (fun j hj => by
      have := good_at bm (j := j) (by omega) (r := [])
      rw [List.append_nil] at this
      exact this) (.inl rfl)
    have s1 : ((iL ns).length + (iL ns).length ≤ SZ) = True := eq_true (by rw [iL_len]; exact le_SZ (by omega))
    have s2 : ((iL ns ++ iL ns).length + (iL ns).length ≤ SZ) = True := eq_true (by rw [List.length_append, iL_len]; exact le_SZ (by omega))
    refine ⟨.tuple (iL ((ns ++ ns ++ ns).take c)), 8, ms3, fmOf_eq (n := 0) (runM_rt (v := .fr (.tuple [.tuple (iL ((ns ++ ns ++ ns).take c)), .int 8])) (e1 := [some (.fr (.tuple (iL ns))), some (.fr (.int 2)), none, none, none]) ?_) (by simp), m3, bad⟩
    unfold ir__law_bad_marks
    refine Eq.trans (ex_nx par) ?_
    refine Eq.trans (iff_skip (e1 := [some (.mb ms2), some (.fr (.tuple (iL ns))), some (.fr (.int 2)), none, none, none]) ?_) ?_
    · simp_all only [ b0]
    refine Eq.trans (iff_skip (e1 := [some (.mb ms2), some (.fr (.tuple (iL ns))), some (.fr (.int 2)), none, none, none]) ?_) ?_
    · simp_all only [ b1]
    refine iff_ret (e1 := [some (.mb ms2), some (.fr (.tuple (iL ns))), some (.fr (.int 2)), none, none, none]) ?_ ?_
    · simp_all only [ beq_self_eq_true]
    · simp_all only [ s1, s2, e3, cu, two_SZ]
  have b2 : (k == 2) = false := beq_no k2
  obtain ⟨at', ms3, e3, m3, l3, u3⟩ := below_ok m2 (L := (ns.length : Int)) (by omega) (by omega)
  obtain ⟨a, rfl⟩ : ∃ j : Nat, at' = (j : Int) := ⟨at'.toNat, by omega⟩
  obtain ⟨r1, ms4, e4, m4, l4, u4⟩ := below_ok m3 (L := 99) (by decide) (by decide)
  obtain ⟨r2, ms5, e5, m5, l5, u5⟩ := below_ok m4 (L := 99) (by decide) (by decide)
  obtain ⟨r3, ms6, e6, m6, l6, u6⟩ := below_ok m5 (L := 6) (by decide) (by decide)
  obtain ⟨r4, ms7, e7, m7, l7, u7⟩ := below_ok m6 (L := 2) (by decide) (by decide)
  obtain ⟨odd, x1, x2, x3⟩ := six (P := fun d => ndc d = true ∧ inI d (-1000000) 1000000 = false) .none (.bool true) (.str "1") (.int (1000001 + r1)) (.int (0 - 1000001 - r2)) (.tuple [.int 1]) l6 u6 ⟨rfl, rfl⟩ ⟨rfl, rfl⟩ ⟨rfl, rfl⟩ ⟨rfl, by simp [inI]; omega⟩ ⟨rfl, by simp [inI]; omega⟩ ⟨rfl, rfl⟩
  have c1 : cutD (iL ns) none (some (a : Int)) = iL (ns.take a) := by rw [cut_upto, ← iL_take]
  obtain ⟨B, hB⟩ : ∃ B, B = cutD (iL ns) (some ((a : Int) + 1)) none := ⟨_, rfl⟩
  have hBl : B.length ≤ 8 := by
    rw [hB]
    unfold cutD
    rw [List.length_take, List.length_drop, iL_len]
    omega
  obtain ⟨R, hR⟩ : ∃ R, R = repD r4 [PyData.none] := ⟨_, rfl⟩
  have hRl : R.length ≤ 1 := by
    rw [hR]
    unfold repD
    have : r4.toNat = 0 ∨ r4.toNat = 1 := by omega
    rcases this with h | h <;> rw [h] <;> decide
  have tl : (ns.take a).length = a := by rw [List.length_take]; omega
  have s0 : (2 ≤ r4) = False := eq_false (by omega)
  have s0' : (-1000 ≤ r4) = True := eq_true (by omega)
  have s0'' : (r4 ≤ 1) = True := eq_true (by omega)
  have s1 : ((iL (ns.take a)).length + (0 + 1) ≤ SZ) = True := eq_true (by rw [iL_len]; exact le_SZ (by omega))
  have s2 : ((iL (ns.take a) ++ [odd]).length + B.length ≤ SZ) = True := eq_true (by rw [List.length_append, iL_len]; simp only [List.length_cons, List.length_nil]; exact le_SZ (by omega))
  have s3 : ((iL (ns.take a) ++ [odd] ++ B).length + R.length ≤ SZ) = True := eq_true (by rw [List.length_append, List.length_append, iL_len]; simp only [List.length_cons, List.length_nil]; exact le_SZ (by omega))
  have at_ : (iL (ns.take a) ++ [odd] ++ B ++ R)[a]? = some odd := by
    rw [List.append_assoc, List.append_assoc, List.getElem?_append_right (by rw [iL_len]; omega), iL_len, tl, Nat.sub_self]
    rfl
  have bad := check_marks_bad (xs := iL (ns.take a) ++ [odd] ++ B ++ R) (i := a) (by have := lt_of_some at_; exact this) (by omega) (fun j hj => by
    rw [List.append_assoc, List.append_assoc]
    exact good_at (fun m h => hb m (List.mem_of_mem_take h)) (by omega)) (.inr ⟨odd, at_, x2, x3⟩)
  refine ⟨.tuple (iL (ns.take a) ++ [odd] ++ B ++ R), a, ms7, fmOf_eq (n := 0) (runM_rt (v := .fr (.tuple [.tuple (iL (ns.take a) ++ [odd] ++ B ++ R), .int (a : Int)])) (e1 := [some (.fr (.tuple (iL ns))), some (.fr (.int k)), none, some (.fr (.int (a : Int))), some (.fr odd)]) ?_) (by simp), m7, bad⟩
  unfold ir__law_bad_marks
  refine Eq.trans (ex_nx par) ?_
  refine Eq.trans (iff_skip (e1 := [some (.mb ms2), some (.fr (.tuple (iL ns))), some (.fr (.int k)), none, none, none]) ?_) ?_
  · simp_all only [ b0]
  refine Eq.trans (iff_skip (e1 := [some (.mb ms2), some (.fr (.tuple (iL ns))), some (.fr (.int k)), none, none, none]) ?_) ?_
  · simp_all only [ b1]
  refine Eq.trans (iff_skip (e1 := [some (.mb ms2), some (.fr (.tuple (iL ns))), some (.fr (.int k)), none, none, none]) ?_) ?_
  · simp_all only [ b2]
  refine Eq.trans (ex_nx (e1 := [some (.mb ms3), some (.fr (.tuple (iL ns))), some (.fr (.int k)), none, some (.fr (.int (a : Int))), none]) ?_) ?_
  · simp_all only [ ln, e3]
  refine Eq.trans (ex_nx (e1 := [some (.mb ms6), some (.fr (.tuple (iL ns))), some (.fr (.int k)), none, some (.fr (.int (a : Int))), some (.fr odd)]) ?_) ?_
  · simp_all only [ e4, e5, e6, x1, z6, one_SZ]
  · have hne : ([PyData.none] = []) = False := eq_false (by simp)
    simp_all only [ false_and, c1, ← hB, s0, s0', s0'', e7, ← hR, s1, s2, s3, one_SZ, two_SZ, hne]
/-! ### who asks for marks raises -/
theorem r_find_steps {X : D} {p : Int} (hx : Bad X p) : phi_find_steps true [X] = .ex (eMarks p) := by
  refine fnOf_eq (n := 0) (runD_ex ?_) (by simp)
  unfold ir_find_steps
  refine ex_ex ?_
  simp_all only [ hx]
theorem r_find_modulus {X : D} {p : Int} (hx : Bad X p) : phi1_find_modulus [X] = .ex (eMarks p) := by
  refine fnOf_eq (n := 0) (runD_ex ?_) (by simp)
  unfold ir1_find_modulus
  refine ex_ex ?_
  simp_all only [ hx]
theorem r_check_pinned {X : D} {p : Int} {a : D} (hx : Bad X p) : phi1_check_pinned [X, a] = .ex (eMarks p) := by
  refine fnOf_eq (n := 0) (runD_ex ?_) (by simp)
  unfold ir1_check_pinned
  refine ex_ex ?_
  simp_all only [ hx]
theorem r_apply_moves {X : D} {p : Int} {a b : D} (hx : Bad X p) : phi1_apply_moves [X, a, b] = .ex (eMarks p) := by
  refine fnOf_eq (n := 0) (runD_ex ?_) (by simp)
  unfold ir1_apply_moves
  refine ex_ex ?_
  simp_all only [ hx]
theorem r_active_seats {X : D} {p : Int} {a : D} (hx : Bad X p) : phi1_active_seats [X, a] = .ex (eMarks p) := by
  refine fnOf_eq (n := 0) (runD_ex ?_) (by simp)
  unfold ir1_active_seats
  refine ex_ex ?_
  simp_all only [ hx]
theorem r_find_difference {X : D} {p : Int} {a : D} (hx : Bad X p) : phi1_find_difference [X, a] = .ex (eMarks p) := by
  refine fnOf_eq (n := 0) (runD_ex ?_) (by simp)
  unfold ir1_find_difference
  refine ex_ex ?_
  simp_all only [ hx]
theorem r_find_moves {X : D} {p : Int} {a : D} (hx : Bad X p) : phi1_find_moves [X, a] = .ex (eMarks p) := by
  refine fnOf_eq (n := 0) (runD_ex ?_) (by simp)
  unfold ir1_find_moves
  refine ex_ex ?_
  simp_all only [ hx]
theorem r_shortest_moves {X : D} {p : Int} {a b : D} (hx : Bad X p) : phi1_shortest_moves [X, a, b] = .ex (eMarks p) := by
  refine fnOf_eq (n := 0) (runD_ex ?_) (by simp)
  unfold ir1_shortest_moves
  refine ex_ex ?_
  simp_all only [ hx]
theorem r_min_moves {X : D} {p : Int} {a b : D} (hx : Bad X p) : phi1_min_moves [X, a, b] = .ex (eMarks p) := by
  refine fnOf_eq (n := 0) (runD_ex ?_) (by simp)
  unfold ir1_min_moves
  refine ex_ex ?_
  simp_all only [ r_shortest_moves hx]
theorem r_find_arcs {X : D} {p : Int} {a : D} (hx : Bad X p) : phi1_find_arcs [X, a] = .ex (eMarks p) := by
  refine fnOf_eq (n := 0) (runD_ex ?_) (by simp)
  unfold ir1_find_arcs
  refine ex_ex ?_
  simp_all only [ r_check_pinned hx]
theorem r_find_pinned_difference {X : D} {p : Int} {a b : D} (hx : Bad X p) : phi1_find_pinned_difference [X, a, b] = .ex (eMarks p) := by
  refine fnOf_eq (n := 0) (runD_ex ?_) (by simp)
  unfold ir1_find_pinned_difference
  refine ex_ex ?_
  simp_all only [ hx]
theorem r_pinned_moves {X : D} {p : Int} {a b : D} (hx : Bad X p) : phi1_pinned_moves [X, a, b] = .ex (eMarks p) := by
  refine fnOf_eq (n := 0) (runD_ex ?_) (by simp)
  unfold ir1_pinned_moves
  refine ex_ex ?_
  simp_all only [ hx]
theorem r_count_pinned {X : D} {p : Int} {a : D} (hx : Bad X p) : phi1_count_pinned [X, a] = .ex (eMarks p) := by
  refine fnOf_eq (n := 0) (runD_ex ?_) (by simp)
  unfold ir1_count_pinned
  refine ex_ex ?_
  simp_all only [ r_check_pinned hx]
theorem r_rank_pinned {X : D} {p : Int} {a : D} (hx : Bad X p) : phi1_rank_pinned [X, a] = .ex (eMarks p) := by
  refine fnOf_eq (n := 0) (runD_ex ?_) (by simp)
  unfold ir1_rank_pinned
  refine ex_ex ?_
  simp_all only [ r_check_pinned hx]
theorem r_pinned_at {X : D} {p : Int} {a b : D} (hx : Bad X p) : phi1_pinned_at [X, a, b] = .ex (eMarks p) := by
  refine fnOf_eq (n := 0) (runD_ex ?_) (by simp)
  unfold ir1_pinned_at
  refine ex_ex ?_
  simp_all only [ r_check_pinned hx]
theorem r_possible_marks {X : D} {p : Int} {a b : D} (hx : Bad X p) : phi1_possible_marks [X, a, b] = .ex (eMarks p) := by
  refine fnOf_eq (n := 0) (runD_ex ?_) (by simp)
  unfold ir1_possible_marks
  refine ex_ex ?_
  simp_all only [ r_check_pinned hx]
theorem q_find_difference {X : D} {p : Int} {g : List Int} (hg : okMarks g) (hx : Bad X p) : phi1_find_difference [.tuple (iL g), X] = .ex (eMarks p) := by
  refine fnOf_eq (n := 0) (runD_ex ?_) (by simp)
  unfold ir1_find_difference
  refine Eq.trans (ex_nx (e1 := ?e1) ?h1) ?g1
  case h1 => first | (simp_all only [ check_marks_val true hg]; done) | (simp_all only [ check_marks_val true hg]; rfl)
  refine ex_ex ?_
  simp_all only [ hx]
theorem q_find_moves {X : D} {p : Int} {g : List Int} (hg : okMarks g) (hx : Bad X p) : phi1_find_moves [.tuple (iL g), X] = .ex (eMarks p) := by
  refine fnOf_eq (n := 0) (runD_ex ?_) (by simp)
  unfold ir1_find_moves
  refine Eq.trans (ex_nx (e1 := ?e2) ?h2) ?g2
  case h2 => first | (simp_all only [ check_marks_val true hg]; done) | (simp_all only [ check_marks_val true hg]; rfl)
  refine ex_ex ?_
  simp_all only [ hx]
theorem q_shortest_moves {X : D} {p : Int} {g : List Int} {a : D} (hg : okMarks g) (hx : Bad X p) : phi1_shortest_moves [.tuple (iL g), X, a] = .ex (eMarks p) := by
  refine fnOf_eq (n := 0) (runD_ex ?_) (by simp)
  unfold ir1_shortest_moves
  refine Eq.trans (ex_nx (e1 := ?e3) ?h3) ?g3
  case h3 => first | (simp_all only [ check_marks_val true hg]; done) | (simp_all only [ check_marks_val true hg]; rfl)
  refine ex_ex ?_
  simp_all only [ hx]
theorem q_min_moves {X : D} {p : Int} {g : List Int} {a : D} (hg : okMarks g) (hx : Bad X p) : phi1_min_moves [.tuple (iL g), X, a] = .ex (eMarks p) := by
  refine fnOf_eq (n := 0) (runD_ex ?_) (by simp)
  unfold ir1_min_moves
  refine ex_ex ?_
  simp_all only [ q_shortest_moves hg hx]
theorem q_find_pinned_difference {X : D} {p : Int} {g : List Int} {a : D} (hg : okMarks g) (hx : Bad X p) : phi1_find_pinned_difference [.tuple (iL g), X, a] = .ex (eMarks p) := by
  refine fnOf_eq (n := 0) (runD_ex ?_) (by simp)
  unfold ir1_find_pinned_difference
  refine Eq.trans (ex_nx (e1 := ?e4) ?h4) ?g4
  case h4 => first | (simp_all only [ check_marks_val true hg]; done) | (simp_all only [ check_marks_val true hg]; rfl)
  refine ex_ex ?_
  simp_all only [ hx]
theorem q_pinned_moves {X : D} {p : Int} {g : List Int} {a : D} (hg : okMarks g) (hx : Bad X p) : phi1_pinned_moves [.tuple (iL g), X, a] = .ex (eMarks p) := by
  refine fnOf_eq (n := 0) (runD_ex ?_) (by simp)
  unfold ir1_pinned_moves
  refine Eq.trans (ex_nx (e1 := ?e5) ?h5) ?g5
  case h5 => first | (simp_all only [ check_marks_val true hg]; done) | (simp_all only [ check_marks_val true hg]; rfl)
  refine ex_ex ?_
  simp_all only [ hx]
theorem runO_ex {n m : Nat} {b : Sxs} {C : Str} {fs ds : List D} {x : Exn} (h : execs n b (some (.mo C fs) :: (ds.map (fun d => some (.fr d)) ++ List.replicate m none)) = .ex x) : runO n b m C fs ds = .ex x := by
  unfold runO
  rw [h]
  rfl
theorem r_bench {X : D} {p : Int} (hx : Bad X p) : ∃ m, iniO (phi_Workbench___init__ true) [X] = .ex ⟨"InvalidMarks", [("position", .int p)], m⟩ := by
  refine ⟨some [], ?_⟩
  have : phi_Workbench___init__ true [] [X] = .ex ⟨"InvalidMarks", [("position", .int p)], some []⟩ := by
    refine foOf_eq (n := 0) (runO_ex ?_) (by simp)
    unfold ir_Workbench___init__
    refine ex_ex ?_
    simp_all only [ hx]
  unfold iniO
  rw [this]
theorem runO_nx {n m : Nat} {b : Sxs} {C : Str} {fs fs' ds : List D} {e1 : En} (h : execs n b (some (.mo C fs) :: (ds.map (fun d => some (.fr d)) ++ List.replicate m none)) = .ok (.nx (some (.mo C fs') :: e1))) : runO n b m C fs ds = .ok (.fr .none, fs') := by
  unfold runO
  rw [h]
  rfl
theorem bench_ok {m : List Int} (h : okMarks m) : ∃ fs, iniO (phi_Workbench___init__ true) [.tuple (iL m)] = .ok fs := by
  refine ⟨[.tuple [.tuple (iL m), .tuple []], .list [], .list [], .dict []], ?_⟩
  have e1 := check_marks_val true h
  have : phi_Workbench___init__ true [] [.tuple (iL m)] = .ok (.fr .none, [.tuple [.tuple (iL m), .tuple []], .list [], .list [], .dict []]) := by
    refine foOf_eq (n := 0) (runO_nx (e1 := [some (.fr (.tuple (iL m)))]) ?_) (by simp)
    unfold ir_Workbench___init__
    refine Eq.trans (ex_nx (e1 := ?e6) ?h6) ?g6
    case h6 => first | (simp_all only [ e1]; done) | (simp_all only [ e1]; rfl)
    refine Eq.trans (ex_nx (e1 := [some (.mo "Workbench" [.tuple [.tuple (iL m), .tuple []]]), some (.fr (.tuple (iL m)))]) ?H1) ?G1
    case H1 =>
      simp_all only [ two_SZ, zero_SZ]
      rfl
    refine Eq.trans (ex_nx (e1 := [some (.mo "Workbench" [.tuple [.tuple (iL m), .tuple []], .list []]), some (.fr (.tuple (iL m)))]) ?H2) ?G2
    case H2 =>
      simp_all only [ zero_SZ]
      rfl
    refine Eq.trans (ex_nx (e1 := [some (.mo "Workbench" [.tuple [.tuple (iL m), .tuple []], .list [], .list []]), some (.fr (.tuple (iL m)))]) ?H3) ?G3
    case H3 =>
      simp_all only [ zero_SZ]
      rfl
    refine Eq.trans (ex_nx (e1 := [some (.mo "Workbench" [.tuple [.tuple (iL m), .tuple []], .list [], .list [], .dict []]), some (.fr (.tuple (iL m)))]) ?H4) ?G4
    case H4 =>
      simp_all only []
      rfl
    rw [execs]
  unfold iniO
  rw [this]
theorem r_replay {X a : D} {p : Int} (hx : Bad X p) : phi1_replay [X, a] = .ex (eMarks p) := by
  obtain ⟨m, hm⟩ := r_bench hx
  refine fnOf_eq (n := 0) (runD_ex ?_) (by simp)
  unfold ir1_replay
  refine ex_ex ?_
  simp_all only [ hm]
theorem r_reaches {X : D} {p : Int} {fs : List D} (hx : Bad X p) : phi1_Workbench_reaches fs [X] = .ex ⟨"InvalidMarks", [("position", .int p)], some fs⟩ := by
  refine foOf_eq (n := 0) (runO_ex ?_) (by simp)
  unfold ir1_Workbench_reaches
  refine ex_ex ?_
  simp_all only [ hx]
/-! ### the law -/
theorem th {ir : Ex} {en : En} {p : Int} (h : evalE ir (frzE en) = .ex (eMarks p)) : thG eta_law ir en = .ok (.tuple [.str "marks", .int p], en) := by
  unfold thG
  rw [h]
  show (match eta_law (eMarks p) with | .ok x => Ou.ok (x, en) | _ => .no) = _
  rw [eta_marks]
theorem go {ψ : En → Ou (D × En)} {r : List (En → Ou (D × En))} {d : D} {en : En} (h : ψ en = .ok (d, en)) (k : allGo r d en = .ok en) : allGo (ψ :: r) d en = .ok en := by
  unfold allGo
  rw [h]
  show (@ite _ (d = d) (Classical.propDecidable _) (allGo r d en) .no) = _
  rw [if_pos rfl]
  exact k
theorem go0 {d : D} {en : En} : allGo [] d en = .ok en := by unfold allGo; rfl
theorem all {ms : List D} {g : List Int} {X c : D} {p : Int} (hg : okMarks g) (hx : Bad X p) : allGo t0_law (.tuple [.str "marks", .int p]) [none, some (.own ms), some (.fr (.tuple (iL g))), some (.fr X), some (.fr (.int p)), some (.fr c)] = .ok [none, some (.own ms), some (.fr (.tuple (iL g))), some (.fr X), some (.fr (.int p)), some (.fr c)] := by
  have hf : frzE [none, some (.own ms), some (.fr (.tuple (iL g))), some (.fr X), some (.fr (.int p)), some (.fr c)] = [none, some (.fr (.list ms)), some (.fr (.tuple (iL g))), some (.fr X), some (.fr (.int p)), some (.fr c)] := rfl
  obtain ⟨m, hm⟩ := r_bench hx
  obtain ⟨fs, hi⟩ := bench_ok hg
  unfold t0_law
  refine go (th (by rw [hf]; simp_all only [ r_find_steps hx])) ?_
  refine go (th (by rw [hf]; simp_all only [ r_find_modulus hx])) ?_
  refine go (th (by rw [hf]; simp_all only [ r_apply_moves hx, one_SZ])) ?_
  refine go (th (by rw [hf]; simp_all only [ r_active_seats hx])) ?_
  refine go (th (by rw [hf]; simp_all only [ r_find_difference hx])) ?_
  refine go (th (by rw [hf]; simp_all only [ q_find_difference hg hx])) ?_
  refine go (th (by rw [hf]; simp_all only [ r_find_moves hx])) ?_
  refine go (th (by rw [hf]; simp_all only [ q_find_moves hg hx])) ?_
  refine go (th (by rw [hf]; simp_all only [ r_min_moves hx])) ?_
  refine go (th (by rw [hf]; simp_all only [ q_min_moves hg hx])) ?_
  refine go (th (by rw [hf]; simp_all only [ q_shortest_moves hg hx])) ?_
  refine go (th (by rw [hf]; simp_all only [ r_find_arcs hx])) ?_
  refine go (th (by rw [hf]; simp_all only [ r_find_pinned_difference hx])) ?_
  refine go (th (by rw [hf]; simp_all only [ q_find_pinned_difference hg hx])) ?_
  refine go (th (by rw [hf]; simp_all only [ r_pinned_moves hx])) ?_
  refine go (th (by rw [hf]; simp_all only [ q_pinned_moves hg hx])) ?_
  refine go (th (by rw [hf]; simp_all only [ r_count_pinned hx])) ?_
  refine go (th (by rw [hf]; simp_all only [ r_rank_pinned hx])) ?_
  refine go (th (by rw [hf]; simp_all only [ r_pinned_at hx])) ?_
  refine go (th (by rw [hf]; simp_all only [ r_possible_marks hx])) ?_
  refine go (th (by rw [hf]; simp_all only [ hm])) ?_
  refine go (th (by rw [hf]; simp_all only [ r_replay hx])) ?_
  refine go (th (by rw [hf]; simp_all only [ hi, r_reaches hx])) ?_
  exact go0
theorem plain : ∀ ns : List Int, ns.length ≤ 63 → ∃ n en', VS.execs n ir_law (lawEn 4 ns 1) = .ok (.rt (.fr (.bool true)) en') := fun zs hl => by
  have m0 := okD_start zs hl (z := 1) ⟨by decide, by decide⟩
  obtain ⟨g, ms1, e1, m1, hg⟩ := marks_ok m0
  obtain ⟨X, p, ms2, e2, m2, hx⟩ := bad_marks m1
  obtain ⟨r, ms3, e3, m3, l3, u3⟩ := below_ok m2 (L := 6) (by decide) (by decide)
  obtain ⟨c, rfl⟩ : ∃ c : Nat, r = (c : Int) := ⟨r.toNat, by omega⟩
  have hA := all (ms := ms2) (c := .dict []) hg hx
  refine ⟨0, [none, some (.own ms3), some (.fr (.tuple (iL g))), some (.fr X), some (.fr (.int p)), some (.fr (.dict []))], ?_⟩
  unfold ir_law
  refine Eq.trans (ex_nx (e1 := [none, some (.own ms1), some (.fr (.tuple (iL g))), none, none, none]) ?H1) ?G1
  case H1 =>
    unfold lawEn
    simp_all only [ e1]
  refine Eq.trans (ex_nx (e1 := [none, some (.own ms2), some (.fr (.tuple (iL g))), some (.fr X), some (.fr (.int p)), none]) ?H2) ?G2
  case H2 => simp_all only [ e2, stores, intOf]
  refine Eq.trans (ex_nx (e1 := [none, some (.own ms2), some (.fr (.tuple (iL g))), some (.fr X), some (.fr (.int p)), some (.fr (.dict []))]) (show exec 0 (.fnS (anyS 5)) [none, some (.own ms2), some (.fr (.tuple (iL g))), some (.fr X), some (.fr (.int p)), none] = _ from rfl)) ?_
  refine Eq.trans (ex_nx (e1 := [none, some (.own ms2), some (.fr (.tuple (iL g))), some (.fr X), some (.fr (.int p)), some (.fr (.dict []))]) (show exec 0 (.fnS (anyS 5)) [none, some (.own ms2), some (.fr (.tuple (iL g))), some (.fr X), some (.fr (.int p)), some (.fr (.dict []))] = _ from rfl)) ?_
  refine Eq.trans (ex_nx (e1 := [none, some (.own ms2), some (.fr (.tuple (iL g))), some (.fr X), some (.fr (.int p)), some (.fr (.dict []))]) (show exec 0 (.fnS (anyS 5)) [none, some (.own ms2), some (.fr (.tuple (iL g))), some (.fr X), some (.fr (.int p)), some (.fr (.dict []))] = _ from rfl)) ?_
  refine Eq.trans (ex_nx (e1 := [none, some (.own ms2), some (.fr (.tuple (iL g))), some (.fr X), some (.fr (.int p)), some (.fr (.dict []))]) (show exec 0 (.fnS (anyS 5)) [none, some (.own ms2), some (.fr (.tuple (iL g))), some (.fr X), some (.fr (.int p)), some (.fr (.dict []))] = _ from rfl)) ?_
  refine Eq.trans (ex_nx (e1 := [none, some (.own ms2), some (.fr (.tuple (iL g))), some (.fr X), some (.fr (.int p)), some (.fr (.dict []))]) (show exec 0 (.fnS (anyS 5)) [none, some (.own ms2), some (.fr (.tuple (iL g))), some (.fr X), some (.fr (.int p)), some (.fr (.dict []))] = _ from rfl)) ?_
  refine Eq.trans (ex_nx (e1 := [none, some (.own ms2), some (.fr (.tuple (iL g))), some (.fr X), some (.fr (.int p)), some (.fr (.dict []))]) (show exec 0 (.fnS (anyS 5)) [none, some (.own ms2), some (.fr (.tuple (iL g))), some (.fr X), some (.fr (.int p)), some (.fr (.dict []))] = _ from rfl)) ?_
  refine Eq.trans (ex_nx (e1 := [none, some (.own ms2), some (.fr (.tuple (iL g))), some (.fr X), some (.fr (.int p)), some (.fr (.dict []))]) (show exec 0 (.fnS (anyS 5)) [none, some (.own ms2), some (.fr (.tuple (iL g))), some (.fr X), some (.fr (.int p)), some (.fr (.dict []))] = _ from rfl)) ?_
  refine Eq.trans (ex_nx (e1 := [none, some (.own ms2), some (.fr (.tuple (iL g))), some (.fr X), some (.fr (.int p)), some (.fr (.dict []))]) (show exec 0 (.fnS (anyS 5)) [none, some (.own ms2), some (.fr (.tuple (iL g))), some (.fr X), some (.fr (.int p)), some (.fr (.dict []))] = _ from rfl)) ?_
  refine Eq.trans (ex_nx (e1 := [none, some (.own ms2), some (.fr (.tuple (iL g))), some (.fr X), some (.fr (.int p)), some (.fr (.dict []))]) (show exec 0 (.fnS (anyS 5)) [none, some (.own ms2), some (.fr (.tuple (iL g))), some (.fr X), some (.fr (.int p)), some (.fr (.dict []))] = _ from rfl)) ?_
  refine Eq.trans (ex_nx (e1 := [none, some (.own ms2), some (.fr (.tuple (iL g))), some (.fr X), some (.fr (.int p)), some (.fr (.dict []))]) (show exec 0 (.fnS (anyS 5)) [none, some (.own ms2), some (.fr (.tuple (iL g))), some (.fr X), some (.fr (.int p)), some (.fr (.dict []))] = _ from rfl)) ?_
  refine Eq.trans (ex_nx (e1 := [none, some (.own ms2), some (.fr (.tuple (iL g))), some (.fr X), some (.fr (.int p)), some (.fr (.dict []))]) (show exec 0 (.fnS (anyS 5)) [none, some (.own ms2), some (.fr (.tuple (iL g))), some (.fr X), some (.fr (.int p)), some (.fr (.dict []))] = _ from rfl)) ?_
  refine Eq.trans (iff_skip (e1 := [none, some (.own ms2), some (.fr (.tuple (iL g))), some (.fr X), some (.fr (.int p)), some (.fr (.dict []))]) ?H3) ?G3
  case H3 =>
    have hF : allF t0_law (.tupE (.cons (.cst (.str "marks")) (.cons (.var 4) (.nil)))) [none, some (.own ms2), some (.fr (.tuple (iL g))), some (.fr X), some (.fr (.int p)), some (.fr (.dict []))] = .ok (.fr (.bool true), [none, some (.own ms2), some (.fr (.tuple (iL g))), some (.fr X), some (.fr (.int p)), some (.fr (.dict []))]) := by
      unfold allF
      have ev : evF (.tupE (.cons (.cst (.str "marks")) (.cons (.var 4) (.nil)))) [none, some (.own ms2), some (.fr (.tuple (iL g))), some (.fr X), some (.fr (.int p)), some (.fr (.dict []))] = .ok (.tuple [.str "marks", .int p], [none, some (.own ms2), some (.fr (.tuple (iL g))), some (.fr X), some (.fr (.int p)), some (.fr (.dict []))]) := by
        unfold evF
        simp_all only [ two_SZ]
      rw [ev, ok_bind]
      show (@ite _ (eqD _ _ = .ok true) (Classical.propDecidable _) _ _) = _
      rw [if_pos (eqM p), hA]
    have av : asVar (.fn (allF t0_law (.tupE (.cons (.cst (.str "marks")) (.cons (.var 4) (.nil)))))) = none := rfl
    simp_all only [ av, hF]
  have rep : ∀ k : Nat, repD (k : Int) [PyData.int 0] = iL (List.replicate k 0) := fun k => by
    unfold repD iL
    rw [List.map_replicate, Int.toNat_natCast]
    induction k with
    | zero => rfl
    | succ k ih => rw [List.replicate_succ, List.replicate_succ, List.flatten_cons, ih]; rfl
  have hb : binD .Mult (.tuple [.int 0]) (.int (c : Int)) = .ok (.fr (.tuple (iL (List.replicate c 0)))) := by
    rw [← rep]
    show (if 2 ≤ (c : Int) ∧ (c : Int) ≤ 1000 ∧ [PyData.int 0] ≠ [] ∧ [PyData.int 0].length ≤ 1000 then Ou.ok (Sl.fr (.tuple (repD c [.int 0]))) else if -1000 ≤ (c : Int) ∧ (c : Int) ≤ 1 ∧ [PyData.int 0] ≠ [] then Ou.ok (Sl.fr (.tuple (repD c [.int 0]))) else .no) = _
    by_cases h : 2 ≤ (c : Int)
    · exact if_pos ⟨h, by omega, by simp, by decide⟩
    · rw [if_neg fun q => h q.1]
      exact if_pos ⟨by omega, by omega, by simp⟩
  obtain ⟨ws, hws⟩ : ∃ ws : List Int, ws = 1000000 :: -1000000 :: 0 :: List.replicate c 0 := ⟨_, rfl⟩
  have hwl : iL ws = [.int 1000000, .int (-1000000), .int 0] ++ iL (List.replicate c 0) := by rw [hws]; rfl
  have hwz : ws.length = c + 3 := by rw [hws]; simp
  have hok : okMarks ws := ⟨by omega, by omega, fun m hm => by
    rw [hws] at hm
    rcases List.mem_cons.mp hm with rfl | hm
    · decide
    · rcases List.mem_cons.mp hm with rfl | hm
      · decide
      · rcases List.mem_cons.mp hm with rfl | hm
        · decide
        · rw [(List.mem_replicate.mp hm).2]; decide⟩
  have st : phi_find_steps true [.tuple (iL ws)] = .ok (.fr (.tuple (iL (dif ws)))) := by
    refine fnOf_eq (n := 0) ?_ (by simp)
    unfold ir_find_steps
    simp_all only [ check_marks_val true hok, steps_of_val (ns := ws) (by omega) (le_SZ (by omega))]
  have d0 : gI (dif ws) 0 = -2000000 := by
    rw [dif_get (by omega)]
    have : (0 + 1) % ws.length = 1 := Nat.mod_eq_of_lt (by omega)
    rw [this, hws]
    rfl
  have a0 : atI (iL (dif ws)) 0 = some (.int (-2000000)) := by
    have := at_iL' (ns := dif ws) (i := 0) (by rw [dif_len]; omega)
    rw [d0] at this
    exact this
  have hz : (0 + 1 + 1 + 1 + (iL (List.replicate c 0)).length ≤ SZ) = True := eq_true (by rw [iL_len, List.length_replicate]; exact le_SZ (by omega))
  have st' : phi_find_steps true [.tuple (.int 1000000 :: .int (-1000000) :: .int 0 :: iL (List.replicate c 0))] = .ok (.fr (.tuple (iL (dif ws)))) := by rw [hwl] at st; exact st
  have hadd : binD .Add (.tuple [.int 1000000, .int (-1000000), .int 0]) (.tuple (iL (List.replicate c 0))) = .ok (.fr (.tuple ([.int 1000000, .int (-1000000), .int 0] ++ iL (List.replicate c 0)))) := by
    show (if _ ≤ SZ then _ else _) = _
    rw [if_pos (by simp only [List.length_cons, List.length_nil, iL_len, List.length_replicate]; exact le_SZ (by omega))]
  have e3 : phi__law_below ms2 [.int 6] = .ok (.int (c : Int), ms3) := e3
  refine ex_rt ?_
  simp! only [ e3, hb, hadd, st', a0, three_SZ, one_SZ, beq_self_eq_true]
end K01

open PySem PySem.W PyProof.Rows in
set_option maxRecDepth 100000 in
set_option maxHeartbeats 0 in
theorem PySem.Challenge.cw_markring_k01_ring_arguments_holds : PySem.Challenge.rw_markring_k01_ring_arguments.Holds := by
  w_on; o_law; k_head; (case hw => w_witness2)
  k_fill
  refine VS.walkT (l := PySem.Challenge.rw_markring_k01_ring_arguments) 12 ⟨rfl, by decide, by decide⟩ rfl rfl (by decide +kernel) (fun w h Y => PySem.W.km_in_of Y) ?F
  case F =>
    intro w mg fa h KX G hmg own
    refine' K01.all_mk KX G hmg own ?y_Workbench ?cp_Workbench ?ch_Workbench ?co_Workbench ?cs_Workbench ?cm_Workbench ?ck_Workbench ?cn_Workbench_state ?cn_Workbench_past ?cn_Workbench_undone ?cn_Workbench_saved ?a0 ?l0 ?c0 ?k0 ?a1 ?l1 ?c1 ?k1 ?a2 ?l2 ?c2 ?k2 ?a3 ?l3 ?c3 ?k3 ?a4 ?l4 ?c4 ?k4 ?a5 ?l5 ?c5 ?k5 ?a6 ?l6 ?c6 ?k6 ?a7 ?l7 ?c7 ?k7 ?a8 ?l8 ?c8 ?k8 ?a9 ?l9 ?c9 ?k9 ?a10 ?l10 ?c10 ?k10 ?d10 ?t10 ?m11 ?n11 ?l11 ?c11 ?k11 ?a12 ?l12 ?c12 ?k12 ?d12 ?t12 ?a13 ?l13 ?c13 ?k13 ?a14 ?l14 ?c14 ?k14 ?a15 ?l15 ?c15 ?k15 ?a16 ?l16 ?c16 ?k16 ?a17 ?l17 ?c17 ?k17 ?a18 ?l18 ?c18 ?k18 ?a19 ?l19 ?c19 ?k19 ?a20 ?l20 ?c20 ?k20 ?a21 ?l21 ?c21 ?k21 ?a22 ?l22 ?c22 ?k22 ?a23 ?l23 ?c23 ?k23 ?a24 ?l24 ?c24 ?k24 ?m25 ?n25 ?l25 ?c25 ?k25 ?a26 ?l26 ?c26 ?k26 ?a27 ?l27 ?c27 ?k27 ?a28 ?l28 ?c28 ?k28 ?g_MIN_SEATS ?g_MAX_SEATS ?g_MAX_MARK ?g_abs ?g_len ?g_tuple ?g_range ?g_list ?g_isinstance ?g_int ?g_bool ?g_enumerate ?g_ValueError ?y_MarkError ?y_InvalidPins ?y_NotReachable ?y_TooFar ?y_InvalidLimit ?y_InvalidIndex ?y_TooManyRings ?y_InvalidTimes ?y_Contradiction ?y_InvalidName ?y_UnknownName ?y_InvalidSign ?y_InvalidAmount ?y_InvalidMarks ?y_InvalidSteps ?y_InvalidMove ?y_InvalidOperation ?y_InvalidText ?b_g1 ?b_g2 ?b_g3 ?b_vV ?b_cn ?b_ct ?xl_InvalidMarks ?xr_InvalidMarks ?xsa_InvalidMarks ?xga_InvalidMarks ?xgg_InvalidMarks ?xs_InvalidMarks ?xt_InvalidMarks ?xk_InvalidMarks ?xd_InvalidMarks ?xc_InvalidMarks ?xm_InvalidMarks ?xi_InvalidMarks ?x_InvalidMarks ?k_InvalidMarks_ValueError ?k_InvalidMarks_InvalidPins ?k_InvalidMarks_NotReachable ?k_InvalidMarks_TooFar ?k_InvalidMarks_InvalidLimit ?k_InvalidMarks_InvalidIndex ?k_InvalidMarks_TooManyRings ?k_InvalidMarks_InvalidTimes ?k_InvalidMarks_Contradiction ?k_InvalidMarks_InvalidName ?k_InvalidMarks_UnknownName ?k_InvalidMarks_InvalidSign ?k_InvalidMarks_InvalidAmount ?k_InvalidMarks_InvalidMarks ?k_InvalidMarks_InvalidSteps ?k_InvalidMarks_InvalidMove ?k_InvalidMarks_InvalidOperation ?k_InvalidMarks_InvalidText ?i1_InvalidMarks ?i2_InvalidMarks ?i3_InvalidMarks ?i4_InvalidMarks ?i5_InvalidMarks ?n_InvalidMarks_position ?z_cd ?z_lc ?z_vP ?z_nP ?z_ch K01.hv_InvalidMarks K01.plain
    (case y_Workbench => k_is)
    (case cp_Workbench => k_is)
    (case ch_Workbench => k_is)
    (case co_Workbench => k_is)
    (case cs_Workbench => k_is)
    (case cm_Workbench => k_is)
    (case ck_Workbench => k_is)
    (case cn_Workbench_state => k_is)
    (case cn_Workbench_past => k_is)
    (case cn_Workbench_undone => k_is)
    (case cn_Workbench_saved => k_is)
    (case a0 => k_is)
    (case l0 => k_is)
    (case c0 => k_is)
    (case k0 => k_is)
    (case a1 => k_is)
    (case l1 => k_is)
    (case c1 => k_is)
    (case k1 => k_is)
    (case a2 => k_is)
    (case l2 => k_is)
    (case c2 => k_is)
    (case k2 => k_is)
    (case a3 => k_is)
    (case l3 => k_is)
    (case c3 => k_is)
    (case k3 => k_is)
    (case a4 => k_is)
    (case l4 => k_is)
    (case c4 => k_is)
    (case k4 => k_is)
    (case a5 => k_is)
    (case l5 => k_is)
    (case c5 => k_is)
    (case k5 => k_is)
    (case a6 => k_is)
    (case l6 => k_is)
    (case c6 => k_is)
    (case k6 => k_is)
    (case a7 => k_is)
    (case l7 => k_is)
    (case c7 => k_is)
    (case k7 => k_is)
    (case a8 => k_is)
    (case l8 => k_is)
    (case c8 => k_is)
    (case k8 => k_is)
    (case a9 => k_is)
    (case l9 => k_is)
    (case c9 => k_is)
    (case k9 => k_is)
    (case a10 => k_is)
    (case l10 => k_is)
    (case c10 => k_is)
    (case k10 => k_is)
    (case d10 => k_is)
    (case t10 => k_is)
    (case m11 => k_is)
    (case n11 => k_is)
    (case l11 => k_is)
    (case c11 => k_is)
    (case k11 => k_is)
    (case a12 => k_is)
    (case l12 => k_is)
    (case c12 => k_is)
    (case k12 => k_is)
    (case d12 => k_is)
    (case t12 => k_is)
    (case a13 => k_is)
    (case l13 => k_is)
    (case c13 => k_is)
    (case k13 => k_is)
    (case a14 => k_is)
    (case l14 => k_is)
    (case c14 => k_is)
    (case k14 => k_is)
    (case a15 => k_is)
    (case l15 => k_is)
    (case c15 => k_is)
    (case k15 => k_is)
    (case a16 => k_is)
    (case l16 => k_is)
    (case c16 => k_is)
    (case k16 => k_is)
    (case a17 => k_is)
    (case l17 => k_is)
    (case c17 => k_is)
    (case k17 => k_is)
    (case a18 => k_is)
    (case l18 => k_is)
    (case c18 => k_is)
    (case k18 => k_is)
    (case a19 => k_is)
    (case l19 => k_is)
    (case c19 => k_is)
    (case k19 => k_is)
    (case a20 => k_is)
    (case l20 => k_is)
    (case c20 => k_is)
    (case k20 => k_is)
    (case a21 => k_is)
    (case l21 => k_is)
    (case c21 => k_is)
    (case k21 => k_is)
    (case a22 => k_is)
    (case l22 => k_is)
    (case c22 => k_is)
    (case k22 => k_is)
    (case a23 => k_is)
    (case l23 => k_is)
    (case c23 => k_is)
    (case k23 => k_is)
    (case a24 => k_is)
    (case l24 => k_is)
    (case c24 => k_is)
    (case k24 => k_is)
    (case m25 => k_is)
    (case n25 => k_is)
    (case l25 => k_is)
    (case c25 => k_is)
    (case k25 => k_is)
    (case a26 => k_is)
    (case l26 => k_is)
    (case c26 => k_is)
    (case k26 => k_is)
    (case a27 => k_is)
    (case l27 => k_is)
    (case c27 => k_is)
    (case k27 => k_is)
    (case a28 => k_is)
    (case l28 => k_is)
    (case c28 => k_is)
    (case k28 => k_is)
    (case g_MIN_SEATS => k_is)
    (case g_MAX_SEATS => k_is)
    (case g_MAX_MARK => k_is)
    (case g_abs => k_is)
    (case g_len => k_is)
    (case g_tuple => k_is)
    (case g_range => k_is)
    (case g_list => k_is)
    (case g_isinstance => k_is)
    (case g_int => k_is)
    (case g_bool => k_is)
    (case g_enumerate => k_is)
    (case g_ValueError => k_is)
    (case y_MarkError => k_is)
    (case y_InvalidPins => k_is)
    (case y_NotReachable => k_is)
    (case y_TooFar => k_is)
    (case y_InvalidLimit => k_is)
    (case y_InvalidIndex => k_is)
    (case y_TooManyRings => k_is)
    (case y_InvalidTimes => k_is)
    (case y_Contradiction => k_is)
    (case y_InvalidName => k_is)
    (case y_UnknownName => k_is)
    (case y_InvalidSign => k_is)
    (case y_InvalidAmount => k_is)
    (case y_InvalidMarks => k_is)
    (case y_InvalidSteps => k_is)
    (case y_InvalidMove => k_is)
    (case y_InvalidOperation => k_is)
    (case y_InvalidText => k_is)
    (case b_g1 => k_is)
    (case b_g2 => k_is)
    (case b_g3 => k_is)
    (case b_vV => k_is)
    (case b_cn => k_is)
    (case b_ct => k_is)
    (case xl_InvalidMarks => k_is)
    (case xr_InvalidMarks => first | rfl | decide +kernel)
    (case xsa_InvalidMarks => k_is)
    (case xga_InvalidMarks => k_is)
    (case xgg_InvalidMarks => k_is)
    (case xs_InvalidMarks => k_is)
    (case xt_InvalidMarks => k_is)
    (case xk_InvalidMarks => k_is)
    (case xd_InvalidMarks => k_is)
    (case xc_InvalidMarks => k_is)
    (case xm_InvalidMarks => k_is)
    (case xi_InvalidMarks => k_is)
    (case x_InvalidMarks => kernel_rfl)
    (case k_InvalidMarks_ValueError => kernel_rfl)
    (case k_InvalidMarks_InvalidPins => kernel_rfl)
    (case k_InvalidMarks_NotReachable => kernel_rfl)
    (case k_InvalidMarks_TooFar => kernel_rfl)
    (case k_InvalidMarks_InvalidLimit => kernel_rfl)
    (case k_InvalidMarks_InvalidIndex => kernel_rfl)
    (case k_InvalidMarks_TooManyRings => kernel_rfl)
    (case k_InvalidMarks_InvalidTimes => kernel_rfl)
    (case k_InvalidMarks_Contradiction => kernel_rfl)
    (case k_InvalidMarks_InvalidName => kernel_rfl)
    (case k_InvalidMarks_UnknownName => kernel_rfl)
    (case k_InvalidMarks_InvalidSign => kernel_rfl)
    (case k_InvalidMarks_InvalidAmount => kernel_rfl)
    (case k_InvalidMarks_InvalidMarks => kernel_rfl)
    (case k_InvalidMarks_InvalidSteps => kernel_rfl)
    (case k_InvalidMarks_InvalidMove => kernel_rfl)
    (case k_InvalidMarks_InvalidOperation => kernel_rfl)
    (case k_InvalidMarks_InvalidText => kernel_rfl)
    (case i1_InvalidMarks => k_is)
    (case i2_InvalidMarks => k_is)
    (case i3_InvalidMarks => k_is)
    (case i4_InvalidMarks => k_is)
    (case i5_InvalidMarks => k_is)
    (case n_InvalidMarks_position => k_is)
    (case z_cd => rfl)
    (case z_lc => k_is)
    (case z_vP => rfl)
    (case z_nP => kernel_rfl)
    (case z_ch => kernel_rfl)
